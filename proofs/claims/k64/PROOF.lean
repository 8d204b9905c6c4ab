import PyProof.Rows.All
import Wide.All
import OpenK.AllK
import Wide.FinOn
import HandS.ForMost
import HandS.ForExc
import HandS.IsInst
import HandS.Style
import HandS.TupAny
import HandS.Deep
import HandS.TupLe
import HandS.Conv
import HandS.TupLen
import KE.KDictDisplayH
import HandS.Zip
import HandS.DictComp
import HandS.Small
import KE.SortData
import KE.KDictWalk
import HandS.More
import HandS.RevTup
import PyProof.ReprRoads
import PyProof.ReprLen
import KE.KIndexOf
import HandS.TupSets
import HandS.Defaults
import HandS.Words
import HandS.WideBits
import HandS.HeadEnd
import HandS.Head0
import HandS.Head1
import HandS.Head2
import HandS.HeadHook1
import HandS.HeadHook2
import PyProof.TableCode
import KE.KStateDown
import Lean
import PySem.Challenge.RW_pealworks_k64_whole_two_changes_in_turn
set_option Elab.async false
set_option linter.all false
set_option maxRecDepth 100000
set_option maxHeartbeats 0
/-! DSa: plain data for Python values, how it lies in the tracked heap, what a piece of code does to it. -/
namespace DS
open PySem PySem.Spec PyProof.Rows L2

/-! ### data -/
inductive D where
  | non | bl (b : Bool) | int (i : Int) | str (x : Str)
  | tup (ds : List D) | lst (ds : List D)
  | dict (t : Bool) (ks vs : List D)
  | pot (k : Nat)
  | scr (ns : List Int)

abbrev Pots := List (Int × Int)
structure Exn where
  name : Str
  fields : List (Str × D)
inductive Out (α : Type) where
  | ok (a : α) (S : Pots)
  | err (x : Exn) (S : Pots)
  | bad
def M (α : Type) : Type := Pots → Out α
def M.pure {α : Type} (a : α) : M α := fun S => .ok a S
def M.bind {α β : Type} (m : M α) (f : α → M β) : M β := fun S => match m S with
  | .ok a S' => f a S'
  | .err x S' => .err x S'
  | .bad => .bad
instance : Monad M where
  pure := M.pure
  bind := M.bind
def M.bad {α : Type} : M α := fun _ => .bad
def M.err {α : Type} (x : Exn) : M α := fun S => .err x S
def Out.Post {α : Type} (o : Out α) (P : α → Pots → Prop) (E : Exn → Pots → Prop) : Prop := match o with
  | .ok a S => P a S
  | .err x S => E x S
  | .bad => False
theorem pure_run {α : Type} (a : α) (S : Pots) : (pure a : M α) S = .ok a S := rfl
theorem bind_run {α β : Type} (m : M α) (f : α → M β) (S : Pots) : (m >>= f) S = match m S with
  | .ok a S' => f a S'
  | .err x S' => .err x S'
  | .bad => .bad := rfl
theorem post_bind {α β : Type} {m : M α} {f : α → M β} {S : Pots} {P : β → Pots → Prop} {E : Exn → Pots → Prop} :
    ((m >>= f) S).Post P E ↔ (m S).Post (fun a S' => (f a S').Post P E) E := by
  rw [bind_run]
  cases m S <;> exact Iff.rfl
theorem post_pure {α : Type} {a : α} {S : Pots} {P : α → Pots → Prop} {E : Exn → Pots → Prop} : ((pure a : M α) S).Post P E ↔ P a S := Iff.rfl
theorem Out.Post.mono {α : Type} {o : Out α} {P P' : α → Pots → Prop} {E E' : Exn → Pots → Prop} (h : o.Post P E) (hp : ∀ a S, P a S → P' a S) (he : ∀ x S, E x S → E' x S) : o.Post P' E' := by
  cases o with
  | ok a S => exact hp _ _ h
  | err x S => exact he _ _ h
  | bad => exact h

/-! ### keys of dicts -/
def keyOf : D → Option Key
  | .int i => some (.inl i)
  | .str x => some (.inr x)
  | _ => none
def keysOf : List D → Option (List Key)
  | [] => some []
  | d :: ds => match keyOf d, keysOf ds with
    | some k, some ks => some (k :: ks)
    | _, _ => none
def intsOf : List D → Option (List Int)
  | [] => some []
  | .int i :: ds => (intsOf ds).map (i :: ·)
  | _ :: _ => none
def tkeyOf : D → Option (List Int)
  | .tup ds => intsOf ds
  | _ => none

/-! ### frozen data in an abstract heap -/
/-- an entry of a dict whose keys are tuples of ints -/
def xent (x : List Int × Addr × Value) : DictEntry := ⟨reduceHash (Builtin.Tuple.tupleHashOf (x.1.map hashInt)), .ref x.2.1, x.2.2⟩
theorem xent_eq {P : Program} {w : World} (x : List Int × Addr × Value) : entryOfKey (tupleKind (PySem.intKind P w)) x = xent x := rfl
/-- the dict at a, as an object: its entries -/
def XDφ (a : Addr) (xs : List (List Int × Addr × Value)) : Heap → Prop := fun h => xs.length ≤ sizeLine ∧ (a == sysModules) = false ∧ ∃ o es ep, h.get? a = some o ∧ o.ExactDict ∧ o.data = .dict es ep ∧ es.toList = xs.map xent ∧ (xs.map (·.1)).Nodup
abbrev XD (a : Addr) (xs : List (List Int × Addr × Value)) : HO := .ext (XDφ a xs)
abbrev XVs : List V → List (List Int × Addr × Value) → Prop := Paired fun (v : V) (q : List Int × Addr × Value) => RelV v q.2.2
/-- what stands for a dict with these keys and these values (kr: the tuples that are keys) -/
def DHO (kr : List V → Prop) (t : Bool) (ks : List D) (ws : List V) (a : Addr) (o : HO) : Prop :=
  (t = false ∧ ∃ kk : List Key, ks.map keyOf = kk.map some ∧ kk.Nodup ∧ kk.length = ws.length ∧ o = .dK (kk.zip ws)) ∨
  (t = true ∧ ∃ xs : List (List Int × Addr × Value), kr (xs.map fun q => V.ref q.2.1) ∧ ks.map tkeyOf = xs.map (fun q => some q.1) ∧ XVs ws xs ∧ o = XD a xs)
/-- a tuple whose object is known, and has no dict -/
def Tp (F : Hp) (a : Addr) (vs : List V) : Prop := ∃ o : Obj, o.dict = none ∧ F a = some (.frz o (.tup vs))
section
variable (K : PySem.W.Frag) (π : List Addr) (F : Hp)
mutual
def Rp : D → V → Prop
  | .non, v => v = .non
  | .bl b, v => v = .bl b
  | .int i, v => v = .int i
  | .str x, v => v = .str x
  | .tup ds, v => ∃ a vs, v = .ref a ∧ Tp F a vs ∧ RpL ds vs
  | .lst ds, v => ∃ a vs, v = .ref a ∧ F a = some (.lst vs) ∧ RpL ds vs
  | .dict t ks vs, v => ∃ a ws o, v = .ref a ∧ RpL vs ws ∧ DHO (fun us => RpL ks us) t ks ws a o ∧ Rd F a o
  | .pot k, v => ∃ a, v = .ref a ∧ π[k]? = some a
  | .scr ns, v => ∃ a, v = .ref a ∧ SqL K F a (ns.map V.int)
def RpL : List D → List V → Prop
  | [], vs => vs = []
  | d :: ds, vs => ∃ v r, vs = v :: r ∧ Rp d v ∧ RpL ds r
end
end

/-- all that is read in the one is read in the other -/
structure Le (K : PySem.W.Frag) (F F' : Hp) : Prop where
  tup : ∀ a vs, Tp F a vs → Tp F' a vs
  lst : ∀ a vs, F a = some (.lst vs) → F' a = some (.lst vs)
  rd : ∀ a o, (∀ p q, o ≠ .frz p q) → Rd F a o → Rd F' a o
  sq : ∀ a xs, SqL K F a xs → SqL K F' a xs
theorem Le.of {K : PySem.W.Frag} {F F' : Hp} (h : ∀ a o, F a = some o → F' a = some o) : Le K F F' where
  tup := fun a vs ⟨o, d, e⟩ => ⟨o, d, h a _ e⟩
  lst := fun a vs e => h a _ e
  rd := fun a o _ e => by
    rcases e with e | ⟨p, e⟩
    · exact .inl (h a _ e)
    · exact .inr ⟨p, h a _ e⟩
  sq := fun a xs e => by
    rcases e with e | e
    · rcases e with e | ⟨p, e⟩
      · exact .inl (.inl (h a _ e))
      · exact .inl (.inr ⟨p, h a _ e⟩)
    · exact .inr e
theorem Le.refl {K : PySem.W.Frag} (F : Hp) : Le K F F := Le.of fun _ _ e => e
theorem DHO.nofrz {kr : List V → Prop} {t : Bool} {ks : List D} {ws : List V} {a : Addr} {o : HO} (h : DHO kr t ks ws a o) : ∀ p q, o ≠ .frz p q := by
  rcases h with ⟨_, kk, _, _, _, rfl⟩ | ⟨_, xs, _, _, _, rfl⟩ <;> exact fun p q z => by cases z
theorem DHO.mono {kr kr' : List V → Prop} {t : Bool} {ks : List D} {ws : List V} {a : Addr} {o : HO} (h : DHO kr t ks ws a o) (k : ∀ us, kr us → kr' us) : DHO kr' t ks ws a o := by
  rcases h with h | ⟨h1, xs, h2, h3⟩
  · exact .inl h
  · exact .inr ⟨h1, xs, k _ h2, h3⟩
section
variable {K : PySem.W.Frag} {π π' : List Addr} {F F' : Hp}
mutual
theorem Rp.mono (hF : Le K F F') (hπ : ∀ k a : Addr, π[k]? = some a → π'[k]? = some a) : ∀ (d : D) (v : V), Rp K π F d v → Rp K π' F' d v
  | .non, v, h => h
  | .bl b, v, h => h
  | .int i, v, h => h
  | .str x, v, h => h
  | .tup ds, v, h => by
    obtain ⟨a, vs, e, h1, h2⟩ := h
    exact ⟨a, vs, e, hF.tup _ _ h1, RpL.mono hF hπ ds vs h2⟩
  | .lst ds, v, h => by
    obtain ⟨a, vs, e, h1, h2⟩ := h
    exact ⟨a, vs, e, hF.lst _ _ h1, RpL.mono hF hπ ds vs h2⟩
  | .dict t ks vs, v, h => by
    obtain ⟨a, ws, o, e, h1, h2, h3⟩ := h
    exact ⟨a, ws, o, e, RpL.mono hF hπ vs ws h1, h2.mono fun us r => RpL.mono hF hπ ks us r, hF.rd _ _ h2.nofrz h3⟩
  | .pot k, v, h => by
    obtain ⟨a, e, h1⟩ := h
    exact ⟨a, e, hπ _ _ h1⟩
  | .scr ns, v, h => by
    obtain ⟨a, e, h1⟩ := h
    exact ⟨a, e, hF.sq _ _ h1⟩
theorem RpL.mono (hF : Le K F F') (hπ : ∀ k a : Addr, π[k]? = some a → π'[k]? = some a) : ∀ (ds : List D) (vs : List V), RpL K π F ds vs → RpL K π' F' ds vs
  | [], vs, h => h
  | d :: ds, vs, h => by
    obtain ⟨v, r, e, h1, h2⟩ := h
    exact ⟨v, r, e, Rp.mono hF hπ d v h1, RpL.mono hF hπ ds r h2⟩
end
theorem RpL.length : ∀ {ds : List D} {vs : List V}, RpL K π F ds vs → ds.length = vs.length
  | [], vs, h => by cases (show vs = [] from h); rfl
  | d :: ds, vs, h => by
    obtain ⟨v, r, rfl, _, h2⟩ := h
    have := RpL.length h2
    simp [this]
theorem RpL.get : ∀ {ds : List D} {vs : List V} {i : Nat} {d : D}, RpL K π F ds vs → ds[i]? = some d → ∃ v, vs[i]? = some v ∧ Rp K π F d v
  | [], vs, i, d, h, e => by simp at e
  | d' :: ds, vs, i, d, h, e => by
    obtain ⟨v, r, rfl, h1, h2⟩ := h
    cases i with
    | zero => simp at e; subst e; exact ⟨v, by simp, h1⟩
    | succ i =>
      obtain ⟨w, e1, e2⟩ := RpL.get (i := i) h2 (by simpa using e)
      exact ⟨w, by simpa using e1, e2⟩
theorem RpL.append : ∀ {ds es : List D} {vs ws : List V}, RpL K π F ds vs → RpL K π F es ws → RpL K π F (ds ++ es) (vs ++ ws)
  | [], es, vs, ws, h, h' => by cases (show vs = [] from h); exact h'
  | d :: ds, es, vs, ws, h, h' => by
    obtain ⟨v, r, rfl, h1, h2⟩ := h
    exact ⟨v, r ++ ws, rfl, h1, RpL.append h2 h'⟩
theorem RpL.one {d : D} {v : V} (h : Rp K π F d v) : RpL K π F [d] [v] := ⟨v, [], rfl, h, rfl⟩
theorem RpL.take : ∀ {ds : List D} {vs : List V} (n : Nat), RpL K π F ds vs → RpL K π F (ds.take n) (vs.take n)
  | [], vs, n, h => by cases (show vs = [] from h); simp [RpL]
  | d :: ds, vs, 0, h => by simp [RpL]
  | d :: ds, vs, n + 1, h => by
    obtain ⟨v, r, rfl, h1, h2⟩ := h
    exact ⟨v, r.take n, rfl, h1, RpL.take n h2⟩
theorem RpL.drop : ∀ {ds : List D} {vs : List V} (n : Nat), RpL K π F ds vs → RpL K π F (ds.drop n) (vs.drop n)
  | [], vs, n, h => by cases (show vs = [] from h); simp [RpL]
  | d :: ds, vs, 0, h => by simpa using h
  | d :: ds, vs, n + 1, h => by
    obtain ⟨v, r, rfl, h1, h2⟩ := h
    exact RpL.drop n h2
theorem RpL.reverse : ∀ {ds : List D} {vs : List V}, RpL K π F ds vs → RpL K π F ds.reverse vs.reverse
  | [], vs, h => by cases (show vs = [] from h); simp [RpL]
  | d :: ds, vs, h => by
    obtain ⟨v, r, rfl, h1, h2⟩ := h
    rw [List.reverse_cons, List.reverse_cons]
    exact RpL.append (RpL.reverse h2) (RpL.one h1)
theorem RpL.iff : ∀ {ds : List D} {vs : List V}, RpL K π F ds vs ↔ ds.length = vs.length ∧ ∀ (i : Nat) (d : D) (v : V), ds[i]? = some d → vs[i]? = some v → Rp K π F d v
  | [], vs => by
    constructor
    · intro h; cases (show vs = [] from h); exact ⟨rfl, fun i d v e => by simp at e⟩
    · rintro ⟨h, _⟩; cases vs with
      | nil => rfl
      | cons => simp at h
  | d :: ds, vs => by
    constructor
    · rintro ⟨v, r, rfl, h1, h2⟩
      obtain ⟨l, q⟩ := RpL.iff.mp h2
      refine ⟨by simp [l], fun i d' v' e1 e2 => ?_⟩
      cases i with
      | zero => simp at e1 e2; subst e1; subst e2; exact h1
      | succ i => exact q i d' v' (by simpa using e1) (by simpa using e2)
    · rintro ⟨l, q⟩
      cases vs with
      | nil => simp at l
      | cons v r =>
        refine ⟨v, r, rfl, q 0 d v rfl rfl, RpL.iff.mpr ⟨by simpa using l, fun i d' v' e1 e2 => q (i + 1) d' v' (by simpa using e1) (by simpa using e2)⟩⟩
end

/-! ### owned data -/
inductive All3 (R : D → V → List Addr → Prop) : List D → List V → List Addr → Prop
  | nil : All3 R [] [] []
  | cons {d ds v vs A As} : R d v A → All3 R ds vs As → All3 R (d :: ds) (v :: vs) (A ++ As)
section
variable (K : PySem.W.Frag) (π : List Addr) (F H : Hp)
/-- data whose top n layers of lists and dicts are nobody else's; A: their addresses -/
def RO : Nat → D → V → List Addr → Prop
  | 0, d, v, A => Rp K π F d v ∧ A = []
  | n + 1, d, v, A => match d with
    | .lst ds => ∃ a vs As, v = .ref a ∧ H a = some (.lst vs) ∧ F a = none ∧ a ∉ π ∧ All3 (RO n) ds vs As ∧ A = a :: As
    | .dict t ks vs => ∃ a ws o As, v = .ref a ∧ H a = some o ∧ F a = none ∧ a ∉ π ∧ All3 (RO n) vs ws As ∧ DHO (RpL K π F ks) t ks ws a o ∧ A = a :: As
    | d => Rp K π F d v ∧ A = []
inductive Slots : List (Option (D × Nat)) → L2.St → List Addr → Prop
  | nil : Slots [] [] []
  | none {ρ σ A} (sv : Option V) : Slots ρ σ A → Slots (none :: ρ) (sv :: σ) A
  | some {ρ σ A d n v B} : RO K π F H n d v B → Slots ρ σ A → Slots (some (d, n) :: ρ) (some v :: σ) (B ++ A)
end
abbrev Env' := List (Option (D × Nat))

theorem All3.imp {R R' : D → V → List Addr → Prop} {ds : List D} {vs : List V} {As : List Addr} (h : All3 R ds vs As) (hi : ∀ d v A, (∀ a ∈ A, a ∈ As) → R d v A → R' d v A) : All3 R' ds vs As := by
  induction h with
  | nil => exact .nil
  | cons h1 h2 ih =>
    exact .cons (hi _ _ _ (fun a ha => List.mem_append_left _ ha) h1) (ih fun d v A hA r => hi d v A (fun a ha => List.mem_append_right _ (hA a ha)) r)
theorem All3.length {R : D → V → List Addr → Prop} {ds : List D} {vs : List V} {As : List Addr} (h : All3 R ds vs As) : ds.length = vs.length := by
  induction h with
  | nil => rfl
  | cons _ _ ih => simp [ih]
theorem All3.append {R : D → V → List Addr → Prop} {ds es : List D} {vs ws : List V} {As Bs : List Addr} (h : All3 R ds vs As) (h' : All3 R es ws Bs) : All3 R (ds ++ es) (vs ++ ws) (As ++ Bs) := by
  induction h with
  | nil => exact h'
  | cons h1 _ ih => rw [List.append_assoc]; exact .cons h1 ih
theorem All3.one {R : D → V → List Addr → Prop} {d : D} {v : V} {A : List Addr} (h : R d v A) : All3 R [d] [v] A := by
  have := All3.cons h All3.nil
  rwa [List.append_nil] at this
/-- element i apart: what stands ahead, it, what stands behind -/
theorem All3.split {R : D → V → List Addr → Prop} {ds : List D} {vs : List V} {As : List Addr} (h : All3 R ds vs As) : ∀ {i : Nat} {d : D}, ds[i]? = some d →
    ∃ v A1 A A2, vs[i]? = some v ∧ As = A1 ++ (A ++ A2) ∧ R d v A ∧ All3 R (ds.take i) (vs.take i) A1 ∧ All3 R (ds.drop (i + 1)) (vs.drop (i + 1)) A2 := by
  induction h with
  | nil => intro i d e; simp at e
  | @cons d0 ds v0 vs A0 As h1 h2 ih =>
    intro i d e
    cases i with
    | zero =>
      simp at e; subst e
      exact ⟨v0, [], A0, As, rfl, rfl, h1, .nil, by simpa using h2⟩
    | succ i =>
      obtain ⟨v, A1, A, A2, e1, rfl, r, ha, hb⟩ := ih (i := i) (d := d) (by simpa using e)
      exact ⟨v, A0 ++ A1, A, A2, by simpa using e1, by simp [List.append_assoc], r, .cons h1 ha, by simpa using hb⟩
section
variable {K : PySem.W.Frag} {π π' : List Addr} {F F' H H' : Hp}
/-- owned data stays where its cells stay, and what is frozen stays frozen -/
theorem RO.mono (hF : Le K F F') (hπ : ∀ k a : Addr, π[k]? = some a → π'[k]? = some a) : ∀ (n : Nat) (d : D) (v : V) (A : List Addr), (∀ a ∈ A, H' a = H a ∧ F' a = Option.none ∧ a ∉ π') → RO K π F H n d v A → RO K π' F' H' n d v A
  | 0, d, v, A, hA, h => ⟨Rp.mono hF hπ d v h.1, h.2⟩
  | n + 1, d, v, A, hA, h => by
    cases d with
    | lst ds =>
      obtain ⟨a, vs, As, e, h1, h2, h3, h4, rfl⟩ := h
      have ha := hA a (by simp)
      exact ⟨a, vs, As, e, ha.1.trans h1, ha.2.1, ha.2.2, h4.imp fun d v A hs r => RO.mono hF hπ n d v A (fun b hb => hA b (by simp [hs b hb])) r, rfl⟩
    | dict t ks ds =>
      obtain ⟨a, ws, o, As, e, h1, h2, h3, h4, h5, rfl⟩ := h
      have ha := hA a (by simp)
      exact ⟨a, ws, o, As, e, ha.1.trans h1, ha.2.1, ha.2.2, h4.imp fun d v A hs r => RO.mono hF hπ n d v A (fun b hb => hA b (by simp [hs b hb])) r, h5.mono fun us r => RpL.mono hF hπ ks us r, rfl⟩
    | _ => exact ⟨Rp.mono hF hπ _ v h.1, h.2⟩
theorem All3.rpl {R : D → V → List Addr → Prop} {ds : List D} {vs : List V} {As : List Addr} (h : All3 R ds vs As) (hi : ∀ d v A, (∀ a ∈ A, a ∈ As) → R d v A → Rp K π F d v) : RpL K π F ds vs := by
  induction h with
  | nil => rfl
  | cons h1 h2 ih => exact ⟨_, _, rfl, hi _ _ _ (fun a ha => List.mem_append_left _ ha) h1, ih fun d v A hA r => hi d v A (fun a ha => List.mem_append_right _ (hA a ha)) r⟩
/-- owned data, read where its cells stand -/
theorem RO.rp (hF : Le K F F') (hπ : ∀ k a : Addr, π[k]? = some a → π'[k]? = some a) : ∀ (n : Nat) (d : D) (v : V) (A : List Addr), (∀ a ∈ A, ∀ o, H a = some o → F' a = some o) → RO K π F H n d v A → Rp K π' F' d v
  | 0, d, v, A, hA, h => Rp.mono hF hπ d v h.1
  | n + 1, d, v, A, hA, h => by
    cases d with
    | lst ds =>
      obtain ⟨a, vs, As, e, h1, h2, h3, h4, rfl⟩ := h
      exact ⟨a, vs, e, hA a (by simp) _ h1, h4.rpl fun d v A hs r => RO.rp hF hπ n d v A (fun b hb => hA b (by simp [hs b hb])) r⟩
    | dict t ks ds =>
      obtain ⟨a, ws, o, As, e, h1, h2, h3, h4, h5, rfl⟩ := h
      exact ⟨a, ws, o, e, h4.rpl fun d v A hs r => RO.rp hF hπ n d v A (fun b hb => hA b (by simp [hs b hb])) r, h5.mono fun us r => RpL.mono hF hπ ks us r, .inl (hA a (by simp) _ h1)⟩
    | _ => exact Rp.mono hF hπ _ v h.1
theorem All3.mem {R : D → V → List Addr → Prop} {P : Addr → Prop} {ds : List D} {vs : List V} {As : List Addr} (h : All3 R ds vs As) (hi : ∀ d v A, R d v A → ∀ a ∈ A, P a) : ∀ a ∈ As, P a := by
  induction h with
  | nil => intro a ha; simp at ha
  | cons h1 h2 ih =>
    intro a ha
    rcases List.mem_append.mp ha with z | z
    · exact hi _ _ _ h1 a z
    · exact ih a z
/-- what is true of each owned cell -/
theorem RO.cells : ∀ (n : Nat) (d : D) (v : V) (A : List Addr), RO K π F H n d v A → ∀ a ∈ A, F a = Option.none ∧ a ∉ π ∧ ∃ o, H a = some o ∧ ∀ p vs, o ≠ .frz p (.tup vs)
  | 0, d, v, A, h => by rw [h.2]; intro a ha; simp at ha
  | n + 1, d, v, A, h => by
    cases d with
    | lst ds =>
      obtain ⟨a, vs, As, e, h1, h2, h3, h4, rfl⟩ := h
      intro b hb
      rcases List.mem_cons.mp hb with rfl | hb
      · exact ⟨h2, h3, _, h1, fun _ _ z => by cases z⟩
      · exact h4.mem (fun d v A r => RO.cells n d v A r) b hb
    | dict t ks ds =>
      obtain ⟨a, ws, o, As, e, h1, h2, h3, h4, h5, rfl⟩ := h
      intro b hb
      rcases List.mem_cons.mp hb with rfl | hb
      · exact ⟨h2, h3, _, h1, fun p q z => h5.nofrz _ _ z⟩
      · exact h4.mem (fun d v A r => RO.cells n d v A r) b hb
    | _ => have := h.2; subst this; intro a ha; simp at ha
end
end DS
/-! DSb: the ghost state, how it grows, what is borrowed, what is new; the judgements. -/
namespace DS
open PySem PySem.Spec PyProof.Rows L2

/-- the frozen part of the heap; the pots' addresses -/
structure G where
  F : Hp
  π : List Addr
def off (π : List Addr) (H : Hp) : Hp := fun a => if a ∈ π then none else H a
theorem off_in {π : List Addr} {H : Hp} {a : Addr} {o : HO} (h : off π H a = some o) : a ∉ π ∧ H a = some o := by
  unfold off at h
  split at h
  · cases h
  · exact ⟨by assumption, h⟩
theorem off_of {π : List Addr} {H : Hp} {a : Addr} {o : HO} (h : a ∉ π) (e : H a = some o) : off π H a = some o := by
  unfold off; rw [if_neg h]; exact e
structure Ok (g : G) (H : Hp) (S : Pots) : Prop where
  sub : ∀ a o, g.F a = some o → a ∉ g.π ∧ H a = some o
  tup : ∀ a p vs, H a = some (.frz p (.tup vs)) → g.F a = some (.frz p (.tup vs))
  len : g.π.length = S.length
  pot : ∀ (k : Nat) (p : Int × Int), S[k]? = some p → ∃ a, g.π[k]? = some a ∧ H a = some (.lst [.int p.1, .int p.2])
  nd : g.π.Nodup
structure GrowA (g : G) (H : Hp) (A : List Addr) (g' : G) (H' : Hp) : Prop where
  fr : ∀ a o, g.F a = some o → g'.F a = some o
  keep : ∀ a o, H a = some o → a ∉ g.π → a ∉ A → H' a = some o
  fresh : ∀ a, g.F a = none → H a ≠ none → a ∉ g.π → a ∉ A → g'.F a = none
  there : ∀ a, H a ≠ none → H' a ≠ none
  pre : ∃ l, g'.π = g.π ++ l ∧ ∀ a ∈ l, H a = none
abbrev Grow (g : G) (H : Hp) (g' : G) (H' : Hp) : Prop := GrowA g H [] g' H'
section
variable {K : PySem.W.Frag} {g g' g1 g2 : G} {H H' H1 H2 : Hp} {S S' : Pots} {A A1 : List Addr}
theorem GrowA.refl : GrowA g H A g H := ⟨fun _ _ e => e, fun _ _ e _ _ => e, fun _ e _ _ _ => e, fun _ e => e, [], by simp, fun _ z => by simp at z⟩
theorem GrowA.weak {B : List Addr} (h : GrowA g H A g' H') (hb : ∀ a ∈ A, a ∈ B) : GrowA g H B g' H' :=
  ⟨h.fr, fun a o e n m => h.keep a o e n fun z => m (hb a z), fun a e n p m => h.fresh a e n p fun z => m (hb a z), h.there, h.pre⟩
theorem GrowA.trans (h : GrowA g H A g1 H1) (h' : GrowA g1 H1 A1 g2 H2) (hA : ∀ a ∈ A1, a ∈ A ∨ H a = none) : GrowA g H A g2 H2 := by
  obtain ⟨l, el, fl⟩ := h.pre
  obtain ⟨l', el', fl'⟩ := h'.pre
  have out : ∀ a, H a ≠ none → a ∉ g.π → a ∉ g1.π := fun a n m z => by
    rw [el] at z
    rcases List.mem_append.mp z with z | z
    · exact m z
    · exact n (fl a z)
  have outA : ∀ a, H a ≠ none → a ∉ A → a ∉ A1 := fun a n m z => by
    rcases hA a z with q | q
    · exact m q
    · exact n q
  refine ⟨fun a o e => h'.fr a o (h.fr a o e), fun a o e n m => ?_, fun a e n p m => ?_, fun a e => h'.there a (h.there a e), l ++ l', by rw [el', el, List.append_assoc], fun a ha => ?_⟩
  · have nn : H a ≠ none := by rw [e]; simp
    exact h'.keep a o (h.keep a o e n m) (out a nn n) (outA a nn m)
  · exact h'.fresh a (h.fresh a e n p m) (h.there a n) (out a n p) (outA a n m)
  · rcases List.mem_append.mp ha with z | z
    · exact fl a z
    · cases q : H a with
      | none => rfl
      | some o => exact absurd (fl' a z) (h.there a (by rw [q]; simp))
theorem Grow.trans (h : Grow g H g1 H1) (h' : Grow g1 H1 g2 H2) : Grow g H g2 H2 := GrowA.trans h h' fun _ z => by simp at z
theorem Grow.then (h : Grow g H g1 H1) (h' : GrowA g1 H1 A g2 H2) : GrowA g H A g2 H2 := GrowA.trans (h.weak fun _ z => by simp at z) h' fun _ z => .inl z
theorem GrowA.then (h : GrowA g H A g1 H1) (h' : Grow g1 H1 g2 H2) : GrowA g H A g2 H2 := GrowA.trans h h' fun _ z => by simp at z
theorem GrowA.ix (h : GrowA g H A g' H') : ∀ k a : Addr, g.π[k]? = some a → g'.π[k]? = some a := fun k a e => by
  obtain ⟨l, el, _⟩ := h.pre
  have hk : k < g.π.length := (List.getElem?_eq_some_iff.mp e).1
  rw [el, List.getElem?_append_left hk]; exact e
theorem GrowA.npi (h : GrowA g H A g' H') {a : Addr} (n : H a ≠ none) (m : a ∉ g.π) : a ∉ g'.π := fun z => by
  obtain ⟨l, el, fl⟩ := h.pre
  rw [el] at z
  rcases List.mem_append.mp z with z | z
  · exact m z
  · exact n (fl a z)
theorem Ok.foff (h : Ok g H S) : ∀ a o, g.F a = some o → off g.π H a = some o := fun a o e => off_of (h.sub a o e).1 (h.sub a o e).2
theorem Grow.off (h : Grow g H g' H') : ∀ a o, off g.π H a = some o → off g'.π H' a = some o := fun a o e => by
  obtain ⟨n, e⟩ := off_in e
  exact off_of (h.npi (by rw [e]; simp) n) (h.keep a o e n (by simp))
end

/-! ### borrowed data: its top m layers may be somebody's, what is below is frozen -/
inductive All2 (R : D → V → Prop) : List D → List V → Prop
  | nil : All2 R [] []
  | cons {d ds v vs} : R d v → All2 R ds vs → All2 R (d :: ds) (v :: vs)
theorem All2.imp {R R' : D → V → Prop} {ds : List D} {vs : List V} (h : All2 R ds vs) (hi : ∀ d v, R d v → R' d v) : All2 R' ds vs := by
  induction h with
  | nil => exact .nil
  | cons h1 _ ih => exact .cons (hi _ _ h1) ih
theorem All2.length {R : D → V → Prop} {ds : List D} {vs : List V} (h : All2 R ds vs) : ds.length = vs.length := by
  induction h with
  | nil => rfl
  | cons _ _ ih => simp [ih]
theorem All2.get {R : D → V → Prop} {ds : List D} {vs : List V} (h : All2 R ds vs) : ∀ {i : Nat} {d : D}, ds[i]? = some d → ∃ v, vs[i]? = some v ∧ R d v := by
  induction h with
  | nil => intro i d e; simp at e
  | cons h1 _ ih =>
    intro i d e
    cases i with
    | zero => simp at e; subst e; exact ⟨_, rfl, h1⟩
    | succ i => obtain ⟨v, e1, r⟩ := ih (i := i) (by simpa using e); exact ⟨v, by simpa using e1, r⟩
theorem All2.rpl {K : PySem.W.Frag} {π : List Addr} {F : Hp} {ds : List D} {vs : List V} (h : All2 (Rp K π F) ds vs) : RpL K π F ds vs := by
  induction h with
  | nil => rfl
  | cons h1 _ ih => exact ⟨_, _, rfl, h1, ih⟩
theorem RpL.all2 {K : PySem.W.Frag} {π : List Addr} {F : Hp} : ∀ {ds : List D} {vs : List V}, RpL K π F ds vs → All2 (Rp K π F) ds vs
  | [], vs, h => by cases (show vs = [] from h); exact .nil
  | d :: ds, vs, h => by
    obtain ⟨v, r, rfl, h1, h2⟩ := h
    exact .cons h1 h2.all2
theorem All3.all2 {R : D → V → List Addr → Prop} {R' : D → V → Prop} {ds : List D} {vs : List V} {As : List Addr} (h : All3 R ds vs As) (hi : ∀ d v A, (∀ a ∈ A, a ∈ As) → R d v A → R' d v) : All2 R' ds vs := by
  induction h with
  | nil => exact .nil
  | cons h1 h2 ih => exact .cons (hi _ _ _ (fun a ha => List.mem_append_left _ ha) h1) (ih fun d v A hA r => hi d v A (fun a ha => List.mem_append_right _ (hA a ha)) r)
section
variable (K : PySem.W.Frag) (g : G) (H : Hp)
def RB : Nat → D → V → Prop
  | 0, d, v => Rp K g.π g.F d v
  | m + 1, d, v => match d with
    | .lst ds => ∃ a vs, v = .ref a ∧ off g.π H a = some (.lst vs) ∧ All2 (RB m) ds vs
    | .dict t ks vs => ∃ a ws o, v = .ref a ∧ All2 (RB m) vs ws ∧ DHO (RpL K g.π g.F ks) t ks ws a o ∧ Rd (off g.π H) a o
    | d => Rp K g.π g.F d v
end
section
variable {K : PySem.W.Frag} {g g' g1 : G} {H H' H1 : Hp} {S S' : Pots}
theorem RB.grow (h : Grow g H g' H') : ∀ (m : Nat) (d : D) (v : V), RB K g H m d v → RB K g' H' m d v
  | 0, d, v, r => Rp.mono (Le.of h.fr) h.ix d v r
  | m + 1, d, v, r => by
    cases d with
    | lst ds =>
      obtain ⟨a, vs, e, h1, h2⟩ := r
      exact ⟨a, vs, e, h.off _ _ h1, h2.imp fun d v q => RB.grow h m d v q⟩
    | dict t ks vs =>
      obtain ⟨a, ws, o, e, h1, h2, h3⟩ := r
      exact ⟨a, ws, o, e, h1.imp fun d v q => RB.grow h m d v q, h2.mono fun us r => RpL.mono (Le.of h.fr) h.ix ks us r, (Le.of (K := K) h.off).rd _ _ h2.nofrz h3⟩
    | _ => exact Rp.mono (Le.of h.fr) h.ix _ v r
theorem RB.rp (ok : Ok g H S) : ∀ (m : Nat) (d : D) (v : V), RB K g H m d v → Rp K g.π (off g.π H) d v
  | 0, d, v, r => Rp.mono (Le.of ok.foff) (fun _ _ e => e) d v r
  | m + 1, d, v, r => by
    cases d with
    | lst ds =>
      obtain ⟨a, vs, e, h1, h2⟩ := r
      exact ⟨a, vs, e, h1, (h2.imp fun d v q => RB.rp ok m d v q).rpl⟩
    | dict t ks vs =>
      obtain ⟨a, ws, o, e, h1, h2, h3⟩ := r
      exact ⟨a, ws, o, e, (h1.imp fun d v q => RB.rp ok m d v q).rpl, h2.mono fun us r => RpL.mono (Le.of ok.foff) (fun _ _ e => e) ks us r, h3⟩
    | _ => exact Rp.mono (Le.of ok.foff) (fun _ _ e => e) _ v r
theorem RB.up (ok : Ok g H S) : ∀ (m : Nat) (d : D) (v : V), RB K g H m d v → RB K g H (m + 1) d v
  | 0, d, v, r => by
    cases d with
    | lst ds =>
      obtain ⟨a, vs, e, h1, h2⟩ := r
      exact ⟨a, vs, e, ok.foff _ _ h1, h2.all2⟩
    | dict t ks vs =>
      obtain ⟨a, ws, o, e, h1, h2, h3⟩ := r
      exact ⟨a, ws, o, e, h1.all2, h2, (Le.of (K := K) ok.foff).rd _ _ h2.nofrz h3⟩
    | _ => exact r
  | m + 1, d, v, r => by
    cases d with
    | lst ds =>
      obtain ⟨a, vs, e, h1, h2⟩ := r
      exact ⟨a, vs, e, h1, h2.imp fun d v q => RB.up ok m d v q⟩
    | dict t ks vs =>
      obtain ⟨a, ws, o, e, h1, h2, h3⟩ := r
      exact ⟨a, ws, o, e, h1.imp fun d v q => RB.up ok m d v q, h2, h3⟩
    | _ => exact r
theorem RB.le (ok : Ok g H S) {m n : Nat} (h : m ≤ n) {d : D} {v : V} (r : RB K g H m d v) : RB K g H n d v := by
  induction h with
  | refl => exact r
  | step _ ih => exact RB.up ok _ d v ih
theorem RO.rb : ∀ (n : Nat) (d : D) (v : V) (A : List Addr), RO K g.π g.F H n d v A → RB K g H n d v
  | 0, d, v, A, h => h.1
  | n + 1, d, v, A, h => by
    cases d with
    | lst ds =>
      obtain ⟨a, vs, As, e, h1, h2, h3, h4, rfl⟩ := h
      exact ⟨a, vs, e, off_of h3 h1, h4.all2 fun d v A _ r => RO.rb n d v A r⟩
    | dict t ks ds =>
      obtain ⟨a, ws, o, As, e, h1, h2, h3, h4, h5, rfl⟩ := h
      exact ⟨a, ws, o, e, h4.all2 fun d v A _ r => RO.rb n d v A r, h5, .inl (off_of h3 h1)⟩
    | _ => exact h.1
end
/-! data without lists and dicts: never changed -/
mutual
def D.imm : D → Bool
  | .non | .bl _ | .int _ | .str _ | .pot _ => true
  | .tup ds => immL ds
  | .scr _ => false
  | _ => false
def immL : List D → Bool
  | [] => true
  | d :: ds => d.imm && immL ds
end
section
variable {K : PySem.W.Frag} {g g' g1 : G} {H H' H1 : Hp} {S S' : Pots}
mutual
theorem Rp.down (ok : Ok g H S) : ∀ (d : D) (v : V), d.imm = true → Rp K g.π (off g.π H) d v → Rp K g.π g.F d v
  | .non, v, _, h => h
  | .bl b, v, _, h => h
  | .int i, v, _, h => h
  | .str x, v, _, h => h
  | .pot k, v, _, h => h
  | .tup ds, v, hi, h => by
    obtain ⟨a, vs, e, ⟨p, hp, h1⟩, h2⟩ := h
    exact ⟨a, vs, e, ⟨p, hp, ok.tup _ _ _ (off_in h1).2⟩, RpL.down ok ds vs (by simpa [D.imm] using hi) h2⟩
  | .lst ds, v, hi, h => by simp [D.imm] at hi
  | .dict t ks vs, v, hi, h => by simp [D.imm] at hi
  | .scr ns, v, hi, h => by simp [D.imm] at hi
theorem RpL.down (ok : Ok g H S) : ∀ (ds : List D) (vs : List V), immL ds = true → RpL K g.π (off g.π H) ds vs → RpL K g.π g.F ds vs
  | [], vs, _, h => h
  | d :: ds, vs, hi, h => by
    obtain ⟨v, r, e, h1, h2⟩ := h
    have hi' : d.imm = true ∧ immL ds = true := by simpa [immL] using hi
    exact ⟨v, r, e, Rp.down ok d v hi'.1 h1, RpL.down ok ds r hi'.2 h2⟩
end
end

/-! ### the state of a frame -/
structure Sto (K : PySem.W.Frag) (g : G) (H : Hp) (S : Pots) (ρ : Env') (σ : L2.St) (A : List Addr) : Prop where
  ok : Ok g H S
  sl : Slots K g.π g.F H ρ σ A
  nd : A.Nodup
theorem Slots.imp {K : PySem.W.Frag} {π π' : List Addr} {F F' H H' : Hp} {ρ : Env'} {σ : L2.St} {A : List Addr} (h : Slots K π F H ρ σ A)
    (hi : ∀ n d v B, (∀ a ∈ B, a ∈ A) → RO K π F H n d v B → RO K π' F' H' n d v B) : Slots K π' F' H' ρ σ A := by
  induction h with
  | nil => exact .nil
  | none sv _ ih => exact .none sv (ih hi)
  | some r _ ih => exact .some (hi _ _ _ _ (fun a ha => List.mem_append_left _ ha) r) (ih fun n d v B hB q => hi n d v B (fun a ha => List.mem_append_right _ (hB a ha)) q)
theorem Slots.cells {K : PySem.W.Frag} {π : List Addr} {F H : Hp} {ρ : Env'} {σ : L2.St} {A : List Addr} (h : Slots K π F H ρ σ A) : ∀ a ∈ A, F a = Option.none ∧ a ∉ π ∧ ∃ o, H a = Option.some o ∧ ∀ p vs, o ≠ .frz p (.tup vs) := by
  induction h with
  | nil => intro a ha; simp at ha
  | none sv _ ih => exact ih
  | some r _ ih =>
    intro a ha
    rcases List.mem_append.mp ha with z | z
    · exact RO.cells _ _ _ _ r a z
    · exact ih a z
theorem Slots.length {K : PySem.W.Frag} {π : List Addr} {F H : Hp} {ρ : Env'} {σ : L2.St} {A : List Addr} (h : Slots K π F H ρ σ A) : ρ.length = σ.length := by
  induction h with
  | nil => rfl
  | none sv _ ih => simp [ih]
  | some r _ ih => simp [ih]
theorem RO.grow {K : PySem.W.Frag} {g g' : G} {H H' : Hp} {n : Nat} {d : D} {v : V} {B : List Addr} (r : RO K g.π g.F H n d v B) (h : Grow g H g' H') : RO K g'.π g'.F H' n d v B := by
  refine RO.mono (Le.of h.fr) h.ix n d v B (fun a ha => ?_) r
  obtain ⟨h1, h2, o, h3, _⟩ := RO.cells n d v B r a ha
  have nn : H a ≠ none := by rw [h3]; simp
  exact ⟨by rw [h.keep a o h3 h2 (by simp), h3], h.fresh a h1 nn h2 (by simp), h.npi nn h2⟩
theorem Sto.grow {K : PySem.W.Frag} {g g' : G} {H H' : Hp} {S S' : Pots} {ρ : Env'} {σ : L2.St} {A : List Addr} (s : Sto K g H S ρ σ A) (ok : Ok g' H' S') (h : Grow g H g' H') : Sto K g' H' S' ρ σ A :=
  ⟨ok, s.sl.imp fun _ _ _ _ _ r => r.grow h, s.nd⟩

/-- new data, or what was owned (A0) -/
def RN (K : PySem.W.Frag) (g : G) (H0 : Hp) (A0 : List Addr) (H : Hp) (n : Nat) (d : D) (v : V) : Prop := ∃ B, RO K g.π g.F H n d v B ∧ B.Nodup ∧ ∀ a ∈ B, a ∈ A0 ∨ H0 a = none
theorem RN.zero {K : PySem.W.Frag} {g : G} {H0 H : Hp} {A0 : List Addr} {d : D} {v : V} : RN K g H0 A0 H 0 d v ↔ Rp K g.π g.F d v := by
  constructor
  · rintro ⟨B, ⟨h, _⟩, _⟩; exact h
  · intro h; exact ⟨[], ⟨h, rfl⟩, List.nodup_nil, fun a z => by simp at z⟩
theorem RN.rb {K : PySem.W.Frag} {g : G} {H0 H : Hp} {A0 : List Addr} {n : Nat} {d : D} {v : V} (h : RN K g H0 A0 H n d v) : RB K g H n d v := by
  obtain ⟨B, h, _⟩ := h; exact RO.rb n d v B h
/-- cells are handed over to what is frozen -/
def froz (g : G) (H : Hp) (B : List Addr) : G := ⟨fun a => if a ∈ B then H a else g.F a, g.π⟩
theorem froz_le {g : G} {H : Hp} {B : List Addr} (hB : ∀ a ∈ B, g.F a = none) : ∀ a o, g.F a = some o → (froz g H B).F a = some o := fun a o e => by
  show (if a ∈ B then H a else g.F a) = some o
  rw [if_neg fun z => by rw [hB a z] at e; cases e]; exact e
theorem Ok.icy {g : G} {H : Hp} {S : Pots} {B : List Addr} (ok : Ok g H S) (hB : ∀ a ∈ B, g.F a = none ∧ a ∉ g.π ∧ ∃ o, H a = some o ∧ ∀ p vs, o ≠ .frz p (.tup vs)) : Ok (froz g H B) H S where
  sub := fun a o e => by
    have e : (if a ∈ B then H a else g.F a) = some o := e
    by_cases z : a ∈ B
    · rw [if_pos z] at e; exact ⟨(hB a z).2.1, e⟩
    · rw [if_neg z] at e; exact ok.sub a o e
  tup := fun a p vs e => by
    show (if a ∈ B then H a else g.F a) = some _
    by_cases z : a ∈ B
    · rw [if_pos z]; exact e
    · rw [if_neg z]; exact ok.tup a p vs e
  len := ok.len
  pot := ok.pot
  nd := ok.nd
theorem GrowA.icy {g0 g : G} {H0 H : Hp} {A0 B : List Addr} (h : GrowA g0 H0 A0 g H) (hB : ∀ a ∈ B, g.F a = none) (hf : ∀ a ∈ B, a ∈ A0 ∨ H0 a = none) : GrowA g0 H0 A0 (froz g H B) H where
  fr := fun a o e => froz_le hB a o (h.fr a o e)
  keep := h.keep
  fresh := fun a e n p m => by
    show (if a ∈ B then H a else g.F a) = none
    rw [if_neg fun z => by rcases hf a z with q | q; exact m q; exact n q]
    exact h.fresh a e n p m
  there := h.there
  pre := h.pre
theorem RO.icy {K : PySem.W.Frag} {g : G} {H : Hp} {n : Nat} {d : D} {v : V} {B : List Addr} (r : RO K g.π g.F H n d v B) : Rp K g.π (froz g H B).F d v :=
  RO.rp (Le.of (froz_le fun a ha => (RO.cells n d v B r a ha).1)) (fun _ _ e => e) n d v B (fun a ha o e => by
    show (if a ∈ B then H a else g.F a) = some o
    rw [if_pos ha]; exact e) r
theorem RO.icy' {K : PySem.W.Frag} {g : G} {H : Hp} {n : Nat} {d : D} {v : V} {A B : List Addr} (r : RO K g.π g.F H n d v A) (hB : ∀ a ∈ B, g.F a = none) (hd : ∀ a ∈ A, a ∉ B) : RO K g.π (froz g H B).F H n d v A :=
  RO.mono (Le.of (froz_le hB)) (fun _ _ e => e) n d v A (fun a ha => by
    obtain ⟨h1, h2, _⟩ := RO.cells n d v A r a ha
    refine ⟨rfl, ?_, h2⟩
    show (if a ∈ B then H a else g.F a) = none
    rw [if_neg (hd a ha)]; exact h1) r
end DS
/-! DSc: judgements over plain data, for expressions and tests. -/
namespace DS
open PySem PySem.Spec PyProof.Rows L2

/-- where code stands: a family of contexts of one reading; what is wanted of an exception -/
structure Ctx where
  ι : Type
  X : ι → Cx
  K : PySem.W.Frag
  mg : Str → Option Value
  W : WX
def XR (C : Ctx) (g : G) (H : Hp) (x : Exn) (c : Value) (dd : Option Addr) : Prop :=
  ∃ a, C.mg x.name = some (.ref a) ∧ c = .ref a ∧ ((x.fields = [] ∧ dd = none) ∨
    ∃ p fs, dd = some p ∧ H p = some (.xd fs) ∧ x.fields.map (·.1) = fs.map (·.1) ∧ RpL C.K g.π g.F (x.fields.map (·.2)) (fs.map (·.2)))
def EX (C : Ctx) (g : G) (H : Hp) (σ : L2.St) (x : Exn) (S' : Pots) : Prop := ∀ g' H' c dd, Ok g' H' S' → Grow g H g' H' → XR C g' H' x c dd → C.W c dd σ H'
theorem EX.step {C : Ctx} {g g1 : G} {H H1 : Hp} {σ : L2.St} {x : Exn} {S' : Pots} (h : EX C g H σ x S') (gr : Grow g H g1 H1) : EX C g1 H1 σ x S' := fun g' H' c dd ok g2 r => h g' H' c dd ok (gr.trans g2) r
/-- an expression: it makes new data, n layers of it nobody else's -/
def DE (C : Ctx) (e : Expr) (n : Nat) (f : Env' → M D) : Prop :=
  ∃ t : TE, (∀ i, PE (C.X i) e t) ∧ ∀ (g : G) (H : Hp) (S : Pots) (ρ : Env') (σ : L2.St) (A : List Addr) (Q : VK), Sto C.K g H S ρ σ A →
    (f ρ S).Post (fun d S' => ∀ g' H' v, Ok g' H' S' → Grow g H g' H' → RN C.K g' H [] H' n d v → Q v H') (EX C g H σ) → t σ H Q
/-- an expression whose value is looked at -/
def DB (C : Ctx) (e : Expr) (m : Nat) (f : Env' → M D) : Prop :=
  ∃ t : TE, (∀ i, PE (C.X i) e t) ∧ ∀ (g : G) (H : Hp) (S : Pots) (ρ : Env') (σ : L2.St) (A : List Addr) (Q : VK), Sto C.K g H S ρ σ A →
    (f ρ S).Post (fun d S' => ∀ g' H' v, Ok g' H' S' → Grow g H g' H' → RB C.K g' H' m d v → Q v H') (EX C g H σ) → t σ H Q
def DT (C : Ctx) (e : Expr) (f : Env' → M Bool) : Prop :=
  ∃ t : TT, (∀ i, PT (C.X i) e t) ∧ ∀ (g : G) (H : Hp) (S : Pots) (ρ : Env') (σ : L2.St) (A : List Addr) (Q : Bool → Hp → Prop), Sto C.K g H S ρ σ A →
    (f ρ S).Post (fun b S' => ∀ g' H', Ok g' H' S' → Grow g H g' H' → Q b H') (EX C g H σ) → t σ H Q
def DW (C : Ctx) (e : Expr) (f : Env' → M Bool) : Prop :=
  ∃ t : TT, (∀ i, PW (C.X i) e t) ∧ ∀ (g : G) (H : Hp) (S : Pots) (ρ : Env') (σ : L2.St) (A : List Addr) (Q : Bool → Hp → Prop), Sto C.K g H S ρ σ A →
    (f ρ S).Post (fun b S' => ∀ g' H', Ok g' H' S' → Grow g H g' H' → Q b H') (EX C g H σ) → t σ H Q
def DA (C : Ctx) (es : List Expr) (m : Nat) (f : Env' → M (List D)) : Prop :=
  ∃ t : TA, (∀ i, PA (C.X i) es t) ∧ ∀ (g : G) (H : Hp) (S : Pots) (ρ : Env') (σ : L2.St) (A : List Addr) (Q : List V → Hp → Prop), Sto C.K g H S ρ σ A →
    (f ρ S).Post (fun ds S' => ∀ g' H' vs, Ok g' H' S' → Grow g H g' H' → All2 (RB C.K g' H' m) ds vs → Q vs H') (EX C g H σ) → t σ H Q

def liftO {α : Type} : Option α → M α
  | some a => pure a
  | none => M.bad
theorem post_lift {α : Type} {o : Option α} {S : Pots} {P : α → Pots → Prop} {E : Exn → Pots → Prop} (h : (liftO o S).Post P E) : ∃ a, o = some a ∧ P a S := by
  cases o with
  | none => exact h.elim
  | some a => exact ⟨a, rfl, h⟩
def chk (b : Bool) : M Unit := if b then pure () else M.bad
theorem post_chk {b : Bool} {S : Pots} {P : Unit → Pots → Prop} {E : Exn → Pots → Prop} (h : (chk b S).Post P E) : b = true ∧ P () S := by
  cases b with
  | false => exact h.elim
  | true => exact ⟨rfl, h⟩
abbrev LIM : Nat := 16777216
theorem lim_eq : LIM = sizeLine := sizeLine_eq.symm

section
variable {C : Ctx} {e a b c : Expr} {m m1 m2 m3 n : Nat} {f fa fb fc : Env' → M D} {pos : Pos}
theorem RN.back {K : PySem.W.Frag} {g2 : G} {H H1 H2 : Hp} {k : Nat} {d : D} {v : V} (h : RN K g2 H1 [] H2 k d v) {g0 g1 : G} (gr : Grow g0 H g1 H1) : RN K g2 H [] H2 k d v := by
  obtain ⟨B, r, nd, hf⟩ := h
  refine ⟨B, r, nd, fun x hx => ?_⟩
  rcases hf x hx with z | z
  · exact .inl z
  · refine .inr ?_
    cases q : H x with
    | none => rfl
    | some o => exact absurd z (gr.there x (by rw [q]; simp))
theorem DE.brw (h : DE C e n f) : DB C e n f := by
  obtain ⟨t, p, s⟩ := h
  exact ⟨t, p, fun g H S ρ σ A Q st hp => s g H S ρ σ A Q st (hp.mono (fun d S' q g' H' v ok gr r => q g' H' v ok gr r.rb) fun _ _ q => q)⟩
theorem DB.val (h : DB C e 0 f) : DE C e 0 f := by
  obtain ⟨t, p, s⟩ := h
  exact ⟨t, p, fun g H S ρ σ A Q st hp => s g H S ρ σ A Q st (hp.mono (fun d S' q g' H' v ok gr r => q g' H' v ok gr (RN.zero.mpr r)) fun _ _ q => q)⟩
/-- new data is given to what is frozen -/
theorem DE.z (h : DE C e n f) : DE C e 0 f := by
  obtain ⟨t, p, s⟩ := h
  refine ⟨t, p, fun g H S ρ σ A Q st hp => s g H S ρ σ A Q st (hp.mono (fun d S' q g' H' v ok gr r => ?_) fun _ _ q => q)⟩
  obtain ⟨B, r, nd, hf⟩ := r
  have cl := RO.cells n d v B r
  exact q (froz g' H' B) H' v (ok.icy cl) (gr.icy (fun x hx => (cl x hx).1) hf) (RN.zero.mpr r.icy)
theorem DE.fz (h : DE C e n f) : DB C e 0 f := h.z.brw
theorem DB.up (h : DB C e m f) (hm : m ≤ n) : DB C e n f := by
  obtain ⟨t, p, s⟩ := h
  exact ⟨t, p, fun g H S ρ σ A Q st hp => s g H S ρ σ A Q st (hp.mono (fun d S' q g' H' v ok gr r => q g' H' v ok gr (RB.le ok hm r)) fun _ _ q => q)⟩
/-- what is looked at may be kept, if it never changes -/
theorem DB.imm (h : DB C e m f) : DB C e 0 (fun ρ => do let d ← f ρ; chk d.imm; pure d) := by
  obtain ⟨t, p, s⟩ := h
  refine ⟨t, p, fun g H S ρ σ A Q st hp => s g H S ρ σ A Q st ((post_bind.mp hp).mono (fun d S' q g' H' v ok gr r => ?_) fun _ _ q => q)⟩
  obtain ⟨hi, q⟩ := post_chk (post_bind.mp q)
  exact q g' H' v ok gr (Rp.down ok d v hi (RB.rp ok m d v r))
theorem DB.congr {f' : Env' → M D} (h : DB C e m f) (q : ∀ ρ, f ρ = f' ρ) : DB C e m f' := by
  rw [show f' = f from funext fun ρ => (q ρ).symm]; exact h

/-! ### names, constants -/
def bVar (m i : Nat) : Env' → M D := fun ρ => match ρ[i]? with
  | some (some (d, n)) => if n ≤ m then pure d else M.bad
  | _ => M.bad
theorem slots_get {K : PySem.W.Frag} {π : List Addr} {F H : Hp} {ρ : Env'} {σ : L2.St} {A : List Addr} (h : Slots K π F H ρ σ A) : ∀ {i : Nat} {d : D} {n : Nat}, ρ[i]? = some (some (d, n)) → ∃ v B, σ[i]? = some (some v) ∧ RO K π F H n d v B ∧ ∀ a ∈ B, a ∈ A := by
  induction h with
  | nil => intro i d n e; simp at e
  | none sv _ ih =>
    intro i d n e
    cases i with
    | zero => simp at e
    | succ i => exact ih (i := i) (by simpa using e)
  | some r _ ih =>
    intro i d n e
    cases i with
    | zero => simp at e; obtain ⟨rfl, rfl⟩ := e; exact ⟨_, _, rfl, r, fun a ha => List.mem_append_left _ ha⟩
    | succ i =>
      obtain ⟨v, B, e1, e2, e3⟩ := ih (i := i) (by simpa using e)
      exact ⟨v, B, by simpa using e1, e2, fun a ha => List.mem_append_right _ (e3 a ha)⟩
theorem db_var (m i : Nat) {x : Str} (hN : ∀ j, (C.X j).N[i]? = some x := by intro _; rfl)
    (hv : ∀ j, Vis (C.X j).env.scope x := by first | exact fun _ => Or.inl rfl | exact fun _ => Or.inr (Or.inl rfl) | exact fun _ => Or.inr (Or.inr rfl))
    (hd : (x == ("__debug__" : Str)) = false := by decide) (hcd : (x == ("__classdict__" : Str)) = false := by decide) : DB C (.Name x pos) m (bVar m i) := by
  refine ⟨tVar i, fun j => pe_var (hN j) (hv j) hd hcd, fun g H S ρ σ A Q st hp => ?_⟩
  unfold bVar at hp
  rcases q : ρ[i]? with _ | _ | ⟨d, n⟩
  · rw [q] at hp; exact hp.elim
  · rw [q] at hp; exact hp.elim
  · rw [q] at hp
    obtain ⟨v, B, e1, r, _⟩ := slots_get st.sl q
    by_cases hm : n ≤ m
    · simp only [hm, if_true] at hp
      exact ⟨v, e1, hp g H v st.ok GrowA.refl (RB.le st.ok hm (RO.rb n d v B r))⟩
    · simp only [hm, if_false] at hp
      exact hp.elim
theorem db_const {d : D} {v : V} {e : Expr} (pe : ∀ i, PE (C.X i) e (tC v)) (hr : ∀ (g : G) (H : Hp), Rp C.K g.π g.F d v) : DB C e 0 (fun _ => pure d) :=
  ⟨tC v, pe, fun g H S ρ σ A Q st hp => hp g H v st.ok GrowA.refl (hr g H)⟩
theorem db_int {i : Int} {j : Nat} : DB C (.Constant (.int i) j pos) 0 (fun _ => pure (.int i)) := db_const (fun _ => pe_int) fun _ _ => rfl
theorem db_bl {i : Bool} {j : Nat} : DB C (.Constant (.bool i) j pos) 0 (fun _ => pure (.bl i)) := db_const (fun _ => pe_bl) fun _ _ => rfl
theorem db_str {i : Str} {j : Nat} : DB C (.Constant (.str i) j pos) 0 (fun _ => pure (.str i)) := db_const (fun _ => pe_str) fun _ _ => rfl
theorem db_non {j : Nat} : DB C (.Constant .none j pos) 0 (fun _ => pure .non) := db_const (fun _ => pe_non) fun _ _ => rfl
/-- a module's constant -/
theorem db_glob {x : Str} (d : D) (v : V) {u : Value} (hm : C.mg x = some u) (r : RelV v u) (hr : ∀ (g : G) (H : Hp), Rp C.K g.π g.F d v) (hg : ∀ i, Gl (C.X i) x := by intro _; rfl)
    (hmg : ∀ i, (C.X i).mg = C.mg := by intro _; rfl) (hd : (x == ("__debug__" : Str)) = false := by decide) : DB C (.Name x pos) 0 (fun _ => pure d) :=
  db_const (fun i => pe_glob (hg i) (by rw [hmg i]; exact hm) r hd) hr

/-! ### operations -/
theorem run2 {R : V → V → Hp → Prop} (ha : DB C a m1 fa) (hb : DB C b m2 fb) : ∃ ta tb : TE, (∀ i, PE (C.X i) a ta) ∧ (∀ i, PE (C.X i) b tb) ∧
    ∀ (g : G) (H : Hp) (S : Pots) (ρ : Env') (σ : L2.St) (A : List Addr) (R : V → V → Hp → Prop), Sto C.K g H S ρ σ A →
      (fa ρ S).Post (fun x S1 => (fb ρ S1).Post (fun y S2 => ∀ g' H' v w, Ok g' H' S2 → Grow g H g' H' → RB C.K g' H' m1 x v → RB C.K g' H' m2 y w → R v w H') (EX C g H σ)) (EX C g H σ) →
      ta σ H fun x H1 => tb σ H1 fun y H2 => R x y H2 := by
  obtain ⟨ta, pa, sa⟩ := ha
  obtain ⟨tb, pb, sb⟩ := hb
  refine ⟨ta, tb, pa, pb, fun g H S ρ σ A R st hp => ?_⟩
  refine sa g H S ρ σ A _ st (hp.mono (fun x S1 q g1 H1 v ok1 gr1 r1 => ?_) fun _ _ q => q)
  exact sb g1 H1 S1 ρ σ A _ (st.grow ok1 gr1) (q.mono (fun y S2 q g2 H2 w ok2 gr2 r2 => q g2 H2 v w ok2 (gr1.trans gr2) (RB.grow gr2 m1 x v r1) r2) fun _ _ q => q.step gr1)
/-- an operation by values, over plain data -/
def OpS (K : PySem.W.Frag) (r : R2) (h : D → D → Option D) (m1 m2 n : Nat) : Prop := ∀ (g : G) (H : Hp) (S : Pots) (x y : V) (d e z : D) (Q : VK), Ok g H S → RB K g H m1 d x → RB K g H m2 e y → h d e = some z →
  (∀ g' H' v, Ok g' H' S → Grow g H g' H' → RN K g' H [] H' n z v → Q v H') → r x y H Q
def ap2 (h : D → D → Option D) (fa fb : Env' → M D) : Env' → M D := fun ρ => do let x ← fa ρ; let y ← fb ρ; liftO (h x y)
theorem ap2_post {h : D → D → Option D} {ρ : Env'} {S : Pots} {P : D → Pots → Prop} {E : Exn → Pots → Prop} (hp : (ap2 h fa fb ρ S).Post P E) : (fa ρ S).Post (fun x S1 => (fb ρ S1).Post (fun y S2 => ∃ z, h x y = some z ∧ P z S2) E) E :=
  (post_bind.mp hp).mono (fun x S1 q => (post_bind.mp q).mono (fun y S2 q => post_lift q) fun _ _ q => q) fun _ _ q => q
theorem de_op {op : Operator} {r : R2} {h : D → D → Option D} (ho : ∀ i, OpR (C.X i) (binaryOp op) r) (hs : OpS C.K r h m1 m2 n) (ha : DB C a m1 fa) (hb : DB C b m2 fb) : DE C (.BinOp a op b pos) n (ap2 h fa fb) := by
  obtain ⟨ta, tb, pa, pb, s⟩ := run2 (R := fun _ _ _ => True) ha hb
  refine ⟨tOp r ta tb, fun i => pe_op (ho i) (pa i) (pb i), fun g H S ρ σ A Q st hp => ?_⟩
  refine s g H S ρ σ A _ st ((ap2_post hp).mono (fun x S1 q => q.mono (fun y S2 q g2 H2 v w ok2 gr2 r1 r2 => ?_) fun _ _ q => q) fun _ _ q => q)
  obtain ⟨z, ez, q⟩ := q
  exact hs g2 H2 S2 v w x y z Q ok2 r1 r2 ez fun g' H' u ok gr rn => q g' H' u ok (gr2.trans gr) (rn.back gr2)
theorem de_cmp {op : CmpOp} {r : R2} {h : D → D → Option D} (ho : ∀ i, OpR (C.X i) (compareOp op) r) (hs : OpS C.K r h m1 m2 n) (ha : DB C a m1 fa) (hb : DB C b m2 fb)
    (hm : behindInMarks op b = false := by first | exact nomark _ | rfl) : DE C (.Compare a [op] [b] pos) n (ap2 h fa fb) := by
  obtain ⟨ta, tb, pa, pb, s⟩ := run2 (R := fun _ _ _ => True) ha hb
  refine ⟨tOp r ta tb, fun i => pe_cmpR (ho i) (pa i) (pb i) hm, fun g H S ρ σ A Q st hp => ?_⟩
  refine s g H S ρ σ A _ st ((ap2_post hp).mono (fun x S1 q => q.mono (fun y S2 q g2 H2 v w ok2 gr2 r1 r2 => ?_) fun _ _ q => q) fun _ _ q => q)
  obtain ⟨z, ez, q⟩ := q
  exact hs g2 H2 S2 v w x y z Q ok2 r1 r2 ez fun g' H' u ok gr rn => q g' H' u ok (gr2.trans gr) (rn.back gr2)
def isB : D → Option Bool
  | .bl b => some b
  | _ => none
def tst (f : Env' → M D) : Env' → M Bool := fun ρ => do let d ← f ρ; liftO (isB d)
theorem tst_post {ρ : Env'} {S : Pots} {P : Bool → Pots → Prop} {E : Exn → Pots → Prop} (hp : (tst f ρ S).Post P E) : (f ρ S).Post (fun d S' => ∃ b, d = .bl b ∧ P b S') E :=
  (post_bind.mp hp).mono (fun d S' q => by
    obtain ⟨b, e, q⟩ := post_lift q
    cases d <;> simp [isB] at e
    subst e
    exact ⟨_, rfl, q⟩) fun _ _ q => q
theorem dt_cmp {op : CmpOp} {r : R2} {h : D → D → Option D} (ho : ∀ i, OpR (C.X i) (compareOp op) r) (hs : OpS C.K r h m1 m2 0) (ha : DB C a m1 fa) (hb : DB C b m2 fb)
    (hm : behindInMarks op b = false := by first | exact nomark _ | rfl) : DT C (.Compare a [op] [b] pos) (tst (ap2 h fa fb)) := by
  obtain ⟨ta, tb, pa, pb, s⟩ := run2 (R := fun _ _ _ => True) ha hb
  refine ⟨tTest (tOp r ta tb), fun i => pt_cmpR (ho i) (pa i) (pb i) hm, fun g H S ρ σ A Q st hp => ?_⟩
  refine s g H S ρ σ A _ st ((ap2_post (tst_post hp)).mono (fun x S1 q => q.mono (fun y S2 q g2 H2 v w ok2 gr2 r1 r2 => ?_) fun _ _ q => q) fun _ _ q => q)
  obtain ⟨z, ez, k, rfl, q⟩ := q
  refine hs g2 H2 S2 v w x y _ _ ok2 r1 r2 ez fun g' H' u ok gr rn => ?_
  have e : u = .bl k := RN.zero.mp rn
  exact ⟨k, e, q g' H' ok (gr2.trans gr)⟩
/-- an expression that gives a bool, as a test -/
theorem dt_val (h : DB C e m f) (he : ∀ i whole, isTrue e (C.X i).env whole = (do let v ← whole; standAt e.pos; holding [v] (truthy v)) := by intro _ _; rfl) : DT C e (tst f) := by
  obtain ⟨t, p, s⟩ := h
  refine ⟨tB t, fun i => pt_val (p i) (he i), fun g H S ρ σ A Q st hp => ?_⟩
  refine s g H S ρ σ A _ st ((tst_post hp).mono (fun d S' q g' H' v ok gr r => ?_) fun _ _ q => q)
  obtain ⟨b, rfl, q⟩ := q
  have e : v = .bl b := RB.rp ok m _ v r
  exact ⟨b, e, q g' H' ok gr⟩
end
section
variable {C : Ctx} {e a b c : Expr} {rest : List Expr} {m m1 m2 m3 n : Nat} {f fa fb fc : Env' → M D} {ta tb tc : Env' → M Bool} {pos : Pos}
theorem DW.t (h : DW C e ta) : DT C e ta := by
  obtain ⟨t, p, s⟩ := h
  exact ⟨t, fun i => (p i).pt, s⟩
def andM (x y : Env' → M Bool) : Env' → M Bool := fun ρ => do let k ← x ρ; if k then y ρ else pure false
def orM (x y : Env' → M Bool) : Env' → M Bool := fun ρ => do let k ← x ρ; if k then pure true else y ρ
def notM (x : Env' → M Bool) : Env' → M Bool := fun ρ => do let k ← x ρ; pure (!k)
theorem dw_and1 (h : DT C a ta) : DW C (.BoolOp .And [a] pos) ta := by
  obtain ⟨t, p, s⟩ := h
  exact ⟨t, fun i => pw_and1 (p i), s⟩
theorem dw_or1 (h : DT C a ta) : DW C (.BoolOp .Or [a] pos) ta := by
  obtain ⟨t, p, s⟩ := h
  exact ⟨t, fun i => pw_or1 (p i), s⟩
theorem dw_and (ha : DT C a ta) (hb : DW C (.BoolOp .And (b :: rest) pos) tb) : DW C (.BoolOp .And (a :: b :: rest) pos) (andM ta tb) := by
  obtain ⟨t1, p1, s1⟩ := ha
  obtain ⟨t2, p2, s2⟩ := hb
  refine ⟨tAnd t1 t2, fun i => pw_and (p1 i) (p2 i), fun g H S ρ σ A Q st hp => ?_⟩
  refine s1 g H S ρ σ A _ st ((post_bind.mp hp).mono (fun k S1 q g1 H1 ok1 gr1 => ?_) fun _ _ q => q)
  cases k with
  | true =>
    rw [if_pos rfl]
    exact s2 g1 H1 S1 ρ σ A _ (st.grow ok1 gr1) (q.mono (fun b S2 q g2 H2 ok2 gr2 => q g2 H2 ok2 (gr1.trans gr2)) fun _ _ q => q.step gr1)
  | false =>
    rw [if_neg Bool.false_ne_true]
    exact q g1 H1 ok1 gr1
theorem dw_or (ha : DT C a ta) (hb : DW C (.BoolOp .Or (b :: rest) pos) tb) : DW C (.BoolOp .Or (a :: b :: rest) pos) (orM ta tb) := by
  obtain ⟨t1, p1, s1⟩ := ha
  obtain ⟨t2, p2, s2⟩ := hb
  refine ⟨tOr t1 t2, fun i => pw_or (p1 i) (p2 i), fun g H S ρ σ A Q st hp => ?_⟩
  refine s1 g H S ρ σ A _ st ((post_bind.mp hp).mono (fun k S1 q g1 H1 ok1 gr1 => ?_) fun _ _ q => q)
  cases k with
  | true =>
    rw [if_pos rfl]
    exact q g1 H1 ok1 gr1
  | false =>
    rw [if_neg Bool.false_ne_true]
    exact s2 g1 H1 S1 ρ σ A _ (st.grow ok1 gr1) (q.mono (fun b S2 q g2 H2 ok2 gr2 => q g2 H2 ok2 (gr1.trans gr2)) fun _ _ q => q.step gr1)
theorem dt_not (ha : DT C a ta) : DT C (.UnaryOp .Not a pos) (notM ta) := by
  obtain ⟨t1, p1, s1⟩ := ha
  refine ⟨tNot t1, fun i => pt_not (p1 i), fun g H S ρ σ A Q st hp => ?_⟩
  exact s1 g H S ρ σ A _ st ((post_bind.mp hp).mono (fun k S1 q g1 H1 ok1 gr1 => q g1 H1 ok1 gr1) fun _ _ q => q)
/-! the same as values: bools -/
def andV (x y : Env' → M D) : Env' → M D := fun ρ => do let d ← x ρ; let k ← liftO (isB d); if k then y ρ else pure (.bl false)
def orV (x y : Env' → M D) : Env' → M D := fun ρ => do let d ← x ρ; let k ← liftO (isB d); if k then pure (.bl true) else y ρ
def notV (x : Env' → M D) : Env' → M D := fun ρ => do let d ← x ρ; let k ← liftO (isB d); pure (.bl (!k))
theorem isB_eq {d : D} {b : Bool} (h : isB d = some b) : d = .bl b := by
  cases d <;> simp [isB] at h
  subst h; rfl
theorem db_one {op : BoolOp} (h : DB C a m f) : DB C (.BoolOp op [a] pos) m f := by
  obtain ⟨t, p, s⟩ := h
  exact ⟨t, fun i => pe_one (p i), s⟩
theorem db_and (ha : DB C a m1 fa) (hb : DB C (.BoolOp .And (b :: rest) pos) m fb) : DB C (.BoolOp .And (a :: b :: rest) pos) m (andV fa fb) := by
  obtain ⟨t1, p1, s1⟩ := ha
  obtain ⟨t2, p2, s2⟩ := hb
  refine ⟨tAndV t1 t2, fun i => pe_and (p1 i) (p2 i), fun g H S ρ σ A Q st hp => ?_⟩
  refine s1 g H S ρ σ A _ st ((post_bind.mp hp).mono (fun d S1 q g1 H1 v ok1 gr1 r1 => ?_) fun _ _ q => q)
  obtain ⟨k, ek, q⟩ := post_lift (post_bind.mp q)
  cases isB_eq ek
  have e : v = .bl k := RB.rp ok1 m1 _ v r1
  refine ⟨k, e, ?_⟩
  cases k with
  | true =>
    rw [if_pos rfl]
    exact s2 g1 H1 S1 ρ σ A _ (st.grow ok1 gr1) (q.mono (fun d S2 q g2 H2 v ok2 gr2 r => q g2 H2 v ok2 (gr1.trans gr2) r) fun _ _ q => q.step gr1)
  | false =>
    rw [if_neg Bool.false_ne_true]
    exact q g1 H1 _ ok1 gr1 (RB.le ok1 (Nat.zero_le _) (show RB C.K g1 H1 0 (.bl false) (.bl false) from rfl))
theorem db_or (ha : DB C a m1 fa) (hb : DB C (.BoolOp .Or (b :: rest) pos) m fb) : DB C (.BoolOp .Or (a :: b :: rest) pos) m (orV fa fb) := by
  obtain ⟨t1, p1, s1⟩ := ha
  obtain ⟨t2, p2, s2⟩ := hb
  refine ⟨tOrV t1 t2, fun i => pe_or (p1 i) (p2 i), fun g H S ρ σ A Q st hp => ?_⟩
  refine s1 g H S ρ σ A _ st ((post_bind.mp hp).mono (fun d S1 q g1 H1 v ok1 gr1 r1 => ?_) fun _ _ q => q)
  obtain ⟨k, ek, q⟩ := post_lift (post_bind.mp q)
  cases isB_eq ek
  have e : v = .bl k := RB.rp ok1 m1 _ v r1
  refine ⟨k, e, ?_⟩
  cases k with
  | false =>
    rw [if_neg Bool.false_ne_true]
    exact s2 g1 H1 S1 ρ σ A _ (st.grow ok1 gr1) (q.mono (fun d S2 q g2 H2 v ok2 gr2 r => q g2 H2 v ok2 (gr1.trans gr2) r) fun _ _ q => q.step gr1)
  | true =>
    rw [if_pos rfl]
    exact q g1 H1 _ ok1 gr1 (RB.le ok1 (Nat.zero_le _) (show RB C.K g1 H1 0 (.bl true) (.bl true) from rfl))
theorem db_not (ha : DB C a m1 fa) : DB C (.UnaryOp .Not a pos) 0 (notV fa) := by
  obtain ⟨t1, p1, s1⟩ := ha
  refine ⟨tNotV t1, fun i => pe_not (p1 i), fun g H S ρ σ A Q st hp => ?_⟩
  refine s1 g H S ρ σ A _ st ((post_bind.mp hp).mono (fun d S1 q g1 H1 v ok1 gr1 r1 => ?_) fun _ _ q => q)
  obtain ⟨k, ek, q⟩ := post_lift (post_bind.mp q)
  cases isB_eq ek
  have e : v = .bl k := RB.rp ok1 m1 _ v r1
  exact ⟨k, e, q g1 H1 _ ok1 gr1 rfl⟩
def iteM {α : Type} (t : Env' → M Bool) (x y : Env' → M α) : Env' → M α := fun ρ => do let k ← t ρ; if k then x ρ else y ρ
theorem db_if (hc : DT C c tc) (ha : DB C a m fa) (hb : DB C b m fb) : DB C (.IfExp c a b pos) m (iteM tc fa fb) := by
  obtain ⟨t0, p0, s0⟩ := hc
  obtain ⟨t1, p1, s1⟩ := ha
  obtain ⟨t2, p2, s2⟩ := hb
  refine ⟨tIf t0 t1 t2, fun i => pe_ifExp (p0 i) (p1 i) (p2 i), fun g H S ρ σ A Q st hp => ?_⟩
  refine s0 g H S ρ σ A _ st ((post_bind.mp hp).mono (fun k S1 q g1 H1 ok1 gr1 => ?_) fun _ _ q => q)
  cases k with
  | true =>
    rw [if_pos rfl]
    exact s1 g1 H1 S1 ρ σ A _ (st.grow ok1 gr1) (q.mono (fun d S2 q g2 H2 v ok2 gr2 r => q g2 H2 v ok2 (gr1.trans gr2) r) fun _ _ q => q.step gr1)
  | false =>
    rw [if_neg Bool.false_ne_true]
    exact s2 g1 H1 S1 ρ σ A _ (st.grow ok1 gr1) (q.mono (fun d S2 q g2 H2 v ok2 gr2 r => q g2 H2 v ok2 (gr1.trans gr2) r) fun _ _ q => q.step gr1)
theorem de_if (hc : DT C c tc) (ha : DE C a n fa) (hb : DE C b n fb) : DE C (.IfExp c a b pos) n (iteM tc fa fb) := by
  obtain ⟨t0, p0, s0⟩ := hc
  obtain ⟨t1, p1, s1⟩ := ha
  obtain ⟨t2, p2, s2⟩ := hb
  refine ⟨tIf t0 t1 t2, fun i => pe_ifExp (p0 i) (p1 i) (p2 i), fun g H S ρ σ A Q st hp => ?_⟩
  refine s0 g H S ρ σ A _ st ((post_bind.mp hp).mono (fun k S1 q g1 H1 ok1 gr1 => ?_) fun _ _ q => q)
  cases k with
  | true =>
    rw [if_pos rfl]
    exact s1 g1 H1 S1 ρ σ A _ (st.grow ok1 gr1) (q.mono (fun d S2 q g2 H2 v ok2 gr2 r => q g2 H2 v ok2 (gr1.trans gr2) (r.back gr1)) fun _ _ q => q.step gr1)
  | false =>
    rw [if_neg Bool.false_ne_true]
    exact s2 g1 H1 S1 ρ σ A _ (st.grow ok1 gr1) (q.mono (fun d S2 q g2 H2 v ok2 gr2 r => q g2 H2 v ok2 (gr1.trans gr2) (r.back gr1)) fun _ _ q => q.step gr1)
/-! ### arguments, displays -/
theorem da_nil : DA C [] m (fun _ => pure []) := ⟨tNil, fun _ => pa_nil, fun g H S ρ σ A Q st hp => hp g H [] st.ok GrowA.refl .nil⟩
def consM (x : Env' → M D) (xs : Env' → M (List D)) : Env' → M (List D) := fun ρ => do let d ← x ρ; let ds ← xs ρ; pure (d :: ds)
theorem da_cons {es : List Expr} {fs : Env' → M (List D)} (ha : DB C a m fa) (hr : DA C es m fs) (hs : ∀ i, starEach (a :: es) (C.X i).env = (false, eval a (C.X i).env) :: starEach es (C.X i).env := by intro _; rfl) : DA C (a :: es) m (consM fa fs) := by
  obtain ⟨t1, p1, s1⟩ := ha
  obtain ⟨t2, p2, s2⟩ := hr
  refine ⟨tCons t1 t2, fun i => pa_cons (p1 i) (p2 i) (hs i), fun g H S ρ σ A Q st hp => ?_⟩
  refine s1 g H S ρ σ A _ st ((post_bind.mp hp).mono (fun d S1 q g1 H1 v ok1 gr1 r1 => ?_) fun _ _ q => q)
  refine s2 g1 H1 S1 ρ σ A _ (st.grow ok1 gr1) ((post_bind.mp q).mono (fun ds S2 q g2 H2 vs ok2 gr2 r2 => ?_) fun _ _ q => q.step gr1)
  exact q g2 H2 _ ok2 (gr1.trans gr2) (.cons (RB.grow gr2 m d v r1) r2)
end
end DS
/-! DSd0: tuples are made as things whose object is known (no dict): their own methods can be called. -/
namespace DS
open PySem PySem.Spec PyProof.Rows L2

abbrev tupO (its : List Value) : Obj := { cls := .type "tuple", data := .seq its.toArray }
/-- a new tuple's cell -/
abbrev frT (o : Obj) (vs : List V) : HO := .frz o (.tup vs)
section
variable {X : Cx} {pins : List (Addr × Obj)} {σ : L2.St} {H : Hp} {s : Shared}
theorem newTup {h' : Heap} {tk0 tk : Nat} {its : List Value} {vs : List V} (I : Inv X pins σ H { s with heap := h', toks := tk0 }) (r : Vals vs its) (hz : vs.length ≤ sizeLine) : Inv X pins σ (upd H h'.objs.size (frT (tupO its) vs)) { s with heap := h'.push (tupO its), toks := tk } :=
  I.laid (fun b o e => Heap.get?_push_of_some _ e) (Nat.le_refl _) ⟨Heap.get?_push_size _ rfl, hz, its, r, IsTup.new _ _⟩
theorem newTup' {its : List Value} {vs : List V} (I : Inv X pins σ H s) (r : Vals vs its) (hz : vs.length ≤ sizeLine) : Inv X pins σ (upd H s.heap.objs.size (frT (tupO its) vs)) { s with heap := s.heap.push (tupO its) } :=
  newTup (tk0 := s.toks) (tk := s.toks) I r hz
/-- what is wanted of a new tuple -/
abbrev QT (Q : VK) (H : Hp) (vs : List V) : Prop := ∀ (p : Addr) (o : Obj), o.dict = none → H p = none → Q (.ref p) (upd H p (frT o vs))
theorem Tp.sq {K : PySem.W.Frag} {F : Hp} {a : Addr} {vs : List V} (h : Tp F a vs) : SqT K F a vs := let ⟨o, _, e⟩ := h; .inl (.inr ⟨o, e⟩)
end
section
variable {X : Cx} {es : List Expr} {e a b c : Expr} {t : TA} {te : TE} {pos p p1 p2 p3 : Pos}
def tTupX (t : TA) : TE := fun σ H Q => t σ H fun xs H1 => xs.length ≤ sizeLine ∧ QT Q H1 xs
theorem pe_tupX {x1} (h : PA X es t) : PE X (.Tuple es x1 pos) (tTupX t) := by
  refine ⟨fun pins s σ H Q I hq => ?_⟩
  refine wpAny_Tuple_spliced (thn (h.run pos pins s σ H _ I hq) fun us s1 ⟨xs, H1, I1, r, z, q⟩ => ⟨by rw [← r.length]; exact z, ?_⟩)
  exact ⟨.ref s1.heap.objs.size, _, newTup' I1 r z, rfl, q _ _ rfl (I1.hok.fresh (Nat.le_refl _))⟩
def rCatX (K : PySem.W.Frag) : R2 := fun x y H Q => ∃ a b xs ys, x = .ref a ∧ y = .ref b ∧ SqT K H a xs ∧ SqT K H b ys ∧ xs.length + ys.length ≤ sizeLine ∧
  (xs = [] → Q (.ref b) H) ∧ (xs ≠ [] → ys = [] → Q (.ref a) H) ∧ (xs ≠ [] → ys ≠ [] → QT Q H (xs ++ ys))
theorem op_catX : OpR X (binaryOp .Add) (rCatX X.K) := by
  intro pins s σ H x y v u Q I rx ry h
  obtain ⟨a, b, xs, ys, rfl, rfl, ha, hb, hz, q0, q1, q2⟩ := h
  cases rx
  cases ry
  obtain ⟨its, r1, pt1, _⟩ := I.tuple ha
  obtain ⟨its2, r2, pt2, _⟩ := I.tuple hb
  by_cases hx : xs = []
  · subst hx
    cases r1
    exact cat_tup0 pt1 pt2 ⟨.ref b, H, I, rfl, q0 rfl⟩
  · refine HT.cat_tup pt1 pt2 (fun z => hx (r1.nil_iff.mp z)) (fun z => ⟨.ref a, H, I, rfl, q1 hx (r2.nil_iff.mp z)⟩) (fun z => ?_) (by rw [← r1.length, ← r2.length]; exact hz)
    exact ⟨.ref s.heap.objs.size, _, newTup' I (r1.append r2) (by rw [List.length_append]; exact hz), rfl, q2 hx (fun w => z (r2.nil_iff.mpr w)) _ _ rfl (I.hok.fresh (Nat.le_refl _))⟩
def rSlX (K : PySem.W.Frag) : V → Option Int → Option Int → Hp → VK → Prop := fun x lo hi H Q => ∃ a xs, x = .ref a ∧ SqT K H a xs ∧
  (HT.sIx xs.length 0 lo = 0 ∧ HT.sIx xs.length xs.length hi = xs.length → Q (.ref a) H) ∧ (¬ (HT.sIx xs.length 0 lo = 0 ∧ HT.sIx xs.length xs.length hi = xs.length) → QT Q H (cutV xs lo hi))
theorem sl_tupX : SlR X (rSlX X.K) := by
  intro pins s σ H x v vl vu lo hi sl Q I rx hs pl pu h
  obtain ⟨a, xs, rfl, hx, q1, q2⟩ := h
  cases rx
  obtain ⟨its, r, ht, hz⟩ := I.tuple hx
  have hlen : its.toArray.size = xs.length := by rw [List.size_toArray]; exact r.length.symm
  refine ⟨"tuple", _, PyProof.Rows.slot_tuple_getitem.lookup, ht.typeIs, ?_⟩
  by_cases hw : HT.sIx xs.length 0 lo = 0 ∧ HT.sIx xs.length xs.length hi = xs.length
  · exact getItem_tuple_whole ht hs pl pu (by rw [hlen]; exact hw) ⟨.ref a, H, I, rfl, q1 hw⟩
  · refine HT.getItem_tuple_cut ht hs pl pu (by rw [hlen]; exact hw) ?_ (by rw [hlen]; exact hz)
    rw [hlen]
    exact ⟨.ref s.heap.objs.size, _, newTup' I ((r.drop (HT.sIx xs.length 0 lo)).take (HT.sIx xs.length xs.length hi - HT.sIx xs.length 0 lo)) (Nat.le_trans (cutV_length xs lo hi) hz), rfl, q2 hw _ _ rfl (I.hok.fresh (Nat.le_refl _))⟩
def rTupX (K : PySem.W.Frag) : List V → Hp → VK → Prop := fun xs H Q => ∃ p ys, xs = [.ref p] ∧ ((SqL K H p ys ∧ QT Q H ys) ∨ (SqT K H p ys ∧ Q (.ref p) H))
theorem call_tupX : CallR X (.type "tuple") (rTupX X.K) := by
  intro pins s σ H xs us Q I r h
  obtain ⟨p, ys, rfl, h⟩ := h
  obtain ⟨u, rfl, rx⟩ := vals1 r
  cases rx
  rcases h with ⟨hq, q⟩ | ⟨hq, q⟩
  · obtain ⟨its, r', pl, hz⟩ := I.list hq
    have hlen := r'.length
    refine call_tuple_list pl.isList (fun h' kp => ?_) (by simp only [List.size_toArray] <;> omega)
    have I1 : Inv X pins σ H { s with heap := h' } := I.kept (t' := s.toks) kp
    exact ⟨.ref h'.objs.size, _, newTup (tk0 := s.toks) (tk := s.toks) I1 r' hz, rfl, q _ _ rfl (I1.hok.fresh (Nat.le_refl _))⟩
  · obtain ⟨its, r', pl, hz⟩ := I.tuple hq
    exact call_tuple_same pl ⟨.ref p, H, I, rfl, q⟩
def tTupRgX (te : L2.St → Hp → (Int → Int → Hp → Prop) → Prop) : TE := fun σ H Q => te σ H fun a b H1 => RgOk a b ∧ QT Q H1 (rgV a b)
theorem pe_tupRgX {tr : L2.St → Hp → (Int → Int → Hp → Prop) → Prop} (hc : X.calm = true) (hg : Gl X "tuple") (hm : X.mg "tuple" = none) (he : PRg X e tr) (na : starEach [e] X.env = (false, eval e X.env) :: starEach [] X.env := by rfl) : PE X (.Call (.Name "tuple" p) [e] [] pos) (tTupRgX tr) := by
  refine ⟨fun pins s σ H Q I h => ?_⟩
  refine Call_ (ld_blt I hg hm boot_tuple (PyProof.Rows.callWith_type1 (PyProof.Rows.args_cons (thn (he pins s σ H _ I h) fun x s1 ⟨r, a, b, t, u, v, H1, ex, hr, I1, ok, q⟩ => PyProof.Rows.args_nil ?_) na) na))
  subst ex
  obtain ⟨b1, b2, b3, b4, b5⟩ := ok
  refine call_tuple_range (n := (b - a).toNat) (I1.ok.hd hc) hr (small_one b1 b2 b3 b4) (rangeSize_nat a b) b5 fun h' tk acc hk hi => ?_
  have I2 : Inv X pins σ H1 { s1 with heap := h', toks := tk } := I1.kept hk
  exact ⟨.ref h'.objs.size, _, newTup (tk0 := tk) (tk := tk) I2 (vals_rg hi) (by rw [rgV_length, sizeLine_eq]; omega), rfl, q _ _ rfl (I2.hok.fresh (Nat.le_refl _))⟩
end
end DS
/-! DSd1: dicts whose keys are tuples of ints (each key's object known). -/
namespace DS
open PySem PySem.Spec PyProof.Rows L2

structure XAt (K : PySem.W.Frag) (H : Hp) (a : Addr) (xs : List (List Int × Addr × Value)) : Prop where
  cell : Rd H a (XD a xs)
  keys : ∀ q ∈ xs, SqT K H q.2.1 (q.1.map V.int)
section
variable {X : Cx} {pins : List (Addr × Obj)} {σ : L2.St} {H : Hp} {s : Shared} {a b : Addr} {xs : List (List Int × Addr × Value)} {k : List Int}
theorem ints_items : ∀ {k : List Int} {its : List Value}, Vals (k.map V.int) its → ItemsAre (PySem.intKind X.prog X.w) k its
  | [], _, r => by rw [List.map_nil] at r; cases r; exact .nil
  | n :: k, _, r => by
    rw [List.map_cons] at r
    cases r with
    | cons r1 r2 =>
      obtain ⟨t, rfl⟩ := r1
      exact .cons (intKind_is _ _ n t) (ints_items r2)
theorem xkey (I : Inv X pins σ H s) (h : SqT X.K H b (k.map V.int)) : (tupleKind (PySem.intKind X.prog X.w)).is s.heap k b := by
  obtain ⟨its, r, ⟨o, ho, hc, n, hd⟩, _⟩ := I.tuple h
  exact ⟨o, its.toArray, n, ho, hc, hd, ints_items (X := X) r⟩
theorem xat_of (I : Inv X pins σ H s) (h : XAt X.K H a xs) : xs.length ≤ sizeLine ∧ (a == sysModules) = false ∧ s.heap.DictOfH (tupleKind (PySem.intKind X.prog X.w)) a xs := by
  obtain ⟨⟨z, hs, o, es, ep, h1, h2, h3, h4, h5⟩, _, _⟩ := (show ObjOk X.prog X.w H s.heap a (XD a xs) from h.cell.ok I.hok)
  exact ⟨z, hs, o, es, ep, h1, h2, h3, h4, fun x hx => xkey I (h.keys x hx), h5⟩
theorem xd_ok {P : Program} {w : World} {H' : Hp} {h' : Heap} (z : xs.length ≤ sizeLine) (hs : (a == sysModules) = false) (h : h'.DictOfH (tupleKind (PySem.intKind P w)) a xs) : ObjOk P w H' h' a (XD a xs) := by
  obtain ⟨o, es, ep, h1, h2, h3, h4, _, h5⟩ := h
  exact ⟨⟨z, hs, o, es, ep, h1, h2, h3, h4, h5⟩, ⟨o, h1⟩, fun g1 g2 ⟨z, hs, o, es, ep, q1, q⟩ k => ⟨z, hs, o, es, ep, k o q1, q⟩⟩
/-- what the dict at a holds at the key y -/
def DGX (K : PySem.W.Frag) (H : Hp) (a : Addr) (y : V) (r : Option V) : Prop :=
  (∃ kvs k, Rd H a (.dK kvs) ∧ y = kV k ∧ r = valV kvs k) ∨ ∃ xs k b, XAt K H a xs ∧ y = .ref b ∧ SqT K H b (k.map V.int) ∧ RelO r ((atKey xs k).map (·.2))
theorem room1 {A : Around} (hu : A.units + 1 < cLine) {P : Program} {w : World} : (tupleKind (PySem.intKind P w)).room A.in1 := hu
theorem x_in {A : Around} {E : Value → Shared → Prop} {y : V} {u : Value} {o : Option V} {Q : Value → Shared → Prop} (hu : A.units + 1 < cLine) (I : Inv X pins σ H s) (g : DGX X.K H a y o) (ry : RelV y u) (h : ∀ s', Inv X pins σ H s' → Q (.bool o.isSome) s') :
    wpAny (model X.prog X.w) A (compareOp .In u (.ref a)) Q E s := by
  rcases g with g | ⟨xs, k, b, hx, rfl, hb, l⟩
  · exact d_in hu I (.inl g) ry h
  · cases (show u = Value.ref b from ry)
    obtain ⟨z, hd, dd⟩ := xat_of I hx
    refine wpAny_in_heap (room1 hu) (xkey I hb) hd dd ?_
    have q := l.isSome_eq
    rw [Option.isSome_map] at q
    rw [← q]
    exact h _ (I.tok _)
theorem x_notIn {A : Around} {E : Value → Shared → Prop} {y : V} {u : Value} {o : Option V} {Q : Value → Shared → Prop} (hu : A.units + 1 < cLine) (I : Inv X pins σ H s) (g : DGX X.K H a y o) (ry : RelV y u) (h : ∀ s', Inv X pins σ H s' → Q (.bool (!o.isSome)) s') :
    wpAny (model X.prog X.w) A (compareOp .NotIn u (.ref a)) Q E s := by
  rcases g with g | ⟨xs, k, b, hx, rfl, hb, l⟩
  · exact d_notIn hu I (.inl g) ry h
  · cases (show u = Value.ref b from ry)
    obtain ⟨z, hd, dd⟩ := xat_of I hx
    refine wpAny_notIn_heap (room1 hu) (xkey I hb) hd dd ?_
    have q := l.isSome_eq
    rw [Option.isSome_map] at q
    rw [← q]
    exact h _ (I.tok _)
theorem DGX.typeIs (I : Inv X pins σ H s) {y : V} {o : Option V} (g : DGX X.K H a y o) : s.TypeIs (.ref a) "dict" := by
  rcases g with g | ⟨xs, k, b, hx, _⟩
  · exact dict_typeIs I (.inl g)
  · exact (xat_of I hx).2.2.typeIs
theorem x_getItem {A : Around} {E : Value → Shared → Prop} {y : V} {v : V} {u : Value} {Q : Value → Shared → Prop} (hu : A.units + 1 < cLine) (I : Inv X pins σ H s) (g : DGX X.K H a y (some v)) (ry : RelV y u) (h : ∀ w' s', Inv X pins σ H s' → RelV v w' → Q w' s') :
    wpAny (model X.prog X.w) A (getItem (.ref a) u) Q E s := by
  rcases g with g | ⟨xs, k, b, hx, rfl, hb, l⟩
  · exact d_getItem hu I (.inl g) ry fun w' s' I' r => h w' s' I' r
  · cases (show u = Value.ref b from ry)
    obtain ⟨z, hd, dd⟩ := xat_of I hx
    obtain ⟨w', hw, rw'⟩ := RelO.some_of (v := v) (o := (atKey xs k).map (·.2)) l
    obtain ⟨p, hp, hp2⟩ := Option.map_eq_some_iff.mp hw
    refine wpAny_getItem_heap (room1 hu) (xkey I hb) dd hp ?_
    rw [hp2]
    exact h w' _ (I.tok _) rw'
/-- a[y] = v -/
theorem x_setItem {A : Around} {E : Value → Shared → Prop} {v : V} {r : Value} {Q : Unit → Shared → Prop} (hu : A.units + 1 < cLine) (I : Inv X pins σ H s) (e : H a = some (XD a xs)) (hk : ∀ q ∈ xs, SqT X.K H q.2.1 (q.1.map V.int)) (hb : SqT X.K H b (k.map V.int)) (hl : xs.length < sizeLine) (rv : RelV v r)
    (h : ∀ s', Inv X pins σ (upd H a (XD a (storedH xs k b r))) s' → Q () s') : wpAny (model X.prog X.w) A (setItem (.ref a) (.ref b) r) Q E s := by
  obtain ⟨z, hd, dd⟩ := xat_of I ⟨.inl e, hk⟩
  refine wpAny_setItem_heap (hsz := z) (room1 hu) (xkey I hb) dd fun h' dd' hs => h _ ?_
  have he : ∃ q, h'.get? a = some q := let ⟨q, _, _, hq, _⟩ := dd'; ⟨q, hq⟩
  refine d_write I (by rw [e]; exact True.intro) hs he (xd_ok ?_ hd dd')
  unfold storedH
  split
  · rw [List.length_map]; exact z
  · rw [List.length_append]; exact hl
end
section
variable {X : Cx} {pos : Pos}
def tDNewX : TE := fun _ H Q => ∀ p, H p = none → Q (.ref p) (upd H p (XD p []))
theorem xd_empty (P : Program) (w : World) (h : Heap) : (h.push { cls := .type "dict", data := .dict #[] }).DictOfH (tupleKind (PySem.intKind P w)) h.objs.size [] := Heap.DictOfH.new h
theorem newX {pins : List (Addr × Obj)} {σ : L2.St} {H : Hp} {s : Shared} (I : Inv X pins σ H s) : Inv X pins σ (upd H s.heap.objs.size (XD s.heap.objs.size [])) { s with heap := s.heap.push { cls := .type "dict", data := .dict #[] } } :=
  I.laid (t' := s.toks) (fun _ _ q => Heap.get?_push_of_some _ q) (Nat.le_refl _) (xd_ok (by decide) (beq_eq_false_iff_ne.mpr (Nat.ne_of_gt I.big)) (xd_empty X.prog X.w s.heap))
theorem pe_dnewX : PE X (.Dict [] [] pos) tDNewX := ⟨fun pins s σ H Q I h => wpAny_Dict_empty ⟨.ref s.heap.objs.size, _, newX I, rfl, h _ (I.hok.fresh (Nat.le_refl _))⟩⟩
/-- {k: v} -/
def tDisp1X (K : PySem.W.Frag) (tk tv : TE) : TE := fun σ H Q => ∀ p, H p = none → tk σ (upd H p (XD p [])) fun x H1 => tv σ H1 fun y H2 => H2 p = some (XD p []) ∧ ∃ (b : Addr) (k : List Int), x = .ref b ∧ SqT K H2 b (k.map V.int) ∧ ∀ u, RelV y u → Q (.ref p) (upd H2 p (XD p [(k, b, u)]))
theorem pe_disp1X {k v : Expr} {tk tv : TE} (hu : X.A.units < cLine) (hk : PE X k tk) (hv : PE X v tv) : PE X (.Dict [some k] [v] pos) (tDisp1X X.K tk tv) := by
  refine ⟨fun pins s σ H Q I q => ?_⟩
  have hn := I.hok.fresh (Nat.le_refl s.heap.objs.size)
  rw [arm_eval_Dict, zip_pairTrees [some k] [v] X.env pos rfl rfl, dictDisplay_pairs (pairTrees [some k] [v] X.env pos) (by intro z; cases z) (by show 1 < 17; decide)]
  refine wpAny_bind (wpAny_standAt (wpAny_bind (wpAny_subDictH (knd := tupleKind (PySem.intKind X.prog X.w)) hu (by show 1 ≤ 15; decide) ?_)))
  refine pairTrees_cons_walk (thn (hk.run pins _ σ _ _ (newX I) (q _ hn)) fun kv s1 ⟨x, H1, I1, rx, q1⟩ => thn (hv.run pins s1 σ H1 _ I1 q1) fun vv s2 ⟨y, H2, I2, ry, q2⟩ => pairTrees_nil_walk ?_)
  obtain ⟨e, b, kk, rfl, hb, q3⟩ := q2
  cases (show kv = Value.ref b from rx)
  obtain ⟨z, hd, dd⟩ := xat_of I2 ⟨.inl e, fun _ z => by simp at z⟩
  refine ⟨[(kk, b, vv)], ⟨rfl, rfl, xkey I2 hb, trivial⟩, dd, fun h' t' dd' hs => wpAny_pure ⟨.ref s.heap.objs.size, _, ?_, rfl, q3 vv ry⟩⟩
  have he : ∃ q, h'.get? s.heap.objs.size = some q := let ⟨q, _, _, hq, _⟩ := dd'; ⟨q, hq⟩
  exact d_write I2 (by rw [e]; exact True.intro) hs he (xd_ok (by show 1 ≤ sizeLine; decide) hd dd')
end
section
variable {X : Cx}
/-- len of a list, a tuple, a str, a dict -/
def rLenD (K : PySem.W.Frag) : List V → Hp → VK → Prop := fun xs H Q => (∃ x n, xs = [x] ∧ LenV K x H n ∧ Q (.int n) H) ∨ (∃ a kvs, xs = [V.ref a] ∧ Rd H a (.dK kvs) ∧ Q (.int kvs.length) H) ∨ ∃ a ents, xs = [V.ref a] ∧ XAt K H a ents ∧ Q (.int ((ents.length : Nat) : Int)) H
theorem cr_lenD : CallR X (.builtin "len") (rLenD X.K) := by
  intro pins s σ H xs us Q I r h
  rcases h with h | ⟨a, kvs, rfl, ha, q⟩ | ⟨a, ents, rfl, ha, q⟩
  · exact call_len pins s σ H xs us Q I r h
  · rw [Vals.ref1 r]
    exact d_len I ha fun t s' I' => ⟨.int kvs.length, H, I', ⟨t, rfl⟩, q⟩
  · rw [Vals.ref1 r]
    obtain ⟨z, hd, dd⟩ := xat_of I ha
    refine PySem.call_len_dictH hd dd (by rw [sizeLine_eq] at z; omega) ?_
    exact ⟨.int ((ents.length : Nat) : Int), H, I.tok _, ⟨_, rfl⟩, q⟩
end
end DS
/-! DSd: Python's operators over plain data. -/
namespace DS
open PySem PySem.Spec PyProof.Rows L2

/-- what holds of every context of a family -/
structure Std (C : Ctx) : Prop where
  k : ∀ i, (C.X i).K = C.K
  mg : ∀ i, (C.X i).mg = C.mg
  calm : ∀ i, (C.X i).calm = true
  hu : ∀ i, (C.X i).A.units + 100 < cLine
  hg : ∀ i, (C.X i).A.guards = some []
  nd : ∀ i, (C.X i).N.Nodup
  po : ∀ i, PassesOwn (model (C.X i).prog (C.X i).w) (C.X i).A (C.X i).env (C.X i).xe

/-! ### as the library's data -/
mutual
def D.py : D → PyData
  | .non => .none
  | .bl b => .bool b
  | .int i => .int i
  | .str x => .str x
  | .tup ds => .tuple (pyL ds)
  | .lst ds => .list (pyL ds)
  | _ => .dict []
def pyL : List D → List PyData
  | [] => []
  | d :: ds => d.py :: pyL ds
end
def D.fit (d : D) : Bool := SeqAt.shaped d.py
def D.eqv (d e : D) : Bool := PyData.eqv d.py e.py
section
variable {K : PySem.W.Frag} {π : List Addr} {F : Hp}
mutual
theorem Rp.dp : ∀ (d : D) (v : V), d.py.canLay0 = true → Rp K π F d v → Dp K F v d.py
  | .non, v, _, h => by cases (show v = .non from h); exact .non
  | .bl b, v, _, h => by cases (show v = .bl b from h); exact .bl b
  | .int i, v, _, h => by cases (show v = .int i from h); exact .int i
  | .str x, v, _, h => by cases (show v = .str x from h); exact .str x
  | .tup ds, v, hl, h => by
    obtain ⟨a, vs, rfl, h1, h2⟩ := h
    exact .tup h1.sq (RpL.dp ds vs (by simpa [D.py, PyData.canLay0] using hl) h2)
  | .lst ds, v, hl, h => by
    obtain ⟨a, vs, rfl, h1, h2⟩ := h
    exact .lst (SqL.of h1) (RpL.dp ds vs (by simpa [D.py, PyData.canLay0] using hl) h2)
  | .dict t ks vs, v, hl, h => by simp [D.py, PyData.canLay0] at hl
  | .pot k, v, hl, h => by simp [D.py, PyData.canLay0] at hl
  | .scr ns, v, hl, h => by simp [D.py, PyData.canLay0] at hl
theorem RpL.dp : ∀ (ds : List D) (vs : List V), PyData.canLayAll0 (pyL ds) = true → RpL K π F ds vs → DpAll K F vs (pyL ds)
  | [], vs, _, h => by cases (show vs = [] from h); exact .nil
  | d :: ds, vs, hl, h => by
    obtain ⟨v, r, rfl, h1, h2⟩ := h
    have hl' : d.py.canLay0 = true ∧ PyData.canLayAll0 (pyL ds) = true := by simpa [pyL, PyData.canLayAll0] using hl
    exact .cons (Rp.dp d v hl'.1 h1) (RpL.dp ds r hl'.2 h2)
end
mutual
theorem Dp.up {H H' : Hp} (h : ∀ a o, H a = some o → H' a = some o) : ∀ {v : V} {d : PyData}, Dp K H v d → Dp K H' v d
  | _, _, .non => .non
  | _, _, .bl b => .bl b
  | _, _, .int i => .int i
  | _, _, .str x => .str x
  | _, _, .lst a b => .lst ((Le.of (K := K) h).sq _ _ a) (DpAll.up h b)
  | _, _, .tup a b => .tup (by
      rcases a with a | a
      · rcases a with a | ⟨p, a⟩
        · exact .inl (.inl (h _ _ a))
        · exact .inl (.inr ⟨p, h _ _ a⟩)
      · exact .inr a) (DpAll.up h b)
theorem DpAll.up {H H' : Hp} (h : ∀ a o, H a = some o → H' a = some o) : ∀ {vs : List V} {ds : List PyData}, DpAll K H vs ds → DpAll K H' vs ds
  | _, _, .nil => .nil
  | _, _, .cons a b => .cons (Dp.up h a) (DpAll.up h b)
end
end
section
variable {K : PySem.W.Frag} {g : G} {H : Hp} {S : Pots} {m : Nat} {d : D} {v : V}
theorem RB.dp (ok : Ok g H S) (h : RB K g H m d v) (hf : d.fit = true) : Dp K H v d.py :=
  Dp.up (fun a o e => (off_in e).2) (Rp.dp d v (SeqAt.canLay_of_shaped hf) (RB.rp ok m d v h))
theorem Ok.npot (ok : Ok g H S) {p : Addr} (h : H p = none) : p ∉ g.π := fun z => by
  obtain ⟨k, hk, e⟩ := List.getElem_of_mem z
  have hs : k < S.length := by rw [← ok.len]; exact hk
  obtain ⟨a, e1, e2⟩ := ok.pot k S[k] (List.getElem?_eq_getElem hs)
  rw [List.getElem?_eq_getElem hk] at e1
  cases e1
  rw [e, h] at e2; cases e2
theorem Ok.nfz (ok : Ok g H S) {p : Addr} (h : H p = none) : g.F p = none := by
  cases q : g.F p with
  | none => rfl
  | some o => rw [(ok.sub p o q).2] at h; cases h
/-- a new cell that is not a tuple -/
theorem Ok.new (ok : Ok g H S) {p : Addr} (h : H p = none) {o : HO} (ho : ∀ q vs, o ≠ .frz q (.tup vs)) : Ok g (upd H p o) S ∧ Grow g H g (upd H p o) := by
  have np := ok.npot h
  have ne : ∀ a u, H a = some u → a ≠ p := fun a u e z => by rw [z, h] at e; cases e
  refine ⟨⟨fun a u e => ?_, fun a q vs e => ?_, ok.len, fun k q e => ?_, ok.nd⟩, ⟨fun _ _ e => e, fun a u e _ _ => ?_, fun _ e _ _ _ => e, fun a e => ?_, [], by simp, fun _ z => by simp at z⟩⟩
  · obtain ⟨h1, h2⟩ := ok.sub a u e
    exact ⟨h1, by rw [upd_ne (ne a u h2)]; exact h2⟩
  · by_cases z : a = p
    · subst z; rw [upd_same] at e; cases e; exact absurd rfl (ho q vs)
    · rw [upd_ne z] at e; exact ok.tup a q vs e
  · obtain ⟨a, e1, e2⟩ := ok.pot k q e
    exact ⟨a, e1, by rw [upd_ne (ne a _ e2)]; exact e2⟩
  · rw [upd_ne (ne a u e)]; exact e
  · cases q : H a with
    | none => exact absurd q e
    | some u => rw [upd_ne (ne a u q), q]; simp
/-- a new tuple: frozen at once -/
theorem Ok.newT (ok : Ok g H S) {p : Addr} (h : H p = none) (ob : Obj) (vs : List V) : Ok ⟨upd g.F p (frT ob vs), g.π⟩ (upd H p (frT ob vs)) S ∧ Grow g H ⟨upd g.F p (frT ob vs), g.π⟩ (upd H p (frT ob vs)) := by
  have np := ok.npot h
  have nf := ok.nfz h
  have ne : ∀ a u, H a = some u → a ≠ p := fun a u e z => by rw [z, h] at e; cases e
  have nF : ∀ a u, g.F a = some u → a ≠ p := fun a u e z => by rw [z, nf] at e; cases e
  refine ⟨⟨fun a u e => ?_, fun a q ws e => ?_, ok.len, fun k q e => ?_, ok.nd⟩, ⟨fun a u e => ?_, fun a u e _ _ => ?_, fun a e n _ _ => ?_, fun a e => ?_, [], by simp, fun _ z => by simp at z⟩⟩
  · by_cases z : a = p
    · subst z
      have e : upd g.F a (frT ob vs) a = some u := e
      rw [upd_same] at e; cases e; exact ⟨np, upd_same⟩
    · have e : upd g.F p (frT ob vs) a = some u := e
      rw [upd_ne z] at e
      obtain ⟨h1, h2⟩ := ok.sub a u e
      exact ⟨h1, by rw [upd_ne z]; exact h2⟩
  · by_cases z : a = p
    · subst z; rw [upd_same] at e; cases e
      show upd g.F a (frT _ _) a = some _
      exact upd_same
    · rw [upd_ne z] at e
      show upd g.F p (frT ob vs) a = some _
      rw [upd_ne z]; exact ok.tup a q ws e
  · obtain ⟨a, e1, e2⟩ := ok.pot k q e
    exact ⟨a, e1, by rw [upd_ne (ne a _ e2)]; exact e2⟩
  · show upd g.F p (frT ob vs) a = some u
    rw [upd_ne (nF a u e)]; exact e
  · rw [upd_ne (ne a u e)]; exact e
  · show upd g.F p (frT ob vs) a = none
    rw [upd_ne (fun z => n (by rw [z]; exact h))]; exact e
  · cases q : H a with
    | none => exact absurd q e
    | some u => rw [upd_ne (ne a u q), q]; simp
theorem All2.owned {ds : List D} {vs : List V} (h : All2 (RB K g H 0) ds vs) {F' H' : Hp} {π' : List Addr} (hm : ∀ d v, Rp K g.π g.F d v → Rp K π' F' d v) : All3 (RO K π' F' H' 0) ds vs [] := by
  induction h with
  | nil => exact .nil
  | cons h1 _ ih => exact All3.cons (A := []) ⟨hm _ _ h1, rfl⟩ ih
/-- a new list of frozen things -/
theorem RN.list (ok : Ok g H S) {ds : List D} {vs : List V} (h : All2 (RB K g H 0) ds vs) {p : Addr} (hp : H p = none) : RN K g H [] (upd H p (.lst vs)) 1 (.lst ds) (.ref p) :=
  ⟨[p], ⟨p, vs, [], rfl, upd_same, ok.nfz hp, ok.npot hp, h.owned fun _ _ r => r, rfl⟩, by simp, fun a z => by simp at z; subst z; exact .inr hp⟩
theorem RN.tuple (ok : Ok g H S) {ds : List D} {vs : List V} (h : All2 (RB K g H 0) ds vs) {p : Addr} (hp : H p = none) {n : Nat} {ob : Obj} (hob : ob.dict = none) : RN K ⟨upd g.F p (frT ob vs), g.π⟩ H [] (upd H p (frT ob vs)) n (.tup ds) (.ref p) := by
  have r : Rp K g.π (upd g.F p (frT ob vs)) (.tup ds) (.ref p) := ⟨p, vs, rfl, ⟨ob, hob, upd_same⟩, (h.imp fun d v q => Rp.mono (Le.of fun a o e => by
    have nf := ok.nfz hp
    rw [upd_ne fun z => by rw [z, nf] at e; cases e]; exact e) (fun _ _ e => e) d v q).rpl⟩
  cases n with
  | zero => exact ⟨[], ⟨r, rfl⟩, List.nodup_nil, fun a z => by simp at z⟩
  | succ n => exact ⟨[], ⟨r, rfl⟩, List.nodup_nil, fun a z => by simp at z⟩
/-- data that has no layers of its own -/
def D.flat : D → Bool
  | .lst _ => false
  | .dict _ _ _ => false
  | _ => true
theorem RN.flat {H0 : Hp} {A0 : List Addr} {n : Nat} (hf : d.flat = true) (h : Rp K g.π g.F d v) : RN K g H0 A0 H n d v := by
  refine ⟨[], ?_, List.nodup_nil, fun a z => by simp at z⟩
  cases n with
  | zero => exact ⟨h, rfl⟩
  | succ n => cases d <;> first | exact ⟨h, rfl⟩ | simp [D.flat] at hf
theorem RB.flat (hf : d.flat = true) (h : RB K g H m d v) : Rp K g.π g.F d v := by
  cases m with
  | zero => exact h
  | succ m => cases d <;> first | exact h | simp [D.flat] at hf
theorem RB.lst {ds : List D} (h : RB K g H (m + 1) (.lst ds) v) : ∃ a vs, v = .ref a ∧ H a = some (.lst vs) ∧ All2 (RB K g H m) ds vs := by
  obtain ⟨a, vs, e, h1, h2⟩ := h
  exact ⟨a, vs, e, (off_in h1).2, h2⟩
theorem RB.tup (ok : Ok g H S) {ds : List D} (h : RB K g H m (.tup ds) v) : ∃ a vs, v = .ref a ∧ Tp H a vs ∧ All2 (RB K g H 0) ds vs := by
  obtain ⟨a, vs, e, ⟨q, hq, h1⟩, h2⟩ := RB.flat rfl h
  exact ⟨a, vs, e, ⟨q, hq, (ok.sub _ _ h1).2⟩, h2.all2⟩
theorem All2.append {R : D → V → Prop} {ds es : List D} {vs ws : List V} (h : All2 R ds vs) (h' : All2 R es ws) : All2 R (ds ++ es) (vs ++ ws) := by
  induction h with
  | nil => exact h'
  | cons h1 _ ih => exact .cons h1 ih
theorem All2.take {R : D → V → Prop} {ds : List D} {vs : List V} (h : All2 R ds vs) : ∀ n, All2 R (ds.take n) (vs.take n) := by
  induction h with
  | nil => intro n; simp; exact .nil
  | cons h1 _ ih =>
    intro n
    cases n with
    | zero => exact .nil
    | succ n => exact .cons h1 (ih n)
theorem All2.drop {R : D → V → Prop} {ds : List D} {vs : List V} (h : All2 R ds vs) : ∀ n, All2 R (ds.drop n) (vs.drop n) := by
  induction h with
  | nil => intro n; simp; exact .nil
  | cons h1 h2 ih =>
    intro n
    cases n with
    | zero => exact .cons h1 h2
    | succ n => exact ih n
theorem All2.one {R : D → V → Prop} {d : D} {v : V} (h : R d v) : All2 R [d] [v] := .cons h .nil
theorem All2.reverse {R : D → V → Prop} {ds : List D} {vs : List V} (h : All2 R ds vs) : All2 R ds.reverse vs.reverse := by
  induction h with
  | nil => exact .nil
  | cons h1 _ ih =>
    rw [List.reverse_cons, List.reverse_cons]
    exact ih.append (All2.one h1)
end

/-! ### the operators -/
def dAdd : D → D → Option D
  | .int i, .int j => some (.int (i + j))
  | .str x, .str y => if x.length + y.length ≤ LIM then some (.str (x ++ y)) else none
  | .tup a, .tup b => if a.length + b.length ≤ LIM then some (.tup (a ++ b)) else none
  | .lst a, .lst b => if a.length + b.length ≤ LIM then some (.lst (a ++ b)) else none
  | _, _ => none
def rAddD (K : PySem.W.Frag) : R2 := fun x y H Q => ((rI0 fun i j => .int (i + j)) x y H Q ∨ (∃ i j, x = .str i ∧ y = .str j ∧ i.length + j.length ≤ sizeLine ∧ Q (.str (i ++ j)) H)) ∨ (rCatX K x y H Q ∨ rCat x y H Q)
theorem or_add {X : Cx} : OpR X (binaryOp .Add) (rAddD X.K) := (op_add.or op_add_str).or (op_catX.or op_cat)
theorem os_add {K : PySem.W.Frag} : OpS K (rAddD K) dAdd 1 1 1 := by
  intro g H S x y d e z Q ok hd he hz q
  cases d <;> cases e <;> simp only [dAdd, reduceCtorEq] at hz
  case int i j =>
    cases hz
    exact .inl (.inl ⟨i, j, RB.flat rfl hd, RB.flat rfl he, q g H _ ok GrowA.refl (RN.flat rfl rfl)⟩)
  case str i j =>
    split at hz
    · rename_i hl
      cases hz
      exact .inl (.inr ⟨i, j, RB.flat rfl hd, RB.flat rfl he, by rw [← lim_eq]; exact hl, q g H _ ok GrowA.refl (RN.flat rfl rfl)⟩)
    · cases hz
  case tup a b =>
    split at hz
    · rename_i hl
      cases hz
      have fd := RB.flat rfl hd
      have fe := RB.flat rfl he
      obtain ⟨p, vs, rfl, h1, h2⟩ := RB.tup ok hd
      obtain ⟨r, ws, rfl, h3, h4⟩ := RB.tup ok he
      have l1 := h2.length
      have l2 := h4.length
      refine .inr (.inl ⟨p, r, vs, ws, rfl, rfl, h1.sq, h3.sq, by rw [← lim_eq, ← l1, ← l2]; exact hl, fun e => ?_, fun _ e => ?_, fun _ _ t ob hob nt => ?_⟩)
      · subst e
        cases h2
        exact q g H _ ok GrowA.refl (RN.flat rfl fe)
      · subst e
        cases h4
        rw [List.append_nil] at q
        exact q g H _ ok GrowA.refl (RN.flat rfl fd)
      · obtain ⟨ok', gr⟩ := ok.newT nt ob (vs ++ ws)
        exact q _ _ _ ok' gr (RN.tuple ok (h2.append h4) nt hob)
    · cases hz
  case lst a b =>
    split at hz
    · rename_i hl
      cases hz
      obtain ⟨p, vs, rfl, h1, h2⟩ := RB.lst hd
      obtain ⟨r, ws, rfl, h3, h4⟩ := RB.lst he
      refine .inr (.inr ⟨p, r, vs, ws, rfl, rfl, h1, h3, by rw [← lim_eq, ← h2.length, ← h4.length]; exact hl, fun t nt => ?_⟩)
      obtain ⟨ok', gr⟩ := ok.new nt (o := .lst (vs ++ ws)) (fun _ _ z => by cases z)
      exact q g _ _ ok' gr (RN.list ok (h2.append h4) nt)
    · cases hz
section
variable {C : Ctx} {a b c : Expr} {rest : List Expr} {m m1 m2 m3 n : Nat} {f fa fb fc : Env' → M D} {ta tb tc : Env' → M Bool} {pos : Pos}
theorem de_add (T : Std C) (ha : DB C a 1 fa) (hb : DB C b 1 fb) : DE C (.BinOp a .Add b pos) 1 (ap2 dAdd fa fb) := de_op (fun i => by rw [← T.k i]; exact or_add) os_add ha hb
/-! two ints -/
def dII (h : Int → Int → Option D) : D → D → Option D
  | .int i, .int j => h i j
  | _, _ => none
theorem os_ii {K : PySem.W.Frag} {r : R2} {h : Int → Int → Option D} (hr : ∀ (i j : Int) (z : D) (H : Hp) (Q : VK), h i j = some z → (∀ v, (∀ (g : G), Rp K g.π g.F z v) → Q v H) → r (.int i) (.int j) H Q) (hf : ∀ i j z, h i j = some z → z.flat = true) : OpS K r (dII h) 0 0 0 := by
  intro g H S x y d e z Q ok hd he hz q
  cases d <;> cases e <;> simp only [dII, reduceCtorEq] at hz
  cases (show x = _ from hd)
  cases (show y = _ from he)
  exact hr _ _ z H Q hz fun v hv => q g H v ok GrowA.refl (RN.flat (hf _ _ z hz) (hv g))
def dSub := dII fun i j => some (.int (i - j))
theorem de_sub (ha : DB C a 0 fa) (hb : DB C b 0 fb) : DE C (.BinOp a .Sub b pos) 0 (ap2 dSub fa fb) :=
  de_op (fun _ => op_sub) (os_ii (fun i j z H Q e q => by cases e; exact ⟨i, j, rfl, rfl, q _ fun _ => rfl⟩) fun _ _ _ e => by cases e; rfl) ha hb
def dMod := dII fun i j => if 0 < j then some (.int (i % j)) else none
theorem de_mod (ha : DB C a 0 fa) (hb : DB C b 0 fb) : DE C (.BinOp a .Mod b pos) 0 (ap2 dMod fa fb) :=
  de_op (fun _ => op_mod) (os_ii (fun i j z H Q e q => by
    split at e
    · rename_i hj; cases e; exact ⟨i, j, rfl, rfl, hj, q _ fun _ => rfl⟩
    · cases e) fun _ _ _ e => by split at e <;> cases e; rfl) ha hb
def dDiv := dII fun i j => if 0 < j ∧ j < 1073741824 then some (.int (i / j)) else none
theorem de_div (ha : DB C a 0 fa) (hb : DB C b 0 fb) : DE C (.BinOp a .FloorDiv b pos) 0 (ap2 dDiv fa fb) :=
  de_op (fun _ => op_fdiv) (os_ii (fun i j z H Q e q => by
    split at e
    · rename_i hj; cases e; exact ⟨i, j, rfl, rfl, hj, q _ fun _ => rfl⟩
    · cases e) fun _ _ _ e => by split at e <;> cases e; rfl) ha hb
def dPow := dII fun i j => if 0 ≤ j ∧ j ≤ 1000000 ∧ i.natAbs < 2 ^ 64 then some (.int (i ^ j.toNat)) else none
theorem de_pow (ha : DB C a 0 fa) (hb : DB C b 0 fb) : DE C (.BinOp a .Pow b pos) 0 (ap2 dPow fa fb) :=
  de_op (fun _ => op_pow) (os_ii (fun i j z H Q e q => by
    split at e
    · rename_i hj; cases e; exact ⟨i, j, rfl, rfl, hj, q _ fun _ => rfl⟩
    · cases e) fun _ _ _ e => by split at e <;> cases e; rfl) ha hb
/-- products: of ints, a list so often -/
def dMul : D → D → Option D
  | .int i, .int j => if (-(2 ^ 64) < i ∧ i < 2 ^ 64) ∨ (-(2 ^ 64) < j ∧ j < 2 ^ 64) then some (.int (i * j)) else none
  | .lst ds, .int k => if -(2 ^ 63) ≤ k ∧ k < 2 ^ 63 ∧ ds.length * k.toNat ≤ LIM then some (.lst (List.replicate k.toNat ds).flatten) else none
  | _, _ => none
def rMulD : R2 := fun x y H Q => (rI CMul fun i j => .int (i * j)) x y H Q ∨ rRep x y H Q
theorem or_mul {X : Cx} : OpR X (binaryOp .Mult) rMulD := op_mul.or op_rep
theorem All2.rep {R : D → V → Prop} {ds : List D} {vs : List V} (h : All2 R ds vs) : ∀ k, All2 R (List.replicate k ds).flatten (List.replicate k vs).flatten
  | 0 => .nil
  | k + 1 => by
    rw [List.replicate_succ, List.replicate_succ, List.flatten_cons, List.flatten_cons]
    exact h.append (h.rep k)
theorem os_mul {K : PySem.W.Frag} : OpS K rMulD dMul 1 0 1 := by
  intro g H S x y d e z Q ok hd he hz q
  cases d <;> cases e <;> simp only [dMul, reduceCtorEq] at hz
  case int i j =>
    split at hz
    · rename_i hc
      cases hz
      exact .inl ⟨i, j, RB.flat rfl hd, RB.flat rfl he, hc, q g H _ ok GrowA.refl (RN.flat rfl rfl)⟩
    · cases hz
  case lst ds k =>
    split at hz
    · rename_i hc
      cases hz
      obtain ⟨p, vs, rfl, h1, h2⟩ := RB.lst hd
      refine .inr ⟨p, k, vs, rfl, RB.flat rfl he, h1, hc.1, hc.2.1, by rw [← lim_eq, ← h2.length]; exact hc.2.2, fun t nt => ?_⟩
      obtain ⟨ok', gr⟩ := ok.new nt (o := .lst (List.replicate k.toNat vs).flatten) (fun _ _ z => by cases z)
      exact q g _ _ ok' gr (RN.list ok (h2.rep _) nt)
    · cases hz
theorem de_mul (ha : DB C a 1 fa) (hb : DB C b 0 fb) : DE C (.BinOp a .Mult b pos) 1 (ap2 dMul fa fb) := de_op (fun _ => or_mul) os_mul ha hb

/-! comparisons -/
def dEq (d e : D) : Option D := if d.fit && e.fit then some (.bl (d.eqv e)) else none
def dNe (d e : D) : Option D := if d.fit && e.fit then some (.bl (!d.eqv e)) else none
theorem os_eq {K : PySem.W.Frag} : OpS K (rEqD K) dEq m1 m2 0 := by
  intro g H S x y d e z Q ok hd he hz q
  unfold dEq at hz
  split at hz
  · rename_i hf
    cases hz
    obtain ⟨f1, f2⟩ : d.fit = true ∧ e.fit = true := by simpa using hf
    exact ⟨d.py, e.py, RB.dp ok hd f1, RB.dp ok he f2, f1, f2, q g H _ ok GrowA.refl (RN.flat rfl rfl)⟩
  · cases hz
theorem os_ne {K : PySem.W.Frag} : OpS K (rNeD K) dNe m1 m2 0 := by
  intro g H S x y d e z Q ok hd he hz q
  unfold dNe at hz
  split at hz
  · rename_i hf
    cases hz
    obtain ⟨f1, f2⟩ : d.fit = true ∧ e.fit = true := by simpa using hf
    exact ⟨d.py, e.py, RB.dp ok hd f1, RB.dp ok he f2, f1, f2, q g H _ ok GrowA.refl (RN.flat rfl rfl)⟩
  · cases hz
/-- what comparisons there are -/
structure Cmp (C : Ctx) (op : CmpOp) (m1 m2 : Nat) (h : D → D → Option D) : Prop where
  ex : ∃ r : R2, (∀ i, OpR (C.X i) (compareOp op) r) ∧ OpS C.K r h m1 m2 0
theorem cmp_eq (T : Std C) : Cmp C .Eq m1 m2 dEq := ⟨rEqD C.K, fun i => by rw [← T.k i]; exact op_eqD (by have := T.hu i; omega), os_eq⟩
theorem cmp_ne (T : Std C) : Cmp C .NotEq m1 m2 dNe := ⟨rNeD C.K, fun i => by rw [← T.k i]; exact op_neD (by have := T.hu i; omega), os_ne⟩
theorem intsOf_eq : ∀ {ds : List D} {ns : List Int}, intsOf ds = some ns → ds = ns.map D.int
  | [], ns, h => by simp [intsOf] at h; subst h; rfl
  | .int i :: ds, ns, h => by
    simp only [intsOf, Option.map_eq_some_iff] at h
    obtain ⟨r, h1, rfl⟩ := h
    rw [intsOf_eq h1]; rfl
theorem rp_ints {K : PySem.W.Frag} {π : List Addr} {F : Hp} : ∀ {ns : List Int} {vs : List V}, RpL K π F (ns.map D.int) vs → vs = ns.map V.int
  | [], vs, h => h
  | n :: ns, vs, h => by
    obtain ⟨v, r, rfl, h1, h2⟩ := h
    rw [rp_ints h2, show v = V.int n from h1]; rfl
def dLt : D → D → Option D
  | .int i, .int j => some (.bl (decide (i < j)))
  | .tup a, .tup b => match intsOf a, intsOf b with
    | some ns, some ms => some (.bl (HT.lexLt ns ms))
    | _, _ => none
  | _, _ => none
theorem cmp_lt (T : Std C) : Cmp C .Lt 0 0 dLt := by
  refine ⟨fun x y H Q => (rI0 fun i j => .bl (decide (i < j))) x y H Q ∨ rLtT C.K x y H Q, fun i => op_lt.or (by rw [← T.k i]; exact op_ltT (by have := T.hu i; omega)), ?_⟩
  intro g H S x y d e z Q ok hd he hz q
  cases d <;> cases e <;> simp only [dLt, reduceCtorEq] at hz
  case int i j =>
    cases hz
    exact .inl ⟨i, j, hd, he, q g H _ ok GrowA.refl (RN.flat rfl rfl)⟩
  case tup a b =>
    cases e1 : intsOf a with
    | none => rw [e1] at hz; cases hz
    | some ns =>
      cases e2 : intsOf b with
      | none => rw [e1, e2] at hz; cases hz
      | some ms =>
        rw [e1, e2] at hz
        cases hz
        obtain ⟨p, vs, rfl, h1, h2⟩ := RB.tup ok hd
        obtain ⟨r, ws, rfl, h3, h4⟩ := RB.tup ok he
        rw [intsOf_eq e1] at h2
        rw [intsOf_eq e2] at h4
        rw [rp_ints h2.rpl] at h1
        rw [rp_ints h4.rpl] at h3
        exact .inr ⟨p, r, ns, ms, rfl, rfl, h1.sq, h3.sq, q g H _ ok GrowA.refl (RN.flat rfl rfl)⟩
def dLe := dII fun i j => some (.bl (decide (i ≤ j)))
def dGt := dII fun i j => some (.bl (decide (j < i)))
def dGe := dII fun i j => some (.bl (decide (j ≤ i)))
theorem cmp_le : Cmp C .LtE 0 0 dLe := ⟨_, fun _ => op_le, os_ii (fun i j z H Q e q => by cases e; exact ⟨i, j, rfl, rfl, q _ fun _ => rfl⟩) fun _ _ _ e => by cases e; rfl⟩
theorem cmp_gt : Cmp C .Gt 0 0 dGt := ⟨_, fun _ => op_gt, os_ii (fun i j z H Q e q => by cases e; exact ⟨i, j, rfl, rfl, q _ fun _ => rfl⟩) fun _ _ _ e => by cases e; rfl⟩
theorem cmp_ge : Cmp C .GtE 0 0 dGe := ⟨_, fun _ => op_ge, os_ii (fun i j z H Q e q => by cases e; exact ⟨i, j, rfl, rfl, q _ fun _ => rfl⟩) fun _ _ _ e => by cases e; rfl⟩
/-! is None, is True -/
def isNon : D → Bool
  | .non => true
  | _ => false
def dIs : D → D → Option D
  | d, .non => some (.bl (isNon d))
  | .bl a, .bl b => some (.bl (decide (a = b)))
  | _, _ => none
def dIsNot : D → D → Option D
  | d, .non => some (.bl (!isNon d))
  | .bl a, .bl b => some (.bl (!decide (a = b)))
  | _, _ => none
theorem isNon_v {K : PySem.W.Frag} {g : G} {H : Hp} {S : Pots} (ok : Ok g H S) {m : Nat} {d : D} {v : V} (h : RB K g H m d v) : decide (v = .non) = isNon d := by
  have h := RB.rp ok m d v h
  cases d with
  | non => cases (show v = .non from h); rfl
  | bl b => cases (show v = .bl b from h); rfl
  | int b => cases (show v = .int b from h); rfl
  | str b => cases (show v = .str b from h); rfl
  | tup ds => obtain ⟨a, vs, rfl, _⟩ := h; rfl
  | lst ds => obtain ⟨a, vs, rfl, _⟩ := h; rfl
  | dict t ks vs => obtain ⟨a, ws, o, rfl, _⟩ := h; rfl
  | pot k => obtain ⟨a, rfl, _⟩ := h; rfl
  | scr ns => obtain ⟨a, rfl, _⟩ := h; rfl
theorem cmp_is : Cmp C .Is m1 0 dIs := by
  refine ⟨fun x y H Q => (y = .non ∧ Q (.bl (decide (x = .non))) H) ∨ ∃ a b, x = .bl a ∧ y = .bl b ∧ Q (.bl (decide (a = b))) H, fun i => op_isN.or op_is_bl, ?_⟩
  intro g H S x y d e z Q ok hd he hz q
  cases e <;> simp only [dIs, reduceCtorEq] at hz
  case non =>
    cases hz
    refine .inl ⟨he, ?_⟩
    rw [isNon_v ok hd]
    exact q g H _ ok GrowA.refl (RN.flat rfl rfl)
  case bl b =>
    cases d <;> simp only [dIs, reduceCtorEq] at hz
    cases hz
    exact .inr ⟨_, b, RB.flat rfl hd, he, q g H _ ok GrowA.refl (RN.flat rfl rfl)⟩
  all_goals (cases d <;> simp only [dIs, reduceCtorEq] at hz)
theorem cmp_isnot : Cmp C .IsNot m1 0 dIsNot := by
  refine ⟨fun x y H Q => (y = .non ∧ Q (.bl (!decide (x = .non))) H) ∨ ∃ a b, x = .bl a ∧ y = .bl b ∧ Q (.bl (!decide (a = b))) H, fun i => op_notN.or op_isnot_bl, ?_⟩
  intro g H S x y d e z Q ok hd he hz q
  cases e <;> simp only [dIsNot, reduceCtorEq] at hz
  case non =>
    cases hz
    refine .inl ⟨he, ?_⟩
    rw [isNon_v ok hd]
    exact q g H _ ok GrowA.refl (RN.flat rfl rfl)
  case bl b =>
    cases d <;> simp only [dIsNot, reduceCtorEq] at hz
    cases hz
    exact .inr ⟨_, b, RB.flat rfl hd, he, q g H _ ok GrowA.refl (RN.flat rfl rfl)⟩
  all_goals (cases d <;> simp only [dIsNot, reduceCtorEq] at hz)
theorem de_cmpC {op : CmpOp} {h : D → D → Option D} (k : Cmp C op m1 m2 h) (ha : DB C a m1 fa) (hb : DB C b m2 fb) (hm : behindInMarks op b = false := by first | exact nomark _ | rfl) : DE C (.Compare a [op] [b] pos) 0 (ap2 h fa fb) := by
  obtain ⟨r, ho, hs⟩ := k.ex
  exact de_cmp ho hs ha hb hm
theorem dt_cmpC {op : CmpOp} {h : D → D → Option D} (k : Cmp C op m1 m2 h) (ha : DB C a m1 fa) (hb : DB C b m2 fb) (hm : behindInMarks op b = false := by first | exact nomark _ | rfl) : DT C (.Compare a [op] [b] pos) (tst (ap2 h fa fb)) := by
  obtain ⟨r, ho, hs⟩ := k.ex
  exact dt_cmp ho hs ha hb hm
def dNeg : D → Option D
  | .int i => some (.int (-i))
  | _ => none
def ap1 (h : D → Option D) (fa : Env' → M D) : Env' → M D := fun ρ => do let x ← fa ρ; liftO (h x)
theorem ap1_post {h : D → Option D} {ρ : Env'} {S : Pots} {P : D → Pots → Prop} {E : Exn → Pots → Prop} (hp : (ap1 h fa ρ S).Post P E) : (fa ρ S).Post (fun x S1 => ∃ z, h x = some z ∧ P z S1) E :=
  (post_bind.mp hp).mono (fun x S1 q => post_lift q) fun _ _ q => q
theorem db_neg (ha : DB C a 0 fa) : DB C (.UnaryOp .USub a pos) 0 (ap1 dNeg fa) := by
  obtain ⟨t, p, s⟩ := ha
  refine ⟨tUn (rU fun i => .int (-i)) t, fun i => pe_un un_neg (p i), fun g H S ρ σ A Q st hp => ?_⟩
  refine s g H S ρ σ A _ st ((ap1_post hp).mono (fun x S1 q g1 H1 v ok1 gr1 r1 => ?_) fun _ _ q => q)
  obtain ⟨z, ez, q⟩ := q
  cases x <;> simp only [dNeg, reduceCtorEq] at ez
  cases ez
  exact ⟨_, r1, q g1 H1 _ ok1 gr1 rfl⟩
end
end DS
/-! DSe: chains, membership, subscripts, slices, built-in functions, displays. -/
namespace DS
open PySem PySem.Spec PyProof.Rows L2

section
variable {C : Ctx} {e a b c : Expr} {es rest : List Expr} {m m1 m2 m3 n : Nat} {f fa fb fc : Env' → M D} {fs : Env' → M (List D)} {ta tb tc : Env' → M Bool} {pos p : Pos}
/-! ### a < b < c -/
def chV (h h' : D → D → Option D) (fa fb fc : Env' → M D) : Env' → M D := fun ρ => do
  let x ← fa ρ
  let y ← fb ρ
  let z ← liftO (h x y)
  let k ← liftO (isB z)
  if k then do
    let w ← fc ρ
    liftO (h' y w)
  else pure (.bl false)
theorem chain_run {op op' : CmpOp} {h h' : D → D → Option D} (k : Cmp C op m1 m2 h) (k' : Cmp C op' m2 m3 h') (ha : DB C a m1 fa) (hb : DB C b m2 fb) (hc : DB C c m3 fc) :
    ∃ (r r' : R2) (ta tb tc : TE), (∀ i, OpR (C.X i) (compareOp op) r) ∧ (∀ i, OpR (C.X i) (compareOp op') r') ∧ (∀ i, PE (C.X i) a ta) ∧ (∀ i, PE (C.X i) b tb) ∧ (∀ i, PE (C.X i) c tc) ∧
    ∀ (g : G) (H : Hp) (S : Pots) (ρ : Env') (σ : L2.St) (A : List Addr) (Q : VK), Sto C.K g H S ρ σ A →
      (chV h h' fa fb fc ρ S).Post (fun d S' => ∀ g' H' v, Ok g' H' S' → Grow g H g' H' → RB C.K g' H' 0 d v → Q v H') (EX C g H σ) → tChain r r' ta tb tc σ H Q := by
  obtain ⟨r, o, os⟩ := k.ex
  obtain ⟨r', o', os'⟩ := k'.ex
  obtain ⟨ta, tb, pa, pb, s⟩ := run2 (R := fun _ _ _ => True) ha hb
  obtain ⟨tc, pc, sc⟩ := hc
  refine ⟨r, r', ta, tb, tc, o, o', pa, pb, pc, fun g H S ρ σ A Q st hp => ?_⟩
  refine s g H S ρ σ A _ st ((post_bind.mp hp).mono (fun x S1 q1 => (post_bind.mp q1).mono (fun y S2 q2 g2 H2 v w ok2 gr2 r1 r2 => ?_) fun _ _ q => q) fun _ _ q => q)
  obtain ⟨z, ez, q3⟩ := post_lift (post_bind.mp q2)
  obtain ⟨kk, ek, q4⟩ := post_lift (post_bind.mp q3)
  cases isB_eq ek
  refine os g2 H2 S2 v w x y _ _ ok2 r1 r2 ez fun g3 H3 u ok3 gr3 rn => ?_
  have e : u = .bl kk := RN.zero.mp rn
  have gr23 := gr2.trans gr3
  refine ⟨kk, e, ?_⟩
  cases kk with
  | true =>
    rw [if_pos rfl]
    refine sc g3 H3 S2 ρ σ A _ (st.grow ok3 gr23) ((post_bind.mp q4).mono (fun d S4 q5 g4 H4 v4 ok4 gr4 r4 => ?_) fun _ _ q => q.step gr23)
    obtain ⟨z', ez', q6⟩ := post_lift q5
    exact os' g4 H4 S4 w v4 y d z' Q ok4 (RB.grow (gr3.trans gr4) _ _ _ r2) r4 ez' fun g5 H5 v5 ok5 gr5 r5 => q6 g5 H5 v5 ok5 ((gr23.trans gr4).trans gr5) (RN.zero.mp r5)
  | false =>
    rw [if_neg Bool.false_ne_true]
    exact q4 g3 H3 _ ok3 gr23 rfl
theorem db_chain {op op' : CmpOp} {h h' : D → D → Option D} (k : Cmp C op m1 m2 h) (k' : Cmp C op' m2 m3 h') (ha : DB C a m1 fa) (hb : DB C b m2 fb) (hc : DB C c m3 fc) (hm : lastMarks [op, op'] [b, c] = false := by with_unfolding_all rfl) : DB C (.Compare a [op, op'] [b, c] pos) 0 (chV h h' fa fb fc) := by
  obtain ⟨r, r', t1, t2, t3, o, o', p1, p2, p3, s⟩ := chain_run k k' ha hb hc
  exact ⟨_, fun i => pe_chain (o i) (o' i) (p1 i) (p2 i) (p3 i) hm, s⟩
theorem dt_chain {op op' : CmpOp} {h h' : D → D → Option D} (k : Cmp C op m1 m2 h) (k' : Cmp C op' m2 m3 h') (ha : DB C a m1 fa) (hb : DB C b m2 fb) (hc : DB C c m3 fc) (hm : lastMarks [op, op'] [b, c] = false := by with_unfolding_all rfl) : DT C (.Compare a [op, op'] [b, c] pos) (tst (chV h h' fa fb fc)) := by
  obtain ⟨r, r', t1, t2, t3, o, o', p1, p2, p3, s⟩ := chain_run k k' ha hb hc
  refine ⟨_, fun i => pt_chain (o i) (o' i) (p1 i) (p2 i) (p3 i) hm, fun g H S ρ σ A Q st hp => ?_⟩
  refine s g H S ρ σ A _ st ((tst_post hp).mono (fun d S' q g' H' v ok gr r => ?_) fun _ _ q => q)
  obtain ⟨b, rfl, q⟩ := q
  exact ⟨b, r, q g' H' ok gr⟩
end

/-! ### look-ups -/
def lookK : List D → List D → Key → Option D
  | k :: ks, v :: vs, j => if keyOf k = some j then some v else lookK ks vs j
  | _, _, _ => none
def lookT : List D → List D → List Int → Option D
  | k :: ks, v :: vs, j => if tkeyOf k = some j then some v else lookT ks vs j
  | _, _, _ => none
/-- none: the key is of another kind -/
def dLook (t : Bool) (ks vs : List D) (k : D) : Option (Option D) :=
  if t then (tkeyOf k).map (lookT ks vs) else (keyOf k).map (lookK ks vs)
section
variable {K : PySem.W.Frag} {g : G} {H : Hp} {S : Pots} {m : Nat}
def OptR (R : D → V → Prop) : Option D → Option V → Prop
  | some d, some w => R d w
  | none, none => True
  | _, _ => False
theorem look_any {κ : Type} [DecidableEq κ] (ko : D → Option κ) (lk : List D → List D → κ → Option D) (h1 : ∀ k ks v vs j, lk (k :: ks) (v :: vs) j = if ko k = some j then some v else lk ks vs j) (h2 : ∀ vs j, lk [] vs j = none) (R : D → V → Prop) (j : κ) :
    ∀ {ks vs : List D} {ws : List V} {kk : List κ}, ks.map ko = kk.map some → All2 R vs ws → kk.length = ws.length →
      OptR R (lk ks vs j) (valV (kk.zip ws) j)
  | [], vs, ws, kk, e, _, _ => by
    cases kk with
    | nil => rw [h2]; exact True.intro
    | cons => simp at e
  | k :: ks, vs, ws, kk, e, r, l => by
    cases kk with
    | nil => simp at e
    | cons q kk =>
      cases r with
      | nil => simp at l
      | @cons v vs w ws r1 r2 =>
        have e1 : ko k = some q := by simpa using (List.cons.inj e).1
        rw [h1]
        have ih := look_any ko lk h1 h2 R j (ks := ks) (vs := vs) (ws := ws) (kk := kk) (List.cons.inj e).2 r2 (by simpa using l)
        by_cases z : q = j
        · rw [if_pos (by rw [e1, z])]
          rw [show valV ((q :: kk).zip (w :: ws)) j = some w by rw [List.zip_cons_cons]; exact valV_pos z]
          exact r1
        · rw [if_neg (by rw [e1]; simpa using z)]
          have q2 : valV ((q :: kk).zip (w :: ws)) j = valV (kk.zip ws) j := by rw [List.zip_cons_cons]; exact valV_neg z
          rw [q2]
          exact ih
theorem keysOf_v {π : List Addr} {F : Hp} : ∀ {ds : List D} {ks : List Key} {vs : List V}, keysOf ds = some ks → RpL K π F ds vs → vs = ks.map kV
  | [], ks, vs, h, r => by simp [keysOf] at h; subst h; exact r
  | d :: ds, ks, vs, h, r => by
    obtain ⟨v, q, rfl, r1, r2⟩ := r
    unfold keysOf at h
    cases e1 : keyOf d with
    | none => rw [e1] at h; cases h
    | some k =>
      cases e2 : keysOf ds with
      | none => rw [e1, e2] at h; cases h
      | some r =>
        rw [e1, e2] at h
        cases h
        rw [List.map_cons, keysOf_v e2 r2]
        cases d <;> simp only [keyOf, reduceCtorEq, Option.some.injEq] at e1
        · subst e1; rw [show v = V.int _ from r1]; rfl
        · subst e1; rw [show v = V.str _ from r1]; rfl
theorem keyOf_v {π : List Addr} {F : Hp} {d : D} {k : Key} {v : V} (h : keyOf d = some k) (r : Rp K π F d v) : v = kV k := by
  have q : keysOf [d] = some [k] := by simp [keysOf, h]
  simpa using keysOf_v q (RpL.one r)
theorem look_x (R : D → V → Prop) (j : List Int) : ∀ {ks vs : List D} {ws : List V} {xs : List (List Int × Addr × Value)}, ks.map tkeyOf = xs.map (fun q => some q.1) → All2 R vs ws → XVs ws xs → ∃ r, OptR R (lookT ks vs j) r ∧ RelO r ((atKey xs j).map (·.2))
  | [], vs, ws, xs, e, h, x => by
    cases xs with
    | nil => exact ⟨none, by simp [lookT, OptR], True.intro⟩
    | cons => simp at e
  | k :: ks, vs, ws, xs, e, h, x => by
    cases x with
    | nil => simp at e
    | @cons w q ws xs x1 x2 =>
      cases h with
      | @cons v vs w2 ws2 h1 h2 =>
        rw [List.map_cons, List.map_cons] at e
        have e1 : tkeyOf k = some q.1 := (List.cons.inj e).1
        obtain ⟨r, i1, i2⟩ := look_x R j (List.cons.inj e).2 h2 x2
        unfold lookT
        by_cases z : q.1 = j
        · rw [if_pos (by rw [e1, z])]
          refine ⟨some w, h1, ?_⟩
          have : atKey (q :: xs) j = some q.2 := by simp [atKey, List.find?_cons, z]
          rw [this]
          exact x1
        · rw [if_neg (by rw [e1]; simpa using z)]
          have : atKey (q :: xs) j = atKey xs j := by simp [atKey, List.find?_cons, z]
          rw [this]
          exact ⟨r, i1, i2⟩
theorem tup_key {K : PySem.W.Frag} {g : G} {H : Hp} {S : Pots} (ok : Ok g H S) {k : D} {j : List Int} {y : V} (h : tkeyOf k = some j) (r : Rp K g.π g.F k y) : ∃ b, y = .ref b ∧ SqT K H b (j.map V.int) ∧ SqT K g.F b (j.map V.int) := by
  cases k <;> simp only [tkeyOf, reduceCtorEq] at h
  obtain ⟨b, us, rfl, ⟨o, ho, hb⟩, hr⟩ := r
  rw [intsOf_eq h] at hr
  have e := rp_ints hr
  subst e
  exact ⟨b, rfl, .inl (.inr ⟨o, (ok.sub _ _ hb).2⟩), .inl (.inr ⟨o, hb⟩)⟩
/-- the keys of such a dict stand in the heap -/
theorem xat_keys {K : PySem.W.Frag} {g : G} {H : Hp} {S : Pots} (ok : Ok g H S) : ∀ {ks : List D} {xs : List (List Int × Addr × Value)}, RpL K g.π g.F ks (xs.map fun q => V.ref q.2.1) → ks.map tkeyOf = xs.map (fun q => some q.1) → ∀ q ∈ xs, SqT K H q.2.1 (q.1.map V.int)
  | [], xs, r, e => by
    cases xs with
    | nil => intro q hq; simp at hq
    | cons => simp at e
  | k :: ks, xs, r, e => by
    cases xs with
    | nil => simp at e
    | cons x xs =>
      rw [List.map_cons, List.map_cons] at e
      obtain ⟨v, l, e2, r1, r2⟩ := r
      rw [List.map_cons] at e2
      obtain ⟨e3, e4⟩ := List.cons.inj e2
      subst e3 e4
      intro q hq
      rcases List.mem_cons.mp hq with z | z
      · rw [z]
        obtain ⟨b, e5, h1, _⟩ := tup_key ok (List.cons.inj e).1 r1
        cases e5
        exact h1
      · exact xat_keys ok r2 (List.cons.inj e).2 q z
theorem off_rd {π : List Addr} {H : Hp} {a : Addr} {o : HO} (h : Rd (off π H) a o) : Rd H a o := by
  rcases h with h | ⟨p, h⟩
  · exact .inl (off_in h).2
  · exact .inr ⟨p, (off_in h).2⟩
/-- a look-up, by values -/
theorem dget_of (ok : Ok g H S) {t : Bool} {ks vs : List D} {x y : V} {k : D} {o : Option D} (hd : RB K g H (m + 1) (.dict t ks vs) x) (hk : RB K g H 0 k y) (hl : dLook t ks vs k = some o) :
    ∃ a r, x = .ref a ∧ DGX K H a y r ∧ OptR (RB K g H m) o r := by
  obtain ⟨a, ws, ob, rfl, h1, h2, h3⟩ := hd
  have h3 := off_rd h3
  rcases h2 with ⟨rfl, kk, e1, nd, el, rfl⟩ | ⟨rfl, xs, kr, e1, hx, rfl⟩
  · simp only [dLook, Bool.false_eq_true, if_false, Option.map_eq_some_iff] at hl
    obtain ⟨j, ej, rfl⟩ := hl
    exact ⟨a, valV (kk.zip ws) j, rfl, .inl ⟨_, j, h3, keyOf_v ej hk, rfl⟩, look_any keyOf lookK (fun _ _ _ _ _ => rfl) (fun _ _ => by simp [lookK]) (RB K g H m) j e1 h1 el⟩
  · simp only [dLook, if_true, Option.map_eq_some_iff] at hl
    obtain ⟨j, ej, rfl⟩ := hl
    obtain ⟨b, rfl, hb, _⟩ := tup_key ok ej hk
    obtain ⟨r, q1, q2⟩ := look_x (RB K g H m) j e1 h1 hx
    exact ⟨a, r, rfl, .inr ⟨xs, j, b, ⟨h3, xat_keys ok kr e1⟩, rfl, hb, q2⟩, q1⟩
end

/-! ### in, not in -/
def memD (d : D) : D → Option Bool
  | .lst es => if d.fit && (D.lst es).fit then some ((pyL es).any fun z => PyData.eqv z d.py) else none
  | .tup es => if d.fit && (D.tup es).fit then some ((pyL es).any fun z => PyData.eqv z d.py) else none
  | .dict t ks vs => (dLook t ks vs d).map Option.isSome
  | _ => none
def dIn (d e : D) : Option D := (memD d e).map D.bl
def dNotIn (d e : D) : Option D := (memD d e).map fun b => .bl (!b)
def rMem (K : PySem.W.Frag) (neg : Bool) : R2 := fun x y H Q => (∃ d ds, Dp K H x d ∧ (Dp K H y (.list ds) ∨ Dp K H y (.tuple ds)) ∧ SeqAt.shaped d = true ∧ SeqAt.shaped (.list ds) = true ∧ Q (.bl (if neg then !(ds.any fun z => PyData.eqv z d) else ds.any fun z => PyData.eqv z d)) H) ∨
  ∃ a o, y = .ref a ∧ DGX K H a x o ∧ Q (.bl (if neg then !o.isSome else o.isSome)) H
theorem or_in {X : Cx} (hu : X.A.units + 65 < cLine) : OpR X (compareOp .In) (rMem X.K false) := by
  intro pins s σ H x y v u Q I rx ry h
  rcases h with ⟨d, ds, hd, he, sd, se, q⟩ | ⟨a, o, rfl, hg, q⟩
  · obtain ⟨as, r1⟩ := Dp.reads I d x v hd rx
    rcases he with he | he
    · obtain ⟨bs, r2⟩ := Dp.reads I (.list ds) y u he ry
      exact SeqAt.in_list_reads r2 r1 (SeqAt.canLay_of_shaped se) (SeqAt.canLay_of_shaped sd) (room_in_shaped sd hu) ⟨.bl _, H, I, rfl, q⟩
    · obtain ⟨bs, r2⟩ := Dp.reads I (.tuple ds) y u he ry
      exact SeqAt.in_tuple_reads r2 r1 (SeqAt.canLay_of_shaped se) (SeqAt.canLay_of_shaped sd) (room_in_shaped sd hu) ⟨.bl _, H, I, rfl, q⟩
  · have eu : u = Value.ref a := ry
    subst eu
    exact x_in (by omega) I hg rx fun s' I' => ⟨.bl _, H, I', rfl, q⟩
theorem or_notin {X : Cx} (hu : X.A.units + 65 < cLine) : OpR X (compareOp .NotIn) (rMem X.K true) := by
  intro pins s σ H x y v u Q I rx ry h
  rcases h with ⟨d, ds, hd, he, sd, se, q⟩ | ⟨a, o, rfl, hg, q⟩
  · obtain ⟨as, r1⟩ := Dp.reads I d x v hd rx
    rcases he with he | he
    · obtain ⟨bs, r2⟩ := Dp.reads I (.list ds) y u he ry
      exact SeqAt.notIn_list_reads r2 r1 (SeqAt.canLay_of_shaped se) (SeqAt.canLay_of_shaped sd) (room_in_shaped sd hu) ⟨.bl _, H, I, rfl, q⟩
    · obtain ⟨bs, r2⟩ := Dp.reads I (.tuple ds) y u he ry
      exact SeqAt.notIn_tuple_reads r2 r1 (SeqAt.canLay_of_shaped se) (SeqAt.canLay_of_shaped sd) (room_in_shaped sd hu) ⟨.bl _, H, I, rfl, q⟩
  · have eu : u = Value.ref a := ry
    subst eu
    exact x_notIn (by omega) I hg rx fun s' I' => ⟨.bl _, H, I', rfl, q⟩
theorem fit_tl {es : List D} (h : (D.tup es).fit = true) : SeqAt.shaped (.list (pyL es)) = true := by
  unfold D.fit SeqAt.shaped at *
  simpa [D.py, PyData.canLay0, PyData.depth] using h
theorem fit_ll {es : List D} (h : (D.lst es).fit = true) : SeqAt.shaped (.list (pyL es)) = true := h
theorem os_mem {K : PySem.W.Frag} {neg : Bool} {m m2 : Nat} {h : D → D → Option D} (hh : ∀ d e z, h d e = some z → ∃ b, memD d e = some b ∧ z = .bl (if neg then !b else b)) : OpS K (rMem K neg) h 0 (m2 + 1) 0 := by
  intro g H S x y d e z Q ok hd he hz q
  obtain ⟨b, eb, rfl⟩ := hh d e z hz
  have fin := q g H _ ok GrowA.refl (RN.flat (d := .bl (if neg then !b else b)) rfl rfl)
  cases e <;> simp only [memD, reduceCtorEq] at eb
  case lst es =>
    split at eb
    · rename_i hf
      cases eb
      obtain ⟨f1, f2⟩ : d.fit = true ∧ (D.lst es).fit = true := by simpa using hf
      exact .inl ⟨d.py, pyL es, RB.dp ok hd f1, .inl (RB.dp ok he f2), f1, fit_ll f2, fin⟩
    · cases eb
  case tup es =>
    split at eb
    · rename_i hf
      cases eb
      obtain ⟨f1, f2⟩ : d.fit = true ∧ (D.tup es).fit = true := by simpa using hf
      exact .inl ⟨d.py, pyL es, RB.dp ok hd f1, .inr (RB.dp ok he f2), f1, fit_tl f2, fin⟩
    · cases eb
  case dict t ks vs =>
    obtain ⟨o, eo, rfl⟩ := Option.map_eq_some_iff.mp eb
    obtain ⟨a, r, e1, e2, e3⟩ := dget_of ok he hd eo
    refine .inr ⟨a, r, e1, e2, ?_⟩
    cases o with
    | none =>
      cases r with
      | none => exact fin
      | some w => exact e3.elim
    | some d =>
      cases r with
      | none => exact e3.elim
      | some w => exact fin
section
variable {C : Ctx} {e a b c : Expr} {es rest : List Expr} {m m1 m2 m3 n : Nat} {f fa fb fc : Env' → M D} {fs : Env' → M (List D)} {ta tb tc : Env' → M Bool} {pos p : Pos}
theorem cmp_in (T : Std C) : Cmp C .In 0 (m + 1) dIn := ⟨rMem C.K false, fun i => by rw [← T.k i]; exact or_in (by have := T.hu i; omega), os_mem (m := 0) fun d e z h => by
  obtain ⟨b, eb, rfl⟩ := Option.map_eq_some_iff.mp h
  exact ⟨b, eb, rfl⟩⟩
theorem cmp_notin (T : Std C) : Cmp C .NotIn 0 (m + 1) dNotIn := ⟨rMem C.K true, fun i => by rw [← T.k i]; exact or_notin (by have := T.hu i; omega), os_mem (m := 0) fun d e z h => by
  obtain ⟨b, eb, rfl⟩ := Option.map_eq_some_iff.mp h
  exact ⟨b, eb, rfl⟩⟩

/-! ### subscripts -/
def dGet : D → D → Option D
  | .lst ds, .int i => atI ds i
  | .tup ds, .int i => atI ds i
  | .dict t ks vs, k => (dLook t ks vs k).bind id
  | _, _ => none
theorem All2.atI {R : D → V → Prop} {ds : List D} {vs : List V} (h : All2 R ds vs) {i : Int} {d : D} (e : atI ds i = some d) : ∃ v, atI vs i = some v ∧ R d v := by
  unfold L2.atI at *
  obtain ⟨j, hj, e⟩ := Option.bind_eq_some_iff.mp e
  obtain ⟨v, ev, r⟩ := h.get e
  exact ⟨v, by rw [← h.length, hj]; exact ev, r⟩
def rIxD (K : PySem.W.Frag) : R2 := fun x y H Q => ∃ a v, x = .ref a ∧ DGX K H a y (some v) ∧ Q v H
theorem ix_dict {X : Cx} (hu : X.A.units + 1 < cLine) : IxR X (rIxD X.K) := by
  intro value slice pins s σ H x y v u Q I rx ry h hs
  obtain ⟨a, w, rfl, hg, q⟩ := h
  obtain rfl : v = Value.ref a := rx
  exact tail_any (hg.typeIs I) PySem.F.slot_dict_getitem.lookup (x_getItem hu I hg ry fun w' s3 I3 rw' => ⟨w, H, I3, rw', q⟩) hs
theorem db_ix (T : Std C) (ha : DB C a (m + 1) fa) (hb : DB C b 0 fb) (hs : PlainIx b := by exact fun _ _ => rfl) : DB C (.Subscript a b pos) m (ap2 dGet fa fb) := by
  obtain ⟨ta, tb, pa, pb, s⟩ := run2 (R := fun _ _ _ => True) ha hb
  refine ⟨tOp (fun x y H Q => (rIxL C.K x y H Q ∨ rIxT C.K x y H Q) ∨ rIxD C.K x y H Q) ta tb, fun i => pe_ix (((by rw [← T.k i]; exact ix_list : IxR (C.X i) (rIxL C.K)).or (by rw [← T.k i]; exact ix_tup)).or (by rw [← T.k i]; exact ix_dict (by have := T.hu i; omega))) (pa i) (pb i) hs, fun g H S ρ σ A Q st hp => ?_⟩
  refine s g H S ρ σ A _ st ((ap2_post hp).mono (fun x S1 q1 => q1.mono (fun y S2 q2 g2 H2 v w ok2 gr2 r1 r2 => ?_) fun _ _ q => q) fun _ _ q => q)
  obtain ⟨z, ez, q⟩ := q2
  clear q1
  cases x <;> simp only [dGet, reduceCtorEq] at ez
  case lst ds =>
    cases y <;> simp only [dGet, reduceCtorEq] at ez
    obtain ⟨p, vs, rfl, h1, h2⟩ := RB.lst r1
    obtain ⟨u, eu, r⟩ := h2.atI ez
    exact .inl (.inl ⟨p, vs, _, u, rfl, r2, SqL.of h1, eu, q g2 H2 u ok2 gr2 r⟩)
  case tup ds =>
    cases y <;> simp only [dGet, reduceCtorEq] at ez
    obtain ⟨p, vs, rfl, h1, h2⟩ := RB.tup ok2 r1
    obtain ⟨u, eu, r⟩ := h2.atI ez
    exact .inl (.inr ⟨p, vs, _, u, rfl, r2, h1.sq, eu, q g2 H2 u ok2 gr2 (RB.le ok2 (Nat.zero_le _) r)⟩)
  case dict t ks vs =>
    have ez : (dLook t ks vs y).bind id = some z := by cases y <;> exact ez
    obtain ⟨o, eo, e2⟩ := Option.bind_eq_some_iff.mp ez
    have e2 : o = some z := e2
    subst e2
    obtain ⟨a, r, e1, e2, e3⟩ := dget_of ok2 r1 r2 eo
    cases r with
    | none => exact e3.elim
    | some w' => exact .inr ⟨a, w', e1, e2, q g2 H2 w' ok2 gr2 e3⟩

/-! ### slices -/
def DPo (C : Ctx) (o : Option Expr) (f : Env' → M (Option Int)) : Prop :=
  ∃ t, (∀ i, PO (C.X i) o t) ∧ ∀ (g : G) (H : Hp) (S : Pots) (ρ : Env') (σ : L2.St) (A : List Addr) (Q : Option Int → Hp → Prop), Sto C.K g H S ρ σ A →
    (f ρ S).Post (fun b S' => ∀ g' H', Ok g' H' S' → Grow g H g' H' → Q b H') (EX C g H σ) → t σ H Q
theorem dpo_none : DPo C none (fun _ => pure none) := ⟨tNoPart, fun _ => po_none, fun g H S ρ σ A Q st hp => hp g H st.ok GrowA.refl⟩
def asI : D → Option Int
  | .int i => some i
  | _ => none
def partM (f : Env' → M D) : Env' → M (Option Int) := fun ρ => do let d ← f ρ; let i ← liftO (asI d); pure (some i)
theorem dpo_some (h : DB C e 0 f) : DPo C (some e) (partM f) := by
  obtain ⟨t, p, s⟩ := h
  refine ⟨tPart t, fun i => po_some (p i), fun g H S ρ σ A Q st hp => ?_⟩
  refine s g H S ρ σ A _ st ((post_bind.mp hp).mono (fun d S1 q g1 H1 v ok1 gr1 r1 => ?_) fun _ _ q => q)
  obtain ⟨i, ei, q⟩ := post_lift (post_bind.mp q)
  cases d <;> simp only [asI, reduceCtorEq, Option.some.injEq] at ei
  subst ei
  exact ⟨_, r1, q g1 H1 ok1 gr1⟩
def cutD (xs : List D) (lo hi : Option Int) : List D := (xs.drop (HT.sIx xs.length 0 lo)).take (HT.sIx xs.length xs.length hi - HT.sIx xs.length 0 lo)
theorem All2.cut {R : D → V → Prop} {ds : List D} {vs : List V} (h : All2 R ds vs) (lo hi : Option Int) : All2 R (cutD ds lo hi) (cutV vs lo hi) := by
  unfold cutD cutV
  rw [h.length]
  exact (h.drop _).take _
def dCut (lo hi : Option Int) : D → Option D
  | .lst ds => some (.lst (cutD ds lo hi))
  | .tup ds => some (.tup (cutD ds lo hi))
  | _ => none
def slM (fa : Env' → M D) (fl fh : Env' → M (Option Int)) : Env' → M D := fun ρ => do let x ← fa ρ; let lo ← fl ρ; let hi ← fh ρ; liftO (dCut lo hi x)
theorem de_slice (T : Std C) {lo hi : Option Expr} {fl fh : Env' → M (Option Int)} {p2 : Pos} (ha : DB C a 1 fa) (hl : DPo C lo fl) (hh : DPo C hi fh) : DE C (.Subscript a (.Slice lo hi none p2) pos) 1 (slM fa fl fh) := by
  obtain ⟨t, pa, s⟩ := ha
  obtain ⟨tl, pl, sl⟩ := hl
  obtain ⟨th, ph, sh⟩ := hh
  refine ⟨tSl (fun x lo hi H Q => rSlL C.K x lo hi H Q ∨ rSlX C.K x lo hi H Q) t tl th, fun i => pe_slice ((by rw [← T.k i]; exact sl_list : SlR (C.X i) (rSlL C.K)).or (by rw [← T.k i]; exact sl_tupX)) (pa i) (pl i) (ph i), fun g H S ρ σ A Q st hp => ?_⟩
  refine s g H S ρ σ A _ st ((post_bind.mp hp).mono (fun x S1 q1 g1 H1 v ok1 gr1 r1 => ?_) fun _ _ q => q)
  refine sl g1 H1 S1 ρ σ A _ (st.grow ok1 gr1) ((post_bind.mp q1).mono (fun lo S2 q2 g2 H2 ok2 gr2 => ?_) fun _ _ q => q.step gr1)
  refine sh g2 H2 S2 ρ σ A _ (st.grow ok2 (gr1.trans gr2)) ((post_bind.mp q2).mono (fun hi S3 q3 g3 H3 ok3 gr3 => ?_) fun _ _ q => q.step (gr1.trans gr2))
  obtain ⟨z, ez, q⟩ := post_lift q3
  clear q1 q2 q3
  have gr := (gr1.trans gr2).trans gr3
  have r4 := RB.grow (gr2.trans gr3) _ _ _ r1
  clear r1
  cases x <;> simp only [dCut, reduceCtorEq, Option.some.injEq] at ez
  case lst ds =>
    subst ez
    obtain ⟨p, vs, rfl, h1, h2⟩ := RB.lst r4
    refine .inl ⟨p, vs, rfl, SqL.of h1, fun t nt => ?_⟩
    obtain ⟨ok', gr'⟩ := ok3.new nt (o := .lst (cutV vs lo hi)) (fun _ _ z => by cases z)
    exact q g3 _ _ ok' (gr.trans gr') (RN.back (RN.list ok3 (h2.cut lo hi) nt) gr)
  case tup ds =>
    subst ez
    have fd := RB.flat (d := .tup ds) rfl r4
    obtain ⟨p, vs, rfl, h1, h2⟩ := RB.tup ok3 r4
    refine .inr ⟨p, vs, rfl, h1.sq, fun hw => ?_, fun _ t ob hob nt => ?_⟩
    · have hw' : HT.sIx ds.length 0 lo = 0 ∧ HT.sIx ds.length ds.length hi = ds.length := by rw [h2.length]; exact hw
      have e : cutD ds lo hi = ds := by
        unfold cutD
        rw [hw'.1, hw'.2, List.drop_zero, Nat.sub_zero, List.take_length]
      rw [e] at q
      exact q g3 H3 _ ok3 gr (RN.flat rfl fd)
    · obtain ⟨ok', gr'⟩ := ok3.newT nt ob (cutV vs lo hi)
      exact q _ _ _ ok' (gr.trans gr') (RN.back (RN.tuple ok3 (h2.cut lo hi) nt hob) gr)

/-! ### displays -/
def tupM (fs : Env' → M (List D)) : Env' → M D := fun ρ => do let ds ← fs ρ; chk (decide (ds.length ≤ LIM)); pure (.tup ds)
def lstM (fs : Env' → M (List D)) : Env' → M D := fun ρ => do let ds ← fs ρ; chk (decide (ds.length ≤ LIM)); pure (.lst ds)
theorem de_tup {k : Nat} (h : DA C es 0 fs) : DE C (.Tuple es k pos) 0 (tupM fs) := by
  obtain ⟨t, p, s⟩ := h
  refine ⟨tTupX t, fun i => pe_tupX (p i), fun g H S ρ σ A Q st hp => ?_⟩
  refine s g H S ρ σ A _ st ((post_bind.mp hp).mono (fun ds S1 q g1 H1 vs ok1 gr1 r1 => ?_) fun _ _ q => q)
  obtain ⟨hl, q⟩ := post_chk (post_bind.mp q)
  refine ⟨by rw [← lim_eq, ← r1.length]; exact of_decide_eq_true hl, fun t ob hob nt => ?_⟩
  obtain ⟨ok', gr'⟩ := ok1.newT nt ob vs
  exact q _ _ _ ok' (gr1.trans gr') (RN.back (RN.tuple ok1 r1 nt hob) gr1)
theorem de_lst (h : DA C es 0 fs) : DE C (.List es pos) 1 (lstM fs) := by
  obtain ⟨t, p, s⟩ := h
  refine ⟨tLst t, fun i => pe_lst (p i), fun g H S ρ σ A Q st hp => ?_⟩
  refine s g H S ρ σ A _ st ((post_bind.mp hp).mono (fun ds S1 q g1 H1 vs ok1 gr1 r1 => ?_) fun _ _ q => q)
  obtain ⟨hl, q⟩ := post_chk (post_bind.mp q)
  refine ⟨by rw [← lim_eq, ← r1.length]; exact of_decide_eq_true hl, fun t nt => ?_⟩
  obtain ⟨ok', gr'⟩ := ok1.new nt (o := .lst vs) (fun _ _ z => by cases z)
  exact q _ _ _ ok' (gr1.trans gr') (RN.back (RN.list ok1 r1 nt) gr1)
/-- the empty list: nobody else's to any depth -/
theorem de_nil : DE C (.List [] pos) (n + 1) (fun _ => pure (.lst [])) := by
  refine ⟨tLst tNil, fun i => pe_lst pa_nil, fun g H S ρ σ A Q st hp => ⟨Nat.zero_le _, fun t nt => ?_⟩⟩
  obtain ⟨ok', gr'⟩ := st.ok.new nt (o := .lst []) (fun _ _ z => by cases z)
  exact hp _ _ _ ok' gr' ⟨[t], ⟨t, [], [], rfl, upd_same, st.ok.nfz nt, st.ok.npot nt, .nil, rfl⟩, by simp, fun a z => by simp at z; subst z; exact .inr nt⟩
/-- empty dicts -/
theorem de_dnewK : DE C (.Dict [] [] pos) (n + 1) (fun _ => pure (.dict false [] [])) := by
  refine ⟨tDNewK, fun i => pe_dnewK, fun g H S ρ σ A Q st hp t nt => ?_⟩
  obtain ⟨ok', gr'⟩ := st.ok.new nt (o := .dK []) (fun _ _ z => by cases z)
  exact hp _ _ _ ok' gr' ⟨[t], ⟨t, [], _, [], rfl, upd_same, st.ok.nfz nt, st.ok.npot nt, .nil, .inl ⟨rfl, [], rfl, List.nodup_nil, rfl, rfl⟩, rfl⟩, by simp, fun a z => by simp at z; subst z; exact .inr nt⟩
theorem de_dnewT : DE C (.Dict [] [] pos) (n + 1) (fun _ => pure (.dict true [] [])) := by
  refine ⟨tDNewX, fun i => pe_dnewX, fun g H S ρ σ A Q st hp t nt => ?_⟩
  obtain ⟨ok', gr'⟩ := st.ok.new nt (o := XD t []) (fun _ _ z => by cases z)
  exact hp _ _ _ ok' gr' ⟨[t], ⟨t, [], _, [], rfl, upd_same, st.ok.nfz nt, st.ok.npot nt, .nil, .inr ⟨rfl, [], rfl, rfl, .nil, rfl⟩, rfl⟩, by simp, fun a z => by simp at z; subst z; exact .inr nt⟩
end
end DS
/-! DSf: statements over plain data: blocks, stores, if, while, for, return. -/
namespace DS
open PySem PySem.Spec PyProof.Rows L2

inductive Fl where
  | nx | bk | ct
  | rt (d : D)
/-- where the frame's cells may lie behind a step -/
abbrev Sub (A : List Addr) (H : Hp) (A' : List Addr) : Prop := ∀ a ∈ A', a ∈ A ∨ H a = none
def EXs (C : Ctx) (g : G) (H : Hp) (A : List Addr) (x : Exn) (S' : Pots) : Prop := ∀ g' H' c dd σ', Ok g' H' S' → GrowA g H A g' H' → XR C g' H' x c dd → C.W c dd σ' H'
def NX (C : Ctx) (g : G) (H : Hp) (A : List Addr) (P : L2.St → Hp → Prop) (ρ' : Env') (S' : Pots) : Prop := ∀ g' H' σ' A', Sto C.K g' H' S' ρ' σ' A' → GrowA g H A g' H' → Sub A H A' → P σ' H'
def RT (C : Ctx) (g : G) (H : Hp) (A : List Addr) (r : Nat) (P : VK) (d : D) (S' : Pots) : Prop := ∀ g' H' v, Ok g' H' S' → GrowA g H A g' H' → RN C.K g' H A H' r d v → P v H'
def EndS (C : Ctx) (g : G) (H : Hp) (A : List Addr) (r : Nat) (Dd : Ends) (p : Fl × Env') (S' : Pots) : Prop := match p.1 with
  | .nx => NX C g H A Dd.nx p.2 S'
  | .bk => NX C g H A Dd.bk p.2 S'
  | .ct => NX C g H A Dd.ct p.2 S'
  | .rt d => RT C g H A r Dd.rt d S'
def DS (C : Ctx) (st : Stmt) (r : Nat) (f : Env' → M (Fl × Env')) : Prop :=
  ∃ t : TS, (∀ i, PS (C.X i) st t) ∧ ∀ (g : G) (H : Hp) (S : Pots) (ρ : Env') (σ : L2.St) (A : List Addr) (Dd : Ends), Sto C.K g H S ρ σ A → (f ρ S).Post (EndS C g H A r Dd) (EXs C g H A) → t Dd σ H
def DSs (C : Ctx) (sts : List Stmt) (r : Nat) (f : Env' → M (Fl × Env')) : Prop :=
  ∃ t : TS, (∀ i, PSs (C.X i) sts t) ∧ ∀ (g : G) (H : Hp) (S : Pots) (ρ : Env') (σ : L2.St) (A : List Addr) (Dd : Ends), Sto C.K g H S ρ σ A → (f ρ S).Post (EndS C g H A r Dd) (EXs C g H A) → t Dd σ H
section
variable {C : Ctx} {g g1 : G} {H H1 : Hp} {A A1 : List Addr} {S S' : Pots}
theorem EXs.e {x : Exn} {σ : L2.St} (h : EXs C g H A x S') : EX C g H σ x S' := fun g' H' c dd ok gr r => h g' H' c dd σ ok (gr.weak fun _ z => by simp at z) r
theorem EXs.step {x : Exn} (h : EXs C g H A x S') (gr : GrowA g H A g1 H1) (hs : Sub A H A1) : EXs C g1 H1 A1 x S' := fun g' H' c dd σ' ok gr' r => h g' H' c dd σ' ok (gr.trans gr' hs) r
theorem Sub.trans {A2 : List Addr} (h : Sub A H A1) (gr : GrowA g H A g1 H1) (h' : Sub A1 H1 A2) : Sub A H A2 := fun a ha => by
  rcases h' a ha with z | z
  · exact h a z
  · refine .inr ?_
    cases q : H a with
    | none => rfl
    | some o => exact absurd z (gr.there a (by rw [q]; simp))
theorem NX.step {P : L2.St → Hp → Prop} {ρ' : Env'} (h : NX C g H A P ρ' S') (gr : GrowA g H A g1 H1) (hs : Sub A H A1) : NX C g1 H1 A1 P ρ' S' := fun g' H' σ' A' st gr' hs' => h g' H' σ' A' st (gr.trans gr' hs) (hs.trans gr hs')
theorem RN.sub {K : PySem.W.Frag} {g2 : G} {H2 : Hp} {k : Nat} {d : D} {v : V} (h : RN K g2 H1 A1 H2 k d v) (gr : GrowA g H A g1 H1) (hs : Sub A H A1) : RN K g2 H A H2 k d v := by
  obtain ⟨B, r, nd, hf⟩ := h
  exact ⟨B, r, nd, hs.trans gr hf⟩
theorem RT.step {r : Nat} {P : VK} {d : D} (h : RT C g H A r P d S') (gr : GrowA g H A g1 H1) (hs : Sub A H A1) : RT C g1 H1 A1 r P d S' := fun g' H' v ok gr' rn => h g' H' v ok (gr.trans gr' hs) (rn.sub gr hs)
theorem EndS.step {r : Nat} {Dd : Ends} {p : Fl × Env'} (h : EndS C g H A r Dd p S') (gr : GrowA g H A g1 H1) (hs : Sub A H A1) : EndS C g1 H1 A1 r Dd p S' := by
  obtain ⟨fl, ρ⟩ := p
  cases fl with
  | nx => exact NX.step h gr hs
  | bk => exact NX.step h gr hs
  | ct => exact NX.step h gr hs
  | rt d => exact RT.step h gr hs
theorem sub_refl : Sub A H A := fun _ z => .inl z
/-- what is owned is there -/
theorem Sto.there {K : PySem.W.Frag} {ρ : Env'} {σ : L2.St} (st : Sto K g H S ρ σ A) : ∀ a ∈ A, H a ≠ none := fun a ha => by
  obtain ⟨_, _, o, e, _⟩ := st.sl.cells a ha
  rw [e]; simp

/-! ### a slot is set -/
theorem slots_set {K : PySem.W.Frag} {π : List Addr} {F H : Hp} {ρ : Env'} {σ : L2.St} {A : List Addr} (h : Slots K π F H ρ σ A) {d : D} {n : Nat} {v : V} {B : List Addr} (hr : RO K π F H n d v B) (nB : B.Nodup) : ∀ (i : Nat), A.Nodup → (∀ a ∈ B, a ∉ A) →
    ∃ A', Slots K π F H (ρ.set i (some (d, n))) (σ.set i (some v)) A' ∧ A'.Nodup ∧ ∀ a ∈ A', a ∈ A ∨ a ∈ B := by
  induction h with
  | nil => intro i nA dj; exact ⟨[], .nil, nA, fun a ha => by simp at ha⟩
  | @none ρ σ A sv hs ih =>
    intro i nA dj
    cases i with
    | zero => exact ⟨B ++ A, .some hr hs, List.nodup_append.mpr ⟨nB, nA, fun a ha b hb e => dj a ha (by rw [e]; exact hb)⟩, fun a ha => by rcases List.mem_append.mp ha with z | z; exact .inr z; exact .inl z⟩
    | succ i =>
      obtain ⟨A', s, nd, sub⟩ := ih i nA dj
      exact ⟨A', .none sv s, nd, sub⟩
  | @some ρ σ A d0 n0 v0 B0 r0 hs ih =>
    intro i nA dj
    obtain ⟨n1, n2, n3⟩ := List.nodup_append.mp nA
    cases i with
    | zero =>
      refine ⟨B ++ A, .some hr hs, List.nodup_append.mpr ⟨nB, n2, fun a ha b hb e => dj a ha (by rw [e]; exact List.mem_append_right _ hb)⟩, fun a ha => ?_⟩
      rcases List.mem_append.mp ha with z | z
      · exact .inr z
      · exact .inl (List.mem_append_right _ z)
    | succ i =>
      obtain ⟨A', s, nd, sub⟩ := ih i n2 fun a ha hb => dj a ha (List.mem_append_right _ hb)
      refine ⟨B0 ++ A', .some r0 s, List.nodup_append.mpr ⟨n1, nd, fun a ha b hb e => ?_⟩, fun a ha => ?_⟩
      · rcases sub b hb with z | z
        · exact n3 a ha b z e
        · exact dj b z (List.mem_append_left _ (by rw [← e]; exact ha))
      · rcases List.mem_append.mp ha with z | z
        · exact .inl (List.mem_append_left _ z)
        · rcases sub a z with q | q
          · exact .inl (List.mem_append_right _ q)
          · exact .inr q
theorem Sto.set {K : PySem.W.Frag} {ρ : Env'} {σ : L2.St} (st : Sto K g H S ρ σ A) {d : D} {n : Nat} {v : V} {B : List Addr} (hr : RO K g.π g.F H n d v B) (nB : B.Nodup) (i : Nat) (dj : ∀ a ∈ B, a ∉ A) :
    ∃ A', Sto K g H S (ρ.set i (some (d, n))) (σ.set i (some v)) A' ∧ ∀ a ∈ A', a ∈ A ∨ a ∈ B := by
  obtain ⟨A', s, nd, sub⟩ := slots_set st.sl hr nB i st.nd dj
  exact ⟨A', ⟨st.ok, s, nd⟩, sub⟩
/-- a slot gives up what it owns -/
theorem slots_frz {K : PySem.W.Frag} {g : G} {H : Hp} {ρ : Env'} {σ : L2.St} {A : List Addr} (h : Slots K g.π g.F H ρ σ A) : ∀ {i : Nat} {d : D} {n : Nat}, ρ[i]? = some (some (d, n)) → A.Nodup →
    ∃ B A', (∀ a ∈ B, a ∈ A) ∧ (∀ a ∈ A', a ∈ A ∧ a ∉ B) ∧ A'.Nodup ∧ (∃ v, RO K g.π g.F H n d v B ∧ σ[i]? = some (some v) ∧ B.Nodup) ∧ ∀ F', (∀ d v, RO K g.π g.F H n d v B → Rp K g.π F' d v) → (∀ n d v D, (∀ a ∈ D, a ∉ B) → (∀ a ∈ D, a ∈ A) → RO K g.π g.F H n d v D → RO K g.π F' H n d v D) → Slots K g.π F' H (ρ.set i (some (d, 0))) σ A' := by
  induction h with
  | nil => intro i d n e; simp at e
  | @none ρ σ A sv hs ih =>
    intro i d n e nA
    cases i with
    | zero => simp at e
    | succ i =>
      obtain ⟨B, A', h1, h2, h3, ⟨v, h4, h5, h7⟩, h6⟩ := ih (i := i) (by simpa using e) nA
      exact ⟨B, A', h1, h2, h3, ⟨v, h4, by simpa using h5, h7⟩, fun F' q1 q2 => .none sv (h6 F' q1 q2)⟩
  | @some ρ σ A d0 n0 v0 B0 r0 hs ih =>
    intro i d n e nA
    obtain ⟨n1, n2, n3⟩ := List.nodup_append.mp nA
    cases i with
    | zero =>
      simp at e
      obtain ⟨rfl, rfl⟩ := e
      refine ⟨B0, A, fun a ha => List.mem_append_left _ ha, fun a ha => ⟨List.mem_append_right _ ha, fun z => n3 a z a ha rfl⟩, n2, ⟨v0, r0, rfl, n1⟩, fun F' q1 q2 => ?_⟩
      have : Slots K g.π F' H (some (d0, 0) :: ρ) (some v0 :: σ) ([] ++ A) := .some ⟨q1 _ _ r0, rfl⟩ (hs.imp fun n d v B hB r => q2 n d v B (fun a ha z => n3 a z a (hB a ha) rfl) (fun a ha => List.mem_append_right _ (hB a ha)) r)
      simpa using this
    | succ i =>
      obtain ⟨B, A', h1, h2, h3, ⟨v, h4, h5, h7⟩, h6⟩ := ih (i := i) (by simpa using e) n2
      refine ⟨B, B0 ++ A', fun a ha => List.mem_append_right _ (h1 a ha), fun a ha => ?_, List.nodup_append.mpr ⟨n1, h3, fun a ha b hb q => n3 a ha b (h2 b hb).1 q⟩, ⟨v, h4, by simpa using h5, h7⟩, fun F' q1 q2 => ?_⟩
      · rcases List.mem_append.mp ha with z | z
        · exact ⟨List.mem_append_left _ z, fun q => n3 a z a (h1 a q) rfl⟩
        · exact ⟨List.mem_append_right _ (h2 a z).1, (h2 a z).2⟩
      · exact .some (q2 _ _ _ _ (fun a ha z => n3 a ha a (h1 a z) rfl) (fun a ha => List.mem_append_left _ ha) r0) (h6 F' q1 fun n d v D hD hA r => q2 n d v D hD (fun a ha => List.mem_append_right _ (hA a ha)) r)
end
def frzE (i : Nat) (ρ : Env') : Env' := match ρ[i]? with
  | some (some (d, _)) => ρ.set i (some (d, 0))
  | _ => ρ
section
variable {C : Ctx} {e a b c : Expr} {es rest : List Expr} {st : Stmt} {sts body orelse : List Stmt} {m m1 m2 m3 n r : Nat} {f fa fb fc : Env' → M D} {fs : Env' → M (List D)} {ta tb tc : Env' → M Bool} {q qa qb qc : Env' → M (Fl × Env')} {pos p : Pos}
theorem Sto.frz {K : PySem.W.Frag} {g : G} {H : Hp} {S : Pots} {A : List Addr} {ρ : Env'} {σ : L2.St} (st : Sto K g H S ρ σ A) (i : Nat) : ∃ g' A', Sto K g' H S (frzE i ρ) σ A' ∧ GrowA g H A g' H ∧ Sub A H A' := by
  unfold frzE
  cases e : ρ[i]? with
  | none => exact ⟨g, A, st, GrowA.refl, sub_refl⟩
  | some o =>
    cases o with
    | none => exact ⟨g, A, st, GrowA.refl, sub_refl⟩
    | some dn =>
      obtain ⟨d, n⟩ := dn
      obtain ⟨B, A', h1, h2, h3, ⟨v, h4, h5, _⟩, h6⟩ := slots_frz st.sl e st.nd
      have cl := RO.cells n d v B h4
      refine ⟨froz g H B, A', ⟨st.ok.icy cl, h6 (froz g H B).F (fun d v r => r.icy) (fun n d v D hD _ r => r.icy' (fun a ha => (cl a ha).1) hD), h3⟩, GrowA.icy GrowA.refl (fun a ha => (cl a ha).1) fun a ha => .inl (h1 a ha), fun a ha => .inl (h2 a ha).1⟩
/-! ### blocks -/
def seqM (x y : Env' → M (Fl × Env')) : Env' → M (Fl × Env') := fun ρ => do
  let p ← x ρ
  match p.1 with
  | .nx => y p.2
  | fl => pure (fl, p.2)
def nextM : Env' → M (Fl × Env') := fun ρ => pure (.nx, ρ)
theorem dss_nil : DSs C [] r nextM := ⟨tNext, fun _ => pss_nil, fun g H S ρ σ A Dd st hp => hp g H σ A st GrowA.refl sub_refl⟩
theorem dss_cons (h1 : DS C st r qa) (h2 : DSs C sts r qb) : DSs C (st :: sts) r (seqM qa qb) := by
  obtain ⟨t1, p1, s1⟩ := h1
  obtain ⟨t2, p2, s2⟩ := h2
  refine ⟨tSeq t1 t2, fun i => pss_cons (p1 i) (p2 i), fun g H S ρ σ A Dd st hp => ?_⟩
  refine s1 g H S ρ σ A _ st ((post_bind.mp hp).mono (fun p S1 q1 => ?_) fun _ _ q => q)
  obtain ⟨fl, ρ1⟩ := p
  cases fl with
  | nx =>
    intro g1 H1 σ1 A1 st1 gr1 sb1
    exact s2 g1 H1 S1 ρ1 σ1 A1 Dd st1 (Out.Post.mono (show (qb ρ1 S1).Post (EndS C g H A r Dd) (EXs C g H A) from q1) (fun _ _ z => z.step gr1 sb1) fun _ _ z => z.step gr1 sb1)
  | bk => exact q1
  | ct => exact q1
  | rt d => exact q1
theorem dss_one (h1 : DS C st r qa) : DSs C [st] r qa := by
  obtain ⟨t1, p1, s1⟩ := h1
  exact ⟨t1, fun i => pss_one (p1 i), s1⟩
/-- a ghost step: slot i gives up what it owns -/
theorem dss_frz (i : Nat) (h : DSs C sts r qa) : DSs C sts r (fun ρ => qa (frzE i ρ)) := by
  obtain ⟨t1, p1, s1⟩ := h
  refine ⟨t1, p1, fun g H S ρ σ A Dd st hp => ?_⟩
  obtain ⟨g', A', st', gr, sb⟩ := st.frz i
  exact s1 g' H S _ σ A' Dd st' (hp.mono (fun _ _ z => z.step gr sb) fun _ _ z => z.step gr sb)
theorem ds_never : DS C st r (fun _ => M.bad) := ⟨tNever, fun _ => ps_never, fun g H S ρ σ A Dd st hp => hp.elim⟩
theorem ds_if (hc : DT C c tc) (ha : DSs C body r qa) (hb : DSs C orelse r qb) : DS C (.If c body orelse pos) r (iteM tc qa qb) := by
  obtain ⟨t0, p0, s0⟩ := hc
  obtain ⟨t1, p1, s1⟩ := ha
  obtain ⟨t2, p2, s2⟩ := hb
  refine ⟨tIfS t0 t1 t2, fun i => ps_if (p0 i) (p1 i) (p2 i), fun g H S ρ σ A Dd st hp => ?_⟩
  refine s0 g H S ρ σ A _ st ((post_bind.mp hp).mono (fun k S1 q1 g1 H1 ok1 gr1 => ?_) fun _ _ z => z.e)
  have gA : GrowA g H A g1 H1 := gr1.weak fun _ z => by simp at z
  cases k with
  | true =>
    rw [if_pos rfl]
    exact s1 g1 H1 S1 ρ σ A Dd (st.grow ok1 gr1) (Out.Post.mono (show (qa ρ S1).Post _ _ from q1) (fun _ _ z => z.step gA sub_refl) fun _ _ z => z.step gA sub_refl)
  | false =>
    rw [if_neg Bool.false_ne_true]
    exact s2 g1 H1 S1 ρ σ A Dd (st.grow ok1 gr1) (Out.Post.mono (show (qb ρ S1).Post _ _ from q1) (fun _ _ z => z.step gA sub_refl) fun _ _ z => z.step gA sub_refl)

/-! ### return, stores -/
def retM (f : Env' → M D) : Env' → M (Fl × Env') := fun ρ => do let d ← f ρ; pure (.rt d, ρ)
theorem RN.nil {K : PySem.W.Frag} {g : G} {H0 H : Hp} {A0 : List Addr} {k : Nat} {d : D} {v : V} (h : RN K g H0 [] H k d v) : RN K g H0 A0 H k d v := by
  obtain ⟨B, r, nd, hf⟩ := h
  exact ⟨B, r, nd, fun a ha => by rcases hf a ha with z | z; simp at z; exact .inr z⟩
theorem ds_ret (h : DE C e r f) : DS C (.Return (some e) pos) r (retM f) := by
  obtain ⟨t, p, s⟩ := h
  refine ⟨tRet t, fun i => ps_ret (p i), fun g H S ρ σ A Dd st hp => ?_⟩
  exact s g H S ρ σ A _ st ((post_bind.mp hp).mono (fun d S1 q1 g1 H1 v ok1 gr1 rn => q1 g1 H1 v ok1 (gr1.weak fun _ z => by simp at z) rn.nil) fun _ _ z => z.e)
theorem ds_retN : DS C (.Return none pos) r (fun ρ => pure (.rt .non, ρ)) :=
  ⟨tRetN, fun i => ps_retN, fun g H S ρ σ A Dd st hp => hp g H .non st.ok GrowA.refl (RN.flat rfl rfl)⟩
/-- data without layers counts as new to any depth -/
theorem DE.deep (h : DE C e 0 f) : DE C e n (fun ρ => do let d ← f ρ; chk d.flat; pure d) := by
  obtain ⟨t, p, s⟩ := h
  refine ⟨t, p, fun g H S ρ σ A Q st hp => s g H S ρ σ A Q st ((post_bind.mp hp).mono (fun d S' q1 g' H' v ok gr rn => ?_) fun _ _ q => q)⟩
  obtain ⟨hf, q2⟩ := post_chk (post_bind.mp q1)
  exact q2 g' H' v ok gr (RN.flat hf (RN.zero.mp rn))
/-- return x, with all that x owns -/
def retV (r i : Nat) : Env' → M (Fl × Env') := fun ρ => match ρ[i]? with
  | some (some (d, n)) => if n = r then pure (.rt d, ρ) else M.bad
  | _ => M.bad
theorem ds_retV (i : Nat) {x : Str} {pp : Pos} (hN : ∀ j, (C.X j).N[i]? = some x := by intro _; rfl)
    (hv : ∀ j, Vis (C.X j).env.scope x := by first | exact fun _ => Or.inl rfl | exact fun _ => Or.inr (Or.inl rfl) | exact fun _ => Or.inr (Or.inr rfl))
    (hd : (x == ("__debug__" : Str)) = false := by decide) (hcd : (x == ("__classdict__" : Str)) = false := by decide) : DS C (.Return (some (.Name x pp)) pos) r (retV r i) := by
  refine ⟨tRet (tVar i), fun j => ps_ret (pe_var (hN j) (hv j) hd hcd), fun g H S ρ σ A Dd st hp => ?_⟩
  unfold retV at hp
  rcases q : ρ[i]? with _ | _ | ⟨d, n⟩
  · rw [q] at hp; exact hp.elim
  · rw [q] at hp; exact hp.elim
  · rw [q] at hp
    obtain ⟨v, B, e1, ro, hB⟩ := slots_get st.sl q
    by_cases hm : n = r
    · simp only [hm, if_true] at hp
      subst hm
      obtain ⟨B', A', h1, h2, h3, ⟨v', h4, h5, h7⟩, h6⟩ := slots_frz st.sl q st.nd
      rw [e1] at h5
      cases h5
      refine ⟨v, e1, hp g H v st.ok GrowA.refl ⟨B', h4, h7, fun a ha => .inl (h1 a ha)⟩⟩
    · simp only [hm, if_false] at hp
      exact hp.elim
end
end DS
/-! DSg: stores, targets, loops, what changes an owned list. -/
namespace DS
open PySem PySem.Spec PyProof.Rows L2

section
variable {C : Ctx} {e a b c : Expr} {es rest : List Expr} {st : Stmt} {sts body orelse : List Stmt} {m m1 m2 m3 n r : Nat} {f fa fb fc : Env' → M D} {fs : Env' → M (List D)} {ta tb tc : Env' → M Bool} {q qa qb qc : Env' → M (Fl × Env')} {pos p : Pos}
abbrev LocF (C : Ctx) (x : Str) : Prop := ∀ j, (C.X j).fn x = true ∨ (C.X j).env.scope.names.lookup x = some .local
abbrev LocX (C : Ctx) (x : Str) : Prop := ∀ j, Loc (C.X j).env.scope x
theorem RN.put {K : PySem.W.Frag} {g1 : G} {H H1 : Hp} {S1 : Pots} {ρ : Env'} {σ : L2.St} {A : List Addr} (st : Sto K g1 H1 S1 ρ σ A) (hA : ∀ a ∈ A, H a ≠ none) {k : Nat} {d : D} {v : V} (rn : RN K g1 H [] H1 k d v) (i : Nat) :
    ∃ A', Sto K g1 H1 S1 (ρ.set i (some (d, k))) (σ.set i (some v)) A' ∧ Sub A H A' := by
  obtain ⟨B, ro, nB, hf⟩ := rn
  have hB : ∀ a ∈ B, H a = none := fun a ha => by
    rcases hf a ha with z | z
    · simp at z
    · exact z
  obtain ⟨A', st', sub⟩ := st.set ro nB i fun a ha z => hA a z (hB a ha)
  exact ⟨A', st', fun a ha => (sub a ha).imp id (hB a)⟩
/-- x = e -/
def setM (i n : Nat) (f : Env' → M D) : Env' → M (Fl × Env') := fun ρ => do let d ← f ρ; pure (.nx, ρ.set i (some (d, n)))
theorem set_sem {t : TE} {f : Env' → M D} {n i : Nat} {r : Nat} (s : ∀ (g : G) (H : Hp) (S : Pots) (ρ : Env') (σ : L2.St) (A : List Addr) (Q : VK), Sto C.K g H S ρ σ A →
    (f ρ S).Post (fun d S' => ∀ g' H' v, Ok g' H' S' → Grow g H g' H' → RN C.K g' H [] H' n d v → Q v H') (EX C g H σ) → t σ H Q) :
    ∀ (g : G) (H : Hp) (S : Pots) (ρ : Env') (σ : L2.St) (A : List Addr) (Dd : Ends), Sto C.K g H S ρ σ A → (setM i n f ρ S).Post (EndS C g H A r Dd) (EXs C g H A) → tAsg t (gName i) Dd σ H := fun g H S ρ σ A Dd st hp => by
  refine s g H S ρ σ A _ st ((post_bind.mp hp).mono (fun d S1 q1 g1 H1 v ok1 gr1 rn => ?_) fun _ _ z => z.e)
  obtain ⟨A', st', sub⟩ := RN.put (st.grow ok1 gr1) st.there rn i
  exact q1 g1 H1 _ A' st' (gr1.weak fun _ z => by simp at z) sub
theorem ds_set (T : Std C) (i : Nat) {x : Str} {pos' : Pos} (h : DE C e n f) (hi : ∀ j, (C.X j).N[i]? = some x := by intro _; rfl)
    (hx : LocX C x := by first | exact fun _ => Or.inl rfl | exact fun _ => Or.inr rfl) (hs : ∀ j, swapsWith e (some (.Name x pos')) pos.line (C.X j).env = pure false := by intro _; rfl)
    (hf : LocF C x := by first | exact fun _ => Or.inl rfl | exact fun _ => Or.inr rfl) : DS C (.Assign [.Name x pos'] e pos) r (setM i n f) := by
  obtain ⟨t, p, s⟩ := h
  exact ⟨tAsg t (gName i), fun j => ps_set (T.nd j) (hi j) (hx j) (p j) (hs j) (hf j), set_sem s⟩
/-- x, y = e1, e2 -/
def par2 (i j n1 n2 : Nat) (fa fb : Env' → M D) : Env' → M (Fl × Env') := fun ρ => do let x ← fa ρ; let y ← fb ρ; pure (.nx, (ρ.set i (some (x, n1))).set j (some (y, n2)))
/-- two new things, one behind the other -/
theorem two_new {n1 n2 : Nat} (ha : DE C a n1 fa) (hb : DE C b n2 fb) : ∃ ta tb : TE, (∀ i, PE (C.X i) a ta) ∧ (∀ i, PE (C.X i) b tb) ∧
    ∀ (g : G) (H : Hp) (S : Pots) (ρ : Env') (σ : L2.St) (A : List Addr) (i j : Nat) (R : V → V → Hp → Prop), Sto C.K g H S ρ σ A →
      (fa ρ S).Post (fun x S1 => (fb ρ S1).Post (fun y S2 => ∀ g' H' v w A', Sto C.K g' H' S2 ((ρ.set i (some (x, n1))).set j (some (y, n2))) ((σ.set i (some v)).set j (some w)) A' → GrowA g H A g' H' → Sub A H A' → R v w H') (EXs C g H A)) (EXs C g H A) →
      ta σ H fun x H1 => tb σ H1 fun y H2 => R x y H2 := by
  obtain ⟨ta, pa, sa⟩ := ha
  obtain ⟨tb, pb, sb⟩ := hb
  refine ⟨ta, tb, pa, pb, fun g H S ρ σ A i j R st hp => ?_⟩
  refine sa g H S ρ σ A _ st (hp.mono (fun x S1 q1 g1 H1 v ok1 gr1 r1 => ?_) fun _ _ z => z.e)
  have gA : GrowA g H A g1 H1 := gr1.weak fun _ z => by simp at z
  refine sb g1 H1 S1 ρ σ A _ (st.grow ok1 gr1) (q1.mono (fun y S2 q2 g2 H2 w ok2 gr2 r2 => ?_) fun _ _ z => (z.step gA sub_refl).e)
  have st2 := st.grow ok2 (gr1.trans gr2)
  obtain ⟨B, ro, nB, hf⟩ := r1
  have hB : ∀ a ∈ B, H a = none := fun a ha => by
    rcases hf a ha with z | z
    · simp at z
    · exact z
  have hB1 : ∀ a ∈ B, H1 a ≠ none := fun a ha => by
    obtain ⟨_, _, o, eo, _⟩ := RO.cells _ _ _ _ ro a ha
    rw [eo]; simp
  obtain ⟨A1, st3, sub1⟩ := st2.set (ro.grow gr2) nB i fun a ha z => st.there a z (hB a ha)
  obtain ⟨A2, st4, sub2⟩ := RN.put (H := H1) st3 (fun a ha => by
    rcases sub1 a ha with z | z
    · exact gr1.there a (st.there a z)
    · exact hB1 a z) r2 j
  refine q2 g2 H2 v w A2 st4 ((gr1.trans gr2).weak fun _ z => by simp at z) fun a ha => ?_
  rcases sub2 a ha with z | z
  · exact (sub1 a z).imp id (hB a)
  · refine .inr ?_
    cases qq : H a with
    | none => rfl
    | some o => exact absurd z (gr1.there a (by rw [qq]; simp))
theorem par2_post {i j n1 n2 : Nat} {ρ : Env'} {S : Pots} {P : Fl × Env' → Pots → Prop} {E : Exn → Pots → Prop} (hp : (par2 i j n1 n2 fa fb ρ S).Post P E) : (fa ρ S).Post (fun x S1 => (fb ρ S1).Post (fun y S2 => P (.nx, (ρ.set i (some (x, n1))).set j (some (y, n2))) S2) E) E :=
  (post_bind.mp hp).mono (fun x S1 q => (post_bind.mp q).mono (fun y S2 q => q) fun _ _ q => q) fun _ _ q => q
theorem ds_par2 (T : Std C) (i j : Nat) {n1 n2 : Nat} {x y : Str} {px py pt pt2 : Pos} {kt k2 : Nat} (ha : DE C a n1 fa) (hb : DE C b n2 fb) (hij : i ≠ j := by decide) (hi : ∀ l, (C.X l).N[i]? = some x := by intro _; rfl) (hj : ∀ l, (C.X l).N[j]? = some y := by intro _; rfl)
    (hx : ∀ l, (C.X l).env.scope.names.lookup x = some .local := by intro _; rfl) (hy : ∀ l, (C.X l).env.scope.names.lookup y = some .local := by intro _; rfl)
    (hw : ∀ l, swappedStores [.Tuple [.Name x px, .Name y py] kt pt] (.Tuple [a, b] k2 pt2) (C.X l).env = pure (some [x, y]) := by intro _; rfl)
    (hs : ∀ l, swapsWithSole [.Tuple [.Name x px, .Name y py] kt pt] (.Tuple [a, b] k2 pt2) pos.line (C.X l).env = pure false := by intro _; rfl)
    (h1 : ∀ l, starEach [a, b] (C.X l).env = (false, eval a (C.X l).env) :: starEach [b] (C.X l).env := by intro _; rfl) (h2 : ∀ l, starEach [b] (C.X l).env = (false, eval b (C.X l).env) :: starEach [] (C.X l).env := by intro _; rfl) :
    DS C (.Assign [.Tuple [.Name x px, .Name y py] kt pt] (.Tuple [a, b] k2 pt2) pos) r (par2 i j n1 n2 fa fb) := by
  obtain ⟨t1, t2, p1, p2, s⟩ := two_new ha hb
  refine ⟨tPar i j (tCons t1 (tCons t2 tNil)), fun l => ps_par (T.calm l) (T.nd l) (hi l) (hj l) hij (hx l) (hy l) (pa_cons (p1 l) (pa_cons (p2 l) pa_nil (h2 l)) (h1 l)) (hw l) (hs l), fun g H S ρ σ A Dd st hp => ?_⟩
  refine s g H S ρ σ A i j (fun v w H2 => ∃ v' w', [v, w] = [v', w'] ∧ Dd.nx ((σ.set i (some v')).set j (some w')) H2) st ((par2_post hp).mono (fun x S1 q1 => q1.mono (fun y S2 q2 g2 H2 v w A2 st2 gr2 sb2 => ⟨v, w, rfl, q2 g2 H2 _ A2 st2 gr2 sb2⟩) fun _ _ z => z) fun _ _ z => z)
/-- the same by a tuple that is laid and taken apart: constants, names that are cells -/
theorem ds_asg2 (T : Std C) (i j : Nat) {n1 n2 : Nat} {x y : Str} {px py pt pt2 : Pos} {kt k2 : Nat} (ha : DE C a n1 fa) (hb : DE C b n2 fb) (hi : ∀ l, (C.X l).N[i]? = some x := by intro _; rfl) (hj : ∀ l, (C.X l).N[j]? = some y := by intro _; rfl)
    (hx : LocX C x := by first | exact fun _ => Or.inl rfl | exact fun _ => Or.inr rfl) (hy : LocX C y := by first | exact fun _ => Or.inl rfl | exact fun _ => Or.inr rfl)
    (fx : LocF C x := by first | exact fun _ => Or.inl rfl | exact fun _ => Or.inr rfl) (fy : LocF C y := by first | exact fun _ => Or.inl rfl | exact fun _ => Or.inr rfl)
    (hw : ∀ l, swappedStores [.Tuple [.Name x px, .Name y py] kt pt] (.Tuple [a, b] k2 pt2) (C.X l).env = pure none := by intro _; rfl)
    (hs : ∀ l, swapsWithSole [.Tuple [.Name x px, .Name y py] kt pt] (.Tuple [a, b] k2 pt2) pos.line (C.X l).env = pure false := by intro _; rfl)
    (h1 : ∀ l, starEach [a, b] (C.X l).env = (false, eval a (C.X l).env) :: starEach [b] (C.X l).env := by intro _; rfl) (h2 : ∀ l, starEach [b] (C.X l).env = (false, eval b (C.X l).env) :: starEach [] (C.X l).env := by intro _; rfl) :
    DS C (.Assign [.Tuple [.Name x px, .Name y py] kt pt] (.Tuple [a, b] k2 pt2) pos) r (par2 i j n1 n2 fa fb) := by
  obtain ⟨t1, t2, p1, p2, s⟩ := two_new ha hb
  refine ⟨tAsg (tTup (tCons t1 (tCons t2 tNil))) (gTup C.K 2 (gCons (gName i) (gCons (gName j) gNil))), fun l => ps_asg (pe_tup (pa_cons (p1 l) (pa_cons (p2 l) pa_nil (h2 l)) (h1 l))) (by rw [← T.k l]; exact pg_tup (T.calm l) (pgs_cons (pg_name (T.nd l) (hi l) (hx l) (fx l)) (pgs_cons (pg_name (T.nd l) (hj l) (hy l) (fy l)) pgs_nil))) (hs l) (hw l) rfl, fun g H S ρ σ A Dd st hp => ?_⟩
  refine s g H S ρ σ A i j _ st ((par2_post hp).mono (fun x S1 q1 => q1.mono (fun y S2 q2 g2 H2 v w A2 st2 gr2 sb2 => ⟨by show 2 ≤ sizeLine; decide, fun t nt => ?_⟩) fun _ _ z => z) fun _ _ z => z)
  obtain ⟨ok3, gr3⟩ := st2.ok.new nt (o := .tup [v, w]) (fun _ _ z => by cases z)
  exact ⟨t, [v, w], rfl, SqT.of upd_same, rfl, v, [w], rfl, w, [], rfl, rfl, q2 _ _ _ A2 (st2.grow ok3 gr3) (gr2.then gr3) sb2⟩

/-! ### targets -/
/-- frozen data, or (u) a pair just laid, to be taken apart at once -/
def RpB (u : Bool) (K : PySem.W.Frag) (g : G) (H : Hp) (d : D) (v : V) : Prop := Rp K g.π g.F d v ∨ (u = true ∧ ∃ ds vs a, d = .tup ds ∧ v = .ref a ∧ H a = some (.tup vs) ∧ RpL K g.π g.F ds vs)
theorem RpB.frz {K : PySem.W.Frag} {g : G} {H : Hp} {d : D} {v : V} (h : RpB false K g H d v) : Rp K g.π g.F d v := by
  rcases h with h | ⟨z, _⟩
  · exact h
  · cases z
theorem Ok.tpT {K : PySem.W.Frag} {g : G} {H : Hp} {S : Pots} (ok : Ok g H S) {a : Addr} {vs : List V} (h : Tp g.F a vs) : SqT K H a vs := let ⟨o, _, e⟩ := h; .inl (.inr ⟨o, (ok.sub _ _ e).2⟩)
def DG (C : Ctx) (u : Bool) (tg : Expr) (fg : D → Env' → M Env') : Prop :=
  ∃ t : TG, (∀ i, PG (C.X i) tg t) ∧ ∀ (g : G) (H : Hp) (S : Pots) (ρ : Env') (σ : L2.St) (A : List Addr) (d : D) (v : V) (Q : L2.St → Hp → Prop), Sto C.K g H S ρ σ A → RpB u C.K g H d v →
    (fg d ρ S).Post (fun ρ' S' => NX C g H A Q ρ' S') (EXs C g H A) → t v σ H Q
def DGs (C : Ctx) (tgs : List Expr) (fg : List D → Env' → M Env') : Prop :=
  ∃ t : TGs, (∀ i, PGs (C.X i) tgs t) ∧ ∀ (g : G) (H : Hp) (S : Pots) (ρ : Env') (σ : L2.St) (A : List Addr) (ds : List D) (vs : List V) (Q : L2.St → Hp → Prop), Sto C.K g H S ρ σ A → RpL C.K g.π g.F ds vs →
    (fg ds ρ S).Post (fun ρ' S' => NX C g H A Q ρ' S') (EXs C g H A) → t vs σ H Q
def gNm (i : Nat) : D → Env' → M Env' := fun d ρ => pure (ρ.set i (some (d, 0)))
theorem dg_name (T : Std C) (i : Nat) {x : Str} (hi : ∀ j, (C.X j).N[i]? = some x := by intro _; rfl) (hx : LocX C x := by first | exact fun _ => Or.inl rfl | exact fun _ => Or.inr rfl)
    (hf : LocF C x := by first | exact fun _ => Or.inl rfl | exact fun _ => Or.inr rfl) : DG C false (.Name x pos) (gNm i) := by
  refine ⟨gName i, fun j => pg_name (T.nd j) (hi j) (hx j) (hf j), fun g H S ρ σ A d v Q st hr hp => ?_⟩
  obtain ⟨A', st', sub⟩ := RN.put (H := H) st st.there (RN.zero.mpr (RpB.frz hr)) i
  exact hp g H _ A' st' GrowA.refl sub
def gsNil : List D → Env' → M Env' := fun ds ρ => match ds with
  | [] => pure ρ
  | _ => M.bad
def gsCons (fg : D → Env' → M Env') (fgs : List D → Env' → M Env') : List D → Env' → M Env' := fun ds ρ => match ds with
  | d :: ds => do let ρ' ← fg d ρ; fgs ds ρ'
  | _ => M.bad
theorem dgs_nil : DGs C [] gsNil := by
  refine ⟨gNil, fun j => pgs_nil, fun g H S ρ σ A ds vs Q st hr hp => ?_⟩
  cases ds with
  | nil => exact ⟨hr, hp g H σ A st GrowA.refl sub_refl⟩
  | cons d ds => exact hp.elim
theorem Rp.grA {K : PySem.W.Frag} {g g' : G} {H H' : Hp} {A : List Addr} (gr : GrowA g H A g' H') {d : D} {v : V} (h : Rp K g.π g.F d v) : Rp K g'.π g'.F d v := Rp.mono (Le.of gr.fr) gr.ix d v h
theorem RpL.grA {K : PySem.W.Frag} {g g' : G} {H H' : Hp} {A : List Addr} (gr : GrowA g H A g' H') {ds : List D} {vs : List V} (h : RpL K g.π g.F ds vs) : RpL K g'.π g'.F ds vs := RpL.mono (Le.of gr.fr) gr.ix ds vs h
theorem dgs_cons {tg : Expr} {tgs : List Expr} {fg : D → Env' → M Env'} {fgs : List D → Env' → M Env'} (h1 : DG C false tg fg) (h2 : DGs C tgs fgs) (hs : ∀ j, (assignEach (tg :: tgs) (C.X j).env).map (·.2) = assign tg (C.X j).env :: (assignEach tgs (C.X j).env).map (·.2) := by intro _; rfl) : DGs C (tg :: tgs) (gsCons fg fgs) := by
  obtain ⟨t1, p1, s1⟩ := h1
  obtain ⟨t2, p2, s2⟩ := h2
  refine ⟨gCons t1 t2, fun j => pgs_cons (p1 j) (p2 j) (hs j), fun g H S ρ σ A ds vs Q st hr hp => ?_⟩
  cases ds with
  | nil => exact hp.elim
  | cons d ds =>
    obtain ⟨v, r, rfl, r1, r2⟩ := hr
    refine ⟨v, r, rfl, s1 g H S ρ σ A d v _ st (.inl r1) ((post_bind.mp hp).mono (fun ρ' S1 q1 g1 H1 σ1 A1 st1 gr1 sb1 => ?_) fun _ _ z => z)⟩
    exact s2 g1 H1 S1 ρ' σ1 A1 ds r Q st1 (r2.grA gr1) (q1.mono (fun _ _ z => z.step gr1 sb1) fun _ _ z => z.step gr1 sb1)
/-- (a, b, ..) = a tuple, or a list -/
def gTp (fgs : List D → Env' → M Env') : D → Env' → M Env' := fun d ρ => match d with
  | .tup ds => fgs ds ρ
  | .lst ds => fgs ds ρ
  | _ => M.bad
theorem PG.or {X : Cx} {tg : Expr} {t t' : TG} (h : PG X tg t) (h' : PG X tg t') : PG X tg (fun v σ H Q => t v σ H Q ∨ t' v σ H Q) := ⟨fun pins s σ H v u Q I r q => by
  rcases q with q | q
  · exact h.run pins s σ H v u Q I r q
  · exact h'.run pins s σ H v u Q I r q⟩
def lenG (n : Nat) (fgs : List D → Env' → M Env') : List D → Env' → M Env' := fun ds ρ => if ds.length = n then fgs ds ρ else M.bad
theorem dg_tup {u : Bool} (T : Std C) {tgs : List Expr} {k n : Nat} {fgs : List D → Env' → M Env'} (h : DGs C tgs fgs) (hn : ∀ j, (assignEach tgs (C.X j).env).length = n := by intro _; rfl) (hst : ∀ j, (assignEach tgs (C.X j).env).findIdx? (·.1) = none := by intro _; rfl) : DG C u (.Tuple tgs k pos) (gTp (lenG n fgs)) := by
  obtain ⟨t, p, s⟩ := h
  refine ⟨fun v σ H Q => gTup C.K n t v σ H Q ∨ gLst C.K n t v σ H Q, fun j => PG.or (by rw [← T.k j]; exact pg_tup (T.calm j) (p j) (hn j) (hst j)) (by rw [← T.k j]; exact pg_lst (T.calm j) (p j) (hn j) (hst j)), fun g H S ρ σ A d v Q st hr hp => ?_⟩
  rcases hr with hr | ⟨_, ds, vs, a, rfl, rfl, h1, h2⟩
  case inr =>
    by_cases hl : ds.length = n
    · simp only [gTp, lenG, hl, if_true] at hp
      exact .inl ⟨a, vs, rfl, SqT.of h1, by rw [← h2.length]; exact hl, s g H S ρ σ A ds vs Q st h2 hp⟩
    · simp only [gTp, lenG, hl, if_false] at hp
      exact hp.elim
  cases d with
  | tup ds =>
    obtain ⟨a, vs, rfl, h1, h2⟩ := hr
    by_cases hl : ds.length = n
    · simp only [gTp, lenG, hl, if_true] at hp
      exact .inl ⟨a, vs, rfl, st.ok.tpT h1, by rw [← h2.length]; exact hl, s g H S ρ σ A ds vs Q st h2 hp⟩
    · simp only [gTp, lenG, hl, if_false] at hp
      exact hp.elim
  | lst ds =>
    obtain ⟨a, vs, rfl, h1, h2⟩ := hr
    by_cases hl : ds.length = n
    · simp only [gTp, lenG, hl, if_true] at hp
      exact .inr ⟨a, vs, rfl, SqL.of (st.ok.sub _ _ h1).2, by rw [← h2.length]; exact hl, s g H S ρ σ A ds vs Q st h2 hp⟩
    · simp only [gTp, lenG, hl, if_false] at hp
      exact hp.elim
  | _ => exact hp.elim
/-- target = e, e frozen -/
def asgM (fg : D → Env' → M Env') (f : Env' → M D) : Env' → M (Fl × Env') := fun ρ => do let d ← f ρ; let ρ' ← fg d ρ; pure (.nx, ρ')
theorem ds_asg {tg : Expr} {fg : D → Env' → M Env'} (h : DB C e 0 f) (hg : DG C false tg fg) (hs : ∀ j, swapsWithSole [tg] e pos.line (C.X j).env = pure false := by intro _; rfl) (hw : ∀ j, swappedStores [tg] e (C.X j).env = pure none := by intro _; rfl)
    (h1 : ∀ j, (assignEach [tg] (C.X j).env).map (·.2) = [assign tg (C.X j).env] := by intro _; rfl) : DS C (.Assign [tg] e pos) r (asgM fg f) := by
  obtain ⟨t1, p1, s1⟩ := h
  obtain ⟨t2, p2, s2⟩ := hg
  refine ⟨tAsg t1 t2, fun j => ps_asg (p1 j) (p2 j) (hs j) (hw j) (h1 j), fun g H S ρ σ A Dd st hp => ?_⟩
  refine s1 g H S ρ σ A _ st ((post_bind.mp hp).mono (fun d S1 q1 g1 H1 v ok1 gr1 r1 => ?_) fun _ _ z => z.e)
  have gA : GrowA g H A g1 H1 := gr1.weak fun _ z => by simp at z
  refine s2 g1 H1 S1 ρ σ A d v _ (st.grow ok1 gr1) (.inl r1) ((post_bind.mp q1).mono (fun ρ' S2 q2 => NX.step (show NX C g H A Dd.nx ρ' S2 from q2) gA sub_refl) fun _ _ z => z.step gA sub_refl)

/-! ### while -/
def whileM (c : Env' → M Bool) (b : Env' → M (Fl × Env')) : Nat → Env' → M (Fl × Env')
  | 0, _ => M.bad
  | n + 1, ρ => do
    let k ← c ρ
    if k then do
      let p ← b ρ
      match p.1 with
      | .nx => whileM c b n p.2
      | .ct => whileM c b n p.2
      | .bk => pure (.nx, p.2)
      | .rt d => pure (.rt d, p.2)
    else pure (.nx, ρ)
abbrev FUEL : Nat := 1000000
theorem ds_while (T : Std C) (hc : DT C c tc) (hb : DSs C body r qb) : DS C (.While c body [] pos) r (whileM tc qb FUEL) := by
  obtain ⟨t0, p0, s0⟩ := hc
  obtain ⟨t1, p1, s1⟩ := hb
  refine ⟨tWhile t0 t1, fun j => ps_while (T.po j) (p0 j) (p1 j), fun g H S ρ σ A Dd st hp => ?_⟩
  refine ⟨fun m σ1 H1 => ∃ g1 S1 ρ1 A1, Sto C.K g1 H1 S1 ρ1 σ1 A1 ∧ GrowA g H A g1 H1 ∧ Sub A H A1 ∧ (whileM tc qb m ρ1 S1).Post (EndS C g H A r Dd) (EXs C g H A),
    ⟨FUEL, g, S, ρ, A, st, GrowA.refl, sub_refl, hp⟩, ?_⟩
  rintro m σ1 H1 ⟨g1, S1, ρ1, A1, st1, gr1, sb1, hp1⟩
  cases m with
  | zero => exact hp1.elim
  | succ m =>
    refine s0 g1 H1 S1 ρ1 σ1 A1 _ st1 ((post_bind.mp hp1).mono (fun k S2 q2 g2 H2 ok2 gr2 => ?_) fun _ _ z => (z.step gr1 sb1).e)
    have st2 := st1.grow ok2 gr2
    have gr12 := gr1.then gr2
    have sb2 : Sub A H A1 := sb1
    cases k with
    | true =>
      rw [if_pos rfl]
      refine ⟨fun σ' H' => ∃ m', m' < m + 1 ∧ ∃ g1 S1 ρ1 A1, Sto C.K g1 H' S1 ρ1 σ' A1 ∧ GrowA g H A g1 H' ∧ Sub A H A1 ∧ (whileM tc qb m' ρ1 S1).Post (EndS C g H A r Dd) (EXs C g H A), fun σ' H' z => z, ?_⟩
      refine s1 g2 H2 S2 ρ1 σ1 A1 _ st2 (Out.Post.mono (show (qb ρ1 S2).Post _ _ from post_bind.mp q2) (fun p S3 q3 => ?_) fun _ _ z => z.step gr12 sb2)
      obtain ⟨fl, ρ3⟩ := p
      cases fl with
      | nx => exact fun g3 H3 σ3 A3 st3 gr3 sb3 => ⟨m, Nat.lt_succ_self m, g3, S3, ρ3, A3, st3, gr12.trans gr3 sb2, sb2.trans gr12 sb3, q3⟩
      | ct => exact fun g3 H3 σ3 A3 st3 gr3 sb3 => ⟨m, Nat.lt_succ_self m, g3, S3, ρ3, A3, st3, gr12.trans gr3 sb2, sb2.trans gr12 sb3, q3⟩
      | bk => exact NX.step (show NX C g H A Dd.nx ρ3 S3 from q3) gr12 sb2
      | rt d => exact RT.step (show RT C g H A r Dd.rt d S3 from q3) gr12 sb2
    | false =>
      rw [if_neg Bool.false_ne_true]
      exact (show NX C g H A Dd.nx ρ1 S2 from q2) g2 H2 σ1 A1 st2 gr12 sb2

/-! ### what is walked; for -/
def Walks (u : Bool) (K : PySem.W.Frag) (J : It) (g : G) (ds : List D) : Prop := ∀ (i : Nat) (g2 : G) (H2 : Hp) (S2 : Pots), (∀ a o, g.F a = some o → g2.F a = some o) → (∀ k a : Addr, g.π[k]? = some a → g2.π[k]? = some a) → Ok g2 H2 S2 →
  (ds.length ≤ i → J.stop i H2) ∧ ∀ d, ds[i]? = some d → J.go i H2 ∧ ∀ x H3, J.yld i H2 x H3 → ∃ g3, Ok g3 H3 S2 ∧ Grow g2 H2 g3 H3 ∧ RpB u K g3 H3 d x
def DI (C : Ctx) (u : Bool) (tg iter : Expr) (f : Env' → M (List D)) : Prop :=
  ∃ wi : TI, (∀ i, PI (C.X i) tg iter wi) ∧ ∀ (g : G) (H : Hp) (S : Pots) (ρ : Env') (σ : L2.St) (A : List Addr) (R : It → Hp → Prop), Sto C.K g H S ρ σ A →
    (f ρ S).Post (fun ds S' => ∀ g' H' J, Ok g' H' S' → Grow g H g' H' → Walks u C.K J g' ds → R J H') (EX C g H σ) → wi σ H R
def forM (fg : D → Env' → M Env') (b : Env' → M (Fl × Env')) : List D → Env' → M (Fl × Env')
  | [], ρ => pure (.nx, ρ)
  | d :: ds, ρ => do
    let ρ1 ← fg d ρ
    let p ← b ρ1
    match p.1 with
    | .nx => forM fg b ds p.2
    | .ct => forM fg b ds p.2
    | .bk => pure (.nx, p.2)
    | .rt d => pure (.rt d, p.2)
def forS (fi : Env' → M (List D)) (fg : D → Env' → M Env') (b : Env' → M (Fl × Env')) : Env' → M (Fl × Env') := fun ρ => do let ds ← fi ρ; forM fg b ds ρ
theorem ds_for {u : Bool} (T : Std C) {tg iter : Expr} {fi : Env' → M (List D)} {fg : D → Env' → M Env'} (hi : DI C u tg iter fi) (hg : DG C u tg fg) (hb : DSs C body r qb) (hs : ∀ j x, foldedSetIterable iter (C.X j).env x = pure x := by intro _ _; rfl) : DS C (.For tg iter body [] pos) r (forS fi fg qb) := by
  obtain ⟨wi, p0, s0⟩ := hi
  obtain ⟨tg', p1, s1⟩ := hg
  obtain ⟨tb, p2, s2⟩ := hb
  refine ⟨tFor wi tg' tb, fun j => ps_for (T.po j) (T.calm j) (p0 j) (p1 j) (p2 j) (hs j), fun g H S ρ σ A Dd st hp => ?_⟩
  refine s0 g H S ρ σ A _ st ((post_bind.mp hp).mono (fun ds S1 q1 g1 H1 J ok1 gr1 wk => ?_) fun _ _ z => z.e)
  have gA : GrowA g H A g1 H1 := gr1.weak fun _ z => by simp at z
  let I : Nat → L2.St → Hp → Prop := fun i σ2 H2 => ∃ g2 S2 ρ2 A2, Sto C.K g2 H2 S2 ρ2 σ2 A2 ∧ GrowA g H A g2 H2 ∧ Sub A H A2 ∧ (∀ a o, g1.F a = some o → g2.F a = some o) ∧ (∀ k a : Addr, g1.π[k]? = some a → g2.π[k]? = some a) ∧ (forM fg qb (ds.drop i) ρ2 S2).Post (EndS C g H A r Dd) (EXs C g H A)
  refine ⟨fun i m σ2 H2 => m = ds.length - i ∧ I i σ2 H2, ⟨ds.length, rfl, g1, S1, ρ, A, st.grow ok1 gr1, gA, sub_refl, fun _ _ e => e, fun _ _ e => e, by simpa using q1⟩, ?_⟩
  rintro i m σ2 H2 ⟨rfl, g2, S2, ρ2, A2, st2, gr2, sb2, fr2, px2, hp2⟩
  obtain ⟨wstop, wgo⟩ := wk i g2 H2 S2 fr2 px2 st2.ok
  by_cases hi : i < ds.length
  · have e : ds[i]? = some ds[i] := List.getElem?_eq_getElem hi
    obtain ⟨go, yl⟩ := wgo _ e
    refine .inr ⟨go, I (i + 1), fun σ' H' z => ⟨ds.length - (i + 1), by omega, rfl, z⟩, fun x H3 y => ?_⟩
    obtain ⟨g3, ok3, gr3, rx⟩ := yl x H3 y
    rw [List.drop_eq_getElem_cons hi] at hp2
    have gr23 := gr2.then gr3
    refine s1 g3 H3 S2 ρ2 σ2 A2 _ x _ (st2.grow ok3 gr3) rx ((post_bind.mp hp2).mono (fun ρ4 S4 q4 g4 H4 σ4 A4 st4 gr4 sb4 => ?_) fun _ _ z => z.step gr23 sb2)
    have gr34 := gr23.trans gr4 sb2
    have sb24 := sb2.trans gr23 sb4
    have fr4 : ∀ a o, g1.F a = some o → g4.F a = some o := fun a o e => gr4.fr a o (gr3.fr a o (fr2 a o e))
    have px4 : ∀ k a : Addr, g1.π[k]? = some a → g4.π[k]? = some a := fun k a e => gr4.ix k a (gr3.ix k a (px2 k a e))
    refine s2 g4 H4 S4 ρ4 σ4 A4 _ st4 ((post_bind.mp q4).mono (fun p S5 q5 => ?_) fun _ _ z => z.step gr34 sb24)
    obtain ⟨fl, ρ5⟩ := p
    cases fl with
    | nx => exact fun g5 H5 σ5 A5 st5 gr5 sb5 => ⟨g5, S5, ρ5, A5, st5, gr34.trans gr5 sb24, sb24.trans gr34 sb5, fun a o e => gr5.fr a o (fr4 a o e), fun k a e => gr5.ix k a (px4 k a e), q5⟩
    | ct => exact fun g5 H5 σ5 A5 st5 gr5 sb5 => ⟨g5, S5, ρ5, A5, st5, gr34.trans gr5 sb24, sb24.trans gr34 sb5, fun a o e => gr5.fr a o (fr4 a o e), fun k a e => gr5.ix k a (px4 k a e), q5⟩
    | bk => exact NX.step (show NX C g H A Dd.nx ρ5 S5 from q5) gr34 sb24
    | rt d => exact RT.step (show RT C g H A r Dd.rt d S5 from q5) gr34 sb24
  · rw [List.drop_eq_nil_of_le (by omega)] at hp2
    exact .inl ⟨wstop (by omega), (show NX C g H A Dd.nx ρ2 S2 from hp2) g2 H2 σ2 A2 st2 gr2 sb2⟩
end
end DS
/-! DSh: what is walked, comprehensions. -/
namespace DS
open PySem PySem.Spec PyProof.Rows L2

/-! ### walks -/
section
variable {X : Cx} {tg : Expr}
def iSeq (K : PySem.W.Frag) (tl : TE) : TI := fun σ H R => tl σ H fun x H1 => ∃ a, x = .ref a ∧ (((∃ xs, SqL K H1 a xs) ∧ R (Itl K a) H1) ∨ ((∃ xs, SqT K H1 a xs) ∧ R (Itt K a) H1))
theorem pi_seq {l : Expr} {tl : TE} (hl : PE X l tl) : PI X tg l (iSeq X.K tl) := by
  refine ⟨fun pins s σ H R I h => ?_⟩
  refine thn (hl.run pins s σ H _ I h) fun v s1 ⟨x, H1, I1, r1, q1⟩ => ?_
  obtain ⟨a, e, q1⟩ := q1
  subst e
  cases r1
  rcases q1 with ⟨⟨xs, hq⟩, q⟩ | ⟨⟨xs, hq⟩, q⟩
  · obtain ⟨its, rv, p, hz⟩ := I1.list hq
    refine wpAny_pyIter_list p.isList ?_
    refine ⟨s1.heap.objs.size, [s1.heap.objs.size], _, _, H1, rfl, I1.kept (t' := s1.toks) fun b o e => Heap.get?_push_of_some _ e, turn_list a _, ⟨_, Heap.get?_push_size _ rfl, rfl, rfl⟩, fun b hb => ?_, q⟩
    have e : b = s1.heap.objs.size := by simpa using hb
    subst e
    exact I1.fpOk (Nat.le_refl _) (I1.hok.fresh (Nat.le_refl _))
  · obtain ⟨its, rv, p, hz⟩ := I1.tuple hq
    refine wpAny_pyIter_tuple (show s1.heap.IsTuple a its.toArray from p) ?_
    refine ⟨s1.heap.objs.size, [s1.heap.objs.size], _, _, H1, rfl, I1.kept (t' := s1.toks) fun b o e => Heap.get?_push_of_some _ e, turn_tuple a _, ⟨_, Heap.get?_push_size _ rfl, rfl, rfl⟩, fun b hb => ?_, q⟩
    have e : b = s1.heap.objs.size := by simpa using hb
    subst e
    exact I1.fpOk (Nat.le_refl _) (I1.hok.fresh (Nat.le_refl _))
end
section
variable {C : Ctx} {e a b c tg iter elt : Expr} {es rest ifs : List Expr} {st : Stmt} {sts body orelse : List Stmt} {m m1 m2 m3 n r : Nat} {f fa fb fc fe : Env' → M D} {fs fi : Env' → M (List D)} {ta tb tc : Env' → M Bool} {q qa qb qc : Env' → M (Fl × Env')} {pos p : Pos}
def seqOf : D → Option (List D)
  | .lst ds => some ds
  | .tup ds => some ds
  | _ => none
def seqI (f : Env' → M D) : Env' → M (List D) := fun ρ => do let d ← f ρ; liftO (seqOf d)
theorem Ok.sqL {K : PySem.W.Frag} {g : G} {H : Hp} {S : Pots} (ok : Ok g H S) {a : Addr} {vs : List V} (h : g.F a = some (.lst vs)) : SqL K H a vs := SqL.of (ok.sub _ _ h).2
theorem Tp.mono {F F' : Hp} {a : Addr} {vs : List V} (h : Tp F a vs) (fr : ∀ a o, F a = some o → F' a = some o) : Tp F' a vs := let ⟨o, d, e⟩ := h; ⟨o, d, fr _ _ e⟩
theorem walks_lst {K : PySem.W.Frag} {g : G} {a : Addr} {ds : List D} {vs : List V} (h : g.F a = some (.lst vs)) (r : RpL K g.π g.F ds vs) : Walks false K (Itl K a) g ds := by
  intro i g2 H2 S2 fr px ok
  have q := ok.sqL (K := K) (fr _ _ h)
  refine ⟨fun hi => ⟨vs, q, by rw [← r.length]; exact hi⟩, fun d e => ?_⟩
  obtain ⟨v, ev, rv⟩ := r.get e
  refine ⟨⟨vs, v, q, ev⟩, fun x H3 y => ?_⟩
  obtain ⟨e3, y⟩ := y
  subst e3
  have := y vs q
  rw [ev] at this
  cases this
  exact ⟨g2, ok, GrowA.refl, .inl (Rp.mono (Le.of fr) px d _ rv)⟩
theorem walks_tup {K : PySem.W.Frag} {g : G} {a : Addr} {ds : List D} {vs : List V} (h : Tp g.F a vs) (r : RpL K g.π g.F ds vs) : Walks false K (Itt K a) g ds := by
  intro i g2 H2 S2 fr px ok
  have q := ok.tpT (K := K) (h.mono fr)
  refine ⟨fun hi => ⟨vs, q, by rw [← r.length]; exact hi⟩, fun d e => ?_⟩
  obtain ⟨v, ev, rv⟩ := r.get e
  refine ⟨⟨vs, v, q, ev⟩, fun x H3 y => ?_⟩
  obtain ⟨e3, y⟩ := y
  subst e3
  have := y vs q
  rw [ev] at this
  cases this
  exact ⟨g2, ok, GrowA.refl, .inl (Rp.mono (Le.of fr) px d _ rv)⟩
theorem di_seq (T : Std C) (h : DB C iter 0 f) : DI C false tg iter (seqI f) := by
  obtain ⟨t, p, s⟩ := h
  refine ⟨iSeq C.K t, fun i => by rw [← T.k i]; exact pi_seq (p i), fun g H S ρ σ A R st hp => ?_⟩
  refine s g H S ρ σ A _ st ((post_bind.mp hp).mono (fun d S1 q g1 H1 v ok1 gr1 r1 => ?_) fun _ _ z => z)
  obtain ⟨ds, ed, q⟩ := post_lift q
  cases d <;> simp only [seqOf, reduceCtorEq, Option.some.injEq] at ed
  case tup es =>
    subst ed
    obtain ⟨a, vs, rfl, h1, h2⟩ := r1
    exact ⟨a, rfl, .inr ⟨⟨vs, ok1.tpT h1⟩, q g1 H1 _ ok1 gr1 (walks_tup h1 h2)⟩⟩
  case lst es =>
    subst ed
    obtain ⟨a, vs, rfl, h1, h2⟩ := r1
    exact ⟨a, rfl, .inl ⟨⟨vs, ok1.sqL h1⟩, q g1 H1 _ ok1 gr1 (walks_lst h1 h2)⟩⟩
/-! range -/
def BIG : Int := 4611686018427387904
theorem big_eq : BIG = 2 ^ 62 := by decide
def rngL (lo c : Int) (n : Nat) : List D := (List.range n).map fun i : Nat => .int (lo + (i : Int) * c)
theorem rngL_get {lo c : Int} {n i : Nat} {d : D} (h : (rngL lo c n)[i]? = some d) : i < n ∧ d = .int (lo + (i : Int) * c) := by
  unfold rngL at h
  rw [List.getElem?_map] at h
  by_cases hi : i < n
  · rw [List.getElem?_range hi] at h
    simp at h
    exact ⟨hi, h.symm⟩
  · rw [List.getElem?_eq_none (by simpa using hi)] at h; cases h
theorem rngL_length {lo c : Int} {n : Nat} : (rngL lo c n).length = n := by simp [rngL]
theorem walks_rng {K : PySem.W.Frag} {g : G} {lo : Int} {n : Nat} : Walks false K (Itr lo n) g (rngL lo 1 n) := by
  intro i g2 H2 S2 fr px ok
  refine ⟨fun hi => by rw [rngL_length] at hi; exact hi, fun d e => ?_⟩
  obtain ⟨h1, rfl⟩ := rngL_get e
  refine ⟨h1, fun x H3 y => ?_⟩
  obtain ⟨e3, y⟩ := y
  subst e3
  exact ⟨g2, ok, GrowA.refl, .inl (by show x = _; rw [y, Int.mul_one])⟩
theorem walks_rngC {K : PySem.W.Frag} {g : G} {lo c : Int} {n : Nat} : Walks false K (Itc lo c n) g (rngL lo c n) := by
  intro i g2 H2 S2 fr px ok
  refine ⟨fun hi => by rw [rngL_length] at hi; exact hi, fun d e => ?_⟩
  obtain ⟨h1, rfl⟩ := rngL_get e
  refine ⟨h1, fun x H3 y => ?_⟩
  obtain ⟨e3, y⟩ := y
  subst e3
  exact ⟨g2, ok, GrowA.refl, .inl y⟩
def rng1 : List D → Option (List D)
  | [.int j] => if -BIG ≤ j ∧ j < BIG then some (rngL 0 1 j.toNat) else none
  | _ => none
def rng2 : List D → Option (List D)
  | [.int i, .int j] => if (-BIG ≤ i ∧ i < BIG) ∧ -BIG ≤ j ∧ j < BIG then some (rngL i 1 (j - i).toNat) else none
  | _ => none
def rng3 : List D → Option (List D)
  | [.int i, .int j, .int c] => if c ≠ 0 ∧ c.natAbs < 1073741824 ∧ Builtin.Range.small i j c = true then some (rngL i c (Builtin.Range.rangeSize i j c).toNat) else none
  | _ => none
def rngI (h : List D → Option (List D)) (fs : Env' → M (List D)) : Env' → M (List D) := fun ρ => do let ds ← fs ρ; liftO (h ds)
theorem di_rng1 (T : Std C) {pp : Pos} (ha : DA C [a] 0 fs) (hm : C.mg "range" = none) (hg : ∀ i, Gl (C.X i) "range" := by intro _; rfl) (hs : ∀ i, starEach [a] (C.X i).env = [(false, eval a (C.X i).env)] := by intro _; rfl) : DI C false tg (.Call (.Name "range" pp) [a] [] pos) (rngI rng1 fs) := by
  obtain ⟨t, p, s⟩ := ha
  refine ⟨iRng1 t, fun i => pi_range1 (hg i) (by rw [T.mg i]; exact hm) (p i) (hs i), fun g H S ρ σ A R st hp => ?_⟩
  refine s g H S ρ σ A _ st ((post_bind.mp hp).mono (fun d S1 q g1 H1 v ok1 gr1 r1 => ?_) fun _ _ z => z)
  obtain ⟨ds, ed, q⟩ := post_lift q
  rcases d with _ | ⟨d, _ | ⟨d2, r⟩⟩ <;> try (simp only [rng1, reduceCtorEq] at ed)
  · cases d <;> simp only [rng1, reduceCtorEq] at ed
    rename_i j
    split at ed
    · rename_i hj
      cases ed
      cases r1 with
      | cons r1 r2 =>
        cases r2
        cases (show _ = _ from r1)
        exact ⟨j, rfl, by rw [← big_eq]; exact hj.1, by rw [← big_eq]; exact hj.2, q g1 H1 _ ok1 gr1 walks_rng⟩
    · cases ed
theorem di_rng2 (T : Std C) {pp : Pos} (ha : DA C [a, b] 0 fs) (hm : C.mg "range" = none) (hg : ∀ i, Gl (C.X i) "range" := by intro _; rfl) (hs : ∀ i, starEach [a, b] (C.X i).env = [(false, eval a (C.X i).env), (false, eval b (C.X i).env)] := by intro _; rfl)
    (hs2 : ∀ i, starEach [b] (C.X i).env = [(false, eval b (C.X i).env)] := by intro _; rfl) : DI C false tg (.Call (.Name "range" pp) [a, b] [] pos) (rngI rng2 fs) := by
  obtain ⟨t, p, s⟩ := ha
  refine ⟨iRng2 t, fun i => pi_range2 (hg i) (by rw [T.mg i]; exact hm) (p i) (hs i) (hs2 i), fun g H S ρ σ A R st hp => ?_⟩
  refine s g H S ρ σ A _ st ((post_bind.mp hp).mono (fun d S1 q g1 H1 v ok1 gr1 r1 => ?_) fun _ _ z => z)
  obtain ⟨ds, ed, q⟩ := post_lift q
  unfold rng2 at ed
  split at ed
  · rename_i i j
    split at ed
    · rename_i hj
      cases ed
      cases r1 with
      | cons r1 r2 =>
        cases r2 with
        | cons r2 r3 =>
          cases r3
          cases (show _ = _ from r1)
          cases (show _ = _ from r2)
          rw [big_eq] at hj
          exact ⟨i, j, rfl, ⟨hj.1.1, hj.1.2, hj.2.1, hj.2.2⟩, q g1 H1 _ ok1 gr1 walks_rng⟩
    · cases ed
  · cases ed
theorem di_rng3 (T : Std C) {pp : Pos} (ha : DA C [a, b, c] 0 fs) (hm : C.mg "range" = none) (hg : ∀ i, Gl (C.X i) "range" := by intro _; rfl) (hs : ∀ i, starEach [a, b, c] (C.X i).env = (false, eval a (C.X i).env) :: starEach [b, c] (C.X i).env := by intro _; rfl)
    (hpl : ∀ i, (backTo pos (starEach [b, c] (C.X i).env)).any (·.1) = false := by intro _; rfl) : DI C false tg (.Call (.Name "range" pp) [a, b, c] [] pos) (rngI rng3 fs) := by
  obtain ⟨t, p, s⟩ := ha
  refine ⟨iRng3 t, fun i => pi_range3 (hg i) (by rw [T.mg i]; exact hm) (p i) (hs i) (hpl i), fun g H S ρ σ A R st hp => ?_⟩
  refine s g H S ρ σ A _ st ((post_bind.mp hp).mono (fun d S1 q g1 H1 v ok1 gr1 r1 => ?_) fun _ _ z => z)
  obtain ⟨ds, ed, q⟩ := post_lift q
  unfold rng3 at ed
  split at ed
  · rename_i i j k
    split at ed
    · rename_i hj
      cases ed
      cases r1 with
      | cons r1 r2 =>
        cases r2 with
        | cons r2 r3 =>
          cases r3 with
          | cons r3 r4 =>
            cases r4
            cases (show _ = _ from r1)
            cases (show _ = _ from r2)
            cases (show _ = _ from r3)
            have nn : 0 ≤ Builtin.Range.rangeSize i j k := by
              unfold Builtin.Range.rangeSize
              split
              · split
                · exact Int.le_add_one (Int.ediv_nonneg (by omega) (by omega))
                · exact Int.le_refl _
              · split
                · exact Int.le_add_one (Int.ediv_nonneg (by omega) (by omega))
                · exact Int.le_refl _
            exact ⟨i, j, k, _, rfl, ⟨hj.1, hj.2.1, hj.2.2, (Int.toNat_of_nonneg nn).symm⟩, q g1 H1 _ ok1 gr1 walks_rngC⟩
    · cases ed
  · cases ed
/-! zip -/
def zipL : List D → List D → List D
  | x :: xs, y :: ys => .tup [x, y] :: zipL xs ys
  | _, _ => []
theorem zipL_get : ∀ {xs ys : List D} {i : Nat} {d : D}, (zipL xs ys)[i]? = some d → ∃ x y, xs[i]? = some x ∧ ys[i]? = some y ∧ d = .tup [x, y]
  | [], ys, i, d, h => by simp [zipL] at h
  | x :: xs, [], i, d, h => by simp [zipL] at h
  | x :: xs, y :: ys, 0, d, h => by simp [zipL] at h; exact ⟨x, y, rfl, rfl, h.symm⟩
  | x :: xs, y :: ys, i + 1, d, h => by
    simp only [zipL, List.getElem?_cons_succ] at h
    obtain ⟨u, v, h1, h2, h3⟩ := zipL_get h
    exact ⟨u, v, by simpa using h1, by simpa using h2, h3⟩
theorem zipL_len : ∀ {xs ys : List D} {i : Nat}, (zipL xs ys).length ≤ i → xs.length ≤ i ∨ ys.length ≤ i
  | [], ys, i, h => .inl (Nat.zero_le _)
  | x :: xs, [], i, h => .inr (Nat.zero_le _)
  | x :: xs, y :: ys, 0, h => by simp [zipL] at h
  | x :: xs, y :: ys, i + 1, h => by
    simp only [zipL, List.length_cons, Nat.add_le_add_iff_right] at h ⊢
    exact zipL_len h
def zip2 : List D → Option (List D)
  | [.lst a, .lst b] => some (zipL a b)
  | [.tup a, .tup b] => some (zipL a b)
  | _ => none
theorem rp_pair {K : PySem.W.Frag} {g2 : G} {H2 : Hp} {S2 : Pots} (ok : Ok g2 H2 S2) {T : Addr} (nt : H2 T = none) {x y : D} {v w : V} (r1 : Rp K g2.π g2.F x v) (r2 : Rp K g2.π g2.F y w) :
    ∃ g3, Ok g3 (upd H2 T (.tup [v, w])) S2 ∧ Grow g2 H2 g3 (upd H2 T (.tup [v, w])) ∧ RpB true K g3 (upd H2 T (.tup [v, w])) (.tup [x, y]) (.ref T) := by
  obtain ⟨ok', gr⟩ := ok.new nt (o := .tup [v, w]) (fun _ _ z => by cases z)
  exact ⟨_, ok', gr, .inr ⟨rfl, _, _, T, rfl, rfl, upd_same, v, [w], rfl, r1, RpL.one r2⟩⟩
theorem walks_zipL {K : PySem.W.Frag} {g : G} {a b : Addr} {xs ys : List D} {vs ws : List V} (h : g.F a = some (.lst vs)) (h' : g.F b = some (.lst ws)) (r : RpL K g.π g.F xs vs) (r' : RpL K g.π g.F ys ws) : Walks true K (Itz K a b) g (zipL xs ys) := by
  intro i g2 H2 S2 fr px ok
  have q := ok.sqL (K := K) (fr _ _ h)
  have q' := ok.sqL (K := K) (fr _ _ h')
  refine ⟨fun hi => ⟨vs, ws, q, q', by rw [← r.length, ← r'.length]; exact zipL_len hi⟩, fun d e => ?_⟩
  obtain ⟨x, y, ex, ey, rfl⟩ := zipL_get e
  obtain ⟨v, ev, rv⟩ := r.get ex
  obtain ⟨w, ew, rw'⟩ := r'.get ey
  refine ⟨⟨vs, ws, v, w, q, q', ev, ew⟩, fun z H3 yl => ?_⟩
  obtain ⟨T, v', w', rfl, nt, rfl, h1, h2⟩ := yl
  have e1 := h1 vs q
  have e2 := h2 ws q'
  rw [ev] at e1
  rw [ew] at e2
  cases e1
  cases e2
  exact rp_pair ok nt (Rp.mono (Le.of fr) px x _ rv) (Rp.mono (Le.of fr) px y _ rw')
theorem walks_zipT {K : PySem.W.Frag} {g : G} {a b : Addr} {xs ys : List D} {vs ws : List V} (h : Tp g.F a vs) (h' : Tp g.F b ws) (r : RpL K g.π g.F xs vs) (r' : RpL K g.π g.F ys ws) : Walks true K (RZ.ItzT K a b) g (zipL xs ys) := by
  intro i g2 H2 S2 fr px ok
  have q := ok.tpT (K := K) (h.mono fr)
  have q' := ok.tpT (K := K) (h'.mono fr)
  refine ⟨fun hi => ⟨vs, ws, q, q', by rw [← r.length, ← r'.length]; exact zipL_len hi⟩, fun d e => ?_⟩
  obtain ⟨x, y, ex, ey, rfl⟩ := zipL_get e
  obtain ⟨v, ev, rv⟩ := r.get ex
  obtain ⟨w, ew, rw'⟩ := r'.get ey
  refine ⟨⟨vs, ws, v, w, q, q', ev, ew⟩, fun z H3 yl => ?_⟩
  obtain ⟨T, v', w', rfl, nt, rfl, h1, h2⟩ := yl
  have e1 := h1 vs q
  have e2 := h2 ws q'
  rw [ev] at e1
  rw [ew] at e2
  cases e1
  cases e2
  exact rp_pair ok nt (Rp.mono (Le.of fr) px x _ rv) (Rp.mono (Le.of fr) px y _ rw')
theorem di_zip (T : Std C) {pp tp : Pos} {kk : Nat} {elts : List Expr} (ha : DA C [a, b] 0 fs) (hm : C.mg "zip" = none) (hg : ∀ i, Gl (C.X i) "zip" := by intro _; rfl) (hs : ∀ i, starEach [a, b] (C.X i).env = (false, eval a (C.X i).env) :: starEach [b] (C.X i).env := by intro _; rfl)
    (hpl : ∀ i, (backTo pos (starEach [b] (C.X i).env)).any (·.1) = false := by intro _; rfl) : DI C true (.Tuple elts kk tp) (.Call (.Name "zip" pp) [a, b] [] pos) (rngI zip2 fs) := by
  obtain ⟨t, p, s⟩ := ha
  refine ⟨RZ.iZipA C.K t, fun i => by rw [← T.k i]; exact RZ.pi_zipA (hg i) (by rw [T.mg i]; exact hm) (p i) (hs i) (hpl i), fun g H S ρ σ A R st hp => ?_⟩
  refine s g H S ρ σ A _ st ((post_bind.mp hp).mono (fun d S1 q g1 H1 v ok1 gr1 r1 => ?_) fun _ _ z => z)
  obtain ⟨ds, ed, q⟩ := post_lift q
  unfold zip2 at ed
  split at ed
  · rename_i xs ys
    cases ed
    cases r1 with
    | cons r1 r2 =>
      cases r2 with
      | cons r2 r3 =>
        cases r3
        obtain ⟨a, vs, rfl, h1, h2⟩ := (show Rp _ _ _ _ _ from r1)
        obtain ⟨b, ws, rfl, h3, h4⟩ := (show Rp _ _ _ _ _ from r2)
        exact ⟨a, b, vs, ws, rfl, .inl ⟨ok1.sqL h1, ok1.sqL h3, q g1 H1 _ ok1 gr1 (walks_zipL h1 h3 h2 h4)⟩⟩
  · rename_i xs ys
    cases ed
    cases r1 with
    | cons r1 r2 =>
      cases r2 with
      | cons r2 r3 =>
        cases r3
        obtain ⟨a, vs, rfl, h1, h2⟩ := (show Rp _ _ _ _ _ from r1)
        obtain ⟨b, ws, rfl, h3, h4⟩ := (show Rp _ _ _ _ _ from r2)
        exact ⟨a, b, vs, ws, rfl, .inr ⟨ok1.tpT h1, ok1.tpT h3, q g1 H1 _ ok1 gr1 (walks_zipT h1 h3 h2 h4)⟩⟩
  · cases ed
end
end DS
/-! DSi: comprehensions. -/
namespace DS
open PySem PySem.Spec PyProof.Rows L2

def wipeE (ρ : Env') : List Nat → Env'
  | [] => ρ
  | v :: vs => (wipeE ρ vs).set v none
theorem slots_wipe1 {K : PySem.W.Frag} {π : List Addr} {F H : Hp} {ρ : Env'} {σ : L2.St} {A : List Addr} (h : Slots K π F H ρ σ A) : ∀ (i : Nat), A.Nodup → ∃ A', Slots K π F H (ρ.set i none) (σ.set i none) A' ∧ A'.Nodup ∧ ∀ a ∈ A', a ∈ A := by
  induction h with
  | nil => intro i nA; exact ⟨[], .nil, nA, fun a ha => ha⟩
  | @none ρ σ A sv hs ih =>
    intro i nA
    cases i with
    | zero => exact ⟨A, .none none hs, nA, fun a ha => ha⟩
    | succ i =>
      obtain ⟨A', s, nd, sub⟩ := ih i nA
      exact ⟨A', .none sv s, nd, sub⟩
  | @some ρ σ A d0 n0 v0 B0 r0 hs ih =>
    intro i nA
    obtain ⟨n1, n2, n3⟩ := List.nodup_append.mp nA
    cases i with
    | zero => exact ⟨A, .none none hs, n2, fun a ha => List.mem_append_right _ ha⟩
    | succ i =>
      obtain ⟨A', s, nd, sub⟩ := ih i n2
      refine ⟨B0 ++ A', .some r0 s, List.nodup_append.mpr ⟨n1, nd, fun a ha b hb => n3 a ha b (sub b hb)⟩, fun a ha => ?_⟩
      rcases List.mem_append.mp ha with z | z
      · exact List.mem_append_left _ z
      · exact List.mem_append_right _ (sub a z)
theorem Sto.wipe {K : PySem.W.Frag} {g : G} {H : Hp} {S : Pots} {ρ : Env'} {σ : L2.St} {A : List Addr} (st : Sto K g H S ρ σ A) : ∀ (vs : List Nat), ∃ A', Sto K g H S (wipeE ρ vs) (L2.wipe σ vs) A' ∧ ∀ a ∈ A', a ∈ A
  | [] => ⟨A, st, fun _ ha => ha⟩
  | v :: vs => by
    obtain ⟨A1, st1, sub1⟩ := st.wipe vs
    obtain ⟨A2, s2, nd2, sub2⟩ := slots_wipe1 st1.sl v st1.nd
    exact ⟨A2, ⟨st.ok, s2, nd2⟩, fun a ha => sub1 a (sub2 a ha)⟩
theorem wipe_get (σ : L2.St) (vs : List Nat) (i : Nat) : (wipe σ vs)[i]? = if i ∈ vs then σ[i]?.map (fun _ => none) else σ[i]? := by
  induction vs with
  | nil => simp [wipe]
  | cons v vs ih =>
    unfold wipe
    rw [List.getElem?_set]
    by_cases h : v = i
    · subst h
      simp only [if_true, List.mem_cons, true_or]
      rw [wipe_length]
      by_cases hl : v < σ.length
      · rw [if_pos hl, List.getElem?_eq_getElem hl]; rfl
      · rw [if_neg hl, List.getElem?_eq_none (by omega)]; rfl
    · rw [if_neg h, ih]
      have hn : ¬ i = v := fun e => h e.symm
      simp [List.mem_cons, hn]
theorem wipe_wipe (σ : L2.St) (vs : List Nat) : wipe (wipe σ vs) vs = wipe σ vs := by
  apply List.ext_getElem?
  intro i
  rw [wipe_get, wipe_get]
  by_cases h : i ∈ vs
  · rw [if_pos h, if_pos h]; cases σ[i]? <;> rfl
  · rw [if_neg h, if_neg h]
theorem wipe_set (σ : L2.St) (vs : List Nat) {i : Nat} (hi : i ∈ vs) (o : Option V) : wipe (σ.set i o) vs = wipe σ vs := by
  apply List.ext_getElem?
  intro j
  rw [wipe_get, wipe_get]
  by_cases h : j ∈ vs
  · rw [if_pos h, if_pos h, List.getElem?_set]
    by_cases e : i = j
    · subst e
      rw [if_pos rfl]
      by_cases hl : i < σ.length
      · rw [if_pos hl, List.getElem?_eq_getElem hl]; rfl
      · rw [if_neg hl, List.getElem?_eq_none (by omega)]
    · rw [if_neg e]
  · rw [if_neg h, if_neg h, List.getElem?_set_ne (fun e => h (by rw [← e]; exact hi))]

/-! ### targets that change no more than the slots vs -/
def DGv (C : Ctx) (u : Bool) (vs : List Nat) (tg : Expr) (fg : D → Env' → M Env') : Prop :=
  ∃ t : TG, (∀ i, PG (C.X i) tg t) ∧ ∀ (g : G) (H : Hp) (S : Pots) (ρ : Env') (σ : L2.St) (A : List Addr) (d : D) (v : V) (Q : L2.St → Hp → Prop) (E : Exn → Pots → Prop), Sto C.K g H S ρ σ A → RpB u C.K g H d v →
    (fg d ρ S).Post (fun ρ' S' => ∀ σ' A', S' = S → Sto C.K g H S ρ' σ' A' → wipe σ' vs = wipe σ vs → (∀ a ∈ A', a ∈ A) → Q σ' H) E → t v σ H Q
def DGsv (C : Ctx) (vs : List Nat) (tgs : List Expr) (fg : List D → Env' → M Env') : Prop :=
  ∃ t : TGs, (∀ i, PGs (C.X i) tgs t) ∧ ∀ (g : G) (H : Hp) (S : Pots) (ρ : Env') (σ : L2.St) (A : List Addr) (ds : List D) (xs : List V) (Q : L2.St → Hp → Prop) (E : Exn → Pots → Prop), Sto C.K g H S ρ σ A → RpL C.K g.π g.F ds xs →
    (fg ds ρ S).Post (fun ρ' S' => ∀ σ' A', S' = S → Sto C.K g H S ρ' σ' A' → wipe σ' vs = wipe σ vs → (∀ a ∈ A', a ∈ A) → Q σ' H) E → t xs σ H Q
section
variable {C : Ctx} {e a b c tg iter elt : Expr} {es rest ifs : List Expr} {st : Stmt} {sts body orelse : List Stmt} {m m1 m2 m3 n r : Nat} {f fa fb fc fe : Env' → M D} {fs fi : Env' → M (List D)} {ta tb tc : Env' → M Bool} {q qa qb qc : Env' → M (Fl × Env')} {pos p : Pos} {vs : List Nat} {fg : D → Env' → M Env'} {fgs : List D → Env' → M Env'}
theorem dgv_name (T : Std C) (i : Nat) {x : Str} (hm : i ∈ vs := by decide) (hi : ∀ j, (C.X j).N[i]? = some x := by intro _; rfl) (hx : LocX C x := by first | exact fun _ => Or.inl rfl | exact fun _ => Or.inr rfl)
    (hf : LocF C x := by first | exact fun _ => Or.inl rfl | exact fun _ => Or.inr rfl) : DGv C false vs (.Name x pos) (gNm i) := by
  refine ⟨gName i, fun j => pg_name (T.nd j) (hi j) (hx j) (hf j), fun g H S ρ σ A d v Q E st hr hp => ?_⟩
  obtain ⟨A', st', sub⟩ := st.set (n := 0) (B := []) ⟨RpB.frz hr, rfl⟩ List.nodup_nil i fun a z => by simp at z
  exact hp _ A' rfl st' (wipe_set σ vs hm _) fun a ha => by
    rcases sub a ha with z | z
    · exact z
    · simp at z
theorem dgsv_nil : DGsv C vs [] gsNil := by
  refine ⟨gNil, fun j => pgs_nil, fun g H S ρ σ A ds xs Q E st hr hp => ?_⟩
  cases ds with
  | nil => exact ⟨hr, hp σ A rfl st rfl fun _ z => z⟩
  | cons d ds => exact hp.elim
theorem dgsv_cons {tgs : List Expr} (h1 : DGv C false vs tg fg) (h2 : DGsv C vs tgs fgs) (hs : ∀ j, (assignEach (tg :: tgs) (C.X j).env).map (·.2) = assign tg (C.X j).env :: (assignEach tgs (C.X j).env).map (·.2) := by intro _; rfl) : DGsv C vs (tg :: tgs) (gsCons fg fgs) := by
  obtain ⟨t1, p1, s1⟩ := h1
  obtain ⟨t2, p2, s2⟩ := h2
  refine ⟨gCons t1 t2, fun j => pgs_cons (p1 j) (p2 j) (hs j), fun g H S ρ σ A ds xs Q E st hr hp => ?_⟩
  cases ds with
  | nil => exact hp.elim
  | cons d ds =>
    obtain ⟨v, r, rfl, r1, r2⟩ := hr
    refine ⟨v, r, rfl, s1 g H S ρ σ A d v _ E st (.inl r1) ((post_bind.mp hp).mono (fun ρ' S1 q1 σ1 A1 eS st1 w1 sb1 => ?_) fun _ _ z => z)⟩
    subst eS
    exact s2 g H S1 ρ' σ1 A1 ds r Q E st1 r2 (q1.mono (fun _ S2 z σ2 A2 eS st2 w2 sb2 => z σ2 A2 eS st2 (w2.trans w1) fun a ha => sb1 a (sb2 a ha)) fun _ _ z => z)
theorem dgv_tup {u : Bool} (T : Std C) {tgs : List Expr} {k n : Nat} (h : DGsv C vs tgs fgs) (hn : ∀ j, (assignEach tgs (C.X j).env).length = n := by intro _; rfl) (hst : ∀ j, (assignEach tgs (C.X j).env).findIdx? (·.1) = none := by intro _; rfl) : DGv C u vs (.Tuple tgs k pos) (gTp (lenG n fgs)) := by
  obtain ⟨t, p, s⟩ := h
  refine ⟨fun v σ H Q => gTup C.K n t v σ H Q ∨ gLst C.K n t v σ H Q, fun j => PG.or (by rw [← T.k j]; exact pg_tup (T.calm j) (p j) (hn j) (hst j)) (by rw [← T.k j]; exact pg_lst (T.calm j) (p j) (hn j) (hst j)), fun g H S ρ σ A d v Q E st hr hp => ?_⟩
  rcases hr with hr | ⟨_, ds, xs, a, rfl, rfl, h1, h2⟩
  case inr =>
    by_cases hl : ds.length = n
    · simp only [gTp, lenG, hl, if_true] at hp
      exact .inl ⟨a, xs, rfl, SqT.of h1, by rw [← h2.length]; exact hl, s g H S ρ σ A ds xs Q E st h2 hp⟩
    · simp only [gTp, lenG, hl, if_false] at hp
      exact hp.elim
  cases d with
  | tup ds =>
    obtain ⟨a, xs, rfl, h1, h2⟩ := hr
    by_cases hl : ds.length = n
    · simp only [gTp, lenG, hl, if_true] at hp
      exact .inl ⟨a, xs, rfl, st.ok.tpT h1, by rw [← h2.length]; exact hl, s g H S ρ σ A ds xs Q E st h2 hp⟩
    · simp only [gTp, lenG, hl, if_false] at hp
      exact hp.elim
  | lst ds =>
    obtain ⟨a, xs, rfl, h1, h2⟩ := hr
    by_cases hl : ds.length = n
    · simp only [gTp, lenG, hl, if_true] at hp
      exact .inr ⟨a, xs, rfl, SqL.of (st.ok.sub _ _ h1).2, by rw [← h2.length]; exact hl, s g H S ρ σ A ds xs Q E st h2 hp⟩
    · simp only [gTp, lenG, hl, if_false] at hp
      exact hp.elim
  | _ => exact hp.elim

/-! ### blocks -/
def blkC (C : Ctx) (scope : Scope) : Ctx :=
  ⟨C.ι × Shared × Hp × Addr × List (Str × Addr) × List Addr, fun j => (C.X j.1).blk j.2.1 j.2.2.1 scope (compEnvC scope j.2.2.2.2.1 j.2.2.2.1 (C.X j.1).env) j.2.2.2.2.2, C.K, C.mg, fun _ _ _ _ => False⟩
theorem Std.blk (T : Std C) (scope : Scope) : Std (blkC C scope) where
  k := fun j => T.k j.1
  mg := fun j => T.mg j.1
  calm := fun j => T.calm j.1
  hu := fun j => T.hu j.1
  hg := fun j => T.hg j.1
  nd := fun j => T.nd j.1
  po := fun j => PassesOwn.never
/-! a clause's tests -/
def DTs (C : Ctx) (ifs : List Expr) (f : Env' → M Bool) : Prop :=
  ∃ t : TT, (∀ i, PTs (C.X i) ifs t) ∧ ∀ (g : G) (H : Hp) (S : Pots) (ρ : Env') (σ : L2.St) (A : List Addr) (Q : Bool → Hp → Prop), Sto C.K g H S ρ σ A →
    (f ρ S).Post (fun b S' => ∀ g' H', Ok g' H' S' → Grow g H g' H' → Q b H') (EX C g H σ) → t σ H Q
theorem dts_nil : DTs C [] (fun _ => pure true) := ⟨tYes, fun _ => pts_nil, fun g H S ρ σ A Q st hp => hp g H st.ok GrowA.refl⟩
theorem dts_one (h : DT C c tc) : DTs C [c] tc := by
  obtain ⟨t, p, s⟩ := h
  exact ⟨t, fun i => pts_one (p i), s⟩
def noerr {α : Type} (x : M α) : M α := fun S => match x S with
  | .ok a S' => .ok a S'
  | _ => .bad
theorem post_noerr {α : Type} {x : M α} {S : Pots} {P : α → Pots → Prop} {E : Exn → Pots → Prop} (h : (noerr x S).Post P E) (E' : Exn → Pots → Prop) : (x S).Post P E' := by
  unfold noerr at h
  cases e : x S with
  | ok a S' => rw [e] at h; exact h
  | err y S' => rw [e] at h; exact h.elim
  | bad => rw [e] at h; exact h.elim
/-- [elt for tg in .. if ..], from the environment ρ at each turn -/
def lcGo (fg : D → Env' → M Env') (ft : Env' → M Bool) (fe : Env' → M D) (ρ : Env') : List D → M (List D)
  | [] => pure []
  | d :: ds => do
    let ρ1 ← fg d ρ
    let k ← ft ρ1
    if k then do
      let y ← fe ρ1
      let r ← lcGo fg ft fe ρ ds
      pure (y :: r)
    else lcGo fg ft fe ρ ds
def lcM (vs : List Nat) (fi : Env' → M (List D)) (fg : D → Env' → M Env') (ft : Env' → M Bool) (fe : Env' → M D) : Env' → M D := fun ρ => do
  let ds ← fi ρ
  chk (decide (ds.length ≤ LIM))
  let out ← noerr (lcGo fg ft fe (wipeE ρ vs) ds)
  pure (.lst out)
/-- the cell at p is changed, and p is nobody's -/
theorem Ok.put {g : G} {H : Hp} {S : Pots} (ok : Ok g H S) {p : Addr} (hF : g.F p = none) (hπ : p ∉ g.π) {o : HO} (ho : ∀ q vs, o ≠ .frz q (.tup vs)) : Ok g (upd H p o) S where
  sub := fun a u e => by
    obtain ⟨h1, h2⟩ := ok.sub a u e
    refine ⟨h1, ?_⟩
    rw [upd_ne fun z => by rw [z, hF] at e; cases e]; exact h2
  tup := fun a q vs e => by
    by_cases z : a = p
    · subst z; rw [upd_same] at e; cases e; exact absurd rfl (ho q vs)
    · rw [upd_ne z] at e; exact ok.tup a q vs e
  len := ok.len
  pot := fun k q e => by
    obtain ⟨a, e1, e2⟩ := ok.pot k q e
    refine ⟨a, e1, ?_⟩
    rw [upd_ne fun z => hπ (by rw [← z]; exact List.mem_of_getElem? e1)]; exact e2
  nd := ok.nd
theorem GrowA.put {g0 g : G} {H0 H : Hp} {A : List Addr} (gr : GrowA g0 H0 A g H) {p : Addr} {o : HO} (hp : p ∈ A ∨ H0 p = none) : GrowA g0 H0 A g (upd H p o) where
  fr := gr.fr
  keep := fun a u e n m => by
    rw [upd_ne fun z => by
      subst z
      rcases hp with q | q
      · exact m q
      · rw [q] at e; cases e]
    exact gr.keep a u e n m
  fresh := gr.fresh
  there := fun a e => by
    by_cases z : a = p
    · subst z; rw [upd_same]; simp
    · rw [upd_ne z]; exact gr.there a e
  pre := gr.pre
theorem Grow.newcell {g0 g : G} {H0 H : Hp} (gr : Grow g0 H0 g H) {p : Addr} (h : H p = none) : H0 p = none := by
  cases q : H0 p with
  | none => rfl
  | some o => exact absurd h (gr.there p (by rw [q]; simp))
/-- what is known at each turn -/
structure LcI (C : Ctx) (g : G) (H : Hp) (g1 : G) (D0 : Addr) (i : Nat) (accD : List D) (acc : List V) (g2 : G) (H2 : Hp) (S2 : Pots) : Prop where
  ok : Ok g2 H2 S2
  gr : Grow g H g2 H2
  fr : ∀ a o, g1.F a = some o → g2.F a = some o
  px : ∀ k a : Addr, g1.π[k]? = some a → g2.π[k]? = some a
  rp : RpL C.K g2.π g2.F accD acc
  cell : H2 D0 = some (.lst acc)
  nf : g2.F D0 = none
  np : D0 ∉ g2.π
  le : acc.length ≤ i
theorem lc_sem {u : Bool} (hi : DI C u tg iter fi) {scope : Scope} (hg : DGv (blkC C scope) u vs tg fg) (ht : DTs (blkC C scope) ifs tc) (he : DE (blkC C scope) elt 0 fe) :
    ∃ (wi : TI) (gg : TG) (tt : TT) (te : TE), (∀ i, PI (C.X i) tg iter wi) ∧ (∀ j, PG ((blkC C scope).X j) tg gg) ∧ (∀ j, PTs ((blkC C scope).X j) ifs tt) ∧ (∀ j, PE ((blkC C scope).X j) elt te) ∧
    ∀ (g : G) (H : Hp) (S : Pots) (ρ : Env') (σ : L2.St) (A : List Addr) (Q : VK), Sto C.K g H S ρ σ A →
      (lcM vs fi fg tc fe ρ S).Post (fun d S' => ∀ g' H' v, Ok g' H' S' → Grow g H g' H' → RN C.K g' H [] H' 1 d v → Q v H') (EX C g H σ) → tLc wi gg tt te vs σ H Q := by
  obtain ⟨wi, p0, s0⟩ := hi
  obtain ⟨gg, p1, s1⟩ := hg
  obtain ⟨tt, p2, s2⟩ := ht
  obtain ⟨te, p3, s3⟩ := he
  refine ⟨wi, gg, tt, te, p0, p1, p2, p3, fun g H S ρ σ A Q st hp => ?_⟩
  refine s0 g H S ρ σ A _ st ((post_bind.mp hp).mono (fun ds S1 q1 g1 H1 J ok1 gr1 wk => ?_) fun _ _ z => z)
  obtain ⟨hlen, q2⟩ := post_chk (post_bind.mp q1)
  have hlen : ds.length ≤ LIM := of_decide_eq_true hlen
  have q3 := post_noerr (post_bind.mp q2) (fun _ _ => False)
  clear q1 q2
  intro D0 hD
  obtain ⟨okD, grD⟩ := ok1.new hD (o := .lst []) (fun _ _ z => by cases z)
  have HD0 : H D0 = none := gr1.newcell hD
  let I : Nat → Hp → Prop := fun i H2 => ∃ accD acc g2 S2, LcI C g H g1 D0 i accD acc g2 H2 S2 ∧
    (lcGo fg tc fe (wipeE ρ vs) (ds.drop i) S2).Post (fun r S' => ∀ g' H' v, Ok g' H' S' → Grow g H g' H' → RN C.K g' H [] H' 1 (.lst (accD ++ r)) v → Q v H') (fun _ _ => False)
  refine ⟨fun i m H2 => m = ds.length - i ∧ I i H2, ⟨ds.length, rfl, [], [], g1, S1, ⟨okD, gr1.trans grD, fun _ _ e => e, fun _ _ e => e, rfl, upd_same, ok1.nfz hD, ok1.npot hD, Nat.le_refl _⟩, ?_⟩, ?_⟩
  · rw [List.drop_zero]
    exact q3.mono (fun r S' z g' H' v ok gr rn => z g' H' v ok gr rn) fun _ _ z => z
  rintro i m H2 ⟨rfl, accD, acc, g2, S2, L, hq⟩
  obtain ⟨wstop, wgo⟩ := wk i g2 H2 S2 L.fr L.px L.ok
  by_cases hi : i < ds.length
  · have e : ds[i]? = some ds[i] := List.getElem?_eq_getElem hi
    obtain ⟨go, yl⟩ := wgo _ e
    refine .inr ⟨go, I (i + 1), fun H' z => ⟨ds.length - (i + 1), by omega, rfl, z⟩, fun x H3 y => ?_⟩
    obtain ⟨g3, ok3, gr3, rx⟩ := yl x H3 y
    rw [List.drop_eq_getElem_cons hi] at hq
    have L3 : LcI C g H g1 D0 i accD acc g3 H3 S2 := ⟨ok3, L.gr.trans gr3, fun a o e => gr3.fr a o (L.fr a o e), fun k a e => gr3.ix k a (L.px k a e), RpL.mono (Le.of gr3.fr) gr3.ix _ _ L.rp, gr3.keep _ _ L.cell L.np (by simp), gr3.fresh _ L.nf (by rw [L.cell]; simp) L.np (by simp), gr3.npi (by rw [L.cell]; simp) L.np, L.le⟩
    have st3 : Sto C.K g3 H3 S2 ρ σ A := st.grow ok3 L3.gr
    obtain ⟨A3, st3w, _⟩ := st3.wipe vs
    refine s1 g3 H3 S2 (wipeE ρ vs) (wipe σ vs) A3 _ x _ _ st3w rx ((post_bind.mp hq).mono (fun ρ4 S4 q4 σ4 A4 eS st4 w4 _ => ?_) fun _ _ z => z)
    subst eS
    refine ⟨w4.trans (wipe_wipe σ vs), ?_⟩
    refine s2 g3 H3 S4 ρ4 σ4 A4 _ st4 ((post_bind.mp q4).mono (fun k S5 q5 g5 H5 ok5 gr5 => ?_) fun _ _ z => z.elim)
    have L5 : LcI C g H g1 D0 i accD acc g5 H5 S5 := ⟨ok5, L3.gr.trans gr5, fun a o e => gr5.fr a o (L3.fr a o e), fun k a e => gr5.ix k a (L3.px k a e), RpL.mono (Le.of gr5.fr) gr5.ix _ _ L3.rp, gr5.keep _ _ L3.cell L3.np (by simp), gr5.fresh _ L3.nf (by rw [L3.cell]; simp) L3.np (by simp), gr5.npi (by rw [L3.cell]; simp) L3.np, L3.le⟩
    cases k with
    | false =>
      rw [if_neg Bool.false_ne_true]
      exact ⟨accD, acc, g5, S5, { L5 with le := Nat.le_succ_of_le L5.le }, q5⟩
    | true =>
      rw [if_pos rfl]
      refine s3 g5 H5 S5 ρ4 σ4 A4 _ (st4.grow ok5 gr5) ((post_bind.mp q5).mono (fun y S6 q6 g6 H6 v ok6 gr6 rn => ?_) fun _ _ z => z.elim)
      have ry : Rp C.K g6.π g6.F y v := RN.zero.mp rn
      have c6 := gr6.keep _ _ L5.cell L5.np (by simp)
      have f6 := gr6.fresh _ L5.nf (by rw [L5.cell]; simp) L5.np (by simp)
      have n6 := gr6.npi (by rw [L5.cell]; simp) L5.np
      refine ⟨acc, c6, by rw [← lim_eq]; have := L5.le; omega, accD ++ [y], acc ++ [v], g6, S6, ⟨ok6.put f6 n6 (fun _ _ z => by cases z), (L5.gr.trans gr6).put (.inr HD0), fun a o e => gr6.fr a o (L5.fr a o e), fun k a e => gr6.ix k a (L5.px k a e), RpL.append (RpL.mono (Le.of gr6.fr) gr6.ix _ _ L5.rp) (RpL.one ry), upd_same, f6, n6, ?_⟩, ?_⟩
      · rw [List.length_append]; exact Nat.succ_le_succ L5.le
      · refine (post_bind.mp q6).mono (fun r S7 q7 => ?_) fun _ _ z => z
        rw [List.append_assoc]
        exact q7
  · refine .inl ⟨wstop (by omega), ?_⟩
    rw [List.drop_eq_nil_of_le (by omega)] at hq
    have z := (show ∀ g' H' v, Ok g' H' S2 → Grow g H g' H' → RN C.K g' H [] H' 1 (.lst (accD ++ [])) v → Q v H' from hq) g2 H2 (.ref D0) L.ok L.gr
    rw [List.append_nil] at z
    refine z ⟨[D0], ⟨D0, acc, [], rfl, L.cell, L.nf, L.np, L.rp.all2.owned (g := g2) (H := H2) fun _ _ q => q, rfl⟩, by simp, fun a z => by simp at z; subst z; exact .inr HD0⟩
theorem de_lc {u : Bool} (T : Std C) {scope : Scope} (own : List (Str × Nat)) (hi : DI C u tg iter fi) (ok : ∀ i, BlkOk (C.X i).N (C.X i).env.scope scope own) (hg : DGv (blkC C scope) u (own.map (·.2)) tg fg) (ht : DTs (blkC C scope) ifs tc) (he : DE (blkC C scope) elt 0 fe)
    (hs : ∀ i x, foldedSetIterable iter (C.X i).env x = pure x := by intro _ _; rfl) : DE C (.ListComp elt [⟨tg, iter, ifs, 0⟩] scope pos) 1 (lcM (own.map (·.2)) fi fg tc fe) := by
  obtain ⟨wi, gg, tt, te, p0, p1, p2, p3, s⟩ := lc_sem hi hg ht he
  exact ⟨_, fun i => pe_lc (T.calm i) (T.nd i) (p0 i) (ok i) (fun s H c cl fp => p1 (i, s, H, c, cl, fp)) (fun s H c cl fp => p2 (i, s, H, c, cl, fp)) (fun s H c cl fp => p3 (i, s, H, c, cl, fp)) (hs i), s⟩
/-- name = [..] -/
theorem ds_setLc {u : Bool} (T : Std C) (i : Nat) {x : Str} {px spos : Pos} {scope : Scope} (own : List (Str × Nat)) (hi : DI C u tg iter fi) (ok : ∀ i, BlkOk (C.X i).N (C.X i).env.scope scope own) (hg : DGv (blkC C scope) u (own.map (·.2)) tg fg) (ht : DTs (blkC C scope) ifs tc) (he : DE (blkC C scope) elt 0 fe)
    (hN : ∀ j, (C.X j).N[i]? = some x := by intro _; rfl) (hl : ∀ j, (C.X j).env.scope.names.lookup x = some .local := by intro _; rfl) (hsw : ∀ j, swapsWith (.ListComp elt [⟨tg, iter, ifs, 0⟩] scope pos) (some (.Name x px)) spos.line (C.X j).env = pure true := by intro _; rfl)
    (hs : ∀ i x, foldedSetIterable iter (C.X i).env x = pure x := by intro _ _; rfl) : DS C (.Assign [.Name x px] (.ListComp elt [⟨tg, iter, ifs, 0⟩] scope pos) spos) r (setM i 1 (lcM (own.map (·.2)) fi fg tc fe)) := by
  obtain ⟨wi, gg, tt, te, p0, p1, p2, p3, s⟩ := lc_sem hi hg ht he
  exact ⟨_, fun i => ps_setLc (T.calm i) (T.nd i) (hN i) (hl i) (hsw i) (p0 i) (ok i) (fun s H c cl fp => p1 (i, s, H, c, cl, fp)) (fun s H c cl fp => p2 (i, s, H, c, cl, fp)) (fun s H c cl fp => p3 (i, s, H, c, cl, fp)) (hs i), set_sem s⟩
end
end DS
/-! DSj: what changes an owned list or dict. -/
namespace DS
open PySem PySem.Spec PyProof.Rows L2

/-- slot i apart from the rest -/
theorem slots_at {K : PySem.W.Frag} {π : List Addr} {F H : Hp} {ρ : Env'} {σ : L2.St} {A : List Addr} (h : Slots K π F H ρ σ A) : ∀ {i : Nat} {d : D} {n : Nat}, ρ[i]? = some (some (d, n)) → A.Nodup →
    ∃ (v : V) (B A0 : List Addr), σ[i]? = some (some v) ∧ RO K π F H n d v B ∧ (∀ a ∈ B, a ∈ A) ∧ (∀ a ∈ A0, a ∈ A ∧ a ∉ B) ∧ B.Nodup ∧ A0.Nodup ∧ ∀ (π' : List Addr) (F' H' : Hp) (d' : D) (n' : Nat) (B' : List Addr), RO K π' F' H' n' d' v B' → (∀ n d v D, (∀ a ∈ D, a ∈ A0) → RO K π F H n d v D → RO K π' F' H' n d v D) → B'.Nodup → (∀ a ∈ B', a ∉ A0) →
      ∃ A', Slots K π' F' H' (ρ.set i (some (d', n'))) σ A' ∧ A'.Nodup ∧ ∀ a ∈ A', a ∈ A0 ∨ a ∈ B' := by
  induction h with
  | nil => intro i d n e; simp at e
  | @none ρ σ A sv hs ih =>
    intro i d n e nA
    cases i with
    | zero => simp at e
    | succ i =>
      obtain ⟨v, B, A0, h1, h2, h3, h4, h5, h6, h7⟩ := ih (i := i) (by simpa using e) nA
      refine ⟨v, B, A0, by simpa using h1, h2, h3, h4, h5, h6, fun π' F' H' d' n' B' r fr nB dj => ?_⟩
      obtain ⟨A', q1, q2, q3⟩ := h7 π' F' H' d' n' B' r fr nB dj
      exact ⟨A', .none sv q1, q2, q3⟩
  | @some ρ σ A d0 n0 v0 B0 r0 hs ih =>
    intro i d n e nA
    obtain ⟨n1, n2, n3⟩ := List.nodup_append.mp nA
    cases i with
    | zero =>
      simp at e
      obtain ⟨rfl, rfl⟩ := e
      refine ⟨v0, B0, A, rfl, r0, fun a ha => List.mem_append_left _ ha, fun a ha => ⟨List.mem_append_right _ ha, fun z => n3 a z a ha rfl⟩, n1, n2, fun π' F' H' d' n' B' r fr nB dj => ?_⟩
      exact ⟨B' ++ A, .some r (hs.imp fun n d v D hD q => fr n d v D hD q), List.nodup_append.mpr ⟨nB, n2, fun a ha b hb z => dj a ha (by rw [z]; exact hb)⟩, fun a ha => (List.mem_append.mp ha).symm⟩
    | succ i =>
      obtain ⟨v, B, A0, h1, h2, h3, h4, h5, h6, h7⟩ := ih (i := i) (by simpa using e) n2
      refine ⟨v, B, B0 ++ A0, by simpa using h1, h2, fun a ha => List.mem_append_right _ (h3 a ha), fun a ha => ?_, h5, List.nodup_append.mpr ⟨n1, h6, fun a ha b hb z => n3 a ha b (h4 b hb).1 z⟩, fun π' F' H' d' n' B' r fr nB dj => ?_⟩
      · rcases List.mem_append.mp ha with z | z
        · exact ⟨List.mem_append_left _ z, fun q => n3 a z a (h3 a q) rfl⟩
        · exact ⟨List.mem_append_right _ (h4 a z).1, (h4 a z).2⟩
      · obtain ⟨A', q1, q2, q3⟩ := h7 π' F' H' d' n' B' r (fun n d v D hD q => fr n d v D (fun a ha => List.mem_append_right _ (hD a ha)) q) nB fun a ha z => dj a ha (List.mem_append_right _ z)
        refine ⟨B0 ++ A', .some (fr _ _ _ _ (fun a ha => List.mem_append_left _ ha) r0) q1, List.nodup_append.mpr ⟨n1, q2, fun a ha b hb z => ?_⟩, fun a ha => ?_⟩
        · rcases q3 b hb with y | y
          · exact n3 a ha b (h4 b y).1 z
          · exact dj b y (List.mem_append_left _ (by rw [← z]; exact ha))
        · rcases List.mem_append.mp ha with y | y
          · exact .inl (List.mem_append_left _ y)
          · exact (q3 a y).imp (List.mem_append_right _) id
theorem RO.upd {K : PySem.W.Frag} {π : List Addr} {F H : Hp} {p : Addr} {o : HO} {n : Nat} {d : D} {v : V} {D : List Addr} (hp : p ∉ D) (r : RO K π F H n d v D) : RO K π F (upd H p o) n d v D := by
  have cl := RO.cells n d v D r
  refine RO.mono (Le.refl F) (fun _ _ e => e) n d v D (fun a ha => ⟨?_, (cl a ha).1, (cl a ha).2.1⟩) r
  rw [upd_ne fun z => hp (by rw [← z]; exact ha)]
theorem All3.upd {K : PySem.W.Frag} {π : List Addr} {F H : Hp} {p : Addr} {o : HO} {n : Nat} {ds : List D} {vs : List V} {As : List Addr} (hp : p ∉ As) (r : All3 (RO K π F H n) ds vs As) : All3 (RO K π F (L2.upd H p o) n) ds vs As :=
  r.imp fun d v A hA q => q.upd fun z => hp (hA p z)
theorem Sto.mem {K : PySem.W.Frag} {g : G} {H : Hp} {S : Pots} {ρ : Env'} {σ : L2.St} {A : List Addr} (st : Sto K g H S ρ σ A) : ∀ a ∈ A, H a ≠ none := st.there
/-- an owned list's cell is rewritten -/
theorem Sto.lmut {K : PySem.W.Frag} {g : G} {H : Hp} {S : Pots} {ρ : Env'} {σ : L2.St} {A : List Addr} (st : Sto K g H S ρ σ A) {i n : Nat} {ds : List D} (e : ρ[i]? = some (some (.lst ds, n + 1))) :
    ∃ a vs As, σ[i]? = some (some (.ref a)) ∧ H a = some (.lst vs) ∧ g.F a = none ∧ a ∉ g.π ∧ a ∈ A ∧ All3 (RO K g.π g.F H n) ds vs As ∧ As.Nodup ∧ a ∉ As ∧ (∀ x ∈ As, x ∈ A) ∧
      ∀ ds' vs' As', All3 (RO K g.π g.F H n) ds' vs' As' → As'.Nodup → (∀ x ∈ As', x ∈ As ∨ x ∉ A) →
        ∃ A', Sto K g (L2.upd H a (.lst vs')) S (ρ.set i (some (.lst ds', n + 1))) σ A' ∧ (∀ x ∈ A', (x ∈ A ∧ x ∉ As) ∨ x ∈ As') := by
  obtain ⟨v, B, A0, h1, ⟨a, vs, As, rfl, h2, h3, h4, h5, rfl⟩, h6, h7, h8, h9, h10⟩ := slots_at st.sl e st.nd
  have na : a ∉ As := (List.nodup_cons.mp h8).1
  have haA : a ∈ A := h6 a (by simp)
  refine ⟨a, vs, As, h1, h2, h3, h4, haA, h5, (List.nodup_cons.mp h8).2, na, fun x hx => h6 x (by simp [hx]), fun ds' vs' As' r nd' sub => ?_⟩
  have na' : a ∉ As' := fun z => by
    rcases sub a z with q | q
    · exact na q
    · exact q haA
  have no' : ∀ x ∈ As', x ∉ A0 := fun x hx z => by
    rcases sub x hx with q | q
    · exact (h7 x z).2 (by simp [q])
    · exact q (h7 x z).1
  obtain ⟨A', s1, s2, s3⟩ := h10 g.π g.F (L2.upd H a (.lst vs')) (.lst ds') (n + 1) (a :: As') ⟨a, vs', As', rfl, upd_same, h3, h4, r.upd na', rfl⟩ (fun n d v D hD q => q.upd fun z => (h7 a (hD a z)).2 (by simp)) (List.nodup_cons.mpr ⟨na', nd'⟩)
    (fun x hx z => by
      rcases List.mem_cons.mp hx with q | q
      · exact (h7 x z).2 (by simp [q])
      · exact no' x q z)
  refine ⟨A', ⟨st.ok.put h3 h4 (fun _ _ z => by cases z), s1, s2⟩, fun x hx => ?_⟩
  rcases s3 x hx with z | z
  · exact .inl ⟨(h7 x z).1, fun q => (h7 x z).2 (by simp [q])⟩
  · rcases List.mem_cons.mp z with q | q
    · exact .inl ⟨by rw [q]; exact haA, by rw [q]; exact na⟩
    · exact .inr q
/-- the same for a dict of frozen values -/
theorem Sto.dmut {K : PySem.W.Frag} {g : G} {H : Hp} {S : Pots} {ρ : Env'} {σ : L2.St} {A : List Addr} (st : Sto K g H S ρ σ A) {i : Nat} {t : Bool} {ks vs : List D} (e : ρ[i]? = some (some (.dict t ks vs, 1))) :
    ∃ a ws o, σ[i]? = some (some (.ref a)) ∧ H a = some o ∧ g.F a = none ∧ a ∉ g.π ∧ a ∈ A ∧ RpL K g.π g.F vs ws ∧ DHO (RpL K g.π g.F ks) t ks ws a o ∧
      ∀ ks' vs' ws' o', RpL K g.π g.F vs' ws' → DHO (RpL K g.π g.F ks') t ks' ws' a o' → (∀ p xs, o' ≠ .frz p (.tup xs)) →
        ∃ A', Sto K g (L2.upd H a o') S (ρ.set i (some (.dict t ks' vs', 1))) σ A' ∧ (∀ x ∈ A', x ∈ A) := by
  obtain ⟨v, B, A0, h1, ⟨a, ws, o, As, rfl, h2, h3, h4, h5, hd, rfl⟩, h6, h7, h8, h9, h10⟩ := slots_at st.sl e st.nd
  have haA : a ∈ A := h6 a (by simp)
  refine ⟨a, ws, o, h1, h2, h3, h4, haA, h5.rpl fun d v A _ r => r.1, hd, fun ks' vs' ws' o' r hd' nt => ?_⟩
  obtain ⟨A', s1, s2, s3⟩ := h10 g.π g.F (L2.upd H a o') (.dict t ks' vs') 1 [a] ⟨a, ws', o', [], rfl, upd_same, h3, h4, r.all2.owned (g := g) (H := H) fun _ _ q => q, hd', rfl⟩ (fun n d v D hD q => q.upd fun z => (h7 a (hD a z)).2 (by simp)) (by simp)
    (fun x hx z => by
      simp at hx
      exact (h7 x z).2 (by simp [hx]))
  refine ⟨A', ⟨st.ok.put h3 h4 nt, s1, s2⟩, fun x hx => ?_⟩
  rcases s3 x hx with z | z
  · exact (h7 x z).1
  · simp at z; rw [z]; exact haA

/-! ### expressions that change what the frame owns -/
def DX (C : Ctx) (e : Expr) (n : Nat) (f : Env' → M (D × Env')) : Prop :=
  ∃ t : TE, (∀ i, PE (C.X i) e t) ∧ ∀ (g : G) (H : Hp) (S : Pots) (ρ : Env') (σ : L2.St) (A : List Addr) (Q : VK), Sto C.K g H S ρ σ A →
    (f ρ S).Post (fun p S' => ∀ g' H' v A' B, Sto C.K g' H' S' p.2 σ A' → GrowA g H A g' H' → Sub A H A' → RO C.K g'.π g'.F H' n p.1 v B → B.Nodup → Sub A H B → (∀ a ∈ B, a ∉ A') → Q v H') (EXs C g H A) → t σ H Q
section
variable {C : Ctx} {e a b c tg iter elt : Expr} {es rest ifs : List Expr} {st : Stmt} {sts body orelse : List Stmt} {m m1 m2 m3 n r : Nat} {f fa fb fc fe : Env' → M D} {fs fi : Env' → M (List D)} {ta tb tc : Env' → M Bool} {q qa qb qc : Env' → M (Fl × Env')} {pos p apos cpos : Pos} {vs : List Nat} {fg : D → Env' → M Env'} {fgs : List D → Env' → M Env'} {fx : Env' → M (D × Env')}
def keepM (f : Env' → M D) : Env' → M (D × Env') := fun ρ => do let d ← f ρ; pure (d, ρ)
theorem DE.x (h : DE C e n f) : DX C e n (keepM f) := by
  obtain ⟨t, p, s⟩ := h
  refine ⟨t, p, fun g H S ρ σ A Q st hp => ?_⟩
  refine s g H S ρ σ A Q st ((post_bind.mp hp).mono (fun d S1 q1 g1 H1 v ok1 gr1 rn => ?_) fun _ _ z => z.e)
  obtain ⟨B, ro, nB, hf⟩ := rn
  have hB : ∀ a ∈ B, H a = none := fun a ha => by
    rcases hf a ha with z | z
    · simp at z
    · exact z
  exact q1 g1 H1 v A B (st.grow ok1 gr1) (gr1.weak fun _ z => by simp at z) sub_refl ro nB (fun a ha => .inr (hB a ha)) fun a ha z => st.there a z (hB a ha)
theorem RO.upto {K : PySem.W.Frag} {g : G} {H : Hp} {n : Nat} {d : D} {v : V} {B : List Addr} {A' : List Addr} {S : Pots} {ρ : Env'} {σ : L2.St} (st : Sto K g H S ρ σ A') (r : RO K g.π g.F H n d v B) (dj : ∀ a ∈ B, a ∉ A') : Sto K (froz g H B) H S ρ σ A' ∧ Rp K g.π (froz g H B).F d v := by
  have cl := RO.cells n d v B r
  refine ⟨⟨st.ok.icy cl, st.sl.imp fun n d v D hD q => ?_, st.nd⟩, r.icy⟩
  exact q.icy' (fun a ha => (cl a ha).1) fun a ha z => dj a z (hD a ha)
theorem DX.z (h : DX C e n fx) : DX C e 0 fx := by
  obtain ⟨t, p, s⟩ := h
  refine ⟨t, p, fun g H S ρ σ A Q st hp => s g H S ρ σ A Q st (hp.mono (fun p S1 q1 g1 H1 v A1 B st1 gr1 sb1 ro nB sB dj => ?_) fun _ _ z => z)⟩
  obtain ⟨st2, r2⟩ := RO.upto st1 ro dj
  exact q1 (froz g1 H1 B) H1 v A1 [] st2 (gr1.icy (fun a ha => (RO.cells _ _ _ _ ro a ha).1) sB) sb1 ⟨r2, rfl⟩ List.nodup_nil (fun _ z => by simp at z) fun _ z => by simp at z
theorem tyV_lst {K : PySem.W.Frag} {H : Hp} {a : Addr} {vs : List V} (h : H a = some (.lst vs)) : tyV K "list" (.ref a) H := .inl ⟨rfl, vs, SqL.of h⟩
theorem RO.rb' {K : PySem.W.Frag} {g : G} {H : Hp} {n : Nat} {d : D} {v : V} {B : List Addr} (r : RO K g.π g.F H n d v B) : RB K g H n d v := RO.rb n d v B r

/-! y.pop(), y.pop(i) -/
def popM (k n : Nat) : Env' → M (D × Env') := fun ρ => match ρ[k]? with
  | some (some (.lst ds, n')) => if n' = n + 1 then match ds.getLast? with
    | some d => pure (d, ρ.set k (some (.lst ds.dropLast, n + 1)))
    | none => M.bad
    else M.bad
  | _ => M.bad
theorem All3.erase {R : D → V → List Addr → Prop} {ds : List D} {vs : List V} {As : List Addr} (h : All3 R ds vs As) {i : Nat} {d : D} (e : ds[i]? = some d) (nd : As.Nodup) :
    ∃ v A A', vs[i]? = some v ∧ R d v A ∧ All3 R (ds.eraseIdx i) (vs.eraseIdx i) A' ∧ A.Nodup ∧ A'.Nodup ∧ (∀ a ∈ A, a ∈ As ∧ a ∉ A') ∧ ∀ a ∈ A', a ∈ As := by
  obtain ⟨v, A1, A, A2, e1, rfl, r, h1, h2⟩ := h.split e
  obtain ⟨n1, n2, n3⟩ := List.nodup_append.mp nd
  obtain ⟨n4, n5, n6⟩ := List.nodup_append.mp n2
  refine ⟨v, A, A1 ++ A2, e1, r, ?_, n4, ?_, fun a ha => ⟨by simp [ha], fun z => ?_⟩, fun a ha => ?_⟩
  · rw [List.eraseIdx_eq_take_drop_succ, List.eraseIdx_eq_take_drop_succ]; exact h1.append h2
  · exact List.nodup_append.mpr ⟨n1, n5, fun a ha b hb z => n3 a ha b (by simp [hb]) z⟩
  · rcases List.mem_append.mp z with q | q
    · exact n3 a q a (by simp [ha]) rfl
    · exact n6 a ha a q rfl
  · rcases List.mem_append.mp ha with q | q <;> simp [q]
/-- element j of the list at slot k is taken out -/
theorem Sto.take {K : PySem.W.Frag} {g : G} {H : Hp} {S : Pots} {ρ : Env'} {σ : L2.St} {A : List Addr} (st : Sto K g H S ρ σ A) {k n : Nat} {ds : List D} (e : ρ[k]? = some (some (.lst ds, n + 1))) {j : Nat} {d : D} (ej : ds[j]? = some d) :
    ∃ a vs v, σ[k]? = some (some (.ref a)) ∧ H a = some (.lst vs) ∧ vs[j]? = some v ∧ vs.length = ds.length ∧ ∃ A' B, Sto K g (L2.upd H a (.lst (vs.eraseIdx j))) S (ρ.set k (some (.lst (ds.eraseIdx j), n + 1))) σ A' ∧ GrowA g H A g (L2.upd H a (.lst (vs.eraseIdx j))) ∧ (∀ x ∈ A', x ∈ A) ∧
      RO K g.π g.F (L2.upd H a (.lst (vs.eraseIdx j))) n d v B ∧ B.Nodup ∧ (∀ x ∈ B, x ∈ A ∧ x ∉ A') := by
  obtain ⟨a, vs, As, h1, h2, h3, h4, h5, h6, h7, h8, h9, h10⟩ := st.lmut e
  obtain ⟨v, B, As', e1, r, r', nB, nA', sB, sA⟩ := h6.erase ej h7
  obtain ⟨A', s1, s2⟩ := h10 _ _ _ r' nA' fun x hx => .inl (sA x hx)
  refine ⟨a, vs, v, h1, h2, e1, h6.length.symm, A', B, s1, GrowA.put GrowA.refl (.inl h5), fun x hx => ?_, r.upd fun z => h8 (sB a z).1, nB, fun x hx => ⟨h9 x (sB x hx).1, fun z => ?_⟩⟩
  · rcases s2 x hx with q | q
    · exact q.1
    · exact h9 x (sA x q)
  · rcases s2 x z with q | q
    · exact q.2 (sB x hx).1
    · exact (sB x hx).2 q
theorem last_get {α : Type} {l : List α} {d : α} (h : l.getLast? = some d) : l[l.length - 1]? = some d := by rw [← List.getLast?_eq_getElem?]; exact h
theorem erase_last {α : Type} (l : List α) : l.eraseIdx (l.length - 1) = l.dropLast := by
  rw [List.dropLast_eq_take]
  by_cases h : l.length = 0
  · have : l = [] := List.length_eq_zero_iff.mp h
    subst this; rfl
  · rw [List.eraseIdx_eq_take_drop_succ, List.drop_eq_nil_of_le (by omega), List.append_nil]
theorem dx_pop (T : Std C) (k n : Nat) {x : Str} (hN : ∀ j, (C.X j).N[k]? = some x := by intro _; rfl)
    (hv : ∀ j, Vis (C.X j).env.scope x := by first | exact fun _ => Or.inl rfl | exact fun _ => Or.inr (Or.inl rfl) | exact fun _ => Or.inr (Or.inr rfl))
    (hd : (x == ("__debug__" : Str)) = false := by decide) (hcd : (x == ("__classdict__" : Str)) = false := by decide)
    (hbase : ∀ j, attributeBase (.Name x p) "pop" (C.X j).env (eval (.Name x p) (C.X j).env) = eval (.Name x p) (C.X j).env := by intro _; rfl) (hline : (apos.endLine == cpos.line) = true := by rfl) :
    DX C (.Call (.Attribute (.Name x p) "pop" apos) [] [] cpos) n (popM k n) := by
  refine ⟨tBM0 C.K "list" rPop (tVar k), fun i => by rw [← T.k i]; exact pe_bm0 F.plainAttrs_list F.slot_list_pop F.type_list_pop mt_pop (pe_var (hN i) (hv i) hd hcd) (hbase i) hline, fun g H S ρ σ A Q st hp => ?_⟩
  unfold popM at hp
  rcases e : ρ[k]? with _ | _ | ⟨d, n'⟩
  · rw [e] at hp; exact hp.elim
  · rw [e] at hp; exact hp.elim
  · rw [e] at hp
    cases d <;> try exact hp.elim
    rename_i ds
    by_cases hn : n' = n + 1
    · subst hn
      simp only [if_true] at hp
      cases el : ds.getLast? with
      | none => rw [el] at hp; exact hp.elim
      | some d =>
        rw [el] at hp
        obtain ⟨a, vs, v, h1, h2, h3, h4, A', B, s1, g1, sA, ro, nB, sB⟩ := st.take e (last_get el)
        rw [← h4] at h3 s1 g1 ro
        rw [erase_last] at s1 g1 ro
        rw [h4, erase_last] at s1
        refine ⟨.ref a, h1, tyV_lst h2, a, vs, v, rfl, rfl, h2, h3, ?_⟩
        exact hp g _ v A' B s1 g1 (fun x hx => .inl (sA x hx)) ro nB (fun x hx => .inl (sB x hx).1) fun x hx => (sB x hx).2
    · simp only [hn, if_false] at hp
      exact hp.elim
def popAtD (k n : Nat) (i : D) (ρ : Env') : Option (D × Env') := match i, ρ[k]? with
  | .int i, some (some (.lst ds, n')) => if n' = n + 1 ∧ 0 ≤ i ∧ i < ds.length ∧ ds.length ≤ LIM then (ds[i.toNat]?).map fun d => (d, ρ.set k (some (.lst (ds.eraseIdx i.toNat), n + 1))) else none
  | _, _ => none
def popAtM (k n : Nat) (fi : Env' → M D) : Env' → M (D × Env') := fun ρ => do let i ← fi ρ; liftO (popAtD k n i ρ)
def isLst (k : Nat) (ρ : Env') : Bool := match ρ[k]? with
  | some (some (.lst _, _ + 1)) => true
  | _ => false
theorem isLst_of {k : Nat} {ρ : Env'} (h : isLst k ρ = true) : ∃ ds n, ρ[k]? = some (some (.lst ds, n + 1)) := by
  unfold isLst at h
  split at h
  · exact ⟨_, _, by assumption⟩
  · cases h
theorem dx_popAt (T : Std C) (k n : Nat) {x : Str} (hi : DB C a 0 fa) (hN : ∀ j, (C.X j).N[k]? = some x := by intro _; rfl)
    (hv : ∀ j, Vis (C.X j).env.scope x := by first | exact fun _ => Or.inl rfl | exact fun _ => Or.inr (Or.inl rfl) | exact fun _ => Or.inr (Or.inr rfl))
    (hd : (x == ("__debug__" : Str)) = false := by decide) (hcd : (x == ("__classdict__" : Str)) = false := by decide)
    (hbase : ∀ j, attributeBase (.Name x p) "pop" (C.X j).env (eval (.Name x p) (C.X j).env) = eval (.Name x p) (C.X j).env := by intro _; rfl) (hline : (apos.endLine == cpos.line) = true := by rfl)
    (hfew : ∀ j, ((backTo cpos (starEach [a] (C.X j).env)).all (fun x => !x.1) && (backToKw cpos (keywordEach [] (C.X j).env)).all (fun x => x.1.isSome)
      && decide ([a].length + ([] : List Keyword).length + (if ([] : List Keyword).isEmpty then 0 else 1) < 30)) = true := by intro _; rfl) (hs : ∀ j, starEach [a] (C.X j).env = (false, eval a (C.X j).env) :: starEach [] (C.X j).env := by intro _; rfl) :
    DX C (.Call (.Attribute (.Name x p) "pop" apos) [a] [] cpos) n (fun ρ => do chk (isLst k ρ); popAtM k n fa ρ) := by
  obtain ⟨t, pa, s⟩ := hi
  refine ⟨tBM C.K "list" rPopAt (tVar k) (tCons t tNil), fun i => by rw [← T.k i]; exact pe_bm F.plainAttrs_list F.slot_list_pop F.type_list_pop mt_popAt (pe_var (hN i) (hv i) hd hcd) (pa_cons (pa i) pa_nil (hs i)) (hbase i) (hfew i) hline (hs i), fun g H S ρ σ A Q st hp => ?_⟩
  obtain ⟨hk, hp⟩ := post_chk (post_bind.mp hp)
  obtain ⟨ds0, n0, e0⟩ := isLst_of hk
  obtain ⟨a, vs, As, h1, h2, _⟩ := st.lmut e0
  refine ⟨.ref a, h1, tyV_lst h2, ?_⟩
  refine s g H S ρ σ A _ st ((post_bind.mp hp).mono (fun i S1 q g1 H1 v ok1 gr1 r1 => ?_) fun _ _ z => z.e)
  have st1 := st.grow ok1 gr1
  clear hp
  obtain ⟨res, er, q⟩ := post_lift q
  unfold popAtD at er
  rw [e0] at er
  cases i <;> try cases er
  rename_i i
  dsimp only at er
  by_cases hc : n0 + 1 = n + 1 ∧ 0 ≤ i ∧ i < ds0.length ∧ ds0.length ≤ LIM
  · rw [if_pos hc] at er
    obtain ⟨hn, c1, c2, c3⟩ := hc
    have hn : n0 = n := by omega
    subst hn
    obtain ⟨d, el, rfl⟩ := Option.map_eq_some_iff.mp er
    obtain ⟨a', vs', w, h1', h2', h3', h4', A', B, s1, g2, sA, ro, nB, sB⟩ := st1.take e0 el
    rw [h1] at h1'
    cases h1'
    cases (show v = .int i from r1)
    have hl := line63
    refine ⟨a, vs', i, i.toNat, w, rfl, rfl, h2', by omega, by rw [lim_eq] at c3; omega, ?_, h3', ?_⟩
    · exact seqIndex_of c1 (by rw [h4']; exact c2)
    · exact q g1 _ w A' B s1 (GrowA.trans (gr1.weak fun _ z => by simp at z) g2 fun _ z => .inl z) (fun x hx => .inl (sA x hx)) ro nB (fun x hx => .inl (sB x hx).1) fun x hx => (sB x hx).2
  · rw [if_neg hc] at er
    cases er

/-! statements -/
def setX (i n : Nat) (fx : Env' → M (D × Env')) : Env' → M (Fl × Env') := fun ρ => do let p ← fx ρ; pure (.nx, p.2.set i (some (p.1, n)))
theorem ds_setX (T : Std C) (i : Nat) {x : Str} {pos' : Pos} (h : DX C e n fx) (hi : ∀ j, (C.X j).N[i]? = some x := by intro _; rfl)
    (hx : LocX C x := by first | exact fun _ => Or.inl rfl | exact fun _ => Or.inr rfl) (hs : ∀ j, swapsWith e (some (.Name x pos')) pos.line (C.X j).env = pure false := by intro _; rfl)
    (hf : LocF C x := by first | exact fun _ => Or.inl rfl | exact fun _ => Or.inr rfl) : DS C (.Assign [.Name x pos'] e pos) r (setX i n fx) := by
  obtain ⟨t, p, s⟩ := h
  refine ⟨tAsg t (gName i), fun j => ps_set (T.nd j) (hi j) (hx j) (p j) (hs j) (hf j), fun g H S ρ σ A Dd st hp => ?_⟩
  refine s g H S ρ σ A _ st ((post_bind.mp hp).mono (fun p S1 q1 g1 H1 v A1 B st1 gr1 sb1 ro nB sB dj => ?_) fun _ _ z => z)
  obtain ⟨A2, st2, sub⟩ := st1.set ro nB i dj
  exact q1 g1 H1 _ A2 st2 gr1 fun a ha => by
    rcases sub a ha with z | z
    · exact sb1 a z
    · exact sB a z
def asgX (fg : D → Env' → M Env') (fx : Env' → M (D × Env')) : Env' → M (Fl × Env') := fun ρ => do let p ← fx ρ; let ρ' ← fg p.1 p.2; pure (.nx, ρ')
theorem ds_asgX {tg : Expr} {fg : D → Env' → M Env'} (h : DX C e 0 fx) (hg : DG C false tg fg) (hs : ∀ j, swapsWithSole [tg] e pos.line (C.X j).env = pure false := by intro _; rfl) (hw : ∀ j, swappedStores [tg] e (C.X j).env = pure none := by intro _; rfl)
    (h1 : ∀ j, (assignEach [tg] (C.X j).env).map (·.2) = [assign tg (C.X j).env] := by intro _; rfl) : DS C (.Assign [tg] e pos) r (asgX fg fx) := by
  obtain ⟨t1, p1, s1⟩ := h
  obtain ⟨t2, p2, s2⟩ := hg
  refine ⟨tAsg t1 t2, fun j => ps_asg (p1 j) (p2 j) (hs j) (hw j) (h1 j), fun g H S ρ σ A Dd st hp => ?_⟩
  refine s1 g H S ρ σ A _ st ((post_bind.mp hp).mono (fun p S1 q1 g1 H1 v A1 B st1 gr1 sb1 ro nB sB dj => ?_) fun _ _ z => z)
  exact s2 g1 H1 S1 p.2 σ A1 p.1 v _ st1 (.inl ro.1) ((post_bind.mp q1).mono (fun ρ' S2 q2 => NX.step (show NX C g H A Dd.nx ρ' S2 from q2) gr1 sb1) fun _ _ z => z.step gr1 sb1)
/-! y.append(e) -/
def appD (k n : Nat) (d : D) (ρ : Env') : Option Env' := match ρ[k]? with
  | some (some (.lst ds, n')) => if n' = n + 1 ∧ ds.length < LIM then some (ρ.set k (some (.lst (ds ++ [d]), n + 1))) else none
  | _ => none
def appM (k n : Nat) (fx : Env' → M (D × Env')) : Env' → M (Fl × Env') := fun ρ => do
  chk (isLst k ρ)
  let p ← fx ρ
  let ρ' ← liftO (appD k n p.1 p.2)
  pure (.nx, ρ')
theorem appD_of {k n : Nat} {d : D} {ρ ρ' : Env'} (h : appD k n d ρ = some ρ') : ∃ ds, ρ[k]? = some (some (.lst ds, n + 1)) ∧ ds.length < LIM ∧ ρ' = ρ.set k (some (.lst (ds ++ [d]), n + 1)) := by
  unfold appD at h
  split at h
  · rename_i ds n' e
    split at h
    · rename_i hc
      cases h
      exact ⟨ds, by rw [e, hc.1], hc.2, rfl⟩
    · cases h
  · cases h
theorem ds_app (T : Std C) (k n : Nat) {x : Str} (h : DX C e n fx) (hN : ∀ j, (C.X j).N[k]? = some x := by intro _; rfl)
    (hv : ∀ j, Vis (C.X j).env.scope x := by first | exact fun _ => Or.inl rfl | exact fun _ => Or.inr (Or.inl rfl) | exact fun _ => Or.inr (Or.inr rfl))
    (hd : (x == ("__debug__" : Str)) = false := by decide) (hcd : (x == ("__classdict__" : Str)) = false := by decide)
    (hbase : ∀ j, attributeBase (.Name x p) "append" (C.X j).env (eval (.Name x p) (C.X j).env) = eval (.Name x p) (C.X j).env := by intro _; rfl) (hline : (apos.endLine == cpos.line) = true := by rfl)
    (hfew : ∀ j, ((backTo cpos (starEach [e] (C.X j).env)).all (fun x => !x.1) && (backToKw cpos (keywordEach [] (C.X j).env)).all (fun x => x.1.isSome)
      && decide ([e].length + ([] : List Keyword).length + (if ([] : List Keyword).isEmpty then 0 else 1) < 30)) = true := by intro _; rfl) (hs : ∀ j, starEach [e] (C.X j).env = (false, eval e (C.X j).env) :: starEach [] (C.X j).env := by intro _; rfl)
    (hw : ∀ j, swapsWith (.Call (.Attribute (.Name x p) "append" apos) [e] [] cpos) none pos.line (C.X j).env = pure false := by intro _; rfl) :
    DS C (.Expr (.Call (.Attribute (.Name x p) "append" apos) [e] [] cpos) pos) r (appM k n fx) := by
  obtain ⟨t, pa, s⟩ := h
  refine ⟨tDrop (tBM C.K "list" rAppend (tVar k) (tCons t tNil)), fun i => by rw [← T.k i]; exact ps_expr (pe_bm F.plainAttrs_list F.slot_list_append F.type_list_append mt_append (pe_var (hN i) (hv i) hd hcd) (pa_cons (pa i) pa_nil (hs i)) (hbase i) (hfew i) hline (hs i)) (hw i), fun g H S ρ σ A Dd st hp => ?_⟩
  obtain ⟨hk, hp⟩ := post_chk (post_bind.mp hp)
  obtain ⟨ds0, n0, e0⟩ := isLst_of hk
  obtain ⟨a, vs, As, h1, h2, _⟩ := st.lmut e0
  refine ⟨.ref a, h1, tyV_lst h2, ?_⟩
  refine s g H S ρ σ A _ st ((post_bind.mp hp).mono (fun p S1 q g1 H1 v A1 B st1 gr1 sb1 ro nB sB dj => ?_) fun _ _ z => z)
  obtain ⟨ρ2, er, q⟩ := post_lift (post_bind.mp q)
  obtain ⟨ds, e1, hl, rfl⟩ := appD_of er
  obtain ⟨a', vs', As', h1', h2', h3', h4', h5', h6', h7', h8', h9', h10'⟩ := st1.lmut e1
  rw [h1] at h1'
  cases h1'
  obtain ⟨A2, s2, sub2⟩ := h10' _ _ _ (h6'.append (All3.one ro)) (List.nodup_append.mpr ⟨h7', nB, fun x hx y hy z => dj y hy (by rw [← z]; exact h9' x hx)⟩) fun x hx => by
    rcases List.mem_append.mp hx with z | z
    · exact .inl z
    · exact .inr (dj x z)
  refine ⟨a, vs', v, rfl, rfl, h2', by rw [← lim_eq, ← h6'.length]; exact hl, ?_⟩
  refine q g1 _ σ A2 s2 (gr1.put ?_) fun x hx => ?_
  · exact sb1 a h5'
  · rcases sub2 x hx with z | z
    · exact sb1 x z.1
    · rcases List.mem_append.mp z with y | y
      · exact sb1 x (h9' x y)
      · exact sB x y
/-! y.extend(e), of frozen things -/
def extD (k : Nat) (d : D) (ρ : Env') : Option Env' := match d, ρ[k]? with
  | .lst es, some (some (.lst ds, n')) => if n' = 1 ∧ ds.length + es.length ≤ LIM then some (ρ.set k (some (.lst (ds ++ es), 1))) else none
  | _, _ => none
def extM (k : Nat) (f : Env' → M D) : Env' → M (Fl × Env') := fun ρ => do
  chk (isLst k ρ)
  let d ← f ρ
  let ρ' ← liftO (extD k d ρ)
  pure (.nx, ρ')
theorem extD_of {k : Nat} {d : D} {ρ ρ' : Env'} (h : extD k d ρ = some ρ') : ∃ ds es, d = .lst es ∧ ρ[k]? = some (some (.lst ds, 1)) ∧ ds.length + es.length ≤ LIM ∧ ρ' = ρ.set k (some (.lst (ds ++ es), 1)) := by
  unfold extD at h
  split at h
  · rename_i ds n' e
    split at h
    · rename_i hc
      cases h
      exact ⟨_, _, rfl, by rw [e, hc.1], hc.2, rfl⟩
    · cases h
  · cases h
theorem ds_ext (T : Std C) (k : Nat) {x : Str} (h : DB C e 1 f) (hN : ∀ j, (C.X j).N[k]? = some x := by intro _; rfl)
    (hv : ∀ j, Vis (C.X j).env.scope x := by first | exact fun _ => Or.inl rfl | exact fun _ => Or.inr (Or.inl rfl) | exact fun _ => Or.inr (Or.inr rfl))
    (hd : (x == ("__debug__" : Str)) = false := by decide) (hcd : (x == ("__classdict__" : Str)) = false := by decide)
    (hbase : ∀ j, attributeBase (.Name x p) "extend" (C.X j).env (eval (.Name x p) (C.X j).env) = eval (.Name x p) (C.X j).env := by intro _; rfl) (hline : (apos.endLine == cpos.line) = true := by rfl)
    (hfew : ∀ j, ((backTo cpos (starEach [e] (C.X j).env)).all (fun x => !x.1) && (backToKw cpos (keywordEach [] (C.X j).env)).all (fun x => x.1.isSome)
      && decide ([e].length + ([] : List Keyword).length + (if ([] : List Keyword).isEmpty then 0 else 1) < 30)) = true := by intro _; rfl) (hs : ∀ j, starEach [e] (C.X j).env = (false, eval e (C.X j).env) :: starEach [] (C.X j).env := by intro _; rfl)
    (hw : ∀ j, swapsWith (.Call (.Attribute (.Name x p) "extend" apos) [e] [] cpos) none pos.line (C.X j).env = pure false := by intro _; rfl) :
    DS C (.Expr (.Call (.Attribute (.Name x p) "extend" apos) [e] [] cpos) pos) r (extM k f) := by
  obtain ⟨t, pa, s⟩ := h
  refine ⟨tDrop (tBM C.K "list" rExtend (tVar k) (tCons t tNil)), fun i => by rw [← T.k i]; exact ps_expr (pe_bm F.plainAttrs_list F.slot_list_extend F.type_list_extend mt_extend (pe_var (hN i) (hv i) hd hcd) (pa_cons (pa i) pa_nil (hs i)) (hbase i) (hfew i) hline (hs i)) (hw i), fun g H S ρ σ A Dd st hp => ?_⟩
  obtain ⟨hk, hp⟩ := post_chk (post_bind.mp hp)
  obtain ⟨ds0, n0, e0⟩ := isLst_of hk
  obtain ⟨a, vs, As, h1, h2, _⟩ := st.lmut e0
  refine ⟨.ref a, h1, tyV_lst h2, ?_⟩
  refine s g H S ρ σ A _ st ((post_bind.mp hp).mono (fun d S1 q g1 H1 v ok1 gr1 r1 => ?_) fun _ _ z => z.e)
  have st1 := st.grow ok1 gr1
  obtain ⟨ρ2, er, q⟩ := post_lift (post_bind.mp q)
  obtain ⟨ds, es, rfl, e1, hl, rfl⟩ := extD_of er
  obtain ⟨a', vs', As', h1', h2', h3', h4', h5', h6', h7', h8', h9', h10'⟩ := st1.lmut e1
  rw [h1] at h1'
  cases h1'
  obtain ⟨b, ws, rfl, hb, rb⟩ := RB.lst r1
  obtain ⟨A2, s2, sub2⟩ := h10' _ _ _ (h6'.append (rb.owned (g := g1) (H := H1) fun _ _ q => q)) (by rw [List.append_nil]; exact h7') fun x hx => by rw [List.append_nil] at hx; exact .inl hx
  refine ⟨a, b, vs', ws, rfl, rfl, h2', hb, by rw [← lim_eq, ← h6'.length, ← rb.length]; exact hl, ?_⟩
  refine q g1 _ σ A2 s2 ((gr1.weak fun _ z => by simp at z).put (.inl h5')) fun x hx => ?_
  rcases sub2 x hx with z | z
  · exact .inl z.1
  · rw [List.append_nil] at z; exact .inl (h9' x z)
end
end DS
/-! DSk: x[i] = v. -/
namespace DS
open PySem PySem.Spec PyProof.Rows L2

def replG {κ : Type} [DecidableEq κ] (ko : D → Option κ) : List D → List D → D → κ → Option (List D)
  | k :: ks, w :: vs, v, j => if ko k = some j then some (v :: vs) else (replG ko ks vs v j).map (w :: ·)
  | _, _, _, _ => none
def putG {κ : Type} [DecidableEq κ] (ko : D → Option κ) (ks vs : List D) (k v : D) (j : κ) : List D × List D := match replG ko ks vs v j with
  | some vs' => (ks, vs')
  | none => (ks ++ [k], vs ++ [v])
def putD (t : Bool) (ks vs : List D) (k v : D) : Option (List D × List D) :=
  if t then (tkeyOf k).map (putG tkeyOf ks vs k v) else (keyOf k).map (putG keyOf ks vs k v)
section
variable {K : PySem.W.Frag} {π : List Addr} {F : Hp} {κ : Type} [DecidableEq κ] {ko : D → Option κ}
theorem repl_none {v : D} {j : κ} : ∀ {ks vs : List D} {ws : List V} {kk : List κ}, ks.map ko = kk.map some → RpL K π F vs ws → kk.length = ws.length → replG ko ks vs v j = none → j ∉ kk
  | [], vs, ws, kk, e, _, _, _ => by
    cases kk with
    | nil => simp
    | cons => simp at e
  | k :: ks, vs, ws, kk, e, r, l, h => by
    cases kk with
    | nil => simp at e
    | cons q kk =>
      cases vs with
      | nil => cases (show ws = [] from r); simp at l
      | cons w vs =>
        obtain ⟨x, rest, rfl, r1, r2⟩ := r
        have e1 : ko k = some q := by simpa using (List.cons.inj e).1
        unfold replG at h
        by_cases z : ko k = some j
        · rw [if_pos z] at h; cases h
        · rw [if_neg z, Option.map_eq_none_iff] at h
          have ih := repl_none (List.cons.inj e).2 r2 (by simpa using l) h
          rw [e1] at z
          simp only [List.mem_cons, not_or]
          exact ⟨fun y => z (by rw [y]), ih⟩
theorem map_off {j : κ} {w : V} : ∀ {kk : List κ} {ws : List V}, j ∉ kk → (kk.zip ws).map (fun kv => if kv.1 = j then (kv.1, w) else kv) = kk.zip ws
  | [], ws, _ => by simp
  | q :: kk, [], _ => by simp
  | q :: kk, x :: ws, h => by
    simp only [List.mem_cons, not_or] at h
    rw [List.zip_cons_cons, List.map_cons, map_off h.2, if_neg fun z => h.1 z.symm]
theorem repl_some {v : D} {j : κ} {w : V} (rw' : Rp K π F v w) : ∀ {ks vs vs' : List D} {ws : List V} {kk : List κ}, ks.map ko = kk.map some → kk.Nodup → RpL K π F vs ws → kk.length = ws.length → replG ko ks vs v j = some vs' →
    j ∈ kk ∧ ∃ ws', RpL K π F vs' ws' ∧ kk.length = ws'.length ∧ (kk.zip ws).map (fun kv => if kv.1 = j then (kv.1, w) else kv) = kk.zip ws'
  | [], vs, vs', ws, kk, e, _, _, _, h => by simp [replG] at h
  | k :: ks, vs, vs', ws, kk, e, nd, r, l, h => by
    cases kk with
    | nil => simp at e
    | cons q kk =>
      obtain ⟨nd1, nd2⟩ := List.nodup_cons.mp nd
      cases vs with
      | nil => simp [replG] at h
      | cons x vs =>
        obtain ⟨y, rest, rfl, r1, r2⟩ := r
        have e1 : ko k = some q := by simpa using (List.cons.inj e).1
        unfold replG at h
        by_cases z : ko k = some j
        · rw [if_pos z] at h
          cases h
          have qj : q = j := by rw [e1] at z; exact Option.some.inj z
          subst qj
          refine ⟨by simp, w :: rest, ⟨w, rest, rfl, rw', r2⟩, by simpa using l, ?_⟩
          rw [List.zip_cons_cons, List.map_cons, map_off nd1, if_pos rfl, List.zip_cons_cons]
        · rw [if_neg z] at h
          obtain ⟨us, hu, rfl⟩ := Option.map_eq_some_iff.mp h
          obtain ⟨h1, ws', h2, h3, h4⟩ := repl_some rw' (List.cons.inj e).2 nd2 r2 (by simpa using l) hu
          have qj : ¬ q = j := fun y => z (by rw [e1, y])
          refine ⟨by simp [h1], y :: ws', ⟨y, ws', rfl, r1, h2⟩, by simpa using h3, ?_⟩
          rw [List.zip_cons_cons, List.map_cons, h4, if_neg qj, List.zip_cons_cons]
theorem zip_any {kk : List κ} {ws : List V} {j : κ} (l : kk.length = ws.length) : ((kk.zip ws).any fun kv => decide (kv.1 = j)) = true ↔ j ∈ kk := by
  simp only [List.any_eq_true, decide_eq_true_eq]
  constructor
  · rintro ⟨⟨a, b⟩, h, rfl⟩
    exact (List.of_mem_zip h).1
  · intro h
    obtain ⟨i, hi, e⟩ := List.getElem_of_mem h
    refine ⟨(kk[i], ws[i]'(by omega)), ?_, e⟩
    have : (kk.zip ws)[i]'(by simp; omega) = (kk[i], ws[i]'(by omega)) := by simp
    rw [← this]
    exact List.getElem_mem _
theorem put_any {k v : D} {j : κ} {w : V} {ks vs ks' vs' : List D} {ws : List V} {kk : List κ} (e : ks.map ko = kk.map some) (nd : kk.Nodup) (l : kk.length = ws.length) (r : RpL K π F vs ws) (rw' : Rp K π F v w) (hk : ko k = some j) (h : putG ko ks vs k v j = (ks', vs')) :
    ∃ (kk' : List κ) (ws' : List V), ks'.map ko = kk'.map some ∧ kk'.Nodup ∧ kk'.length = ws'.length ∧ RpL K π F vs' ws' ∧ putK (kk.zip ws) j w = kk'.zip ws' := by
  unfold putG at h
  cases q : replG ko ks vs v j with
  | some us =>
    rw [q] at h
    cases h
    obtain ⟨h1, ws', h2, h3, h4⟩ := repl_some rw' e nd r l q
    refine ⟨kk, ws', e, nd, h3, h2, ?_⟩
    unfold putK
    rw [if_pos ((zip_any l).mpr h1)]
    exact h4
  | none =>
    rw [q] at h
    cases h
    have nj := repl_none e r l q
    refine ⟨kk ++ [j], ws ++ [w], by rw [List.map_append, List.map_append, e]; simp [hk], ?_, by simp [l], RpL.append r (RpL.one rw'), ?_⟩
    · exact List.nodup_append.mpr ⟨nd, by simp, fun a ha b hb z => by simp at hb; subst hb; exact nj (by rw [← z]; exact ha)⟩
    · unfold putK
      rw [if_neg fun z => nj ((zip_any l).mp z), List.zip_append l]
      rfl
end
/-! the same for tuples as keys -/
theorem put_x {K : PySem.W.Frag} {π : List Addr} {F : Hp} {k v : D} {j : List Int} {w : V} {u : Value} {b : Addr} (rk : Rp K π F k (.ref b)) (ek : tkeyOf k = some j) (rv : Rp K π F v w) (ru : RelV w u) :
    ∀ {ks vs : List D} {ws : List V} {xs : List (List Int × Addr × Value)}, RpL K π F ks (xs.map fun q => V.ref q.2.1) → ks.map tkeyOf = xs.map (fun q => some q.1) → RpL K π F vs ws → XVs ws xs → (xs.map (·.1)).Nodup →
      (∀ us, replG tkeyOf ks vs v j = some us → (atKey xs j).isSome = true ∧ ∃ ws', RpL K π F us ws' ∧ XVs ws' (xs.map (putAt j u))) ∧ (replG tkeyOf ks vs v j = none → atKey xs j = none)
  | [], vs, ws, xs, r, e, rw', x, nd => by
    cases xs with
    | nil => exact ⟨fun us h => by simp [replG] at h, fun _ => rfl⟩
    | cons => simp at e
  | k0 :: ks, vs, ws, xs, r, e, rw', x, nd => by
    cases x with
    | nil => simp at e
    | @cons w0 q ws xs x1 x2 =>
      cases vs with
      | nil => cases (show _ = [] from rw')
      | cons v0 vs =>
        obtain ⟨y, l, ey, r1, r2⟩ := rw'
        obtain ⟨rfl, rfl⟩ := List.cons.inj ey
        obtain ⟨y2, l2, ey2, k1, k2⟩ := r
        rw [List.map_cons] at ey2
        obtain ⟨_, rfl⟩ := List.cons.inj ey2
        rw [List.map_cons, List.map_cons] at e
        have e1 : tkeyOf k0 = some q.1 := (List.cons.inj e).1
        rw [List.map_cons] at nd
        obtain ⟨nd1, nd2⟩ := List.nodup_cons.mp nd
        obtain ⟨i1, i2⟩ := put_x rk ek rv ru k2 (List.cons.inj e).2 r2 x2 nd2
        unfold replG
        by_cases z : q.1 = j
        · have hat : atKey (q :: xs) j = some q.2 := by simp [atKey, List.find?_cons, z]
          rw [if_pos (by rw [e1, z])]
          refine ⟨fun us h => ?_, fun h => by cases h⟩
          cases h
          refine ⟨by rw [hat]; rfl, w :: ws, ⟨w, ws, rfl, rv, r2⟩, ?_⟩
          rw [List.map_cons]
          refine .cons ?_ ?_
          · unfold putAt; rw [if_pos z]; exact ru
          · have : xs.map (putAt j u) = xs := by
              conv => rhs; rw [← List.map_id xs]
              refine List.map_congr_left fun p hp => ?_
              unfold putAt
              rw [if_neg fun z2 => nd1 (List.mem_map.mpr ⟨p, hp, by rw [z2, z]⟩)]
              rfl
            rw [this]; exact x2
        · have hat : atKey (q :: xs) j = atKey xs j := by simp [atKey, List.find?_cons, z]
          rw [if_neg (by rw [e1]; simpa using z), hat]
          refine ⟨fun us h => ?_, fun h => i2 (Option.map_eq_none_iff.mp h)⟩
          obtain ⟨us', hu, rfl⟩ := Option.map_eq_some_iff.mp h
          obtain ⟨h1, ws', h2, h3⟩ := i1 us' hu
          refine ⟨h1, w0 :: ws', ⟨w0, ws', rfl, r1, h2⟩, ?_⟩
          rw [List.map_cons]
          refine .cons ?_ h3
          unfold putAt; rw [if_neg z]; exact x1
theorem XVs.snoc {ws : List V} {xs : List (List Int × Addr × Value)} (h : XVs ws xs) {w : V} {q : List Int × Addr × Value} (r : RelV w q.2.2) : XVs (ws ++ [w]) (xs ++ [q]) := Paired.snoc h r
theorem put_xd {K : PySem.W.Frag} {π : List Addr} {F : Hp} {k v : D} {j : List Int} {w : V} {u : Value} {a b : Addr} (rk : Rp K π F k (.ref b)) (ek : tkeyOf k = some j) (rv : Rp K π F v w) (ru : RelV w u) {ks vs ks' vs' : List D} {ws : List V} {xs : List (List Int × Addr × Value)}
    (kr : RpL K π F ks (xs.map fun q => V.ref q.2.1)) (e : ks.map tkeyOf = xs.map (fun q => some q.1)) (rw' : RpL K π F vs ws) (x : XVs ws xs) (nd : (xs.map (·.1)).Nodup) (h : putG tkeyOf ks vs k v j = (ks', vs')) :
    ∃ ws', RpL K π F vs' ws' ∧ DHO (RpL K π F ks') true ks' ws' a (XD a (storedH xs j b u)) := by
  obtain ⟨h1, h2⟩ := put_x rk ek rv ru kr e rw' x nd
  unfold putG at h
  cases q : replG tkeyOf ks vs v j with
  | some us =>
    rw [q] at h
    obtain ⟨q1, ws', q2, q3⟩ := h1 us q
    cases h
    refine ⟨ws', q2, .inr ⟨rfl, _, ?_, ?_, ?_, rfl⟩⟩
    all_goals unfold storedH; rw [if_pos q1]
    · rw [List.map_map]
      have : (fun q : List Int × Addr × Value => V.ref q.2.1) ∘ putAt j u = fun q => V.ref q.2.1 := by
        funext p; unfold putAt; simp only [Function.comp]; split <;> rfl
      rw [this]; exact kr
    · rw [List.map_map]
      have : (fun q : List Int × Addr × Value => some q.1) ∘ putAt j u = fun q => some q.1 := by
        funext p; unfold putAt; simp only [Function.comp]; split <;> rfl
      rw [this]; exact e
    · exact q3
  | none =>
    rw [q] at h
    cases h
    have q1 := h2 q
    refine ⟨ws ++ [w], RpL.append rw' (RpL.one rv), .inr ⟨rfl, _, ?_, ?_, ?_, rfl⟩⟩
    all_goals unfold storedH; rw [if_neg (by rw [q1]; exact Bool.false_ne_true)]
    · rw [List.map_append]; exact RpL.append kr (RpL.one rk)
    · rw [List.map_append, List.map_append, e]; simp [ek]
    · exact XVs.snoc x ru
/-- o[i] = v, o such a dict -/
def rSetX (K : PySem.W.Frag) : TSet := fun o i v H Q => ∃ a xs k b, o = .ref a ∧ i = .ref b ∧ H a = some (XD a xs) ∧ (∀ q ∈ xs, SqT K H q.2.1 (q.1.map V.int)) ∧ SqT K H b (k.map V.int) ∧ xs.length < sizeLine ∧ ∀ u, RelV v u → (xs.map (·.1)).Nodup → Q (upd H a (XD a (storedH xs k b u)))
theorem set_x {X : Cx} (hu : X.A.units + 1 < cLine) : PSet X (rSetX X.K) := by
  intro pins s σ H o i v ov iv u Q I ro ri rv h
  obtain ⟨a, xs, k, b, rfl, rfl, e, hk, hb, hl, q⟩ := h
  cases (show ov = Value.ref a from ro)
  cases (show iv = Value.ref b from ri)
  obtain ⟨_, _, _, _, _, _, _, _, _, _, nd⟩ := xat_of I ⟨.inl e, hk⟩
  exact x_setItem hu I e hk hb hl rv fun s' I' => ⟨_, I', q u rv nd⟩
def setD (k : Nat) (i v : D) (ρ : Env') : Option Env' := match ρ[k]? with
  | some (some (.lst ds, 1)) => match i with
    | .int i => (ixN ds.length i).map fun j => ρ.set k (some (.lst (ds.set j v), 1))
    | _ => none
  | some (some (.dict t ks vs, 1)) => if vs.length < LIM then (putD t ks vs i v).map fun p => ρ.set k (some (.dict t p.1 p.2, 1)) else none
  | _ => none
theorem PSet.or {X : Cx} {t t' : TSet} (h : PSet X t) (h' : PSet X t') : PSet X (fun o i v H Q => t o i v H Q ∨ t' o i v H Q) := by
  intro pins s σ H o i v ov iv u Q I ro ri rv q
  rcases q with q | q
  · exact h pins s σ H o i v ov iv u Q I ro ri rv q
  · exact h' pins s σ H o i v ov iv u Q I ro ri rv q
theorem RpL.setD {K : PySem.W.Frag} {π : List Addr} {F : Hp} {v : D} {w : V} (rw' : Rp K π F v w) : ∀ {ds : List D} {vs : List V} (j : Nat), RpL K π F ds vs → RpL K π F (ds.set j v) (vs.set j w)
  | [], vs, j, h => by cases (show vs = [] from h); rfl
  | d :: ds, vs, 0, h => by
    obtain ⟨x, r, rfl, r1, r2⟩ := h
    exact ⟨w, r, rfl, rw', r2⟩
  | d :: ds, vs, j + 1, h => by
    obtain ⟨x, r, rfl, r1, r2⟩ := h
    exact ⟨x, r.set j w, rfl, r1, RpL.setD rw' j r2⟩
theorem all3_zero {K : PySem.W.Frag} {π : List Addr} {F H : Hp} {ds : List D} {vs : List V} {As : List Addr} (h : All3 (RO K π F H 0) ds vs As) : As = [] ∧ RpL K π F ds vs := by
  induction h with
  | nil => exact ⟨rfl, rfl⟩
  | cons h1 h2 ih =>
    obtain ⟨r, rfl⟩ := h1
    obtain ⟨rfl, r2⟩ := ih
    exact ⟨rfl, _, _, rfl, r, r2⟩
/-- the store at the heap's level -/
theorem Sto.setAt {K : PySem.W.Frag} {g : G} {H : Hp} {S : Pots} {ρ ρ' : Env'} {σ : L2.St} {A : List Addr} (st : Sto K g H S ρ σ A) {k : Nat} {i v : D} {x w : V} (ri : Rp K g.π g.F i x) (rv : Rp K g.π g.F v w) (h : setD k i v ρ = some ρ') :
    ∃ o, σ[k]? = some (some o) ∧ ∀ (Q : Hp → Prop), (∀ H' A', Sto K g H' S ρ' σ A' → GrowA g H A g H' → (∀ a ∈ A', a ∈ A) → Q H') → (rSetL o x w H Q ∨ rSetD o x w H Q) ∨ rSetX K o x w H Q := by
  unfold setD at h
  split at h
  · rename_i ds e
    cases i <;> simp only [reduceCtorEq] at h
    rename_i i
    obtain ⟨j, hj, rfl⟩ := Option.map_eq_some_iff.mp h
    obtain ⟨a, vs, As, h1, h2, h3, h4, h5, h6, h7, h8, h9, h10⟩ := st.lmut e
    obtain ⟨rfl, r⟩ := all3_zero h6
    refine ⟨.ref a, h1, fun Q q => .inl (.inl ⟨a, vs, i, j, rfl, ri, h2, by rw [← r.length]; exact hj, ?_⟩)⟩
    obtain ⟨A', s1, s2⟩ := h10 _ _ _ ((RpL.setD rv j r).all2.owned (g := g) (H := H) fun _ _ q => q) List.nodup_nil fun _ z => by simp at z
    exact q _ A' s1 (GrowA.put GrowA.refl (.inl h5)) fun a ha => by
      rcases s2 a ha with z | z
      · exact z.1
      · simp at z
  · rename_i t ks vs e
    split at h
    · rename_i hl
      obtain ⟨⟨ks', vs'⟩, hp, rfl⟩ := Option.map_eq_some_iff.mp h
      obtain ⟨a, ws, o, h1, h2, h3, h4, h5, r, hd, h10⟩ := st.dmut e
      refine ⟨.ref a, h1, fun Q q => ?_⟩
      unfold putD at hp
      rcases hd with ⟨rfl, kk, e1, nd, l, rfl⟩ | ⟨rfl, xs, kr, e1, hx, rfl⟩
      · simp only [Bool.false_eq_true, if_false, Option.map_eq_some_iff] at hp
        obtain ⟨j, ej, hp⟩ := hp
        obtain ⟨kk', ws', q1, q2, q3, q4, q5⟩ := put_any e1 nd l r rv ej hp
        obtain ⟨A', s1, s2⟩ := h10 ks' vs' ws' _ q4 (.inl ⟨rfl, kk', q1, q2, q3, rfl⟩) fun _ _ z => by cases z
        refine .inl (.inr ⟨a, _, rfl, .inl ⟨_, j, h2, keyOf_v ej ri, ?_, rfl⟩, ?_⟩)
        · rw [List.length_zip, l, Nat.min_self, ← lim_eq, ← r.length]; exact hl
        · rw [q5]; exact q _ A' s1 (GrowA.put GrowA.refl (.inl h5)) s2
      · simp only [if_true, Option.map_eq_some_iff] at hp
        obtain ⟨j, ej, hp⟩ := hp
        obtain ⟨b, rfl, hb, _⟩ := tup_key st.ok ej ri
        refine .inr ⟨a, xs, j, b, rfl, rfl, h2, xat_keys st.ok kr e1, hb, ?_, fun u ru nd => ?_⟩
        · rw [← Paired.length hx, ← lim_eq, ← r.length]; exact hl
        · obtain ⟨ws', q1, q2⟩ := put_xd (a := a) ri ej rv ru kr e1 r hx nd hp
          obtain ⟨A', s1, s2⟩ := h10 ks' vs' ws' _ q1 q2 fun _ _ z => by cases z
          exact q _ A' s1 (GrowA.put GrowA.refl (.inl h5)) s2
    · cases h
  · cases h
def hasE (k : Nat) (ρ : Env') : Bool := match ρ[k]? with
  | some (some _) => true
  | _ => false
def gSubM (k : Nat) (fi : Env' → M D) : D → Env' → M Env' := fun v ρ => do chk (hasE k ρ); let i ← fi ρ; liftO (setD k i v ρ)
section
variable {C : Ctx} {e a b c tg iter elt : Expr} {es rest ifs : List Expr} {st : Stmt} {sts body orelse : List Stmt} {m m1 m2 m3 n r : Nat} {f fa fb fc fe fi : Env' → M D} {pos p apos cpos : Pos}
theorem dg_sub (T : Std C) (k : Nat) {x : Str} {ie : Expr} (hi : DB C ie 0 fi) (hN : ∀ j, (C.X j).N[k]? = some x := by intro _; rfl)
    (hv : ∀ j, Vis (C.X j).env.scope x := by first | exact fun _ => Or.inl rfl | exact fun _ => Or.inr (Or.inl rfl) | exact fun _ => Or.inr (Or.inr rfl))
    (hd : (x == ("__debug__" : Str)) = false := by decide) (hcd : (x == ("__classdict__" : Str)) = false := by decide)
    (ha : ∀ j v, assign (.Subscript (.Name x p) ie pos) (C.X j).env v = (do
      let ov ← holding [v] (eval (.Name x p) (C.X j).env)
      let iv ← holding [v, ov] (eval ie (C.X j).env)
      standAt pos
      holding [v, ov, iv] (setItem ov iv v)
      release [v, ov, iv] []) := by intro _ _; rfl) : DG C false (.Subscript (.Name x p) ie pos) (gSubM k fi) := by
  obtain ⟨t, pi, s⟩ := hi
  refine ⟨gSub (tVar k) t (fun o i v H Q => (rSetL o i v H Q ∨ rSetD o i v H Q) ∨ rSetX C.K o i v H Q), fun j => pg_sub (pe_var (hN j) (hv j) hd hcd) (pi j) (PSet.or (PSet.or set_list (set_dict (by have := T.hu j; omega))) (by rw [← T.k j]; exact set_x (by have := T.hu j; omega))) (ha j), fun g H S ρ σ A d v Q st hr hp => ?_⟩
  obtain ⟨hk, hp⟩ := post_chk (post_bind.mp hp)
  unfold hasE at hk
  rcases eρ0 : ρ[k]? with _ | _ | ⟨d0, n0⟩
  · rw [eρ0] at hk; cases hk
  · rw [eρ0] at hk; cases hk
  · obtain ⟨o, _, es, _⟩ := slots_get st.sl eρ0
    refine ⟨o, es, ?_⟩
    refine s g H S ρ σ A _ st ((post_bind.mp hp).mono (fun i S1 q1 g1 H1 x1 ok1 gr1 r1 => ?_) fun _ _ z => z.e)
    obtain ⟨ρ', eρ, q⟩ := post_lift q1
    have gA : GrowA g H A g1 H1 := gr1.weak fun _ z => by simp at z
    obtain ⟨o', eo, k2⟩ := (st.grow ok1 gr1).setAt r1 (Rp.grA gA (RpB.frz hr)) eρ
    rw [es] at eo
    cases eo
    exact k2 _ fun H' A' s' g' sb => q g1 H' σ A' s' (gA.trans g' sub_refl) fun a ha => .inl (sb a ha)
end
end DS
/-! DSl: sorting (the empty tuple among the items; a dict's keys). -/
namespace DS
open PySem PySem.Spec PyProof.Rows L2

/-! ### the order, to be computed -/
def insD (le : D → D → Bool) (a : D) : List D → List D
  | [] => [a]
  | b :: r => if le a b then a :: b :: r else b :: insD le a r
def isortD (le : D → D → Bool) : List D → List D
  | [] => []
  | a :: l => insD le a (isortD le l)
theorem insD_split {le : D → D → Bool} {a : D} : ∀ {l1 l2 : List D}, (∀ b ∈ l1, le a b = false) → (∀ b ∈ l2, le a b = true) → insD le a (l1 ++ l2) = l1 ++ a :: l2
  | [], [], _, _ => rfl
  | [], b :: l2, _, h2 => by
    have h := h2 b (by simp)
    show (if le a b then a :: b :: l2 else b :: insD le a l2) = _
    rw [if_pos h]; rfl
  | b :: l1, l2, h1, h2 => by
    have h := h1 b (by simp)
    show (if le a b then a :: b :: (l1 ++ l2) else b :: insD le a (l1 ++ l2)) = _
    rw [if_neg (by rw [h]; exact Bool.false_ne_true), insD_split (fun b hb => h1 b (by simp [hb])) h2]; rfl
theorem isort_eq {le : D → D → Bool} (h : PySem.W.TotalLe le) : ∀ l : List D, isortD le l = l.mergeSort le
  | [] => by simp [isortD]
  | a :: l => by
    obtain ⟨l1, l2, e1, e2, h1⟩ := List.mergeSort_cons (le := le) (fun a b c h1 h2 => h.trans a b c h1 h2) (fun a b => Bool.or_eq_true_iff.mpr (h.total a b)) a l
    have pw := PySem.W.sort_pairwise h (a :: l)
    rw [e1] at pw
    have pw2 := (List.pairwise_append.mp pw).2.1
    show insD le a (isortD le l) = _
    rw [isort_eq h l, e1, e2]
    exact insD_split (fun b hb => by have := h1 b hb; simpa using this) (fun b hb => List.rel_of_pairwise_cons pw2 hb)
def leD (a b : D) : Bool := !PySem.W.dataLt b.py a.py
theorem leD_eq : leD = PySem.W.dataLe false D.py := by
  funext a b
  rw [PySem.W.dataLe_eq]
  rfl
def sortD (ds : List D) : List D := isortD leD ds
theorem sortD_eq (ds : List D) : sortD ds = ds.mergeSort (PySem.W.dataLe false D.py) := by
  unfold sortD
  rw [leD_eq]
  exact isort_eq (PySem.W.sortLe_total _ _ _) ds

/-! ### what can be sorted -/
def hdTup : PyData → Bool
  | .tuple (_ :: _) => true
  | _ => false
section
variable {prog : Program} {w : World} {A : Around} {E : Value → Shared → Prop} {s : Shared}
theorem tup_firsts {M : Model} : ∀ {vs : List Value} {ds : List PyData}, PySem.W.EachIs (fun v d => ∃ as, Reads s.heap v d as) vs ds → (∀ d ∈ ds, ∃ xs, d = .tuple xs) →
    ∃ fs : List (Option Value), fs.map Option.isSome = ds.map hdTup ∧ ∀ {E : Value → Shared → Prop} {Q : List (Option Value) → Shared → Prop}, Q fs s → wpAny M A (vs.mapM firstOfTuple') Q E s
  | _, _, .nil, _ => ⟨[], rfl, fun h => by rw [List.mapM_nil]; exact wpAny_pure h⟩
  | _, _, .cons (a := v) (b := d) ⟨as, r⟩ t, ht => by
    obtain ⟨fs, h1, h2⟩ := tup_firsts (M := M) t fun d hd => ht d (List.mem_cons_of_mem _ hd)
    obtain ⟨xs, rfl⟩ := ht d (List.mem_cons_self ..)
    cases r with
    | @tuple a o us n _ _ ho hc hd hr =>
      refine ⟨us[0]? :: fs, ?_, fun {E Q} h => ?_⟩
      · rw [List.map_cons, List.map_cons, h1]
        congr 1
        rw [← Array.getElem?_toList]
        cases xs with
        | nil =>
          cases q : us.toList with
          | nil => rfl
          | cons => rw [q] at hr; cases hr
        | cons x xs =>
          cases q : us.toList with
          | nil => rw [q] at hr; cases hr
          | cons => rfl
      · rw [List.mapM_cons]
        refine wpAny_bind ?_
        rw [PySem.W.kas_first_eq]
        refine wpAny_bind (PySem.W.Looks.here (show PySem.W.Looks M s.heap (typeOf (.ref a)) o.cls from (PySem.W.Looks.ld ho).andThen .now) ?_)
        rw [hc, if_neg (by first | decide | simp)]
        refine wpAny_bind (listItems_at ho hd (wpAny_pure ?_))
        exact wpAny_bind (h2 (wpAny_pure h))
theorem call_tuple_lt {Q : Value → Shared → Prop} {l b : Addr} {items items2 : Array Value} {e r : Nat → Bool} (hl : s.heap.IsTuple l items) (hb : s.heap.IsTuple b items2)
    (he : ∀ j (h1 : j < items.size) (h2 : j < items2.size), SeqAt.EqAt A.in1 s items[j] items2[j] (e j)) (hr : ∀ j (h1 : j < items.size) (h2 : j < items2.size), e j = false → SeqAt.RcLt A.in1 s items[j] items2[j] (r j))
    (h : Q (.bool (SeqAt.firstLt e r (decide (items.size < items2.size)) (List.range (min items.size items2.size)))) s) : wpAny (model prog w) A (call (.builtin "tuple.__lt__") [.ref l, .ref b]) Q E s := by
  obtain ⟨⟨cls, dd, data, sl⟩, ho, hc, n, hd⟩ := id hl
  obtain ⟨⟨cls2, dd2, data2, sl2⟩, ho2, hc2, n2, hd2⟩ := id hb
  simp only at hc hd hc2 hd2
  subst hc hd hc2 hd2
  exact call_meets F.slot_tuple_lt ⟨_, ho, rfl⟩ F.entry_tuple_lt (F.args_tuple_lt_2 _ _) (SeqAt.tuple_ltAt l b items items2 n n2 dd dd2 sl sl2 e r) ⟨ho, ho2, he, hr, h⟩
theorem oneLt_tup {xs ys : List PyData} {a b : Value} {as bs : List Addr} {Q : Bool → Shared → Prop} (ra : Reads s.heap a (.tuple xs) as) (rb : Reads s.heap b (.tuple ys) bs) (h : PySem.W.alike (.tuple xs) (.tuple ys) = true)
    (hu : A.units + min (PyData.tuple xs).depth (PyData.tuple ys).depth < cLine) (hq : Q (PySem.W.dataLt (.tuple xs) (.tuple ys)) s) : wpAny (model prog w) A (oneLt' true a b) Q E s := by
  have hal : PySem.W.alikeAll xs ys = true := by simpa [PySem.W.alike] using h
  cases ra with
  | @tuple l o vs n _ as₁ h1 h2 h3 h4 =>
    cases rb with
    | @tuple l' o' vs' n' _ bs₁ k1 k2 k3 k4 =>
      have n1 : vs.size = xs.length := by simpa using SeqAt.ReadsAll.length _ _ _ h4
      have n2 : vs'.size = ys.length := by simpa using SeqAt.ReadsAll.length _ _ _ k4
      rw [PySem.W.dataLt_tuple, ← PySem.W.firstLt_toks xs ys hal, ← n1, ← n2] at hq
      rw [oneLt'_eq]
      simp only [if_true]
      refine wpAny_bind (wpAny_cRoomFor (SeqAt.room_here hu) ?_)
      refine wpAny_bind (wpAny_callSpecialIfBound?_slot (T := "tuple") ⟨_, h1, h2⟩ F.slot_tuple_lt (call_tuple_lt (e := SeqAt.pairEq xs ys) (r := fun j => PySem.W.dataLt (xs.getD j .none) (ys.getD j .none)) ⟨_, h1, h2, _, h3⟩ ⟨_, k1, k2, _, k3⟩ (fun j j1 j2 => ?_) (fun j j1 j2 hj => ?_) ?_))
      · have := PySem.W.eqAt_alikeAll xs ys A.in1 s vs.toList vs'.toList _ _ h4 k4 hal (SeqAt.room_in hu) j (by simpa using j1) (by simpa using j2)
        simpa using this
      · have := PySem.W.rcLt_alikeAll xs ys A.in1 s vs.toList vs'.toList _ _ h4 k4 hal (SeqAt.room_in hu) j (by simpa using j1) (by simpa using j2) hj
        simpa using this
      · exact wpAny_truthy_bool hq
/-- alike things that are not None can be sorted -/
theorem sortsAt_any {vs : List Value} {ds : List PyData} (e : PySem.W.EachIs (fun v d => ∃ as, Reads s.heap v d as) vs ds) (hal : PySem.W.AllAlike ds) (hn : ∀ d ∈ ds, d ≠ .none) (hu : ∀ d, d ∈ ds → A.units + d.depth < cLine) : PySem.W.SortsAt prog w A s (PySem.W.dataKind s.heap ds) vs := by
  by_cases ht : ∀ d ∈ ds, ∃ xs, d = .tuple xs
  · by_cases hf : ∀ d ∈ ds, hdTup d = true
    · refine PySem.W.SortsAt.data e hal (.inl fun d hd => ?_) hu
      have := hf d hd
      obtain ⟨xs, rfl⟩ := ht d hd
      cases xs with
      | nil => simp [hdTup] at this
      | cons x xs => exact ⟨x, xs, rfl⟩
    · have room : ∀ {d d' : PyData}, d ∈ ds → A.units + min d.depth d'.depth < cLine := fun {d d'} hd => Nat.lt_of_le_of_lt (Nat.add_le_add_left (Nat.min_le_left _ _) _) (hu d hd)
      refine ⟨fun v hv => ?_, ?_⟩
      · obtain ⟨d, hd, as, r⟩ := e.left v hv
        exact ⟨_, PySem.W.dataKind_some hal hd r⟩
      · cases ds with
        | nil => exact absurd (fun d hd => absurd hd (by simp)) hf
        | cons d0 ds0 =>
          have some_none : ∀ (fs : List (Option Value)), fs.map Option.isSome = (d0 :: ds0).map hdTup → (fs.toArray.all fun x => x.isSome) = false := fun fs h => by
            cases q : fs.toArray.all fun x => x.isSome with
            | false => rfl
            | true =>
              refine absurd (fun d hd => ?_) hf
              have q2 : (fs.map Option.isSome).all id = true := by
                rw [List.all_toArray] at q
                rw [List.all_map]
                exact q
              rw [h, List.all_map, List.all_eq_true] at q2
              exact q2 d hd
          by_cases h0 : hdTup d0 = true
          · refine ⟨general', ?_, fun h2 E Q hq => ?_⟩
            · intro E x y a b Q ha hb hq
              obtain ⟨d, as, hd, ra, rfl⟩ := PySem.W.dataKind_inv ha
              obtain ⟨d', as', hd', rb, rfl⟩ := PySem.W.dataKind_inv hb
              show wpAny _ _ (oneLt' false x y) _ _ _
              exact PySem.W.oneLt_alike (fun z => by cases z) ra rb (hal d hd d' hd') (hn d hd) (room hd) hq
            · obtain ⟨fs, h1, h2⟩ := tup_firsts (A := A) (M := model prog w) e ht
              rw [keyKind'_eq, List.mapM_toArray, map_eq_pure_bind]
              refine wpAny_bind (wpAny_bind (h2 (wpAny_pure ?_)))
              rw [if_neg (by rw [some_none fs h1]; exact Bool.false_ne_true)]
              cases fs with
              | nil => simp at h1
              | cons f fs =>
                have q : f.isSome = true := by
                  have := (List.cons.inj h1).1
                  rw [this, h0]
                rw [if_pos (by simpa using q)]
                exact wpAny_pure hq
          · refine ⟨oneType', ?_, fun h2 E Q hq => ?_⟩
            · intro E x y a b Q ha hb hq
              obtain ⟨d, as, hd, ra, rfl⟩ := PySem.W.dataKind_inv ha
              obtain ⟨d', as', hd', rb, rfl⟩ := PySem.W.dataKind_inv hb
              rw [keyLt'_oneType]
              obtain ⟨xs, rfl⟩ := ht d hd
              obtain ⟨ys, rfl⟩ := ht d' hd'
              exact oneLt_tup ra rb (hal _ hd _ hd') (room hd) hq
            · obtain ⟨fs, h1, h2'⟩ := tup_firsts (A := A) (M := model prog w) e ht
              rw [keyKind'_eq, List.mapM_toArray, map_eq_pure_bind]
              refine wpAny_bind (wpAny_bind (h2' (wpAny_pure ?_)))
              rw [if_neg (by rw [some_none fs h1]; exact Bool.false_ne_true)]
              have f0 : (fs.toArray[0]?.bind id).isSome = false := by
                cases fs with
                | nil => rfl
                | cons f fs =>
                  have := (List.cons.inj h1).1
                  have h0 : hdTup d0 = false := by simpa using h0
                  rw [h0] at this
                  simpa using this
              rw [if_neg (by rw [f0]; exact Bool.false_ne_true), oneTypeOnly'_eq, List.mapM_toArray, map_eq_pure_bind]
              refine wpAny_bind (wpAny_bind (wpAny_bind (PySem.W.kas_mapM (r := Value.type "tuple") _ (fun v hv Q' hq => PySem.W.Looks.here ?_ hq) (wpAny_pure ?_))))
              · obtain ⟨d, hd, as, r⟩ := e.left v hv
                obtain ⟨xs, rfl⟩ := ht d hd
                exact PySem.W.looks_reads r
              · have hall : ((List.map (fun _ => Value.type "tuple") vs).toArray.all fun x => x == Value.type "tuple") = true := by
                  simp only [List.all_toArray, List.all_map, List.all_eq_true]
                  intro _ _
                  rfl
                have h0 : (List.map (fun _ => Value.type "tuple") vs).toArray[0]? = some (Value.type "tuple") := by
                  cases vs with
                  | nil => simp at h2
                  | cons => simp
                rw [h0]
                simp only [hall, if_true]
                exact wpAny_pure (wpAny_pure hq)
  · refine PySem.W.SortsAt.data e hal (.inr fun d hd => ⟨hn d hd, fun xs z => ht fun d' hd' => ?_⟩) hu
    subst z
    have := hal _ hd d' hd'
    cases d' <;> first | exact ⟨_, rfl⟩ | simp [PySem.W.alike] at this
end
end DS
/-! DSm: sorted(list), sorted(dict), as calls. -/
namespace DS
open PySem PySem.Spec PyProof.Rows L2

section
variable {X : Cx} {pins : List (Addr × Obj)} {σ : L2.St} {H : Hp} {s : Shared}
/-- the sorted things, beside what they stand for -/
abbrev srtB (bs : List (V × PyData)) : List (V × PyData) := bs.mergeSort (PySem.W.dataLe false (·.2))
theorem each_of_vals : ∀ {bs : List (V × PyData)} {us : List Value}, Inv X pins σ H s → Vals (bs.map (·.1)) us → (∀ b ∈ bs, Dp X.K H b.1 b.2) → PySem.W.EachIs (fun u b => RelV b.1 u ∧ ∃ as, Reads s.heap u b.2 as) us bs
  | [], _, I, r, h => by cases r; exact .nil
  | b :: bs, _, I, r, h => by
    cases r with
    | cons r1 r2 =>
      obtain ⟨as, q⟩ := Dp.reads I b.2 b.1 _ (h b (by simp)) r1
      exact .cons ⟨r1, as, q⟩ (each_of_vals I r2 fun b hb => h b (by simp [hb]))
theorem vals_of_each : ∀ {bs : List (V × PyData)} {us : List Value}, PySem.W.EachIs (fun u (b : V × PyData) => RelV b.1 u) us bs → Vals (bs.map (·.1)) us
  | _, _, .nil => .nil
  | _, _, .cons h t => .cons h (vals_of_each t)
theorem each_len {α β : Type} {R : α → β → Prop} : ∀ {xs : List α} {ys : List β}, PySem.W.EachIs R xs ys → xs.length = ys.length
  | _, _, .nil => rfl
  | _, _, .cons _ t => by simp [each_len t]
structure SrtOk (K : PySem.W.Frag) (H : Hp) (bs : List (V × PyData)) : Prop where
  dp : ∀ b ∈ bs, Dp K H b.1 b.2
  al : PySem.W.AllAlike (bs.map (·.2))
  nn : ∀ b ∈ bs, b.2 ≠ .none ∧ b.2.depth ≤ 60
  le : bs.length ≤ sizeLine
def rSortL (K : PySem.W.Frag) : List V → Hp → VK → Prop := fun xs H Q => ∃ (p : Addr) (bs : List (V × PyData)), xs = [.ref p] ∧ SqL K H p (bs.map (·.1)) ∧ SrtOk K H bs ∧ ∀ q, H q = none → Q (.ref q) (upd H q (.lst ((srtB bs).map (·.1))))
theorem cr_sortL (hu : X.A.units + 100 < cLine) : CallR X (.builtin "sorted") (rSortL X.K) := by
  intro pins s σ H xs us Q I r h
  obtain ⟨p, bs, rfl, hq, ok, q⟩ := h
  rw [Vals.ref1 r]
  obtain ⟨its, rv, pl, hz⟩ := I.list hq
  have e := each_of_vals I rv ok.dp
  have hl : its.length = bs.length := each_len e
  have er' : PySem.W.EachIs (fun u (b : V × PyData) => ∃ as, Reads (PySem.W.sortingHeap (PySem.W.copyHeap s.heap its) (s.heap.objs.size + 1) its) u b.2 as) its bs := e.mono fun _ _ ⟨_, as, r⟩ => ⟨as, PyProof.Rows.Reads.keeps (fun _ _ => PySem.W.sorting_copy_old) r⟩
  have nn : ∀ d ∈ bs.map (·.2), d ≠ PyData.none := fun d hd => by
    obtain ⟨b, hb, rfl⟩ := List.mem_map.mp hd
    exact (ok.nn b hb).1
  have room : ∀ d ∈ bs.map (·.2), X.A.in1.in1.units + d.depth < cLine := fun d hd => by
    obtain ⟨b, hb, rfl⟩ := List.mem_map.mp hd
    have := (ok.nn b hb).2
    show X.A.units + 1 + 1 + _ < _
    omega
  refine PySem.W.sorted_vals pl.isList (sortsAt_any (s := { s with heap := PySem.W.sortingHeap (PySem.W.copyHeap s.heap its) (s.heap.objs.size + 1) its }) (PySem.W.each_map (R := fun u d => ∃ as, Reads (PySem.W.sortingHeap (PySem.W.copyHeap s.heap its) (s.heap.objs.size + 1) its) u d as) (fun b : V × PyData => b.2) er') ok.al nn room) (by rw [hl]; exact ok.le) ?_
  have sv := PySem.W.sortVals_data (enc := fun b : V × PyData => b.2) false (e.mono fun _ _ h => h.1) er' ok.al
  have rv' := vals_of_each sv
  have hlen : ((srtB bs).map (·.1)).length ≤ sizeLine := by rw [List.length_map, List.length_mergeSort]; exact ok.le
  obtain ⟨c, hc⟩ := sortedAll_at s.heap its (PySem.W.sortVals (PySem.W.dataKind (PySem.W.sortingHeap (PySem.W.copyHeap s.heap its) (s.heap.objs.size + 1) its) (bs.map fun b : V × PyData => b.2)) false its its).toArray
  refine ⟨.ref (s.heap.objs.size + 1), _, I.laid (t' := s.toks) (fun b o e => sortedAll_old e) (Nat.le_succ _) (show ObjOk X.prog X.w _ _ _ (.lst ((srtB bs).map (·.1))) from ⟨hlen, _, c, rv', hc⟩), rfl, q _ (I.hok.fresh (Nat.le_succ _))⟩
/-- what is sorted when a new list of the things at hand is sorted -/
theorem sort_made {Q : Value → Shared → Prop} {h' : Heap} {tk : Nat} {its : List Value} {bs : List (V × PyData)} {E : Value → Shared → Prop} (hu : X.A.units + 100 < cLine) (I : Inv X pins σ H { s with heap := h', toks := tk }) (rv : Vals (bs.map (·.1)) its) (ok : SrtOk X.K H bs)
    (q : ∀ s', Inv X pins σ (upd H h'.objs.size (.lst ((srtB bs).map (·.1)))) s' → Q (.ref h'.objs.size) s') :
    wpAny (model X.prog X.w) X.A.in1.in1 (Builtin.«list.sort» ⟨[.ref h'.objs.size], []⟩) (fun f s' => f = .done (.ret .none) ∧ Q (.ref h'.objs.size) s') E { s with heap := h'.push (seqObj "list" its.toArray 0), toks := tk } := by
  have e := each_of_vals I rv ok.dp
  have hl : its.length = bs.length := each_len e
  have old : ∀ b o, h'.get? b = some o → (PySem.W.sortingHeap (h'.push (seqObj "list" its.toArray 0)) h'.objs.size its).get? b = some o := fun b o e => PySem.W.sortingHeap_old (Nat.ne_of_lt (Heap.lt_size e)) (Heap.get?_push_of_some _ e)
  have er' : PySem.W.EachIs (fun u (b : V × PyData) => ∃ as, Reads (PySem.W.sortingHeap (h'.push (seqObj "list" its.toArray 0)) h'.objs.size its) u b.2 as) its bs := e.mono fun _ _ ⟨_, as, r⟩ => ⟨as, PyProof.Rows.Reads.keeps old r⟩
  have nn : ∀ d ∈ bs.map (·.2), d ≠ PyData.none := fun d hd => by
    obtain ⟨b, hb, rfl⟩ := List.mem_map.mp hd
    exact (ok.nn b hb).1
  have room : ∀ d ∈ bs.map (·.2), X.A.in1.in1.units + d.depth < cLine := fun d hd => by
    obtain ⟨b, hb, rfl⟩ := List.mem_map.mp hd
    have := (ok.nn b hb).2
    show X.A.units + 1 + 1 + _ < _
    omega
  have hat : (h'.push (seqObj "list" its.toArray 0)).get? h'.objs.size = some (seqObj "list" its.toArray 0) := Heap.get?_push_size _ rfl
  refine PySem.W.list_sort_vals (s := { s with heap := h'.push (seqObj "list" its.toArray 0), toks := tk }) hat
    (sortsAt_any (s := { s with heap := PySem.W.sortingHeap (h'.push (seqObj "list" its.toArray 0)) h'.objs.size its, toks := tk }) (PySem.W.each_map (R := fun u d => ∃ as, Reads (PySem.W.sortingHeap (h'.push (seqObj "list" its.toArray 0)) h'.objs.size its) u d as) (fun b : V × PyData => b.2) er') ok.al nn room) (by rw [hl]; exact ok.le) ⟨rfl, q _ ?_⟩
  have sv := PySem.W.sortVals_data (enc := fun b : V × PyData => b.2) false (e.mono fun _ _ h => h.1) er' ok.al
  have rv' := vals_of_each sv
  have hlen : ((srtB bs).map (·.1)).length ≤ sizeLine := by rw [List.length_map, List.length_mergeSort]; exact ok.le
  obtain ⟨c, hc⟩ := sortedHeap_at (vs := its) (out := (PySem.W.sortVals (PySem.W.dataKind (PySem.W.sortingHeap (h'.push (seqObj "list" its.toArray 0)) h'.objs.size its) (bs.map fun b : V × PyData => b.2)) false its its).toArray) hat
  refine I.laid (t' := tk) (fun b o e => ?_) (Nat.le_refl _) (show ObjOk X.prog X.w _ _ _ (.lst ((srtB bs).map (·.1))) from ⟨hlen, _, c, rv', hc⟩)
  have hb : b < h'.objs.size := Heap.lt_size e
  show (sortedHeap (h'.push (seqObj "list" its.toArray 0)) h'.objs.size its _).get? b = _
  rw [sortedHeap_old (Nat.ne_of_lt hb) (by rw [size_push']; exact Nat.lt_succ_of_lt hb)]
  exact Heap.get?_push_of_some _ e
theorem dp_intL {K : PySem.W.Frag} {H : Hp} : ∀ k : List Int, DpAll K H (k.map V.int) (k.map PyData.int)
  | [] => .nil
  | a :: r => .cons (.int a) (dp_intL r)
theorem vals_ref' : ∀ (xs : List (List Int × Addr × Value)), Vals (xs.map fun q => V.ref q.2.1) (xs.map fun q => Value.ref q.2.1)
  | [] => .nil
  | _ :: r => .cons rfl (vals_ref' r)
/-- the items of such a dict's entries, collected -/
theorem xkeys_of {es : Array DictEntry} {xs : List (List Int × Addr × Value)} (he : es.toList = xs.map xent) {acc : Array Value} (it : ItemsOf (fun i v => ∃ en : DictEntry, es[i]? = some en ∧ v = en.key) acc es.size) : acc.toList = xs.map fun q => Value.ref q.2.1 := by
  have l1 : es.size = xs.length := by rw [← Array.length_toList, he, List.length_map]
  have hl : acc.toList.length = xs.length := by rw [Array.length_toList, it.1]; exact l1
  apply List.ext_getElem?
  intro j
  rw [List.getElem?_map]
  cases hj : acc.toList[j]? with
  | none =>
    have h1 := List.getElem?_eq_none_iff.mp hj
    rw [List.getElem?_eq_none (by omega)]
    all_goals rfl
  | some v =>
    obtain ⟨en, hen, hv⟩ := it.2 j v (by rw [← Array.getElem?_toList]; exact hj)
    have qe : es.toList[j]? = some en := by rw [Array.getElem?_toList]; exact hen
    rw [he, List.getElem?_map] at qe
    obtain ⟨x, hx, e2⟩ := Option.map_eq_some_iff.mp qe
    rw [hx, hv, ← e2]
    rfl
/-- sorted(d), d's keys tuples -/
def rSortXD (K : PySem.W.Frag) : List V → Hp → VK → Prop := fun xs H Q => ∃ (a : Addr) (ents : List (List Int × Addr × Value)), xs = [.ref a] ∧ XAt K H a ents ∧ PySem.W.AllAlike (ents.map fun q => .tuple (q.1.map PyData.int)) ∧
  ∀ q, H q = none → Q (.ref q) (upd H q (.lst ((srtB (ents.map fun b => (V.ref b.2.1, PyData.tuple (b.1.map PyData.int)))).map (·.1))))
theorem cr_sortXD (hc : X.calm = true) (hu : X.A.units + 100 < cLine) : CallR X (.builtin "sorted") (rSortXD X.K) := by
  intro pins s σ H xs us Q I r h
  obtain ⟨d, ents, rfl, hx, hal, q⟩ := h
  rw [Vals.ref1 r]
  obtain ⟨⟨z, hs, o, es, ep, ho, hex, hdt, he, hn⟩, _, _⟩ := (show ObjOk X.prog X.w H s.heap d (XD d ents) from hx.cell.ok I.hok)
  have l1 : es.size = ents.length := by rw [← Array.length_toList, he, List.length_map]
  refine Calls.call_function_entry PyProof.Rows.kind_sorted PyProof.Rows.plain_sorted PyProof.Rows.entry_sorted (PyProof.Rows.args_sorted1 _) ?_
  unfold Builtin.«sorted»
  refine wpAny_bind (m := checkCount "sorted" 1 1 _) (wpAny_pure ?_)
  refine wpAny_bind (PySem.W.kdu_collect (A := X.A.in1) (kdl_raw hs hex hdt) (I.ok.hd hc) ho (by rw [l1]; exact z) fun h' tk acc hk hacc => ?_)
  rw [xkeys_of he hacc]
  have I1 : Inv X pins σ H { s with heap := h', toks := tk } := I.kept hk
  refine wpAny_bind (wpAny_newList ?_ (by rw [List.length_map]; exact z))
  have hoL : (h'.push (seqObj "list" (ents.map fun q => Value.ref q.2.1).toArray 0)).get? h'.objs.size = some (seqObj "list" (ents.map fun q => Value.ref q.2.1).toArray 0) := Heap.get?_push_size _ rfl
  show wpAny _ _ _ _ _ { s with heap := h'.push (seqObj "list" (ents.map fun q => Value.ref q.2.1).toArray 0), toks := tk }
  refine wpAny_bind (wpAny_holding (wpAny_call_entry PyProof.Rows.slot_list_sort ⟨_, hoL, rfl⟩ PyProof.Rows.entry_list_sort ?body (PyProof.Rows.args_list_sort _)))
  case body =>
    have eB : (ents.map fun b => (V.ref b.2.1, PyData.tuple (b.1.map PyData.int))).map (·.1) = ents.map fun q => V.ref q.2.1 := by rw [List.map_map]; rfl
    have eD : (ents.map fun b => (V.ref b.2.1, PyData.tuple (b.1.map PyData.int))).map (·.2) = ents.map fun q => PyData.tuple (q.1.map PyData.int) := by rw [List.map_map]; rfl
    refine wpAny_mono (sort_made (Q := fun v s' => EP X pins σ Q v s') (bs := ents.map fun b => (V.ref b.2.1, PyData.tuple (b.1.map PyData.int))) hu I1 (by rw [eB]; exact vals_ref' _) ⟨fun b hb => ?_, by rw [eD]; exact hal, fun b hb => ?_, by rw [List.length_map]; exact z⟩ fun s' I' => ?_) (fun f s' hf => ?_) fun _ _ e => e
    · obtain ⟨x, hxm, rfl⟩ := List.mem_map.mp hb
      exact .tup (hx.keys x hxm) (dp_intL _)
    · obtain ⟨x, hxm, rfl⟩ := List.mem_map.mp hb
      refine ⟨(fun z => nomatch z), ?_⟩
      show (PyData.tuple (x.1.map PyData.int)).depth ≤ 60
      rw [PyData.depth, PySem.W.depth_ints]; decide
    · exact ⟨.ref h'.objs.size, _, I', rfl, q _ (I1.hok.fresh (Nat.le_refl _))⟩
    · obtain ⟨rfl, hq⟩ := hf
      exact ⟨_, rfl, wpAny_pure ⟨_, rfl, hq⟩⟩
end
end DS
/-! DSn: built-in functions over plain data. -/
namespace DS
open PySem PySem.Spec PyProof.Rows L2

/-- a built-in function, by values, over plain data -/
def CbS (K : PySem.W.Frag) (r : List V → Hp → VK → Prop) (h : List D → Option D) (m n : Nat) : Prop := ∀ (g : G) (H : Hp) (S : Pots) (vs : List V) (ds : List D) (z : D) (Q : VK), Ok g H S → All2 (RB K g H m) ds vs → h ds = some z →
  (∀ g' H' v, Ok g' H' S → Grow g H g' H' → RN K g' H [] H' n z v → Q v H') → r vs H Q
def apL (h : List D → Option D) (fs : Env' → M (List D)) : Env' → M D := fun ρ => do let ds ← fs ρ; liftO (h ds)
def uno (h : D → Option D) : List D → Option D
  | [d] => h d
  | _ => none
def duo (h : D → D → Option D) : List D → Option D
  | [d, e] => h d e
  | _ => none
section
variable {C : Ctx} {e a b c tg iter elt : Expr} {es rest ifs : List Expr} {m m1 m2 m3 n : Nat} {f fa fb fc fe : Env' → M D} {fs : Env' → M (List D)} {ta tb tc : Env' → M Bool} {pos p p1 p2 p3 apos cpos : Pos} {x : Str} {id T : String}
theorem de_cb {r : List V → Hp → VK → Prop} {h : List D → Option D} (hc : ∀ i, CallR (C.X i) (.builtin id) r) (hs : CbS C.K r h m n) (T : Std C) (hm : C.mg x = none) (hv : bootBuiltins x = some (.builtin id)) (ha : DA C (e :: es) m fs) (hg : ∀ i, Gl (C.X i) x := by intro _; rfl) (hn : x ≠ "__name__" := by decide) (hdb : (x == ("__debug__" : Str)) = false := by decide)
    (he : ∀ i, starEach (e :: es) (C.X i).env = (false, eval e (C.X i).env) :: starEach es (C.X i).env := by intro _; rfl) (hpl : ∀ i, (backTo pos (starEach es (C.X i).env)).any (·.1) = false := by intro _; rfl) : DE C (.Call (.Name x p) (e :: es) [] pos) n (apL h fs) := by
  obtain ⟨t, pa, s⟩ := ha
  refine ⟨tCB r t, fun i => pe_callB (hc i) (hg i) (by rw [T.mg i]; exact hm) hv (pa i) hn hdb (he i) (hpl i), fun g H S ρ σ A Q st hp => ?_⟩
  refine s g H S ρ σ A _ st ((post_bind.mp hp).mono (fun ds S1 q1 g1 H1 vs ok1 gr1 r1 => ?_) fun _ _ z => z)
  obtain ⟨z, ez, q⟩ := post_lift q1
  exact hs g1 H1 S1 vs ds z Q ok1 r1 ez fun g' H' v ok gr rn => q g' H' v ok (gr1.trans gr) (rn.back gr1)
theorem de_ct {r : List V → Hp → VK → Prop} {h : List D → Option D} (hc : ∀ i, CallR (C.X i) (.type T) r) (hs : CbS C.K r h m n) (TT : Std C) (hm : C.mg x = none) (hv : bootBuiltins x = some (.type T)) (ha : DA C (e :: es) m fs) (hg : ∀ i, Gl (C.X i) x := by intro _; rfl) (hn : x ≠ "__name__" := by decide) (hdb : (x == ("__debug__" : Str)) = false := by decide)
    (he : ∀ i, starEach (e :: es) (C.X i).env = (false, eval e (C.X i).env) :: starEach es (C.X i).env := by intro _; rfl) (hpl : ∀ i, (backTo pos (starEach es (C.X i).env)).any (·.1) = false := by intro _; rfl) : DE C (.Call (.Name x p) (e :: es) [] pos) n (apL h fs) := by
  obtain ⟨t, pa, s⟩ := ha
  refine ⟨tCB r t, fun i => pe_callTy (hc i) (hg i) (by rw [TT.mg i]; exact hm) hv (pa i) hn hdb (he i) (hpl i), fun g H S ρ σ A Q st hp => ?_⟩
  refine s g H S ρ σ A _ st ((post_bind.mp hp).mono (fun ds S1 q1 g1 H1 vs ok1 gr1 r1 => ?_) fun _ _ z => z)
  obtain ⟨z, ez, q⟩ := post_lift q1
  exact hs g1 H1 S1 vs ds z Q ok1 r1 ez fun g' H' v ok gr rn => q g' H' v ok (gr1.trans gr) (rn.back gr1)
theorem CbS.uno {K : PySem.W.Frag} {r : List V → Hp → VK → Prop} {h : D → Option D} (q : ∀ (g : G) (H : Hp) (S : Pots) (v : V) (d z : D) (Q : VK), Ok g H S → RB K g H m d v → h d = some z → (∀ g' H' v, Ok g' H' S → Grow g H g' H' → RN K g' H [] H' n z v → Q v H') → r [v] H Q) : CbS K r (DS.uno h) m n := by
  intro g H S vs ds z Q ok hr hz k
  cases hr with
  | nil => cases hz
  | cons h1 h2 =>
    cases h2 with
    | nil => exact q g H S _ _ z Q ok h1 hz k
    | cons => cases hz
theorem CbS.duo {K : PySem.W.Frag} {r : List V → Hp → VK → Prop} {h : D → D → Option D} (q : ∀ (g : G) (H : Hp) (S : Pots) (v w : V) (d e z : D) (Q : VK), Ok g H S → RB K g H m d v → RB K g H m e w → h d e = some z → (∀ g' H' v, Ok g' H' S → Grow g H g' H' → RN K g' H [] H' n z v → Q v H') → r [v, w] H Q) : CbS K r (DS.duo h) m n := by
  intro g H S vs ds z Q ok hr hz k
  cases hr with
  | nil => cases hz
  | cons h1 h2 =>
    cases h2 with
    | nil => cases hz
    | cons h2 h3 =>
      cases h3 with
      | nil => exact q g H S _ _ _ _ z Q ok h1 h2 hz k
      | cons => cases hz

/-! ### len -/
def dLen : D → Option D
  | .lst ds => some (.int ds.length)
  | .tup ds => some (.int ds.length)
  | .str x => if x.length ≤ LIM then some (.int x.length) else none
  | .dict _ _ vs => some (.int vs.length)
  | .scr ns => some (.int ns.length)
  | _ => none
theorem cs_len {K : PySem.W.Frag} : CbS K (rLenD K) (uno dLen) (m + 1) 0 := by
  refine CbS.uno fun g H S v d z Q ok hr hz k => ?_
  have fin : ∀ n : Nat, z = .int n → Q (.int n) H := fun n e => by subst e; exact k g H _ ok GrowA.refl (RN.flat rfl rfl)
  cases d <;> simp only [dLen, reduceCtorEq, Option.some.injEq] at hz
  case str x =>
    split at hz
    · rename_i hl
      cases hz
      cases (show v = .str x from RB.flat rfl hr)
      exact .inl ⟨_, x.length, rfl, ⟨by rw [← lim_eq]; exact hl, rfl⟩, fin _ rfl⟩
    · cases hz
  case lst ds =>
    subst hz
    obtain ⟨a, vs, rfl, h1, h2⟩ := RB.lst hr
    exact .inl ⟨_, ds.length, rfl, .inl ⟨vs, SqL.of h1, h2.length⟩, fin _ rfl⟩
  case tup ds =>
    subst hz
    obtain ⟨a, vs, rfl, h1, h2⟩ := RB.tup ok hr
    exact .inl ⟨_, ds.length, rfl, .inr ⟨vs, h1.sq, h2.length⟩, fin _ rfl⟩
  case scr ns =>
    subst hz
    obtain ⟨a, rfl, h1⟩ := RB.rp ok _ (.scr ns) _ hr
    refine .inl ⟨_, ns.length, rfl, .inl ⟨ns.map V.int, ?_, by rw [List.length_map]⟩, fin _ rfl⟩
    rcases h1 with (h1 | ⟨p, h1⟩) | h1
    · exact .inl (.inl (off_in h1).2)
    · exact .inl (.inr ⟨p, (off_in h1).2⟩)
    · exact .inr h1
  case dict t ks vs =>
    subst hz
    obtain ⟨a, ws, o, rfl, h1, h2, h3⟩ := hr
    have h3 := off_rd h3
    rcases h2 with ⟨rfl, kk, e1, nd, el, rfl⟩ | ⟨rfl, xs, kr, e1, hx, rfl⟩
    · refine .inr (.inl ⟨a, _, rfl, h3, fin _ ?_⟩)
      rw [List.length_zip, el, Nat.min_self, h1.length]
    · refine .inr (.inr ⟨a, xs, rfl, ⟨h3, xat_keys ok kr e1⟩, fin _ ?_⟩)
      rw [← Paired.length hx, h1.length]
theorem de_len (T : Std C) (hm : C.mg "len" = none) (ha : DB C a 1 fa) (hg : ∀ i, Gl (C.X i) "len" := by intro _; rfl) (he : ∀ i, starEach [a] (C.X i).env = (false, eval a (C.X i).env) :: starEach [] (C.X i).env := by intro _; rfl) :
    DE C (.Call (.Name "len" p) [a] [] pos) 0 (apL (uno dLen) (consM fa fun _ => pure [])) :=
  de_cb (id := "len") (r := rLenD C.K) (fun i => by rw [← T.k i]; exact cr_lenD) cs_len T hm PySem.boot_len (da_cons ha da_nil he) hg (he := he)

/-! ### abs, max, min, int -/
def rAbsD : List V → Hp → VK → Prop := fun xs H Q => ∃ i, xs = [.int i] ∧ Q (.int (if i < 0 then -i else i)) H
def rMaxD : List V → Hp → VK → Prop := fun xs H Q => ∃ i j, xs = [.int i, .int j] ∧ Q (.int (if j > i then j else i)) H
def rMinD : List V → Hp → VK → Prop := fun xs H Q => ∃ i j, xs = [.int i, .int j] ∧ Q (.int (if j < i then j else i)) H
def rIntD : List V → Hp → VK → Prop := fun xs H Q => (∃ i, xs = [.int i] ∧ Q (.int i) H) ∨ ∃ k, xs = [.bl k] ∧ Q (.int (if k then 1 else 0)) H
def rListOf (K : PySem.W.Frag) : List V → Hp → VK → Prop := fun xs H Q => ∃ p ys, xs = [.ref p] ∧ (SqL K H p ys ∨ SqT K H p ys) ∧ ∀ l, H l = none → Q (.ref l) (upd H l (.lst ys))
def dAbs : D → Option D
  | .int i => some (.int (if i < 0 then -i else i))
  | _ => none
theorem de_abs (T : Std C) (hm : C.mg "abs" = none) (ha : DB C a 0 fa) (hg : ∀ i, Gl (C.X i) "abs" := by intro _; rfl) (he : ∀ i, starEach [a] (C.X i).env = (false, eval a (C.X i).env) :: starEach [] (C.X i).env := by intro _; rfl) :
    DE C (.Call (.Name "abs" p) [a] [] pos) 0 (apL (uno dAbs) (consM fa fun _ => pure [])) :=
  de_cb (id := "abs") (r := rAbsD) (fun i => call_abs) (CbS.uno fun g H S v d z Q ok hr hz k => by
    cases d <;> simp only [dAbs, reduceCtorEq, Option.some.injEq] at hz
    subst hz
    exact ⟨_, by rw [show v = _ from hr], k g H _ ok GrowA.refl (RN.flat rfl rfl)⟩) T hm (by decide +kernel) (da_cons ha da_nil he) hg (he := he)
def dMax : D → D → Option D := dII fun i j => some (.int (if j > i then j else i))
def dMin : D → D → Option D := dII fun i j => some (.int (if j < i then j else i))
theorem de_max2 (T : Std C) (hm : C.mg "max" = none) (ha : DA C [a, b] 0 fs) (hg : ∀ i, Gl (C.X i) "max" := by intro _; rfl) (he : ∀ i, starEach [a, b] (C.X i).env = (false, eval a (C.X i).env) :: starEach [b] (C.X i).env := by intro _; rfl) (hpl : ∀ i, (backTo pos (starEach [b] (C.X i).env)).any (·.1) = false := by intro _; rfl) :
    DE C (.Call (.Name "max" p) [a, b] [] pos) 0 (apL (duo dMax) fs) :=
  de_cb (id := "max") (r := rMaxD) (fun i => call_max2 (T.calm i)) (CbS.duo fun g H S v w d e z Q ok hr hr2 hz k => by
    cases d <;> cases e <;> simp only [dMax, dII, reduceCtorEq, Option.some.injEq] at hz
    subst hz
    exact ⟨_, _, by rw [show v = _ from hr, show w = _ from hr2], k g H _ ok GrowA.refl (RN.flat rfl rfl)⟩) T hm (by decide +kernel) ha hg (he := he) (hpl := hpl)
theorem de_min2 (T : Std C) (hm : C.mg "min" = none) (ha : DA C [a, b] 0 fs) (hg : ∀ i, Gl (C.X i) "min" := by intro _; rfl) (he : ∀ i, starEach [a, b] (C.X i).env = (false, eval a (C.X i).env) :: starEach [b] (C.X i).env := by intro _; rfl) (hpl : ∀ i, (backTo pos (starEach [b] (C.X i).env)).any (·.1) = false := by intro _; rfl) :
    DE C (.Call (.Name "min" p) [a, b] [] pos) 0 (apL (duo dMin) fs) :=
  de_cb (id := "min") (r := rMinD) (fun i => call_min2 (T.calm i)) (CbS.duo fun g H S v w d e z Q ok hr hr2 hz k => by
    cases d <;> cases e <;> simp only [dMin, dII, reduceCtorEq, Option.some.injEq] at hz
    subst hz
    exact ⟨_, _, by rw [show v = _ from hr, show w = _ from hr2], k g H _ ok GrowA.refl (RN.flat rfl rfl)⟩) T hm (by decide +kernel) ha hg (he := he) (hpl := hpl)
def dInt : D → Option D
  | .int i => some (.int i)
  | .bl b => some (.int (if b then 1 else 0))
  | _ => none
theorem de_int (T : Std C) (hm : C.mg "int" = none) (ha : DB C a 0 fa) (hg : ∀ i, Gl (C.X i) "int" := by intro _; rfl) (he : ∀ i, starEach [a] (C.X i).env = (false, eval a (C.X i).env) :: starEach [] (C.X i).env := by intro _; rfl) :
    DE C (.Call (.Name "int" p) [a] [] pos) 0 (apL (uno dInt) (consM fa fun _ => pure [])) :=
  de_ct (T := "int") (r := rIntD) (fun i => call_int1) (CbS.uno fun g H S v d z Q ok hr hz k => by
    cases d <;> simp only [dInt, reduceCtorEq, Option.some.injEq] at hz
    · subst hz
      exact .inr ⟨_, by rw [show v = _ from hr], k g H _ ok GrowA.refl (RN.flat rfl rfl)⟩
    · subst hz
      exact .inl ⟨_, by rw [show v = _ from hr], k g H _ ok GrowA.refl (RN.flat rfl rfl)⟩) T hm (by decide +kernel) (da_cons ha da_nil he) hg (he := he)

/-! ### all, any -/
def blsOf : List D → Option (List Bool)
  | [] => some []
  | .bl b :: ds => (blsOf ds).map (b :: ·)
  | _ :: _ => none
theorem blsOf_v {K : PySem.W.Frag} {π : List Addr} {F : Hp} : ∀ {ds : List D} {bs : List Bool} {vs : List V}, blsOf ds = some bs → RpL K π F ds vs → vs = bs.map V.bl
  | [], bs, vs, h, r => by simp [blsOf] at h; subst h; exact r
  | d :: ds, bs, vs, h, r => by
    obtain ⟨v, q, rfl, r1, r2⟩ := r
    cases d <;> simp only [blsOf, reduceCtorEq, Option.map_eq_some_iff] at h
    obtain ⟨bs', h1, rfl⟩ := h
    rw [blsOf_v h1 r2, show v = _ from r1]; rfl
def dAll : D → Option D
  | .lst ds => (blsOf ds).map fun bs => .bl (bs.all fun b => b)
  | _ => none
def dAny : D → Option D
  | .lst ds => (blsOf ds).map fun bs => .bl (bs.any fun b => b)
  | _ => none
theorem de_all (T : Std C) (hm : C.mg "all" = none) (ha : DB C a 1 fa) (hg : ∀ i, Gl (C.X i) "all" := by intro _; rfl) (he : ∀ i, starEach [a] (C.X i).env = (false, eval a (C.X i).env) :: starEach [] (C.X i).env := by intro _; rfl) :
    DE C (.Call (.Name "all" p) [a] [] pos) 0 (apL (uno dAll) (consM fa fun _ => pure [])) :=
  de_cb (id := "all") (r := rAll C.K) (fun i => by rw [← T.k i]; exact cr_all (T.calm i)) (CbS.uno fun g H S v d z Q ok hr hz k => by
    cases d <;> simp only [dAll, reduceCtorEq, Option.map_eq_some_iff] at hz
    obtain ⟨bs, hb, rfl⟩ := hz
    obtain ⟨a, vs, rfl, h1, h2⟩ := RB.lst hr
    rw [blsOf_v hb h2.rpl] at h1
    exact ⟨a, bs, rfl, SqL.of h1, k g H _ ok GrowA.refl (RN.flat rfl rfl)⟩) T hm (by decide +kernel) (da_cons ha da_nil he) hg (he := he)
theorem de_any (T : Std C) (hm : C.mg "any" = none) (ha : DB C a 1 fa) (hg : ∀ i, Gl (C.X i) "any" := by intro _; rfl) (he : ∀ i, starEach [a] (C.X i).env = (false, eval a (C.X i).env) :: starEach [] (C.X i).env := by intro _; rfl) :
    DE C (.Call (.Name "any" p) [a] [] pos) 0 (apL (uno dAny) (consM fa fun _ => pure [])) :=
  de_cb (id := "any") (r := rAny C.K) (fun i => by rw [← T.k i]; exact cr_any (T.calm i)) (CbS.uno fun g H S v d z Q ok hr hz k => by
    cases d <;> simp only [dAny, reduceCtorEq, Option.map_eq_some_iff] at hz
    obtain ⟨bs, hb, rfl⟩ := hz
    obtain ⟨a, vs, rfl, h1, h2⟩ := RB.lst hr
    rw [blsOf_v hb h2.rpl] at h1
    exact ⟨a, bs, rfl, SqL.of h1, k g H _ ok GrowA.refl (RN.flat rfl rfl)⟩) T hm (by decide +kernel) (da_cons ha da_nil he) hg (he := he)

/-! ### list, tuple -/
def dListOf : D → Option D
  | .lst ds => some (.lst ds)
  | .tup ds => some (.lst ds)
  | _ => none
def dTupOf : D → Option D
  | .lst ds => some (.tup ds)
  | .tup ds => some (.tup ds)
  | _ => none
theorem de_listOf (T : Std C) (hm : C.mg "list" = none) (ha : DB C a 1 fa) (hg : ∀ i, Gl (C.X i) "list" := by intro _; rfl) (he : ∀ i, starEach [a] (C.X i).env = (false, eval a (C.X i).env) :: starEach [] (C.X i).env := by intro _; rfl) :
    DE C (.Call (.Name "list" p) [a] [] pos) 1 (apL (uno dListOf) (consM fa fun _ => pure [])) :=
  de_ct (T := "list") (r := rListOf C.K) (fun i => by rw [← T.k i]; exact call_list_of) (CbS.uno fun g H S v d z Q ok hr hz k => by
    cases d <;> simp only [dListOf, reduceCtorEq, Option.some.injEq] at hz
    · subst hz
      obtain ⟨a, vs, rfl, h1, h2⟩ := RB.tup ok hr
      refine ⟨a, vs, rfl, .inr h1.sq, fun l nl => ?_⟩
      obtain ⟨ok', gr⟩ := ok.new nl (o := .lst vs) (fun _ _ z => by cases z)
      exact k g _ _ ok' gr (RN.list ok h2 nl)
    · subst hz
      obtain ⟨a, vs, rfl, h1, h2⟩ := RB.lst hr
      refine ⟨a, vs, rfl, .inl (SqL.of h1), fun l nl => ?_⟩
      obtain ⟨ok', gr⟩ := ok.new nl (o := .lst vs) (fun _ _ z => by cases z)
      exact k g _ _ ok' gr (RN.list ok h2 nl)) T hm (by decide +kernel) (da_cons ha da_nil he) hg (he := he)
theorem de_tupOf (T : Std C) (hm : C.mg "tuple" = none) (ha : DB C a 1 fa) (hg : ∀ i, Gl (C.X i) "tuple" := by intro _; rfl) (he : ∀ i, starEach [a] (C.X i).env = (false, eval a (C.X i).env) :: starEach [] (C.X i).env := by intro _; rfl) :
    DE C (.Call (.Name "tuple" p) [a] [] pos) 0 (apL (uno dTupOf) (consM fa fun _ => pure [])) :=
  de_ct (T := "tuple") (r := rTupX C.K) (fun i => by rw [← T.k i]; exact call_tupX) (CbS.uno fun g H S v d z Q ok hr hz k => by
    cases d <;> simp only [dTupOf, reduceCtorEq, Option.some.injEq] at hz
    · subst hz
      have fl := RB.flat (d := .tup _) rfl hr
      obtain ⟨a, vs, rfl, h1, h2⟩ := RB.tup ok hr
      exact ⟨a, vs, rfl, .inr ⟨h1.sq, k g H _ ok GrowA.refl (RN.flat rfl fl)⟩⟩
    · subst hz
      obtain ⟨a, vs, rfl, h1, h2⟩ := RB.lst hr
      refine ⟨a, vs, rfl, .inl ⟨SqL.of h1, fun l ob hob nl => ?_⟩⟩
      obtain ⟨ok', gr⟩ := ok.newT nl ob vs
      exact k _ _ _ ok' gr (RN.tuple ok h2 nl hob)) T hm (by decide +kernel) (da_cons ha da_nil he) hg (he := he)
/-! list(range(..)), tuple(range(..)) -/
def DRg (C : Ctx) (e : Expr) (f : Env' → M (Int × Int)) : Prop :=
  ∃ t, (∀ i, PRg (C.X i) e t) ∧ ∀ (g : G) (H : Hp) (S : Pots) (ρ : Env') (σ : L2.St) (A : List Addr) (Q : Int → Int → Hp → Prop), Sto C.K g H S ρ σ A →
    (f ρ S).Post (fun p S' => ∀ g' H', Ok g' H' S' → Grow g H g' H' → Q p.1 p.2 H') (EX C g H σ) → t σ H Q
def rg1 (fa : Env' → M D) : Env' → M (Int × Int) := fun ρ => do let d ← fa ρ; let i ← liftO (asI d); pure (0, i)
def rg2 (fa fb : Env' → M D) : Env' → M (Int × Int) := fun ρ => do let d ← fa ρ; let e ← fb ρ; let i ← liftO (asI d); let j ← liftO (asI e); pure (i, j)
theorem drg1 (T : Std C) (ha : DB C a 0 fa) (hm : C.mg "range" = none) (hg : ∀ i, Gl (C.X i) "range" := by intro _; rfl) (he : ∀ i, starEach [a] (C.X i).env = (false, eval a (C.X i).env) :: starEach [] (C.X i).env := by intro _; rfl) : DRg C (.Call (.Name "range" p) [a] [] pos) (rg1 fa) := by
  obtain ⟨t, pa, s⟩ := ha
  refine ⟨tRg1 t, fun i => prg_1 (hg i) (by rw [T.mg i]; exact hm) (pa i) (he i), fun g H S ρ σ A Q st hp => ?_⟩
  refine s g H S ρ σ A _ st ((post_bind.mp hp).mono (fun d S1 q1 g1 H1 v ok1 gr1 r1 => ?_) fun _ _ z => z)
  obtain ⟨i, ei, q⟩ := post_lift (post_bind.mp q1)
  cases d <;> simp only [asI, reduceCtorEq, Option.some.injEq] at ei
  subst ei
  exact ⟨_, r1, q g1 H1 ok1 gr1⟩
theorem drg2 (T : Std C) (ha : DB C a 0 fa) (hb : DB C b 0 fb) (hm : C.mg "range" = none) (hg : ∀ i, Gl (C.X i) "range" := by intro _; rfl) (he : ∀ i, starEach [a, b] (C.X i).env = (false, eval a (C.X i).env) :: starEach [b] (C.X i).env := by intro _; rfl)
    (he2 : ∀ i, starEach [b] (C.X i).env = (false, eval b (C.X i).env) :: starEach [] (C.X i).env := by intro _; rfl) (hpl : ∀ i, (backTo pos (starEach [b] (C.X i).env)).any (·.1) = false := by intro _; rfl) : DRg C (.Call (.Name "range" p) [a, b] [] pos) (rg2 fa fb) := by
  obtain ⟨t, pa, s⟩ := ha
  obtain ⟨t2, pb, s2⟩ := hb
  refine ⟨tRg2 t t2, fun i => prg_2 (hg i) (by rw [T.mg i]; exact hm) (pa i) (pb i) (he i) (he2 i) (hpl i), fun g H S ρ σ A Q st hp => ?_⟩
  refine s g H S ρ σ A _ st ((post_bind.mp hp).mono (fun d S1 q1 g1 H1 v ok1 gr1 r1 => ?_) fun _ _ z => z)
  refine s2 g1 H1 S1 ρ σ A _ (st.grow ok1 gr1) ((post_bind.mp q1).mono (fun e S2 q2 g2 H2 w ok2 gr2 r2 => ?_) fun _ _ z => z.step gr1)
  obtain ⟨i, ei, q3⟩ := post_lift (post_bind.mp q2)
  obtain ⟨j, ej, q⟩ := post_lift (post_bind.mp q3)
  cases d <;> simp only [asI, reduceCtorEq, Option.some.injEq] at ei
  cases e <;> simp only [asI, reduceCtorEq, Option.some.injEq] at ej
  subst ei ej
  exact ⟨_, _, r1, r2, q g2 H2 ok2 (gr1.trans gr2)⟩
def rgD (a b : Int) : Option (List D) := if (-BIG ≤ a ∧ a < BIG) ∧ (-BIG ≤ b ∧ b < BIG) ∧ (b - a).toNat ≤ LIM then some (rngL a 1 (b - a).toNat) else none
theorem rgD_ok {a b : Int} {ds : List D} (h : rgD a b = some ds) : RgOk a b ∧ ds = rngL a 1 (b - a).toNat := by
  unfold rgD at h
  split at h
  · rename_i hc
    cases h
    rw [big_eq] at hc
    exact ⟨⟨hc.1.1, hc.1.2, hc.2.1.1, hc.2.1.2, hc.2.2⟩, rfl⟩
  · cases h
theorem rng_vals {R : D → V → Prop} (hR : ∀ i : Int, R (.int i) (.int i)) (a : Int) (n : Nat) : All2 R (rngL a 1 n) ((List.range n).map fun i => V.int (a + (i : Nat))) := by
  unfold rngL
  generalize List.range n = l
  induction l with
  | nil => exact .nil
  | cons x l ih =>
    rw [List.map_cons, List.map_cons]
    refine .cons ?_ ih
    rw [Int.mul_one]
    exact hR _
def lrgM (f : Env' → M (Int × Int)) : Env' → M D := fun ρ => do let p ← f ρ; let ds ← liftO (rgD p.1 p.2); pure (.lst ds)
def trgM (f : Env' → M (Int × Int)) : Env' → M D := fun ρ => do let p ← f ρ; let ds ← liftO (rgD p.1 p.2); pure (.tup ds)
theorem de_listRg (T : Std C) {fr : Env' → M (Int × Int)} (ha : DRg C a fr) (hm : C.mg "list" = none) (hg : ∀ i, Gl (C.X i) "list" := by intro _; rfl) (he : ∀ i, starEach [a] (C.X i).env = (false, eval a (C.X i).env) :: starEach [] (C.X i).env := by intro _; rfl) :
    DE C (.Call (.Name "list" p) [a] [] pos) 1 (lrgM fr) := by
  obtain ⟨t, pa, s⟩ := ha
  refine ⟨tLstRg t, fun i => pe_listRg (T.calm i) (hg i) (by rw [T.mg i]; exact hm) (pa i) (he i), fun g H S ρ σ A Q st hp => ?_⟩
  refine s g H S ρ σ A _ st ((post_bind.mp hp).mono (fun p S1 q1 g1 H1 ok1 gr1 => ?_) fun _ _ z => z)
  obtain ⟨ds, ed, q⟩ := post_lift (post_bind.mp q1)
  obtain ⟨ro, rfl⟩ := rgD_ok ed
  refine ⟨ro, fun l nl => ?_⟩
  obtain ⟨ok', gr⟩ := ok1.new nl (o := .lst (rgV p.1 p.2)) (fun _ _ z => by cases z)
  exact q g1 _ _ ok' (gr1.trans gr) (RN.back (RN.list ok1 (rng_vals (R := RB C.K g1 H1 0) (fun _ => rfl) _ _) nl) gr1)
theorem de_tupRg (T : Std C) {fr : Env' → M (Int × Int)} (ha : DRg C a fr) (hm : C.mg "tuple" = none) (hg : ∀ i, Gl (C.X i) "tuple" := by intro _; rfl) (he : ∀ i, starEach [a] (C.X i).env = (false, eval a (C.X i).env) :: starEach [] (C.X i).env := by intro _; rfl) :
    DE C (.Call (.Name "tuple" p) [a] [] pos) 0 (trgM fr) := by
  obtain ⟨t, pa, s⟩ := ha
  refine ⟨tTupRgX t, fun i => pe_tupRgX (T.calm i) (hg i) (by rw [T.mg i]; exact hm) (pa i) (he i), fun g H S ρ σ A Q st hp => ?_⟩
  refine s g H S ρ σ A _ st ((post_bind.mp hp).mono (fun p S1 q1 g1 H1 ok1 gr1 => ?_) fun _ _ z => z)
  obtain ⟨ds, ed, q⟩ := post_lift (post_bind.mp q1)
  obtain ⟨ro, rfl⟩ := rgD_ok ed
  refine ⟨ro, fun l ob hob nl => ?_⟩
  obtain ⟨ok', gr⟩ := ok1.newT nl ob (rgV p.1 p.2)
  exact q _ _ _ ok' (gr1.trans gr) (RN.back (RN.tuple ok1 (rng_vals (R := RB C.K g1 H1 0) (fun _ => rfl) _ _) nl hob) gr1)
end
end DS
/-! DSo: len(set(..)) of tuples of ints, a list or a tuple of them. -/
namespace DS
open PySem PySem.Spec PyProof.Rows L2

section
variable {P : Program} {w : World} {A : Around} {E : Value → Shared → Prop} {s : Shared}
/-- the new set's object -/
abbrev setNew (w : World) : Obj := { cls := .type "set", dict := none, data := .set #[] 0 (.fresh 0 0 (!w.params.followText "set-order")) }
/-- set(t), t a tuple of tuples of ints -/
theorem set_of_tuple {l : Addr} {items : Array Value} (ks : List (Addr × List Int)) {Q : Value → Shared → Prop} (hh : A.handled = none) (hl : s.heap.IsTuple l items) (hit : items.toList = ks.map fun p => Value.ref p.1)
    (hk : ∀ p ∈ ks, IsT P w s.heap p.2 p.1) (hfew : ks.length < 64) (hu : A.units + 3 < cLine)
    (h : ∀ (h' : Heap) (tk : Nat) L es ep t, SetTR P w h' s.heap.objs.size L es ep t → Got ks ks.length L → (∀ b o, s.heap.get? b = some o → h'.get? b = some o) → Q (.ref s.heap.objs.size) { s with heap := h', toks := tk }) :
    wpAny (model P w) A (call (.type "set") [.ref l]) Q E s := by
  have hisz : items.size = ks.length := by rw [← Array.length_toList, hit, List.length_map]
  obtain ⟨c, tl, hmro⟩ := F.called_set.mro
  have hmade := F.called_set.made
  have hsub := F.called_set.sub
  refine wpAny_call (codeAny_of_tree (wpAny_pure ⟨Code.quiet_builtin _ (by decide +kernel), codeAny_builtin F.entry_type_call ?_⟩))
  rw [Around.under_plain (weight_type_call_type "set" [.ref l] []) rfl]
  have h1 := F.called_set.notType
  have h2 := F.called_set.canCreate
  have hct := F.typeCall_set_1 (.ref l)
  repeat (any_goals (first | assumption | wp_step))
  refine codeAny_mono (code_set_led1 (.ref l) (E := E) (Q₁ := fun obj s₁ => obj = .ref s.heap.objs.size ∧ s₁ = { s with heap := s.heap.push (setNew w) }) ⟨rfl, rfl⟩) fun r s₁ hr => ?_
  cases r with
  | error e => exact hr
  | ok fl =>
    cases fl with
    | ret obj =>
      obtain ⟨rfl, rfl⟩ := hr
      have hS : (s.heap.push (setNew w)).get? s.heap.objs.size = some (setNew w) := Heap.get?_push_size _ rfl
      have hT : Shared.TypeIs { s with heap := s.heap.push (setNew w) } (.ref s.heap.objs.size) "set" := ⟨_, hS, rfl⟩
      have hli := F.called_set.init.lookup
      have hbi := F.called_set.init.bind (.ref s.heap.objs.size)
      repeat (any_goals (first | assumption | wp_step))
      refine codeAny_mono (codeAny_call_builtin (R := wants (fun r s₂ => r = .none ∧ ∃ h' tk L es ep t, s₂ = { s with heap := h', toks := tk } ∧ SetTR P w h' s.heap.objs.size L es ep t ∧ Got ks ks.length L ∧
          (∀ b o, s.heap.get? b = some o → h'.get? b = some o)) E) F.called_set.init.plain F.entry_set_init (check_set_init_1 hT ?_)) fun r₂ s₂ hr₂ => ?_
      · obtain ⟨⟨ocls, odict, odata, oslots⟩, hol, hcl, nl, hdl⟩ := hl
        simp only at hcl hdl
        subst hcl; subst hdl
        have hol' : (s.heap.push (setNew w)).get? l = some { cls := .type "tuple", dict := odict, data := .seq items nl, slots := oslots } := Heap.get?_push_of_some _ hol
        have hsls := F.sub_tuple_set
        have hslf := F.sub_tuple_frozenset
        have hne : (Value.type "tuple" == Value.type "dict") = false := by decide
        have hl1 : (s.heap.push (setNew w)).IsTuple l items := ⟨_, hol', rfl, nl, rfl⟩
        unfold Builtin.«set.__init__» noKeywords Builtin.Frozenset.updateFrom
        generalize hPI : pyIter = PI
        wp_walk
        subst hPI
        refine wpAny_pyIter_tuple hl1 (wpAny_bind (wpAny_runValue ?_))
        have hlS : l < s.heap.objs.size := Heap.lt_size hol
        have hh3 : A.in1.in1.in1.handled = none := by simp [hh]
        have hneI : l ≠ (s.heap.push (setNew w)).objs.size := by rw [Heap.size_push]; exact Nat.ne_of_lt (Nat.lt_succ_of_lt hlS)
        have hSf : s.heap.objs.size ∉ [(s.heap.push (setNew w)).objs.size, l] := by
          rw [Heap.size_push]
          simp only [List.mem_cons, List.not_mem_nil, or_false, not_or]
          exact ⟨Nat.ne_of_lt (Nat.lt_succ_self _), Nat.ne_of_gt hlS⟩
        have hval : ∀ (i : Nat) (v : Value), items[i]? = some v → ∃ p, ks[i]? = some p ∧ v = .ref p.1 := fun i v hv => by
          rw [← Array.getElem?_toList, hit, List.getElem?_map, Option.map_eq_some_iff] at hv
          obtain ⟨p, hp, e⟩ := hv
          exact ⟨p, hp, e.symm⟩
        have none_of : ∀ b, s.heap.objs.size ≤ b → s.heap.get? b = none := fun b hb => by
          cases q : s.heap.get? b with
          | none => rfl
          | some o => exact absurd (Nat.lt_of_lt_of_le (Heap.lt_size q) hb) (Nat.lt_irrefl _)
        refine set_update_tups ((Walks.tuple hh3 _ l hneI items).toS) s.heap.objs.size
          hSf ks hisz hfew hval s.heap hk (none_of _ (Nat.le_refl _)) (fun b hb => none_of b (by rw [List.mem_singleton.mp hb, Heap.size_push]; exact Nat.le_succ _)) hu (items.size - 0) 0 _ (by omega) (Nat.zero_le _)
          ⟨⟨_, Heap.get?_push_size _ rfl, rfl, rfl⟩, (hl1.push _)⟩ (fun b o e => Heap.get?_push_of_some _ (Heap.get?_push_of_some _ e)) ?hS0 ?hR
        case hS0 => exact ⟨[], #[], 0, _, setTR_fresh (Heap.get?_push_of_some _ hS), Got.zero ks⟩
        case hR =>
          rintro ⟨h', g2, d', tk', os'⟩ L es ep t hm hS' g' hkp
          obtain rfl : g2 = s.gens := hm.gens
          obtain rfl : d' = s.drawn := hm.drawn
          obtain rfl : os' = s.os := hm.os
          rw [hisz] at g'
          exact wpAny_pure (wpAny_pure ⟨rfl, h', tk', L, es, ep, t, rfl, hS', g', hkp⟩)
      · cases r₂ with
        | error e => exact hr₂
        | ok fl₂ =>
          cases fl₂ with
          | ret r =>
            obtain ⟨rfl, h', tk, L, es, ep, t, rfl, hS', g', hk'⟩ := hr₂
            repeat (any_goals (first | assumption | wp_step))
            exact h _ _ _ _ _ _ hS' g' hk'
          | _ => exact hr₂.elim
    | _ => exact hr.elim
end
end DS
/-! DSp: sorted, isinstance, [::-1], index, len(set(..)), repr over plain data. -/
namespace DS
open PySem PySem.Spec PyProof.Rows L2

section
variable {C : Ctx} {e a b c tg iter elt : Expr} {es rest ifs : List Expr} {m m1 m2 m3 n : Nat} {f fa fb fc fe : Env' → M D} {fs : Env' → M (List D)} {ta tb tc : Env' → M Bool} {pos p p1 p2 p3 apos cpos : Pos} {x : Str}

/-! ### sorted -/
def pyOk (d : D) : Bool := d.py.canLay0 && decide (d.py.depth ≤ 60) && !(isNon d)
def allAlk : List PyData → Bool
  | [] => true
  | d :: ds => PySem.W.alike d d && ds.all (fun e => PySem.W.alike d e && PySem.W.alike e d) && allAlk ds
theorem allAlk_ok : ∀ {ds : List PyData}, allAlk ds = true → PySem.W.AllAlike ds
  | [], _ => fun d hd => by simp at hd
  | d :: ds, h => by
    simp only [allAlk, Bool.and_eq_true, List.all_eq_true] at h
    obtain ⟨⟨h0, h1⟩, h2⟩ := h
    intro x hx y hy
    have h3 := allAlk_ok h2
    rcases List.mem_cons.mp hx with ex | hx'
    · rcases List.mem_cons.mp hy with ey | hy'
      · rw [ex, ey]; exact h0
      · rw [ex]; exact (h1 y hy').1
    · rcases List.mem_cons.mp hy with ey | hy'
      · rw [ey]; exact (h1 x hx').2
      · exact h3 x hx' y hy'
def srtOk (ds : List D) : Bool := decide (ds.length ≤ LIM) && ds.all pyOk && allAlk (ds.map D.py)
theorem py_non {d : D} (h : isNon d = false) : d.py ≠ .none := by cases d <;> simp_all [isNon, D.py]
theorem sort_all2 {R : D → V → Prop} (ws : List (V × D)) (h : ∀ p ∈ ws, R p.2 p.1) : All2 R (sortD (ws.map (·.2))) ((srtB (ws.map fun p => (p.1, p.2.py))).map (·.1)) := by
  have e1 : sortD (ws.map (·.2)) = (ws.mergeSort fun a b => leD a.2 b.2).map (·.2) := by
    rw [sortD_eq, ← leD_eq]
    exact (List.map_mergeSort (f := fun p : V × D => p.2) (r := fun a b => leD a.2 b.2) (fun a _ b _ => rfl)).symm
  have e2 : srtB (ws.map fun p => (p.1, p.2.py)) = (ws.mergeSort fun a b => leD a.2 b.2).map fun p => (p.1, p.2.py) := by
    refine (List.map_mergeSort (f := fun p : V × D => (p.1, p.2.py)) (r := fun a b => leD a.2 b.2) (fun a _ b _ => ?_)).symm
    show leD a.2 b.2 = _
    rw [PySem.W.dataLe_eq]; rfl
  rw [e1, e2, List.map_map]
  have hm : ∀ p ∈ ws.mergeSort fun a b => leD a.2 b.2, R p.2 p.1 := fun p hp => h p ((List.mergeSort_perm ws _).mem_iff.mp hp)
  generalize (ws.mergeSort fun a b => leD a.2 b.2) = l at hm ⊢
  induction l with
  | nil => exact .nil
  | cons x l ih => exact .cons (hm x (by simp)) (ih fun p hp => hm p (by simp [hp]))
theorem zip_split {R : D → V → Prop} {ds : List D} {vs : List V} (h : All2 R ds vs) : ∃ ws : List (V × D), ws.map (·.1) = vs ∧ ws.map (·.2) = ds ∧ ∀ p ∈ ws, R p.2 p.1 := by
  induction h with
  | nil => exact ⟨[], rfl, rfl, fun p hp => by simp at hp⟩
  | @cons d ds v vs h1 _ ih =>
    obtain ⟨ws, e1, e2, q⟩ := ih
    exact ⟨(v, d) :: ws, by simp [e1], by simp [e2], fun p hp => by
      rcases List.mem_cons.mp hp with rfl | hp
      · exact h1
      · exact q p hp⟩
def srtL (ds : List D) : Option D := if srtOk ds then some (.lst (sortD ds)) else none
theorem srtL_some {ds : List D} {z : D} (h : srtL ds = some z) : srtOk ds = true ∧ .lst (sortD ds) = z := by
  unfold srtL at h
  split at h
  · rename_i hs; exact ⟨hs, Option.some.inj h⟩
  · cases h
def dSorted : D → Option D
  | .lst ds => srtL ds
  | .dict t ks _ => if t then srtL ks else none
  | _ => none
theorem RB.dp0 {K : PySem.W.Frag} {g : G} {H : Hp} {S : Pots} {m : Nat} {d : D} {v : V} (ok : Ok g H S) (h : RB K g H m d v) (hf : d.py.canLay0 = true) : Dp K H v d.py :=
  Dp.up (fun a o e => (off_in e).2) (Rp.dp d v hf (RB.rp ok m d v h))
theorem ints_py : ∀ ns : List Int, pyL (ns.map D.int) = ns.map PyData.int
  | [] => rfl
  | n :: ns => by rw [List.map_cons, pyL, ints_py ns]; rfl
theorem tkey_py {d : D} {k : List Int} (h : tkeyOf d = some k) : d.py = .tuple (k.map PyData.int) := by
  cases d <;> simp only [tkeyOf, reduceCtorEq] at h
  rw [D.py, intsOf_eq h, ints_py]
theorem cs_sort {K : PySem.W.Frag} : CbS K (fun xs H Q => rSortL K xs H Q ∨ rSortXD K xs H Q) (uno dSorted) 1 1 := by
  refine CbS.uno fun g H S v d z Q ok hr hz k => ?_
  cases d <;> simp only [dSorted, reduceCtorEq] at hz
  case lst ds =>
    · obtain ⟨hs, rfl⟩ := srtL_some hz
      simp only [srtOk, Bool.and_eq_true, List.all_eq_true, decide_eq_true_eq] at hs
      obtain ⟨⟨hl, hp⟩, hal⟩ := hs
      obtain ⟨a, vs, rfl, h1, h2⟩ := RB.lst hr
      obtain ⟨ws, rfl, rfl, hR⟩ := zip_split h2
      have hp' : ∀ q ∈ ws, pyOk q.2 = true := fun q hq => hp q.2 (List.mem_map.mpr ⟨q, hq, rfl⟩)
      refine .inl ⟨a, ws.map fun q => (q.1, q.2.py), rfl, ?_, ⟨fun b hb => ?_, ?_, fun b hb => ?_, ?_⟩, fun q nq => ?_⟩
      · rw [List.map_map]; exact SqL.of h1
      · obtain ⟨q, hq, rfl⟩ := List.mem_map.mp hb
        have := hp' q hq
        simp only [pyOk, Bool.and_eq_true] at this
        exact RB.dp0 ok (hR q hq) this.1.1
      · rw [List.map_map]
        have := allAlk_ok hal
        rw [List.map_map] at this
        exact this
      · obtain ⟨q, hq, rfl⟩ := List.mem_map.mp hb
        have := hp' q hq
        simp only [pyOk, Bool.and_eq_true, decide_eq_true_eq, Bool.not_eq_true'] at this
        exact ⟨py_non this.2, this.1.2⟩
      · rw [List.length_map, ← lim_eq, ← List.length_map (f := fun q : V × D => q.2)]; exact hl
      · obtain ⟨ok', gr⟩ := ok.new nq (o := .lst ((srtB (ws.map fun q => (q.1, q.2.py))).map (·.1))) (fun _ _ z => by cases z)
        exact k g _ _ ok' gr (RN.list ok (sort_all2 (R := RB K g H 0) ws hR) nq)
  case dict t ks vs =>
    cases t with
    | false => cases hz
    | true =>
      · obtain ⟨hs, rfl⟩ := srtL_some hz
        simp only [srtOk, Bool.and_eq_true, List.all_eq_true, decide_eq_true_eq] at hs
        obtain ⟨⟨hl, hp⟩, hal⟩ := hs
        obtain ⟨a, ws, o, rfl, h1, h2, h3⟩ := hr
        have h3 := off_rd h3
        rcases h2 with ⟨e, _⟩ | ⟨_, xs, kr, e1, hx, rfl⟩
        · cases e
        · have key : ∀ {ks : List D} {xs : List (List Int × Addr × Value)}, ks.map tkeyOf = xs.map (fun q => some q.1) → RpL K g.π g.F ks (xs.map fun q => V.ref q.2.1) → ∃ ws : List (V × D), ws.map (·.2) = ks ∧ (ws.map fun p => (p.1, p.2.py)) = (xs.map fun b => (V.ref b.2.1, PyData.tuple (b.1.map PyData.int))) ∧ ∀ p ∈ ws, RB K g H 0 p.2 p.1 := by
            intro ks
            induction ks with
            | nil => intro xs e _; cases xs with
              | nil => exact ⟨[], rfl, rfl, fun p hp => by simp at hp⟩
              | cons => simp at e
            | cons d ds ih =>
              intro xs e r
              cases xs with
              | nil => simp at e
              | cons b xs =>
                rw [List.map_cons, List.map_cons] at e
                obtain ⟨v, l, ev, r1, r2⟩ := r
                rw [List.map_cons] at ev
                obtain ⟨ev1, ev2⟩ := List.cons.inj ev
                subst ev1 ev2
                obtain ⟨ws, q1, q2, q3⟩ := ih (xs := xs) (List.cons.inj e).2 r2
                refine ⟨(V.ref b.2.1, d) :: ws, by simp [q1], ?_, fun p hp => ?_⟩
                · rw [List.map_cons, List.map_cons, q2, tkey_py (List.cons.inj e).1]
                · rcases List.mem_cons.mp hp with rfl | hp
                  · exact r1
                  · exact q3 p hp
          obtain ⟨ws', q1, q2, q3⟩ := key e1 kr
          refine .inr ⟨a, xs, rfl, ⟨h3, xat_keys ok kr e1⟩, ?_, fun q nq => ?_⟩
          · have := allAlk_ok hal
            rw [← q1, List.map_map] at this
            have e3 := congrArg (List.map (·.2)) q2
            rw [List.map_map, List.map_map] at e3
            have e4 : ws'.map (D.py ∘ (·.2)) = xs.map fun q => PyData.tuple (q.1.map PyData.int) := e3
            rw [← e4]; exact this
          · rw [← q2]
            obtain ⟨ok', gr⟩ := ok.new nq (o := .lst ((srtB (ws'.map fun q => (q.1, q.2.py))).map (·.1))) (fun _ _ z => by cases z)
            refine k g _ _ ok' gr (RN.list ok ?_ nq)
            rw [← q1]
            exact sort_all2 (R := RB K g H 0) ws' q3
theorem CallR.alt {X : Cx} {f : Value} {r r' : List V → Hp → VK → Prop} (h : CallR X f r) (h' : CallR X f r') : CallR X f (fun xs H Q => r xs H Q ∨ r' xs H Q) := h.or h'
theorem de_sorted (T : Std C) (hm : C.mg "sorted" = none) (ha : DB C a 1 fa) (hg : ∀ i, Gl (C.X i) "sorted" := by intro _; rfl) (he : ∀ i, starEach [a] (C.X i).env = (false, eval a (C.X i).env) :: starEach [] (C.X i).env := by intro _; rfl) :
    DE C (.Call (.Name "sorted" p) [a] [] pos) 1 (apL (uno dSorted) (consM fa fun _ => pure [])) :=
  de_cb (id := "sorted") (r := fun xs H Q => rSortL C.K xs H Q ∨ rSortXD C.K xs H Q) (fun i => by rw [← T.k i]; exact CallR.alt (cr_sortL (T.hu i)) (cr_sortXD (T.calm i) (T.hu i))) cs_sort T hm (by decide +kernel) (da_cons ha da_nil he) hg (he := he)

/-! ### isinstance -/
inductive Cls6 where
  | int | bool | str | list | tuple | dict
def Cls6.nm : Cls6 → String
  | .int => "int" | .bool => "bool" | .str => "str" | .list => "list" | .tuple => "tuple" | .dict => "dict"
inductive Kd where
  | non | bl | int | str | tup | lst | dict
def Kd.nm : Kd → String
  | .non => "NoneType" | .bl => "bool" | .int => "int" | .str => "str" | .tup => "tuple" | .lst => "list" | .dict => "dict"
def kdOf : D → Option Kd
  | .non => some .non | .bl _ => some .bl | .int _ => some .int | .str _ => some .str | .tup _ => some .tup | .lst _ => some .lst | .dict false _ _ => some .dict
  | _ => none
def isiK : Kd → Cls6 → Bool
  | .bl, .int => true | .bl, .bool => true | .int, .int => true | .str, .str => true | .tup, .tuple => true | .lst, .list => true | .dict, .dict => true
  | _, _ => false
theorem isiK_ok (k : Kd) (c : Cls6) : kitB k.nm c.nm = some (isiK k c) := by cases k <;> cases c <;> decide +kernel
theorem kd_ty {K : PySem.W.Frag} {g : G} {H : Hp} {S : Pots} (ok : Ok g H S) {m : Nat} {d : D} {v : V} {k : Kd} (h : RB K g H m d v) (hk : kdOf d = some k) : TyX K H v (.type k.nm) := by
  have h := RB.rp ok m d v h
  cases d with
  | non => cases hk; cases (show v = .non from h); exact .base .non
  | bl b => cases hk; cases (show v = .bl b from h); exact .base (.bl b)
  | int b => cases hk; cases (show v = .int b from h); exact .base (.int b)
  | str b => cases hk; cases (show v = .str b from h); exact .base (.str b)
  | tup ds => cases hk; obtain ⟨a, vs, rfl, ⟨o, _, h1⟩, _⟩ := h; exact .fTuple (off_in h1).2
  | lst ds => cases hk; obtain ⟨a, vs, rfl, h1, _⟩ := h; exact .base (.lst (off_in h1).2)
  | dict t ks vs =>
    cases t with
    | true => cases hk
    | false =>
      cases hk
      obtain ⟨a, ws, o, rfl, _, h2, h3⟩ := h
      rcases h2 with ⟨_, kk, e1, nd, el, rfl⟩ | ⟨e, _⟩
      · rcases off_rd h3 with h3 | ⟨p, h3⟩
        · exact .base (.dK h3)
        · exact .fDict h3
      · cases e
  | pot k => cases hk
  | scr ns => cases hk
def isiD (c : Cls6) (d : D) : Option D := (kdOf d).map fun k => .bl (isiK k c)
def isiDs (cs : List Cls6) (d : D) : Option D := (kdOf d).map fun k => .bl (cs.any (isiK k))
theorem kitAny_ok {K : PySem.W.Frag} (k : Kd) : ∀ cs : List Cls6, PySem.W.kitAny K (.type k.nm) (cs.map fun c => Value.type c.nm) = some (cs.any (isiK k))
  | [] => rfl
  | c :: cs => by
    have h1 : PySem.W.kitOne K (.type k.nm) (.type c.nm) = some (isiK k c) := isiK_ok k c
    have ih := kitAny_ok (K := K) k cs
    rw [List.map_cons, PySem.W.kitAny, h1, List.any_cons]
    cases isiK k c with
    | true => rfl
    | false => exact ih
/-- a class's name -/
theorem pe_cls {X : Cx} (c : Cls6) (hg : Gl X c.nm) (hm : X.mg c.nm = none) : PE X (.Name (Str.ofString c.nm) p) (tC (.ty c.nm)) := by
  cases c <;> exact pe_bltn hg hm (by decide +kernel) rfl
theorem db_isi (T : Std C) (k : Cls6) (hm : C.mg "isinstance" = none) (hm2 : C.mg k.nm = none) (ha : DB C a 1 fa) (hg : ∀ i, Gl (C.X i) "isinstance" := by intro _; rfl) (hg2 : ∀ i, Gl (C.X i) k.nm := by intro _; rfl)
    (he : ∀ i, starEach [a, .Name (Str.ofString k.nm) p2] (C.X i).env = (false, eval a (C.X i).env) :: starEach [.Name (Str.ofString k.nm) p2] (C.X i).env := by intro _; rfl)
    (he2 : ∀ i, starEach [.Name (Str.ofString k.nm) p2] (C.X i).env = (false, eval (.Name (Str.ofString k.nm) p2) (C.X i).env) :: starEach [] (C.X i).env := by intro _; rfl)
    (hpl : ∀ i, (backTo pos (starEach [.Name (Str.ofString k.nm) p2] (C.X i).env)).any (·.1) = false := by intro _; rfl) : DB C (.Call (.Name "isinstance" p) [a, .Name (Str.ofString k.nm) p2] [] pos) 0 (ap1 (isiD k) fa) := by
  obtain ⟨t, pa, s⟩ := ha
  refine ⟨tCB (rIsi C.K) (tCons t (tCons (tC (.ty k.nm)) tNil)), fun i => pe_callB (by rw [← T.k i]; exact call_isi) (hg i) (by rw [T.mg i]; exact hm) PyProof.Rows.boot_isinstance (pa_cons (pa i) (pa_cons (pe_cls k (hg2 i) (by rw [T.mg i]; exact hm2)) pa_nil (he2 i)) (he i)) (by decide) (by decide) (he i) (hpl i), fun g H S ρ σ A Q st hp => ?_⟩
  refine s g H S ρ σ A _ st ((ap1_post hp).mono (fun d S1 q1 g1 H1 v ok1 gr1 r1 => ?_) fun _ _ z => z)
  obtain ⟨z, ez, q⟩ := q1
  obtain ⟨kd, ek, rfl⟩ := Option.map_eq_some_iff.mp ez
  exact ⟨v, .ty k.nm, .type kd.nm, .type k.nm, isiK kd k, rfl, .ty _, kd_ty ok1 r1 ek, isiK_ok kd k, q g1 H1 _ ok1 gr1 rfl⟩
/-- isinstance(x, (c, c')) -/
theorem db_isi2 (T : Std C) (k k2 : Cls6) {j : Nat} {tp : Pos} (hm : C.mg "isinstance" = none) (hm2 : C.mg k.nm = none) (hm3 : C.mg k2.nm = none) (ha : DB C a 1 fa) (hg : ∀ i, Gl (C.X i) "isinstance" := by intro _; rfl) (hg2 : ∀ i, Gl (C.X i) k.nm := by intro _; rfl) (hg3 : ∀ i, Gl (C.X i) k2.nm := by intro _; rfl)
    (hA : ∀ i, starEach [.Name (Str.ofString k.nm) p2, .Name (Str.ofString k2.nm) p3] (C.X i).env = (false, eval (.Name (Str.ofString k.nm) p2) (C.X i).env) :: starEach [.Name (Str.ofString k2.nm) p3] (C.X i).env := by intro _; rfl)
    (hB : ∀ i, starEach [.Name (Str.ofString k2.nm) p3] (C.X i).env = (false, eval (.Name (Str.ofString k2.nm) p3) (C.X i).env) :: starEach [] (C.X i).env := by intro _; rfl)
    (he : ∀ i, starEach [a, .Tuple [.Name (Str.ofString k.nm) p2, .Name (Str.ofString k2.nm) p3] j tp] (C.X i).env = (false, eval a (C.X i).env) :: starEach [.Tuple [.Name (Str.ofString k.nm) p2, .Name (Str.ofString k2.nm) p3] j tp] (C.X i).env := by intro _; rfl)
    (he2 : ∀ i, starEach [.Tuple [.Name (Str.ofString k.nm) p2, .Name (Str.ofString k2.nm) p3] j tp] (C.X i).env = (false, eval (.Tuple [.Name (Str.ofString k.nm) p2, .Name (Str.ofString k2.nm) p3] j tp) (C.X i).env) :: starEach [] (C.X i).env := by intro _; rfl)
    (hpl : ∀ i, (backTo pos (starEach [.Tuple [.Name (Str.ofString k.nm) p2, .Name (Str.ofString k2.nm) p3] j tp] (C.X i).env)).any (·.1) = false := by intro _; rfl) : DB C (.Call (.Name "isinstance" p) [a, .Tuple [.Name (Str.ofString k.nm) p2, .Name (Str.ofString k2.nm) p3] j tp] [] pos) 0 (ap1 (isiDs [k, k2]) fa) := by
  obtain ⟨t, pa, s⟩ := ha
  refine ⟨tCB (rIsiT C.K) (tCons t (tCons (tTup (tCons (tC (.ty k.nm)) (tCons (tC (.ty k2.nm)) tNil))) tNil)), fun i => pe_callB (by rw [← T.k i]; exact call_isiT) (hg i) (by rw [T.mg i]; exact hm) PyProof.Rows.boot_isinstance
    (pa_cons (pa i) (pa_cons (pe_tup (pa_cons (pe_cls k (hg2 i) (by rw [T.mg i]; exact hm2)) (pa_cons (pe_cls k2 (hg3 i) (by rw [T.mg i]; exact hm3)) pa_nil (hB i)) (hA i))) pa_nil (he2 i)) (he i)) (by decide) (by decide) (he i) (hpl i), fun g H S ρ σ A Q st hp => ?_⟩
  refine s g H S ρ σ A _ st ((ap1_post hp).mono (fun d S1 q1 g1 H1 v ok1 gr1 r1 => ?_) fun _ _ z => z)
  obtain ⟨z, ez, q⟩ := q1
  obtain ⟨kd, ek, rfl⟩ := Option.map_eq_some_iff.mp ez
  refine ⟨by show 2 ≤ sizeLine; decide, fun tpA nt => ?_⟩
  obtain ⟨ok2, gr2⟩ := ok1.new nt (o := .tup [V.ty k.nm, V.ty k2.nm]) (fun _ _ z => by cases z)
  exact ⟨v, tpA, [.ty k.nm, .ty k2.nm], .type kd.nm, [.type k.nm, .type k2.nm], _, rfl, upd_same, .cons (.ty _) (.cons (.ty _) .nil), kd_ty ok2 (RB.grow gr2 _ _ _ r1) ek, kitAny_ok kd [k, k2], q _ _ _ ok2 (gr1.trans gr2) rfl⟩
end
end DS
/-! DSq: [::-1], index, len(set(..)), repr. -/
namespace DS
open PySem PySem.Spec PyProof.Rows L2

section
variable {prog : Program} {w : World} {A : Around} {E : Value → Shared → Prop} {s : Shared}
theorem adj_rev (n : Nat) : Builtin.Slice.sliceAdjust none none (-1) (n : Int) = ((n : Int) - 1, -1) := by
  unfold Builtin.Slice.sliceAdjust
  first | rfl | simp
theorem places_rev (n : Nat) : Builtin.Slice.slicePlaces ((n : Int) - 1) (-1) (-1) = n := by
  unfold Builtin.Slice.slicePlaces
  by_cases h : n = 0
  · subst h; rfl
  · simp
    omega
theorem fm_congr {α β : Type} {f g : α → Option β} : ∀ {l : List α}, (∀ a ∈ l, f a = g a) → l.filterMap f = l.filterMap g
  | [], _ => rfl
  | a :: l, h => by rw [List.filterMap_cons, List.filterMap_cons, h a (by simp), fm_congr fun b hb => h b (by simp [hb])]
theorem pick_rev (xs : Array Value) : ((List.range xs.size).filterMap fun (m : Nat) => xs[((xs.size : Int) - 1 + (m : Int) * (-1)).toNat]?).toArray = xs.toList.reverse.toArray := by
  have e := PySem.W.krv_range xs.size
  have e2 : ((List.range xs.size).filterMap fun (m : Nat) => xs[((xs.size : Int) - 1 + (m : Int) * (-1)).toNat]?) = ((List.range xs.size).map fun k => xs.size - 1 - k).filterMap (xs[·]?) := by
    rw [List.filterMap_map]
    refine fm_congr fun m hm => ?_
    have : ((xs.size : Int) - 1 + (m : Int) * (-1)).toNat = xs.size - 1 - m := by have := List.mem_range.mp hm; omega
    rw [this]; rfl
  rw [e2, e, List.filterMap_reverse, PySem.W.krv_all]
theorem getItem_tuple_rev {t sl : Addr} {items : Array Value} {vs : Value} {Q : Value → Shared → Prop} (ht : IsTup s.heap t items) (hs : s.heap.IsSliceOf sl .none .none vs) (ps : IsPart vs (some (-1)))
    (h : Q (.ref s.heap.objs.size) { s with heap := s.heap.push { cls := .type "tuple", data := .seq items.toList.reverse.toArray } }) (hsz : items.size ≤ sizeLine) : wpAny (model prog w) A (getItem (.ref t) (.ref sl)) Q E s := by
  have hok : sizeOk (.seq items.toList.reverse.toArray) := by
    show items.toList.reverse.toArray.size ≤ sizeLine
    rw [List.size_toArray, List.length_reverse, Array.length_toList]; exact hsz
  obtain ⟨os, hos, hcs, hds⟩ := id hs
  have hTs : s.TypeIs (.ref sl) "slice" := ⟨os, hos, hcs⟩
  unfold getItem
  try with_reducible refine wpAny_holding ?_
  first | refine wpAny_bind (wpAny_pure ?_) | skip
  refine wpAny_bind (wpAny_sequenceKey ht.typeIs (by decide) (wpAny_bind (wpAny_callSpecial?_slot (name := Str.ofString "__getitem__") ht.typeIs PyProof.Rows.slot_tuple_getitem
    (wpAny_call_entry PyProof.Rows.slot_tuple_getitem ht.typeIs PyProof.Rows.entry_tuple_getitem ?_ (PyProof.Rows.args_tuple_getitem _ _)))))
  show wpAny _ _ (Builtin.Tuple.tupleItemsOf (.ref t) >>= _) _ _ s
  refine wpAny_bind (tupleItemsOf_ ht (wpAny_bind (wpAny_typeOf hTs ?_)))
  rw [if_pos (by decide)]
  refine wpAny_bind ?_
  unfold Builtin.Slice.sliceApplied Builtin.Slice.sliceFields
  refine wpAny_bind (wpAny_bind (wpAny_field hos hds (x := .none) rfl (wpAny_bind (wpAny_field hos hds (x := .none) rfl (wpAny_bind (wpAny_field hos hds (x := vs) rfl (wpAny_pure ?_)))))))
  refine wpAny_bind (HT.slicePart_ ps ?_)
  show wpAny _ _ (if ((-1 : Int) == 0) = true then _ else _) _ _ s
  rw [if_neg (by decide)]
  refine wpAny_bind (slicePart_none (wpAny_bind (slicePart_none (wpAny_bind (wpAny_pure ?_)))))
  show wpAny _ _ (match Builtin.Slice.sliceAdjust none none (-1) (items.size : Int) with | (lo, hi) => pure (lo, (-1 : Int), Builtin.Slice.slicePlaces lo hi (-1))) _ _ s
  rw [adj_rev]
  show wpAny _ _ (pure (((items.size : Int) - 1), (-1 : Int), Builtin.Slice.slicePlaces ((items.size : Int) - 1) (-1) (-1))) _ _ s
  rw [places_rev]
  refine wpAny_pure ?_
  show wpAny _ _ (if (((items.size : Int) - 1) == 0 && (-1 : Int) == 1 && items.size == items.size) = true then _ else _) _ _ s
  rw [if_neg (by simp), pick_rev]
  first
    | exact wpAny_bind (m := Builtin.Tuple.tupleExact _) (wpAny_newObj_type (wpAny_pure ⟨_, rfl, wpAny_pure h⟩) hok)
    | exact wpAny_bind (m := Builtin.Tuple.tupleExact _) (wpAny_newObj_type (wpAny_bind (wpAny_pure (wpAny_pure ⟨_, rfl, wpAny_pure h⟩))) hok)
    | exact wpAny_bind (wpAny_bind (m := Builtin.Tuple.tupleExact _) (wpAny_newObj_type (wpAny_pure (wpAny_pure ⟨_, rfl, wpAny_pure h⟩)) hok))
    | exact wpAny_bind (wpAny_bind (m := Builtin.Tuple.tupleExact _) (wpAny_newObj_type (wpAny_pure ⟨_, rfl, wpAny_pure h⟩) hok))
end

section
variable {C : Ctx} {e a b c tg iter elt : Expr} {es rest ifs : List Expr} {m m1 m2 m3 n : Nat} {f fa fb fc fe : Env' → M D} {fs : Env' → M (List D)} {ta tb tc : Env' → M Bool} {pos p p1 p2 p3 apos cpos : Pos} {x : Str}
/-! ### x[::-1] -/
def tRevA (K : PySem.W.Frag) (te : TE) : TE := fun σ H Q => te σ H fun x H1 => ∃ a xs, x = .ref a ∧ ((SqL K H1 a xs ∧ ∀ p, H1 p = none → Q (.ref p) (upd H1 p (.lst xs.reverse))) ∨ (SqT K H1 a xs ∧ QT Q H1 xs.reverse))
theorem pe_revA {X : Cx} {te : TE} {k : Nat} (he : PE X e te) : PE X (.Subscript e (.Slice none none (some (.UnaryOp .USub (.Constant (.int 1) k p1) p2)) p3) pos) (tRevA X.K te) := by
  refine ⟨fun pins s σ H Q I h => ?_⟩
  refine Subscript_ (thn (he.run pins s σ H _ I h) fun v s1 ⟨x, H1, I1, r1, q1⟩ => ?_)
  obtain ⟨a, xs, ex, q⟩ := q1
  subst ex
  cases r1
  have hst : PO X (some (.UnaryOp .USub (.Constant (.int 1) k p1) p2)) (tPart (tUn (rU fun i => .int (-i)) (tC (.int 1)))) := po_some (pe_un un_neg pe_int)
  refine wpAny_Slice (thn (po_none.run pins s1 σ H1 (fun o H2 => o = none ∧ H2 = H1) I1 ⟨rfl, rfl⟩) fun vl s2 ⟨l, H2, I2, pl, el, e2⟩ => ?_)
  subst el e2
  refine thn (po_none.run pins s2 σ H2 (fun o H3 => o = none ∧ H3 = H2) I2 ⟨rfl, rfl⟩) fun vu s3 ⟨u, H3, I3, pu, eu, e3⟩ => ?_
  subst eu e3
  refine thn (hst.run pins s3 σ H3 (fun o H4 => o = some (-1) ∧ H4 = H3) I3 ⟨1, rfl, -1, rfl, rfl, rfl⟩) fun vs s4 ⟨o, H4, I4, ps, eo, e4⟩ => ?_
  subst eo e4
  have I5 : Inv X pins σ H4 { s4 with heap := s4.heap.push { cls := .type "slice", data := .fields #[vl, vu, vs] } } := I4.kept (t' := s4.toks) fun b ob q => Heap.get?_push_of_some _ q
  show wpAny (model X.prog X.w) X.A (subscriptTail e (.Slice none none (some (.UnaryOp .USub (.Constant (.int 1) k p1) p2)) p3) (.ref a) (.ref s4.heap.objs.size)) (EP X pins σ Q) X.xe { s4 with heap := s4.heap.push { cls := .type "slice", data := .fields #[vl, vu, vs] } }
  rcases q with ⟨hx, q⟩ | ⟨hx, q⟩
  · obtain ⟨its, r, ht, hz⟩ := I5.list hx
    have hlen := r.length
    refine tail_any (ops := [.ref a, .ref s4.heap.objs.size]) ht.isList.typeIs (PySem.slot_list_getitem.lookup) ?_ (by with_unfolding_all rfl)
    refine wpAny_getItem_list_slice ht.isList (Heap.IsSliceOf.new _ vl vu vs) pl pu ps (by decide) ?_ (by rw [List.size_toArray]; omega)
    rw [PySem.W.krv_pick]
    refine ⟨.ref _, _, I5.laid (t' := s4.toks) (o := .lst xs.reverse) (fun b ob q => Heap.get?_push_of_some _ q) (Nat.le_refl _) ?_, rfl, q _ (I5.hok.fresh (Nat.le_refl _))⟩
    exact ⟨by rw [List.length_reverse]; exact hz, _, 0, r.reverse, Heap.get?_push_size _ rfl⟩
  · obtain ⟨its, r, ht, hz⟩ := I5.tuple hx
    have hlen := r.length
    refine tail_any (ops := [.ref a, .ref s4.heap.objs.size]) ht.typeIs (PyProof.Rows.slot_tuple_getitem.lookup) ?_ (by with_unfolding_all rfl)
    cases pl
    cases pu
    refine getItem_tuple_rev ht (Heap.IsSliceOf.new _ .none .none vs) ps ?_ (by rw [List.size_toArray]; omega)
    exact ⟨.ref _, _, newTup' I5 r.reverse (by rw [List.length_reverse]; exact hz), rfl, q _ _ rfl (I5.hok.fresh (Nat.le_refl _))⟩
def dRev : D → Option D
  | .lst ds => some (.lst ds.reverse)
  | .tup ds => some (.tup ds.reverse)
  | _ => none
theorem de_rev (T : Std C) {k : Nat} (ha : DB C a 1 fa) : DE C (.Subscript a (.Slice none none (some (.UnaryOp .USub (.Constant (.int 1) k p1) p2)) p3) pos) 1 (ap1 dRev fa) := by
  obtain ⟨t, pa, s⟩ := ha
  refine ⟨tRevA C.K t, fun i => by rw [← T.k i]; exact pe_revA (pa i), fun g H S ρ σ A Q st hp => ?_⟩
  refine s g H S ρ σ A _ st ((ap1_post hp).mono (fun d S1 q1 g1 H1 v ok1 gr1 r1 => ?_) fun _ _ z => z)
  obtain ⟨z, ez, q⟩ := q1
  cases d <;> simp only [dRev, reduceCtorEq, Option.some.injEq] at ez
  · subst ez
    obtain ⟨a, vs, rfl, h1, h2⟩ := RB.tup ok1 r1
    refine ⟨a, vs, rfl, .inr ⟨h1.sq, fun l ob hob nl => ?_⟩⟩
    obtain ⟨ok', gr⟩ := ok1.newT nl ob vs.reverse
    exact q _ _ _ ok' (gr1.trans gr) (RN.back (RN.tuple ok1 h2.reverse nl hob) gr1)
  · subst ez
    obtain ⟨a, vs, rfl, h1, h2⟩ := RB.lst r1
    refine ⟨a, vs, rfl, .inl ⟨SqL.of h1, fun l nl => ?_⟩⟩
    obtain ⟨ok', gr⟩ := ok1.new nl (o := .lst vs.reverse) (fun _ _ z => by cases z)
    exact q g1 _ _ ok' (gr1.trans gr) (RN.back (RN.list ok1 h2.reverse nl) gr1)

/-! ### t.index(i), of ints -/
def idxI (k : Int) : List Int → Option Nat
  | [] => none
  | n :: ns => if n = k then some 0 else (idxI k ns).map (· + 1)
theorem idxI_mem {k : Int} : ∀ {ns : List Int} {j : Nat}, idxI k ns = some j → k ∈ ns ∧ ns.idxOf k = j
  | [], j, h => by simp [idxI] at h
  | n :: ns, j, h => by
    unfold idxI at h
    by_cases e : n = k
    · rw [if_pos e] at h; cases h
      subst e
      exact ⟨by simp, by simp [List.idxOf_cons]⟩
    · rw [if_neg e] at h
      obtain ⟨i, hi, rfl⟩ := Option.map_eq_some_iff.mp h
      obtain ⟨h1, h2⟩ := idxI_mem hi
      refine ⟨by simp [h1], ?_⟩
      rw [List.idxOf_cons]
      have : (n == k) = false := by simpa using e
      rw [this, h2]; rfl
def dIndex : D → D → Option D
  | .tup ds, .int k => (intsOf ds).bind fun ns => (idxI k ns).map fun j => .int (j : Nat)
  | _, _ => none
def rIndexT (K : PySem.W.Frag) : V → List V → Hp → VK → Prop := fun x xs H Q => ∃ (a : Addr) (ns : List Int) (k : Int) (j : Nat), x = .ref a ∧ xs = [.int k] ∧ SqT K H a (ns.map V.int) ∧ idxI k ns = some j ∧ Q (.int (j : Nat)) H
theorem mt_indexT {X : Cx} : MtR X "tuple.index" (rIndexT X.K) := by
  intro pins s σ H x xs v us Q I rx rxs h
  obtain ⟨a, ns, k, j, rfl, rfl, hq, hj, q⟩ := h
  cases rx
  obtain ⟨u, rfl, ru⟩ := rxs.one
  obtain ⟨t, rfl⟩ := ru
  obtain ⟨its, r, ht, hz⟩ := I.tuple hq
  obtain ⟨h1, h2⟩ := idxI_mem hj
  refine SeqAt.tuple_index_ints (show s.heap.IsTuple a its.toArray from ht) (intsAre_of r) h1 ?_
  rw [h2]
  exact ⟨.int (j : Nat), H, I.tok _, ⟨_, rfl⟩, q⟩
/-- t.m(e, ..), t a tuple whose object is known -/
def tBMT (r : V → List V → Hp → VK → Prop) (to : TE) (t : TA) : TE := fun σ H Q => to σ H fun x H1 => (∃ a vs, x = .ref a ∧ Tp H1 a vs) ∧ t σ H1 fun xs H2 => r x xs H2 Q
theorem pe_bmT {X : Cx} {o : Expr} {to : TE} {t : TA} {name : Str} {id : String} {r : V → List V → Hp → VK → Prop} (slot : Slot "tuple" name id) (hty : typeOf (.builtin id) = pure (.type "method_descriptor")) (hm : MtR X id r) (ho : PE X o to) (ha : PA X (e :: es) t)
    (hbase : attributeBase o name X.env (eval o X.env) = eval o X.env) (hfew : ((backTo cpos (starEach (e :: es) X.env)).all (fun x => !x.1) && (backToKw cpos (keywordEach [] X.env)).all (fun x => x.1.isSome) && decide ((e :: es).length + ([] : List Keyword).length + (if ([] : List Keyword).isEmpty then 0 else 1) < 30)) = true)
    (hline : (apos.endLine == cpos.line) = true) (hs : starEach (e :: es) X.env = (false, eval e X.env) :: starEach es X.env) (hplain : (backTo cpos (starEach es X.env)).any (·.1) = false) : PE X (.Call (.Attribute o name apos) (e :: es) [] cpos) (tBMT r to t) := by
  refine ⟨fun pins s σ H Q I h => ?_⟩
  refine wpAny_Call_method_late hbase hfew hline rfl (thn (ho.run pins s σ H _ I h) fun v s1 ⟨x, H1, I1, r1, ⟨a, vs, ex, ob, hd, hF⟩, q1⟩ => ?_)
  subst ex
  obtain rfl : v = Value.ref a := r1
  obtain ⟨hob, _, its, _, oo, h2, h3, _⟩ := (show ObjOk X.prog X.w H1 s1.heap a (.frz ob (.tup vs)) from I1.hok a _ hF)
  rw [hob] at h2
  cases h2
  refine ⟨"tuple", id, F.plainAttrs_tuple, slot, hty, ⟨ob, hob, h3⟩, fun b eb => by cases eb; exact ⟨ob, hob, hd⟩, ?_⟩
  have hA := ha.run cpos pins s1 σ H1 _ I1 q1
  rw [hs] at hA ⊢
  refine Calls.callWith_builtin (by show (false || (backTo cpos (starEach es X.env)).any (·.1)) = false; rw [hplain] <;> rfl) (Calls.evalArgs_plain ?_)
  exact thn hA fun us s2 ⟨vs', H2, I2, r2, q2⟩ => hm pins s2 σ H2 (.ref a) vs' (.ref a) us Q I2 (show RelV (.ref a) (.ref a) from rfl) r2 q2
theorem ty_tuple_index : typeOf (.builtin "tuple.index") = pure (.type "method_descriptor") := by show builtinType _ = _; rw [builtinType_eq_fast]; kernel_rfl
def isTupD : D → Bool
  | .tup _ => true
  | _ => false
def indexM (fa fb : Env' → M D) : Env' → M D := fun ρ => do let x ← fa ρ; chk (isTupD x); let y ← fb ρ; liftO (dIndex x y)
theorem db_index (T : Std C) (ha : DB C a 0 fa) (hb : DB C b 0 fb) (hbase : ∀ i, attributeBase a "index" (C.X i).env (eval a (C.X i).env) = eval a (C.X i).env := by intro _; rfl)
    (hfew : ∀ i, ((backTo cpos (starEach [b] (C.X i).env)).all (fun x => !x.1) && (backToKw cpos (keywordEach [] (C.X i).env)).all (fun x => x.1.isSome) && decide ([b].length + ([] : List Keyword).length + (if ([] : List Keyword).isEmpty then 0 else 1) < 30)) = true := by intro _; rfl)
    (hline : (apos.endLine == cpos.line) = true := by rfl) (hs : ∀ i, starEach [b] (C.X i).env = (false, eval b (C.X i).env) :: starEach [] (C.X i).env := by intro _; rfl) : DB C (.Call (.Attribute a "index" apos) [b] [] cpos) 0 (indexM fa fb) := by
  obtain ⟨ta, pa, sa⟩ := ha
  obtain ⟨tb, pb, sb⟩ := hb
  refine ⟨tBMT (rIndexT C.K) ta (tCons tb tNil), fun i => pe_bmT PySem.F.slot_tuple_index ty_tuple_index (by rw [← T.k i]; exact mt_indexT) (pa i) (pa_cons (pb i) pa_nil (hs i)) (hbase i) (hfew i) hline (hs i) rfl, fun g H S ρ σ A Q st hp => ?_⟩
  refine sa g H S ρ σ A _ st ((post_bind.mp hp).mono (fun x S1 q0 g1 H1 v ok1 gr1 r1 => ?_) fun _ _ z => z)
  obtain ⟨ht, q1⟩ := post_chk (post_bind.mp q0)
  cases x with
  | tup ds =>
    obtain ⟨p, vs, rfl, h1, h2⟩ := RB.tup ok1 r1
    refine ⟨⟨p, vs, rfl, h1⟩, ?_⟩
    refine sb g1 H1 S1 ρ σ A _ (st.grow ok1 gr1) ((post_bind.mp q1).mono (fun y S2 q2 g2 H2 w ok2 gr2 r2 => ?_) fun _ _ z => z.step gr1)
    obtain ⟨z, ez, q⟩ := post_lift q2
    cases y <;> simp only [dIndex, reduceCtorEq] at ez
    obtain ⟨ns, en, ez⟩ := Option.bind_eq_some_iff.mp ez
    obtain ⟨j, ej, rfl⟩ := Option.map_eq_some_iff.mp ez
    obtain ⟨p', vs', e', h1', h2'⟩ := RB.tup ok2 (RB.grow gr2 _ _ _ r1)
    cases e'
    rw [intsOf_eq en] at h2'
    have e := rp_ints h2'.rpl
    subst e
    exact ⟨p, ns, _, j, rfl, by rw [show w = V.int _ from r2], h1'.sq, ej, q g2 H2 _ ok2 (gr1.trans gr2) rfl⟩
  | _ => cases ht

/-! ### len(set(..)) of tuples of ints -/
def tintsOf : List D → Option (List (List Int))
  | [] => some []
  | d :: ds => match tkeyOf d, tintsOf ds with
    | some k, some r => some (k :: r)
    | _, _ => none
def cntD : List (List Int) → Nat
  | [] => 0
  | k :: ks => if k ∈ ks then cntD ks else cntD ks + 1
theorem nodup_len {α : Type} [DecidableEq α] : ∀ {l l' : List α}, l.Nodup → l'.Nodup → (∀ a, a ∈ l ↔ a ∈ l') → l.length = l'.length
  | [], l', _, _, h => by
    cases l' with
    | nil => rfl
    | cons a r => exact absurd ((h a).mpr (by simp)) (by simp)
  | a :: l, l', n, n', h => by
    obtain ⟨n1, n2⟩ := List.nodup_cons.mp n
    have ha : a ∈ l' := (h a).mp (by simp)
    have e := nodup_len (l := l) (l' := l'.erase a) n2 (n'.erase a) fun b => by
      rw [n'.mem_erase_iff]
      constructor
      · intro hb
        exact ⟨fun z => n1 (by rw [← z]; exact hb), (h b).mp (by simp [hb])⟩
      · rintro ⟨h1, h2⟩
        have := (h b).mpr h2
        rcases List.mem_cons.mp this with z | z
        · exact absurd z h1
        · exact z
    rw [List.length_cons, e, List.length_erase_of_mem ha]
    have : 0 < l'.length := List.length_pos_of_mem ha
    omega
def dd : List (List Int) → List (List Int)
  | [] => []
  | k :: ks => if k ∈ ks then dd ks else k :: dd ks
theorem dd_mem : ∀ {ks : List (List Int)} {a : List Int}, a ∈ dd ks ↔ a ∈ ks
  | [], a => by simp [dd]
  | k :: ks, a => by
    unfold dd
    by_cases h : k ∈ ks
    · rw [if_pos h, dd_mem]
      simp only [List.mem_cons]
      exact ⟨.inr, fun z => z.elim (fun e => by rw [e]; exact h) id⟩
    · rw [if_neg h, List.mem_cons, List.mem_cons, dd_mem]
theorem dd_nodup : ∀ ks : List (List Int), (dd ks).Nodup
  | [] => List.nodup_nil
  | k :: ks => by
    unfold dd
    by_cases h : k ∈ ks
    · rw [if_pos h]; exact dd_nodup ks
    · rw [if_neg h]; exact List.nodup_cons.mpr ⟨fun z => h (dd_mem.mp z), dd_nodup ks⟩
theorem dd_len : ∀ ks : List (List Int), (dd ks).length = cntD ks
  | [] => rfl
  | k :: ks => by
    unfold dd cntD
    by_cases h : k ∈ ks
    · rw [if_pos h, if_pos h, dd_len ks]
    · rw [if_neg h, if_neg h, List.length_cons, dd_len ks]
def setLen (ds : List D) : Option D := match tintsOf ds with
  | some ks => if ks.length < 64 then some (.int (cntD ks : Nat)) else none
  | none => none
def dSetLen : D → Option D
  | .lst ds => setLen ds
  | .tup ds => setLen ds
  | _ => none
def tLenSetT (K : PySem.W.Frag) (ta : TE) : TE := fun σ H Q => ta σ H fun x H1 => ∃ (l : Addr) (ks : List (Addr × List Int)), x = V.ref l ∧ (SqL K H1 l (ks.map fun p => V.ref p.1) ∨ SqT K H1 l (ks.map fun p => V.ref p.1)) ∧ (∀ p ∈ ks, SqT K H1 p.1 (p.2.map V.int)) ∧ ks.length < 64 ∧ Q (.int (cntD (ks.map (·.2)) : Nat)) H1
theorem pe_lenSetT {X : Cx} {te : TE} {q : Pos} (hu : X.A.units + 64 < cLine) (hc : X.calm = true) (hg : Gl X "len") (hm : X.mg "len" = none) (hg2 : Gl X "set") (hm2 : X.mg "set" = none) (ha : PE X a te)
    (na : starEach [a] X.env = (false, eval a X.env) :: starEach [] X.env) (nb : starEach [.Call (.Name "set" p2) [a] [] q] X.env = (false, eval (.Call (.Name "set" p2) [a] [] q) X.env) :: starEach [] X.env) : PE X (.Call (.Name "len" p) [.Call (.Name "set" p2) [a] [] q] [] pos) (tLenSetT X.K te) := by
  refine ⟨fun pins s σ H Q I h => ?_⟩
  refine Call_ (ld_blt I hg hm PySem.boot_len ?_)
  refine PyProof.Rows.callWith_builtin1 (PyProof.Rows.args_cons ?_ nb) nb rfl
  refine Call_ (ld_blt I hg2 hm2 PyProof.Rows.boot_set ?_)
  refine PyProof.Rows.callWith_type1 (PyProof.Rows.args_cons (thn (ha.run pins s σ H _ I h) fun v s1 ⟨x, H1, I1, r1, q1⟩ => PyProof.Rows.args_nil ?_) na) na rfl
  obtain ⟨l, ks, rfl, hq, hk, hf, q1⟩ := q1
  cases (show v = Value.ref l from r1)
  have cnt : ∀ {L : List (Addr × List Int)}, (L.map (·.2)).Nodup → Got ks ks.length L → L.length = cntD (ks.map (·.2)) := fun {L} nd g => by
    rw [← dd_len, ← List.length_map (f := (·.2))]
    refine nodup_len nd (dd_nodup _) fun k => ?_
    rw [dd_mem]
    constructor
    · intro z
      obtain ⟨p, hp, rfl⟩ := List.mem_map.mp z
      exact List.mem_map.mpr ⟨p, List.mem_of_mem_take (g.sub p hp), rfl⟩
    · intro z
      obtain ⟨p, hp, rfl⟩ := List.mem_map.mp z
      exact g.all p (by rw [List.take_length]; exact hp)
  have isT : ∀ p ∈ ks, IsT X.prog X.w s1.heap p.2 p.1 := fun p hp => I1.isT (hk p hp)
  have fin : ∀ (h' : Heap) (tk : Nat) (L : List (Addr × List Int)) es ep t, SetTR X.prog X.w h' s1.heap.objs.size L es ep t → Got ks ks.length L → (∀ b o, s1.heap.get? b = some o → h'.get? b = some o) →
      wpAny (model X.prog X.w) X.A (call (.builtin "len") [.ref s1.heap.objs.size]) (EP X pins σ Q) X.xe { s1 with heap := h', toks := tk } := fun h' tk L es ep t R g kp => by
    have I2 : Inv X pins σ H1 { s1 with heap := h', toks := tk } := I1.kept kp
    obtain ⟨o, ho, hex, hd⟩ := R.ob
    have e2 : es.size = L.length := R.size (s := { s1 with heap := h' })
    have e3 : t.fits es.size = true := R.fits (s := { s1 with heap := h' })
    have hlt := R.few
    refine call_len_set ho hex hd e3 (by rw [e2]; omega) ⟨.int (cntD (ks.map (·.2)) : Nat), H1, I2.tok _, ⟨_, by rw [e2, cnt R.nd g]⟩, q1⟩
  rcases hq with hq | hq
  · obtain ⟨its, r, pl, hz⟩ := I1.list hq
    exact call_set_tups (P := X.prog) (w := X.w) ks (I1.ok.hd hc) pl.isList (by simpa using refs_of_vals r) isT hf (by omega) fun h' tk L es ep t R g kp => PyProof.Rows.args_nil (fin h' tk L es ep t R g kp)
  · obtain ⟨its, r, pl, hz⟩ := I1.tuple hq
    exact set_of_tuple (P := X.prog) (w := X.w) ks (I1.ok.hd hc) (show s1.heap.IsTuple l its.toArray from pl) (by simpa using refs_of_vals r) isT hf (by omega) fun h' tk L es ep t R g kp => PyProof.Rows.args_nil (fin h' tk L es ep t R g kp)
theorem tints_v {K : PySem.W.Frag} {g : G} {H : Hp} {S : Pots} (ok : Ok g H S) : ∀ {ds : List D} {ks : List (List Int)} {vs : List V}, tintsOf ds = some ks → All2 (RB K g H 0) ds vs → ∃ l : List (Addr × List Int), vs = l.map (fun p => V.ref p.1) ∧ l.map (·.2) = ks ∧ ∀ p ∈ l, SqT K H p.1 (p.2.map V.int)
  | [], ks, vs, h, r => by
    cases r
    simp [tintsOf] at h
    exact ⟨[], rfl, h.symm, fun p hp => by simp at hp⟩
  | d :: ds, ks, vs, h, r => by
    cases r with
    | cons r1 r2 =>
      unfold tintsOf at h
      cases e1 : tkeyOf d with
      | none => rw [e1] at h; cases h
      | some k =>
        cases e2 : tintsOf ds with
        | none => rw [e1, e2] at h; cases h
        | some ks' =>
          rw [e1, e2] at h
          cases h
          obtain ⟨l, q1, q2, q3⟩ := tints_v ok e2 r2
          obtain ⟨b, rfl, hb, _⟩ := tup_key ok e1 r1
          exact ⟨(b, k) :: l, by simp [q1], by simp [q2], fun p hp => by
            rcases List.mem_cons.mp hp with rfl | hp
            · exact hb
            · exact q3 p hp⟩
theorem setLen_some {ds : List D} {z : D} (h : setLen ds = some z) : ∃ ks, tintsOf ds = some ks ∧ ks.length < 64 ∧ z = .int (cntD ks : Nat) := by
  unfold setLen at h
  split at h
  · rename_i ks e
    split at h
    · rename_i hl; cases h; exact ⟨ks, e, hl, rfl⟩
    · cases h
  · cases h
theorem db_setLen (T : Std C) {q : Pos} (hm : C.mg "len" = none) (hm2 : C.mg "set" = none) (ha : DB C a 1 fa) (hg : ∀ i, Gl (C.X i) "len" := by intro _; rfl) (hg2 : ∀ i, Gl (C.X i) "set" := by intro _; rfl)
    (na : ∀ i, starEach [a] (C.X i).env = (false, eval a (C.X i).env) :: starEach [] (C.X i).env := by intro _; rfl) (nb : ∀ i, starEach [.Call (.Name "set" p2) [a] [] q] (C.X i).env = (false, eval (.Call (.Name "set" p2) [a] [] q) (C.X i).env) :: starEach [] (C.X i).env := by intro _; rfl) :
    DB C (.Call (.Name "len" p) [.Call (.Name "set" p2) [a] [] q] [] pos) 0 (ap1 dSetLen fa) := by
  obtain ⟨t, pa, s⟩ := ha
  refine ⟨tLenSetT C.K t, fun i => by rw [← T.k i]; exact pe_lenSetT (by have := T.hu i; omega) (T.calm i) (hg i) (by rw [T.mg i]; exact hm) (hg2 i) (by rw [T.mg i]; exact hm2) (pa i) (na i) (nb i), fun g H S ρ σ A Q st hp => ?_⟩
  refine s g H S ρ σ A _ st ((ap1_post hp).mono (fun d S1 q1 g1 H1 v ok1 gr1 r1 => ?_) fun _ _ z => z)
  obtain ⟨z, ez, q⟩ := q1
  cases d <;> simp only [dSetLen, reduceCtorEq] at ez
  · obtain ⟨ks, ek, hl, rfl⟩ := setLen_some ez
    obtain ⟨l, vs, rfl, h1, h2⟩ := RB.tup ok1 r1
    obtain ⟨L, rfl, e2, h3⟩ := tints_v ok1 ek h2
    subst e2
    exact ⟨l, L, rfl, .inr h1.sq, h3, by simpa using hl, q g1 H1 _ ok1 gr1 rfl⟩
  · obtain ⟨ks, ek, hl, rfl⟩ := setLen_some ez
    obtain ⟨l, vs, rfl, h1, h2⟩ := RB.lst r1
    obtain ⟨L, rfl, e2, h3⟩ := tints_v ok1 ek h2
    subst e2
    exact ⟨l, L, rfl, .inl (SqL.of h1), h3, by simpa using hl, q g1 H1 _ ok1 gr1 rfl⟩

/-! ### repr -/
mutual
def ints12 : PyData → Bool
  | .int i => decide (i.natAbs < 1000000000000)
  | .list xs => ints12L xs
  | .tuple xs => ints12L xs
  | .dict _ => false
  | _ => true
def ints12L : List PyData → Bool
  | [] => true
  | x :: xs => ints12 x && ints12L xs
end
mutual
theorem ints12_short : ∀ d : PyData, ints12 d = true → d.intsShort 13 = true ∧ d.showable = true ∧ d.hasDict = false
  | .none, _ => ⟨rfl, rfl, rfl⟩
  | .bool _, _ => ⟨rfl, rfl, rfl⟩
  | .str _, _ => ⟨rfl, rfl, rfl⟩
  | .int i, h => by
    have h : i.natAbs < 1000000000000 := by simpa [ints12] using h
    refine ⟨?_, ?_, rfl⟩
    · simp only [PyData.intsShort, decide_eq_true_eq]
      exact PyData.shown_int_le (by omega)
    · simp only [PyData.showable, decide_eq_true_eq]
      by_cases h0 : i.natAbs = 0
      · rw [h0]; decide
      · exact (Nat.log2_lt h0).mpr (Nat.lt_of_lt_of_le h (by decide +kernel))
  | .list xs, h => by
    obtain ⟨h1, h2, h3⟩ := ints12L_short xs (by simpa [ints12] using h)
    exact ⟨by simpa [PyData.intsShort] using h1, by simpa [PyData.showable] using h2, by simpa [PyData.hasDict] using h3⟩
  | .tuple xs, h => by
    obtain ⟨h1, h2, h3⟩ := ints12L_short xs (by simpa [ints12] using h)
    exact ⟨by simpa [PyData.intsShort] using h1, by simpa [PyData.showable] using h2, by simpa [PyData.hasDict] using h3⟩
  | .dict _, h => by simp [ints12] at h
theorem ints12L_short : ∀ xs : List PyData, ints12L xs = true → PyData.intsShortAll 13 xs = true ∧ PyData.showableAll xs = true ∧ PyData.hasDictAll xs = false
  | [], _ => ⟨rfl, rfl, rfl⟩
  | x :: xs, h => by
    have h : ints12 x = true ∧ ints12L xs = true := by simpa [ints12L] using h
    obtain ⟨a1, a2, a3⟩ := ints12_short x h.1
    obtain ⟨b1, b2, b3⟩ := ints12L_short xs h.2
    exact ⟨by simp [PyData.intsShortAll, a1, b1], by simp [PyData.showableAll, a2, b2], by simp [PyData.hasDictAll, a3, b3]⟩
end
def reprOk (d : D) : Bool := d.py.layable0 && ints12 d.py
/-- repr(x) as text -/
def dRepr (d : D) : Option D := if reprOk d then some (.str d.py.shown) else none
def rReprD (K : PySem.W.Frag) : List V → Hp → VK → Prop := fun xs H Q => ∃ x d, xs = [x] ∧ Dp K H x d ∧ d.layable0 = true ∧ ints12 d = true ∧ Q (.str d.shown) H
theorem cr_repr {X : Cx} (hg : X.A.guards = some []) (hu : X.A.units + 100 < cLine) : CallR X (.builtin "repr") (rReprD X.K) := by
  intro pins s σ H xs us Q I r h
  obtain ⟨x, d, rfl, hd, hl, hi, q⟩ := h
  obtain ⟨u, rfl, ru⟩ := vals1 r
  obtain ⟨as, rd⟩ := Dp.reads I d x u hd ru
  obtain ⟨h1, h2, h3⟩ := ints12_short d hi
  have hsz : d.shown.length ≤ sizeLine := PyData.shown_fits_of_layable0 (by decide) (by decide) hl h1
  have hdep : d.depth ≤ 64 := by
    have : ((PyData.canLay0 d && decide (PyData.depth d ≤ 64)) && decide (PyData.weight d ≤ 2 ^ 20)) = true := hl
    simp only [Bool.and_eq_true, decide_eq_true_eq] at this
    exact this.1.2
  have key : ∀ a, u = .ref a → wpAny (model X.prog X.w) X.A (call (.builtin "repr") [u]) (EP X pins σ Q) X.xe s := fun a e => by
    subst e
    exact repr_of_reads' rd h2 (PyData.noDict_hsm h3) hg (by omega) (fun _ _ e => e) (fun h' t tk hk => ⟨.str d.shown, H, I.kept hk, ⟨t, rfl⟩, q⟩) hsz
  cases rd with
  | none => exact PySem.P.repr_of_none ⟨.str _, H, I.tok _, ⟨_, rfl⟩, q⟩
  | bool b => exact PySem.P.repr_of_bool ⟨.str _, H, I.tok _, ⟨_, rfl⟩, q⟩
  | int i t =>
    refine PySem.P.repr_of_int ?_ ⟨.str _, H, I.tok _, ⟨_, rfl⟩, q⟩
    simpa [PyData.showable] using h2
  | str y t => exact PySem.P.repr_of_str ⟨.str _, H, I.tok _, ⟨_, rfl⟩, q⟩ hsz
  | list => exact key _ rfl
  | tuple => exact key _ rfl
  | dict => exact key _ rfl
theorem lay_can {d : PyData} (h : d.layable0 = true) : d.canLay0 = true := by
  have : ((PyData.canLay0 d && decide (PyData.depth d ≤ 64)) && decide (PyData.weight d ≤ 2 ^ 20)) = true := h
  simp only [Bool.and_eq_true] at this
  exact this.1.1
theorem de_repr (T : Std C) (hm : C.mg "repr" = none) (ha : DB C a n fa) (hg : ∀ i, Gl (C.X i) "repr" := by intro _; rfl) (he : ∀ i, starEach [a] (C.X i).env = (false, eval a (C.X i).env) :: starEach [] (C.X i).env := by intro _; rfl) :
    DE C (.Call (.Name "repr" p) [a] [] pos) 0 (apL (uno dRepr) (consM fa fun _ => pure [])) :=
  de_cb (id := "repr") (r := rReprD C.K) (fun i => by rw [← T.k i]; exact cr_repr (T.hg i) (T.hu i)) (CbS.uno fun g H S v d z Q ok hr hz k => by
    unfold dRepr at hz
    split at hz
    · rename_i h
      cases hz
      obtain ⟨h1, h2⟩ : d.py.layable0 = true ∧ ints12 d.py = true := by simpa [reprOk] using h
      exact ⟨v, d.py, rfl, RB.dp0 ok hr (lay_can h1), h1, h2, k g H _ ok GrowA.refl (RN.flat rfl rfl)⟩
    · cases hz) T hm (by decide +kernel) (da_cons ha da_nil he) hg (he := he)
end
end DS
/-! DSr: defs and calls. -/
namespace DS
open PySem PySem.Spec PyProof.Rows L2

/-! ### a def's promise where no guard stands around -/
structure FnG (P : Program) (w : World) (K : PySem.W.Frag) (mg : Str → Option Value) (base : Heap) (k : Nat) (f : Addr) (fd : FuncData) (ps : List Str) (sp : Sp) : Prop where
  len : ∀ vs H Q E, sp vs H Q E → vs.length = ps.length
  run : ∀ (A : Around) (outer : List Env) (s : Shared) (H : Hp) (args : Args) (us : List Value) (vs : List V) (Q : VK) (E : XK), Room k A → A.guards = some [] → Env0 P w K mg base A outer s H → BindsTo s fd args (ps.zip us) → Vals vs us → sp vs H Q E →
    codeAny (model P w) A (.call (.ref f) args) (CR (L2.CX P w) outer P w H s Q E) s
theorem FnG.mono {P : Program} {w : World} {K : PySem.W.Frag} {mg : Str → Option Value} {base : Heap} {j k : Nat} {f : Addr} {fd : FuncData} {ps : List Str} {sp : Sp} (F : FnG P w K mg base j f fd ps sp) (h : j ≤ k) :
    FnG P w K mg base k f fd ps sp := ⟨F.len, fun A outer s H args us vs Q E hr => F.run A outer s H args us vs Q E (hr.mono h)⟩
theorem fnG_of {P : Program} {w : World} {K : PySem.W.Frag} {mg : Str → Option Value} {base : Heap} {k : Nat} {f : Addr} {name qual : Str} {params : Arguments} {body : List Stmt} {scope : Scope} {dV kV doc pm cdv ct oc : Value} {an od : Option Addr}
    {osl : Array (Option Value)} {N ps : List Str} {sp : Sp} (lk : K.lookup f = some ⟨oc, od, .func (PySem.W.fnOf name qual params body scope dV kV doc pm an cdv ct), osl⟩) (hcd : PySem.W.codeIn K cdv qual = true) (S : FnScope N ps scope)
    (len : ∀ vs H Q E, sp vs H Q E → vs.length = ps.length)
    (hbody : ∀ (A : Around) (outer : List Env) (s : Shared) (H : Hp) (vs : List V) (Q : VK) (E : XK), Room k (A.deeper (envOfC qual scope s.heap.objs.size f cdv)) → A.guards = some [] → sp vs H Q E →
      ∃ t, PSs (cxOf (L2.CX P w) P w K mg base N qual scope f cdv A outer s H E) body t ∧ t { nx := fun _ H' => Q .non H', rt := Q } (start N vs) H) :
    FnG P w K mg base (k + 1) f (PySem.W.fnOf name qual params body scope dV kV doc pm an cdv ct) ps sp := by
  refine ⟨len, fun A outer s H args us vs Q E hr hgd e0 hb r hsp => ?_⟩
  -- one promise of HandS's shape, at this A alone
  let sp' : Sp := fun vs' H' Q' E' => sp vs' H' Q' E' ∧ A.guards = some []
  have hl := len _ _ _ _ hsp
  have KX : K.In s.heap := e0.mod.kin.keeps fun b o e => (e0.bs b o e).1
  have lim : s.heap.NoLimit := e0.mod.nolimit.keeps fun b o e => (e0.bs b o e).1
  have hkind : ∀ y ∈ ps.zip us, scope.names.lookup y.1 = some .local ∨ (scope.names.lookup y.1 = some .cell ∧ ((cellsFrom (s.heap.objs.size + 1) scope.names []).lookup y.1).isSome = true) := fun ⟨n, v⟩ hy => by
    rcases S.par n (List.of_mem_zip hy).1 with q | q
    · exact .inl q
    · exact .inr ⟨q, PySem.W.cellsFrom_some _ _ _ (.inl q)⟩
  refine codeAny_call_function hr.depth (KX _ _ lk) rfl S.co S.gen rfl (PySem.W.codeRec_of KX hcd) (hb _ _ _ _ ?_)
  refine wpAny_newFunctionEnv_cells S.kind hkind fun env he s1 x => ?_
  subst he
  refine ⟨lim.keeps x.toInCall.keep, codeAny_func ?_⟩
  obtain ⟨t, ht, hq⟩ := hbody A outer s H vs Q E (hr.deeper _) hgd hsp
  have I : Inv (cxOf (L2.CX P w) P w K mg base N qual scope f cdv A outer s H E) [] (start N vs) H s1 := inv_start S hr.hd e0 hl r x
  refine wpAny_mono (ht.run [] s1 (start N vs) H _ I hq) (fun fl s' hs => ?_) fun e s' hs => hs
  have fin : ∀ {σ' : L2.St} {H' : Hp} {v : V} {u : Value}, Inv (cxOf (L2.CX P w) P w K mg base N qual scope f cdv A outer s H E) [] σ' H' s' → RelV v u → Q v H' → CE outer P w H s Q u s' :=
    fun {σ' H' v u} J rv q => ⟨v, H', J.os, J.bare, J.base, J.hok, rv, q⟩
  cases fl with
  | ret u =>
    obtain ⟨v, σ', H', J, rv, q⟩ := hs
    exact fin J rv q
  | next =>
    obtain ⟨σ', H', J, q⟩ := hs
    exact fin (v := V.non) (u := Value.none) J rfl q
  | brk =>
    obtain ⟨_, _, _, q⟩ := hs
    exact False.elim q
  | cont =>
    obtain ⟨_, _, _, q⟩ := hs
    exact False.elim q

/-! ### a def over plain data -/
def XRk (K : PySem.W.Frag) (mg : Str → Option Value) (g : G) (H : Hp) (x : Exn) (c : Value) (dd : Option Addr) : Prop :=
  ∃ a, mg x.name = some (.ref a) ∧ c = .ref a ∧ ((x.fields = [] ∧ dd = none) ∨
    ∃ p fs, dd = some p ∧ H p = some (.xd fs) ∧ x.fields.map (·.1) = fs.map (·.1) ∧ RpL K g.π g.F (x.fields.map (·.2)) (fs.map (·.2)))
theorem xr_k (C : Ctx) : XR C = XRk C.K C.mg := rfl
def spD (K : PySem.W.Frag) (mg : Str → Option Value) (n r : Nat) (m : List D → M D) : Sp := fun vs H Q E => vs.length = n ∧ ∃ (g : G) (S : Pots) (ds : List D), Ok g H S ∧ RpL K g.π g.F ds vs ∧
  (m ds S).Post (fun d S' => ∀ g' H' v, Ok g' H' S' → Grow g H g' H' → RN K g' H [] H' r d v → Q v H') (fun x S' => ∀ g' H' c dd, Ok g' H' S' → Grow g H g' H' → XRk K mg g' H' x c dd → E c dd H')
def startE (n : Nat) (ds : List D) : Env' := ds.map (fun d => some (d, 0)) ++ List.replicate (n - ds.length) none
def fnM (n : Nat) (q : Env' → M (Fl × Env')) : List D → M D := fun ds => do
  let p ← q (startE n ds)
  match p.1 with
  | .rt d => pure d
  | .nx => pure .non
  | _ => M.bad
theorem slots_none {K : PySem.W.Frag} {π : List Addr} {F H : Hp} : ∀ j : Nat, Slots K π F H (List.replicate j none) (List.replicate j none) []
  | 0 => .nil
  | j + 1 => .none none (slots_none j)
theorem slots_start {K : PySem.W.Frag} {π : List Addr} {F H : Hp} (j : Nat) : ∀ {ds : List D} {vs : List V}, RpL K π F ds vs → Slots K π F H (ds.map (fun d => some (d, 0)) ++ List.replicate j none) (vs.map some ++ List.replicate j none) []
  | [], vs, h => by cases (show vs = [] from h); exact slots_none j
  | d :: ds, vs, h => by
    obtain ⟨v, r, rfl, h1, h2⟩ := h
    exact .some (B := []) ⟨h1, rfl⟩ (slots_start j h2)
theorem rn_non {K : PySem.W.Frag} {g : G} {H0 H : Hp} {r : Nat} : RN K g H0 [] H r .non .non := RN.flat rfl rfl
/-- where a def's body runs -/
def ctxF (P : Program) (w : World) (K : PySem.W.Frag) (mg : Str → Option Value) (base : Heap) (N : List Str) (qual : Str) (scope : Scope) (f : Addr) (cdv : Value) (k : Nat) (E : XK) : Ctx where
  ι := { i : Around × List Env × Shared × Hp // Room k (i.1.deeper (envOfC qual scope i.2.2.1.heap.objs.size f cdv)) ∧ i.1.guards = some [] }
  X := fun i => cxOf (L2.CX P w) P w K mg base N qual scope f cdv i.1.1 i.1.2.1 i.1.2.2.1 i.1.2.2.2 E
  K := K
  mg := mg
  W := fun c d _ H => E c d H
/-- where calls may stand -/
structure Cl (P : Program) (w : World) (base : Heap) (k : Nat) (C : Ctx) : Prop where
  std : Std C
  pr : ∀ i, (C.X i).prog = P
  wr : ∀ i, (C.X i).w = w
  bs : ∀ i, (C.X i).base = base
  rm : ∀ i, Room k (C.X i).A
  tk : ∀ i, Takes (C.X i) C.W
theorem cl_ctxF {P : Program} {w : World} {K : PySem.W.Frag} {mg : Str → Option Value} {base : Heap} {N : List Str} {qual : Str} {scope : Scope} {f : Addr} {cdv : Value} {k : Nat} {E : XK} (nd : N.Nodup) :
    Cl P w base k (ctxF P w K mg base N qual scope f cdv k E) where
  std := { k := fun _ => rfl, mg := fun _ => rfl, calm := fun _ => rfl, hu := fun i => by have := i.2.1.un; show (i.1.1.deeper (envOfC qual scope i.1.2.2.1.heap.objs.size f cdv)).units + 100 < cLine; omega, hg := fun i => i.2.2, nd := fun _ => nd, po := fun _ => passes_of rfl }
  pr := fun _ => rfl
  wr := fun _ => rfl
  bs := fun _ => rfl
  rm := fun i => i.2.1
  tk := fun i => takes_of rfl rfl rfl rfl
theorem Cl.blk {P : Program} {w : World} {base : Heap} {k : Nat} {C : Ctx} (c : Cl P w base k C) (scope : Scope) : Cl P w base k (blkC C scope) where
  std := c.std.blk scope
  pr := fun j => c.pr j.1
  wr := fun j => c.wr j.1
  bs := fun j => c.bs j.1
  rm := fun j => c.rm j.1
  tk := fun j u s' x => by
    obtain ⟨_, _, _, _, _, _, _, _, _, _, _, _, _, _, _, _, z⟩ := x
    exact z.elim
/-- THE RULE: a def, by its body -/
theorem fn_ds {P : Program} {w : World} {K : PySem.W.Frag} {mg : Str → Option Value} {base : Heap} {x qual : Str} {st : Stmt} {f : Addr} {fd : FuncData} {N ps : List Str} {k r : Nat} {q : Env' → M (Fl × Env')} (F : FunD K x qual (defArgs st) (defBody st) (defScope st) [] [] f fd) (S : FnScope N ps (defScope st))
    (hb : ∀ (cdv : Value) (E : XK), Cl P w base k (ctxF P w K mg base N qual (defScope st) f cdv k E) → DSs (ctxF P w K mg base N qual (defScope st) f cdv k E) (defBody st) r q) :
    FnG P w K mg base (k + 1) f fd ps (spD K mg ps.length r (fnM N.length q)) := by
  obtain ⟨oc, od, dV, kV, doc, pm, an, cdv, ct, osl, rfl, lk, hcd, _, _⟩ := F.ex
  refine fnG_of lk hcd S (fun vs H Q E h => h.1) fun A outer s H vs Q E hr hg hsp => ?_
  obtain ⟨hl, g, S0, ds, ok, rp, hp⟩ := hsp
  obtain ⟨t, pt, ht⟩ := hb cdv E (cl_ctxF S.nd)
  refine ⟨t, pt ⟨(A, outer, s, H), hr, hg⟩, ht g H S0 (startE N.length ds) _ [] _ ⟨ok, ?_, List.nodup_nil⟩ ?_⟩
  · have := slots_start (H := H) (N.length - vs.length) rp
    unfold startE L2.start
    rw [rp.length]; exact this
  · unfold fnM at hp
    rw [post_bind] at hp
    refine hp.mono (fun p S' z => ?_) fun e S' z => ?_
    · obtain ⟨fl, ρ'⟩ := p
      cases fl with
      | rt d => exact fun g' H' v ok' gr rn => z g' H' v ok' gr rn
      | nx => exact fun g' H' σ' A' sto gr _ => z g' H' .non sto.ok gr rn_non
      | bk => exact z.elim
      | ct => exact z.elim
    · exact fun g' H' c dd σ' ok' gr xr => z g' H' c dd ok' gr xr

/-! ### by name -/
structure Fn (P : Program) (w : World) (K : PySem.W.Frag) (mg : Str → Option Value) (base : Heap) (k : Nat) (x : Str) (n r : Nat) (m : List D → M D) : Prop where
  ex : ∃ (f : Addr) (fd : FuncData) (ps : List Str), FnG P w K mg base k f fd ps (spD K mg n r m) ∧ mg x = some (.ref f) ∧ PySem.W.keepIn K (.ref f) = true ∧ Binds K fd ps []
/-- by keywords: ix puts them in the parameters' order -/
def permL {α : Type} (ix : List Nat) (xs : List α) : List α := ix.filterMap fun i => xs[i]?
structure FnKw (P : Program) (w : World) (K : PySem.W.Frag) (mg : Str → Option Value) (base : Heap) (k : Nat) (x : Str) (ks : List Str) (ix : List Nat) (r : Nat) (m : List D → M D) : Prop where
  ex : ∃ (f : Addr) (fd : FuncData) (ps : List Str), FnG P w K mg base k f fd ps (spD K mg ix.length r m) ∧ mg x = some (.ref f) ∧ PySem.W.keepIn K (.ref f) = true ∧ (∀ i ∈ ix, i < ks.length) ∧
    ∀ (s : Shared) (ws : List Value), K.In s.heap → ws.length = ks.length → BindsTo s fd ⟨[], ks.zip ws⟩ (ps.zip (permL ix ws))
theorem fn_def {P : Program} {w : World} {K : PySem.W.Frag} {mg : Str → Option Value} {base : Heap} {k : Nat} {x : Str} {st : Stmt} {f : Addr} {fd : FuncData} {ps : List Str} {r : Nat} {m : List D → M D} (F : FunD K x x (defArgs st) (defBody st) (defScope st) [] [] f fd) (hm : mg x = some (.ref f)) (h : FnG P w K mg base k f fd ps (spD K mg ps.length r m)) (b : Binds K fd ps []) :
    Fn P w K mg base k x ps.length r m := ⟨f, fd, ps, h, hm, F.kp, b⟩

section
variable {X : Cx} {k : Nat} {f : Addr} {fd : FuncData} {ps ks : List Str} {sp : Sp} {E : L2.St → XK} {x : Str} {p pos : Pos} {e : Expr} {es : List Expr} {kws : List Keyword} {t : TA} {ix : List Nat}
theorem run_fnG {pins : List (Addr × Obj)} {σ : L2.St} {H : Hp} {s : Shared} {Q : VK} {us : List Value} {vs : List V} {args : Args} (F : FnG X.prog X.w X.K X.mg X.base k f fd ps sp) (hr : Room k X.A) (hgd : X.A.guards = some []) (hb : BindsTo s fd args (ps.zip us)) (hx : PassesAt (L2.CX X.prog X.w) X σ (E σ))
    (I : Inv X pins σ H s) (r : Vals vs us) (h : sp vs H Q (E σ)) : wpAny (model X.prog X.w) X.A (call (.ref f) args.pos args.kw) (EP X pins σ Q) X.xe s := by
  refine wpAny_call (codeAny_mono (F.run X.A X.stack s H args us vs Q (E σ) hr hgd I.env0 hb r h) fun r s' hq => ?_)
  cases r with
  | error e => exact hx pins H s e s' I hq
  | ok fl =>
    cases fl with
    | ret u => exact I.after hq
    | next => exact False.elim hq
    | brk => exact False.elim hq
    | cont => exact False.elim hq
theorem pe_callG (F : FnG X.prog X.w X.K X.mg X.base k f fd ps sp) (hr : Room k X.A) (hgd : X.A.guards = some []) (hg : Gl X x) (hm : X.mg x = some (.ref f)) (hk : PySem.W.keepIn X.K (.ref f) = true) (hb : Binds X.K fd ps []) (hx : ∀ σ, PassesAt (L2.CX X.prog X.w) X σ (E σ))
    (ha : PA X (e :: es) t) (hdb : (x == ("__debug__" : Str)) = false := by decide) (he : starEach (e :: es) X.env = (false, eval e X.env) :: starEach es X.env := by rfl) (hpl : (backTo pos (starEach es X.env)).any (·.1) = false := by rfl) :
    PE X (.Call (.Name x p) (e :: es) [] pos) (tCallS sp E t) := by
  refine ⟨fun pins s σ H Q I h => ?_⟩
  refine wpAny_Call_Name_kw (ld_glob I hg hm ?_ hdb)
  refine PySem.W.callWith_K (h₀ := X.base) I.ok.mod.kin hk (thn (ha.run pos pins s σ H _ I h) fun us s1 ⟨vs, H1, I1, r, q⟩ => ⟨I1.kIn, ?_⟩) he hpl
  have hl : us.length = ps.length := by rw [← r.length]; exact F.len _ _ _ _ q
  have b := hb s1 us I1.kIn (by rw [List.append_nil]; exact hl)
  rw [List.append_nil] at b
  exact run_fnG (args := ⟨us, []⟩) F hr hgd b (hx σ) I1 r q
theorem vals_perm {zs : List V} {ws : List Value} (r : Vals zs ws) : ∀ ix : List Nat, Vals (permL ix zs) (permL ix ws)
  | [] => .nil
  | i :: ix => by
    have ih := vals_perm r ix
    unfold permL at ih ⊢
    rw [List.filterMap_cons, List.filterMap_cons]
    cases e : zs[i]? with
    | none =>
      have : ws[i]? = none := by
        rw [List.getElem?_eq_none_iff] at e ⊢
        rw [← r.length]; exact e
      rw [this]; exact ih
    | some z =>
      obtain ⟨u, hu, rv⟩ := r.get e
      rw [hu]; exact .cons rv ih
theorem pe_callGK (F : FnG X.prog X.w X.K X.mg X.base k f fd ps sp) (hr : Room k X.A) (hgd : X.A.guards = some []) (hg : Gl X x) (hm : X.mg x = some (.ref f)) (hk : PySem.W.keepIn X.K (.ref f) = true)
    (hb : ∀ (s : Shared) (ws : List Value), X.K.In s.heap → ws.length = ks.length → BindsTo s fd ⟨[], ks.zip ws⟩ (ps.zip (permL ix ws))) (hx : ∀ σ, PassesAt (L2.CX X.prog X.w) X σ (E σ))
    (hkw : PK X kws t) (hall : (backToKw pos (keywordEach kws X.env)).all (·.1.isSome) = true := by rfl) (hks : (backToKw pos (keywordEach kws X.env)).filterMap (·.1) = ks := by rfl)
    (hdb : (x == ("__debug__" : Str)) = false := by decide) (hpl : ((backTo pos (starEach [] X.env)).any (·.1) || (backToKw pos (keywordEach kws X.env)).any (·.1.isNone)) = false := by rfl) :
    PE X (.Call (.Name x p) [] kws pos) (fun σ H Q => t σ H fun zs H1 => zs.length = ks.length ∧ sp (permL ix zs) H1 Q (E σ)) := by
  refine ⟨fun pins s σ H Q I h => ?_⟩
  refine wpAny_Call_Name_kw (ld_glob I hg hm ?_ hdb)
  refine PySem.W.callWith_KW0 (h₀ := X.base) I.ok.mod.kin hk hall ?_ hpl
  refine thn (hkw.run pos pins s σ H _ I h) fun ws s2 ⟨zs, H2, I2, rz, l2, q2⟩ => ⟨I2.kIn, ?_⟩
  rw [hks]
  exact run_fnG (args := ⟨[], ks.zip ws⟩) F hr hgd (hb s2 ws I2.kIn (by rw [← rz.length]; exact l2)) (hx σ) I2 (vals_perm rz ix) q2
end

/-! ### calls over plain data -/
section
variable {P : Program} {w : World} {base : Heap} {C : Ctx} {j k n r : Nat} {x : Str} {m : List D → M D} {p pos : Pos} {e : Expr} {es : List Expr} {kws : List Keyword} {fs : Env' → M (List D)} {ks : List Str} {ix : List Nat}
def callM (n : Nat) (fs : Env' → M (List D)) (m : List D → M D) : Env' → M D := fun ρ => do
  let ds ← fs ρ
  chk (decide (ds.length = n))
  m ds
theorem Cl.fn {f : Addr} {fd : FuncData} {ps : List Str} {sp : Sp} (c : Cl P w base k C) (F : FnG P w C.K C.mg base j f fd ps sp) (i : C.ι) : FnG (C.X i).prog (C.X i).w (C.X i).K (C.X i).mg (C.X i).base j f fd ps sp := by
  rw [c.pr i, c.wr i, c.std.k i, c.std.mg i, c.bs i]; exact F
/-- f(e, ..), what is handed in is frozen -/
theorem de_call (c : Cl P w base k C) (F : Fn P w C.K C.mg base j x n r m) (hj : j ≤ k) (ha : DA C (e :: es) 0 fs) (hg : ∀ i, Gl (C.X i) x := by intro _; rfl)
    (hdb : (x == ("__debug__" : Str)) = false := by decide) (he : ∀ i, starEach (e :: es) (C.X i).env = (false, eval e (C.X i).env) :: starEach es (C.X i).env := by intro _; rfl) (hpl : ∀ i, (backTo pos (starEach es (C.X i).env)).any (·.1) = false := by intro _; rfl) :
    DE C (.Call (.Name x p) (e :: es) [] pos) r (callM n fs m) := by
  obtain ⟨f, fd, ps, Ff, hm, hk, hb⟩ := F.ex
  obtain ⟨t, pa, s⟩ := ha
  refine ⟨tCallS (spD C.K C.mg n r m) (WE C.W) t, fun i => pe_callG (c.fn (Ff.mono hj) i) (c.rm i) (c.std.hg i) (hg i) (by rw [c.std.mg i]; exact hm) (by rw [c.std.k i]; exact hk) (by rw [c.std.k i]; exact hb) (fun σ => passAt (c.tk i) σ) (pa i) hdb (he i) (hpl i), fun g H S ρ σ A Q st hp => ?_⟩
  unfold callM at hp
  rw [post_bind] at hp
  refine s g H S ρ σ A _ st (hp.mono (fun ds S1 q g1 H1 vs ok1 gr1 rv => ?_) fun _ _ q => q)
  obtain ⟨hl, q⟩ := post_chk (post_bind.mp q)
  have hl : ds.length = n := of_decide_eq_true hl
  have rp : RpL C.K g1.π g1.F ds vs := All2.rpl rv
  refine ⟨by rw [← rp.length]; exact hl, g1, S1, ds, ok1, rp, q.mono (fun d S2 z g2 H2 v ok2 gr2 rn => z g2 H2 v ok2 (gr1.trans gr2) (rn.back gr1)) fun y S2 z g2 H2 cc dd ok2 gr2 xr => z g2 H2 cc dd ok2 (gr1.trans gr2) xr⟩

/-! #### by keywords -/
def DK (C : Ctx) (kws : List Keyword) (m : Nat) (f : Env' → M (List D)) : Prop :=
  ∃ t : TA, (∀ i, PK (C.X i) kws t) ∧ ∀ (g : G) (H : Hp) (S : Pots) (ρ : Env') (σ : L2.St) (A : List Addr) (Q : List V → Hp → Prop), Sto C.K g H S ρ σ A →
    (f ρ S).Post (fun ds S' => ∀ g' H' vs, Ok g' H' S' → Grow g H g' H' → All2 (RB C.K g' H' m) ds vs → Q vs H') (EX C g H σ) → t σ H Q
theorem dk_nil {m : Nat} : DK C [] m (fun _ => pure []) := ⟨tNil, fun _ => pk_nil, fun g H S ρ σ A Q st hp => hp g H [] st.ok GrowA.refl .nil⟩
theorem dk_cons {a : Expr} {m : Nat} {fa : Env' → M D} {nm : Option Str} {kp : Pos} (ha : DB C a m fa) (hr : DK C kws m fs) : DK C (⟨nm, a, kp⟩ :: kws) m (consM fa fs) := by
  obtain ⟨t, pe, s⟩ := ha
  obtain ⟨ts, pk, ss⟩ := hr
  refine ⟨tCons t ts, fun i => pk_cons (pe i) (pk i), fun g H S ρ σ A Q st hp => ?_⟩
  unfold consM at hp
  rw [post_bind] at hp
  refine s g H S ρ σ A _ st (hp.mono (fun d S1 q g1 H1 v ok1 gr1 rv => ?_) fun _ _ q => q)
  rw [post_bind] at q
  refine ss g1 H1 S1 ρ σ A _ (st.grow ok1 gr1) (q.mono (fun ds S2 z g2 H2 vs ok2 gr2 rvs => ?_) fun _ _ z => z.step gr1)
  exact z g2 H2 (v :: vs) ok2 (gr1.trans gr2) (.cons (RB.grow gr2 _ _ _ rv) rvs)
theorem rpl_perm {K : PySem.W.Frag} {π : List Addr} {F : Hp} {ds : List D} {vs : List V} (h : RpL K π F ds vs) : ∀ ix : List Nat, RpL K π F (permL ix ds) (permL ix vs)
  | [] => rfl
  | i :: ix => by
    have ih := rpl_perm h ix
    unfold permL at ih ⊢
    rw [List.filterMap_cons, List.filterMap_cons]
    cases q : ds[i]? with
    | none =>
      have : vs[i]? = none := by
        rw [List.getElem?_eq_none_iff] at q ⊢
        rw [← h.length]; exact q
      rw [this]; exact ih
    | some d =>
      obtain ⟨v, hv, rv⟩ := h.get q
      rw [hv]; exact ⟨v, _, rfl, rv, ih⟩
def callKM (n : Nat) (ix : List Nat) (fs : Env' → M (List D)) (m : List D → M D) : Env' → M D := fun ρ => do
  let ds ← fs ρ
  chk (decide (ds.length = n) && decide ((permL ix ds).length = ix.length))
  m (permL ix ds)
theorem de_callK (c : Cl P w base k C) (F : FnKw P w C.K C.mg base j x ks ix r m) (hj : j ≤ k) (ha : DK C kws 0 fs) (hg : ∀ i, Gl (C.X i) x := by intro _; rfl)
    (hall : ∀ i, (backToKw pos (keywordEach kws (C.X i).env)).all (·.1.isSome) = true := by intro _; rfl) (hks : ∀ i, (backToKw pos (keywordEach kws (C.X i).env)).filterMap (·.1) = ks := by intro _; rfl)
    (hdb : (x == ("__debug__" : Str)) = false := by decide) (hpl : ∀ i, ((backTo pos (starEach [] (C.X i).env)).any (·.1) || (backToKw pos (keywordEach kws (C.X i).env)).any (·.1.isNone)) = false := by intro _; rfl) :
    DE C (.Call (.Name x p) [] kws pos) r (callKM ks.length ix fs m) := by
  obtain ⟨f, fd, ps, Ff, hm, hk, hix, hb⟩ := F.ex
  obtain ⟨t, pa, s⟩ := ha
  refine ⟨_, fun i => pe_callGK (ks := ks) (ix := ix) (E := WE C.W) (c.fn (Ff.mono hj) i) (c.rm i) (c.std.hg i) (hg i) (by rw [c.std.mg i]; exact hm) (by rw [c.std.k i]; exact hk) (by rw [c.std.k i]; exact hb) (fun σ => passAt (c.tk i) σ) (pa i) (hall i) (hks i) hdb (hpl i), fun g H S ρ σ A Q st hp => ?_⟩
  unfold callKM at hp
  rw [post_bind] at hp
  refine s g H S ρ σ A _ st (hp.mono (fun ds S1 q g1 H1 vs ok1 gr1 rv => ?_) fun _ _ q => q)
  obtain ⟨hl, q⟩ := post_chk (post_bind.mp q)
  obtain ⟨hl, hl2⟩ := Bool.and_eq_true_iff.mp hl
  have hl : ds.length = ks.length := of_decide_eq_true hl
  have hl2 : (permL ix ds).length = ix.length := of_decide_eq_true hl2
  have rp : RpL C.K g1.π g1.F ds vs := All2.rpl rv
  have rp2 := rpl_perm rp ix
  refine ⟨by rw [← rp.length]; exact hl, by rw [← rp2.length]; exact hl2, g1, S1, permL ix ds, ok1, rp2, q.mono (fun d S2 z g2 H2 v ok2 gr2 rn => z g2 H2 v ok2 (gr1.trans gr2) (rn.back gr1)) fun y S2 z g2 H2 cc dd ok2 gr2 xr => z g2 H2 cc dd ok2 (gr1.trans gr2) xr⟩

/-! #### with what is somebody's: the result holds nothing of it -/
def D.immN : Nat → D → Bool
  | 0, d => d.imm
  | n + 1, d => match d with
    | .lst ds => ds.all (D.immN n)
    | .dict _ ks vs => immL ks && vs.all (D.immN n)
    | d => d.imm
/-- the borrowing ghost, and back -/
def gB (g : G) (H : Hp) : G := ⟨off g.π H, g.π⟩
def gU (g : G) (H : Hp) (g' : G) : G := ⟨fun a => if (H a).isSome then g.F a else g'.F a, g'.π⟩
theorem ok_gB {g : G} {H : Hp} {S : Pots} (ok : Ok g H S) : Ok (gB g H) H S where
  sub := fun a o e => off_in e
  tup := fun a q vs e => Ok.foff ok a _ (ok.tup a q vs e)
  len := ok.len
  pot := ok.pot
  nd := ok.nd
theorem ok_gU {g g' : G} {H H' : Hp} {S S' : Pots} (ok : Ok g H S) (ok' : Ok g' H' S') (gr : Grow (gB g H) H g' H') : Ok (gU g H g') H' S' where
  sub := fun a o e => by
    have e : (if (H a).isSome then g.F a else g'.F a) = some o := e
    by_cases z : (H a).isSome = true
    · rw [if_pos z] at e
      obtain ⟨h1, h2⟩ := ok.sub a o e
      exact ⟨gr.npi (by rw [h2]; simp) h1, gr.keep a o h2 h1 (by simp)⟩
    · rw [if_neg z] at e; exact ok'.sub a o e
  tup := fun a q vs e => by
    show (if (H a).isSome then g.F a else g'.F a) = some _
    by_cases z : (H a).isSome = true
    · rw [if_pos z]
      obtain ⟨o, ho⟩ := Option.isSome_iff_exists.mp z
      by_cases m : a ∈ g.π
      · have hm : a ∈ g'.π := by obtain ⟨l, el, _⟩ := gr.pre; rw [el]; exact List.mem_append_left _ m
        exact absurd hm (ok'.sub a _ (ok'.tup a q vs e)).1
      · have k := gr.keep a o ho m (by simp)
        rw [k] at e; cases e
        exact ok.tup a q vs ho
    · rw [if_neg z]; exact ok'.tup a q vs e
  len := ok'.len
  pot := ok'.pot
  nd := ok'.nd
theorem grow_gU {g g' : G} {H H' : Hp} {S : Pots} (ok : Ok g H S) (gr : Grow (gB g H) H g' H') : Grow g H (gU g H g') H' where
  fr := fun a o e => by
    show (if (H a).isSome then g.F a else g'.F a) = some o
    rw [if_pos (by rw [(ok.sub a o e).2]; rfl)]; exact e
  keep := gr.keep
  fresh := fun a e n _ _ => by
    show (if (H a).isSome then g.F a else g'.F a) = none
    rw [if_pos (by cases q : H a with | none => exact absurd q n | some _ => rfl)]; exact e
  there := gr.there
  pre := gr.pre
theorem rp_gU {K : PySem.W.Frag} {g g' : G} {H H' : Hp} {S S' : Pots} (ok : Ok g H S) (ok' : Ok g' H' S') (gr : Grow (gB g H) H g' H') {d : D} {v : V} (hi : d.imm = true) (h : Rp K g'.π g'.F d v) : Rp K (gU g H g').π (gU g H g').F d v :=
  Rp.down (ok_gU ok ok' gr) d v hi (Rp.mono (Le.of ok'.foff) (fun _ _ e => e) d v h)
theorem rpl_gU {K : PySem.W.Frag} {g g' : G} {H H' : Hp} {S S' : Pots} (ok : Ok g H S) (ok' : Ok g' H' S') (gr : Grow (gB g H) H g' H') {ds : List D} {vs : List V} (hi : immL ds = true) (h : RpL K g'.π g'.F ds vs) : RpL K (gU g H g').π (gU g H g').F ds vs :=
  RpL.down (ok_gU ok ok' gr) ds vs hi (RpL.mono (Le.of ok'.foff) (fun _ _ e => e) ds vs h)
theorem ro_gU {K : PySem.W.Frag} {g g' : G} {H H' : Hp} {S S' : Pots} (ok : Ok g H S) (ok' : Ok g' H' S') (gr : Grow (gB g H) H g' H') : ∀ (n : Nat) (d : D) (v : V) (B : List Addr), d.immN n = true → (∀ a ∈ B, H a = none) → RO K g'.π g'.F H' n d v B → RO K (gU g H g').π (gU g H g').F H' n d v B
  | 0, d, v, B, hi, hB, h => ⟨rp_gU ok ok' gr hi h.1, h.2⟩
  | n + 1, d, v, B, hi, hB, h => by
    have out : ∀ a, H a = none → (gU g H g').F a = g'.F a := fun a e => by
      show (if (H a).isSome then g.F a else g'.F a) = g'.F a
      rw [e]; rfl
    cases d with
    | lst ds =>
      obtain ⟨a, vs, As, e, h1, h2, h3, h4, rfl⟩ := h
      have hi : ds.all (D.immN n) = true := hi
      refine ⟨a, vs, As, e, h1, by rw [out a (hB a (by simp))]; exact h2, h3, ?_, rfl⟩
      have go : ∀ {ds : List D} {vs : List V} {As : List Addr}, ds.all (D.immN n) = true → (∀ b ∈ As, H b = none) → All3 (RO K g'.π g'.F H' n) ds vs As → All3 (RO K (gU g H g').π (gU g H g').F H' n) ds vs As := by
        intro ds vs As hi hA q
        induction q with
        | nil => exact .nil
        | cons q1 q2 ih =>
          obtain ⟨i1, i2⟩ := Bool.and_eq_true_iff.mp hi
          exact .cons (ro_gU ok ok' gr n _ _ _ i1 (fun b hb => hA b (List.mem_append_left _ hb)) q1) (ih i2 fun b hb => hA b (List.mem_append_right _ hb))
      exact go hi (fun b hb => hB b (List.mem_cons_of_mem _ hb)) h4
    | dict t ks ds =>
      obtain ⟨a, ws, o, As, e, h1, h2, h3, h4, h5, rfl⟩ := h
      have hi : (immL ks && ds.all (D.immN n)) = true := hi
      obtain ⟨hk, hi⟩ := Bool.and_eq_true_iff.mp hi
      refine ⟨a, ws, o, As, e, h1, by rw [out a (hB a (by simp))]; exact h2, h3, ?_, h5.mono fun us q => rpl_gU ok ok' gr hk q, rfl⟩
      have go : ∀ {ds : List D} {vs : List V} {As : List Addr}, ds.all (D.immN n) = true → (∀ b ∈ As, H b = none) → All3 (RO K g'.π g'.F H' n) ds vs As → All3 (RO K (gU g H g').π (gU g H g').F H' n) ds vs As := by
        intro ds vs As hi hA q
        induction q with
        | nil => exact .nil
        | cons q1 q2 ih =>
          obtain ⟨i1, i2⟩ := Bool.and_eq_true_iff.mp hi
          exact .cons (ro_gU ok ok' gr n _ _ _ i1 (fun b hb => hA b (List.mem_append_left _ hb)) q1) (ih i2 fun b hb => hA b (List.mem_append_right _ hb))
      exact go hi (fun b hb => hB b (List.mem_cons_of_mem _ hb)) h4
    | non => exact ⟨rp_gU ok ok' gr rfl h.1, h.2⟩
    | bl b => exact ⟨rp_gU ok ok' gr rfl h.1, h.2⟩
    | int b => exact ⟨rp_gU ok ok' gr rfl h.1, h.2⟩
    | str b => exact ⟨rp_gU ok ok' gr rfl h.1, h.2⟩
    | tup ds => exact ⟨rp_gU ok ok' gr hi h.1, h.2⟩
    | pot b => exact ⟨rp_gU ok ok' gr rfl h.1, h.2⟩
    | scr b => exact absurd hi (by simp [D.immN, D.imm])
/-- f(e, ..), what is handed in may be somebody's (its top m layers) -/
def callBM (n r : Nat) (fs : Env' → M (List D)) (m : List D → M D) : Env' → M D := fun ρ => do
  let ds ← fs ρ
  chk (decide (ds.length = n))
  let d ← noerr (m ds)
  chk (d.immN r)
  pure d
theorem de_callB {mm : Nat} (c : Cl P w base k C) (F : Fn P w C.K C.mg base j x n r m) (hj : j ≤ k) (ha : DA C (e :: es) mm fs) (hg : ∀ i, Gl (C.X i) x := by intro _; rfl)
    (hdb : (x == ("__debug__" : Str)) = false := by decide) (he : ∀ i, starEach (e :: es) (C.X i).env = (false, eval e (C.X i).env) :: starEach es (C.X i).env := by intro _; rfl) (hpl : ∀ i, (backTo pos (starEach es (C.X i).env)).any (·.1) = false := by intro _; rfl) :
    DE C (.Call (.Name x p) (e :: es) [] pos) r (callBM n r fs m) := by
  obtain ⟨f, fd, ps, Ff, hm, hk, hb⟩ := F.ex
  obtain ⟨t, pa, s⟩ := ha
  refine ⟨tCallS (spD C.K C.mg n r m) (WE C.W) t, fun i => pe_callG (c.fn (Ff.mono hj) i) (c.rm i) (c.std.hg i) (hg i) (by rw [c.std.mg i]; exact hm) (by rw [c.std.k i]; exact hk) (by rw [c.std.k i]; exact hb) (fun σ => passAt (c.tk i) σ) (pa i) hdb (he i) (hpl i), fun g H S ρ σ A Q st hp => ?_⟩
  unfold callBM at hp
  rw [post_bind] at hp
  refine s g H S ρ σ A _ st (hp.mono (fun ds S1 q g1 H1 vs ok1 gr1 rv => ?_) fun _ _ q => q)
  obtain ⟨hl, q⟩ := post_chk (post_bind.mp q)
  have hl : ds.length = n := of_decide_eq_true hl
  have rp : RpL C.K (gB g1 H1).π (gB g1 H1).F ds vs := All2.rpl (rv.imp fun d v z => RB.rp ok1 mm d v z)
  rw [post_bind] at q
  refine ⟨by rw [← rp.length]; exact hl, gB g1 H1, S1, ds, ok_gB ok1, rp, (post_noerr q (fun _ _ => False)).mono (fun d S2 z g2 H2 v ok2 gr2 rn => ?_) fun _ _ z => z.elim⟩
  rw [post_bind] at z
  obtain ⟨hi, z⟩ := post_chk z
  obtain ⟨B, ro, nd, hf⟩ := rn
  have hB : ∀ a ∈ B, H1 a = none := fun a ha => by
    rcases hf a ha with y | y
    · simp at y
    · exact y
  exact z (gU g1 H1 g2) H2 v (ok_gU ok1 ok2 gr2) (gr1.trans (grow_gU ok1 gr2)) (RN.back ⟨B, ro_gU ok1 ok2 gr2 r d v B hi hB ro, nd, fun a ha => .inr (hB a ha)⟩ gr1)
end
end DS
/-! DSs: divmod, pots, the script; a law's end. -/
namespace DS
open PySem PySem.Spec PyProof.Rows L2

/-! ### divmod -/
def rDivmodX : List V → Hp → VK → Prop := fun xs H Q => ∃ i j, xs = [.int i, .int j] ∧ CDivP i j ∧ QT Q H [.int (i / j), .int (i % j)]
theorem call_divmodX {X : Cx} : CallR X (.builtin "divmod") rDivmodX := by
  intro pins s σ H xs us Q I r h
  obtain ⟨i, j, rfl, ⟨h1, h2⟩, q⟩ := h
  obtain ⟨u, w', rfl, ⟨t, rfl⟩, ⟨t', rfl⟩⟩ := vals2 r
  refine divmod_int (by omega) ?_ (.inl h2)
  rw [Int.fdiv_eq_ediv_of_nonneg i (by omega), Int.fmod_eq_emod_of_nonneg i (by omega)]
  have hn : H s.heap.objs.size = none := I.hok.fresh (Nat.le_refl _)
  have J := newTup (tk0 := s.toks) (tk := s.toks + 1 + 1) (h' := s.heap) (its := [.int (i / j) s.toks, .int (i % j) (s.toks + 1)]) (vs := [.int (i / j), .int (i % j)]) I (.cons ⟨_, rfl⟩ (.cons ⟨_, rfl⟩ .nil)) (by simp only [List.length_cons, List.length_nil]; rw [sizeLine_eq]; decide)
  exact ⟨.ref s.heap.objs.size, _, J, rfl, q _ _ rfl hn⟩
def dDivmod : D → D → Option D := dII fun i j => if 0 < j ∧ j < 1073741824 then some (.tup [.int (i / j), .int (i % j)]) else none
section
variable {C : Ctx} {e a b c tg iter elt : Expr} {es rest ifs : List Expr} {m m1 m2 m3 n r : Nat} {f fa fb fc fe fi : Env' → M D} {fs : Env' → M (List D)} {pos p apos cpos : Pos}
theorem de_divmod (T : Std C) (hm : C.mg "divmod" = none) (ha : DA C [a, b] 0 fs) (hg : ∀ i, Gl (C.X i) "divmod" := by intro _; rfl) (he : ∀ i, starEach [a, b] (C.X i).env = (false, eval a (C.X i).env) :: starEach [b] (C.X i).env := by intro _; rfl) (hpl : ∀ i, (backTo pos (starEach [b] (C.X i).env)).any (·.1) = false := by intro _; rfl) :
    DE C (.Call (.Name "divmod" p) [a, b] [] pos) 0 (apL (duo dDivmod) fs) :=
  de_cb (id := "divmod") (r := rDivmodX) (fun i => call_divmodX) (fun g H S vs ds z Q ok hr hz k => by
    unfold duo at hz
    split at hz
    · rename_i d e
      obtain _ | ⟨h1, _ | ⟨h2, _ | _⟩⟩ := hr
      cases d <;> cases e <;> simp only [dDivmod, dII, reduceCtorEq] at hz
      split at hz
      · rename_i hj
        cases hz
        refine ⟨_, _, by rw [show _ = V.int _ from h1, show _ = V.int _ from h2], ⟨hj.1, PyProof.noPylong_small (by omega)⟩, fun l ob hob nl => ?_⟩
        obtain ⟨ok', gr⟩ := ok.newT nl ob [.int _, .int _]
        exact k _ _ _ ok' gr (RN.tuple (ds := [.int _, .int _]) ok (.cons (show Rp C.K g.π g.F (.int _) (.int _) from rfl) (.cons (show Rp C.K g.π g.F (.int _) (.int _) from rfl) .nil)) nl hob)
      · cases hz
    · cases hz) T hm (by decide +kernel) ha hg (he := he) (hpl := hpl)

/-! ### a pot's number, a script's number -/
def potGet (S : Pots) : D → D → Option D
  | .pot k, .int i => match S[k]? with
    | some p => if i = 0 then some (.int p.1) else if i = 1 then some (.int p.2) else none
    | none => none
  | .scr ns, .int i => (atI ns i).map .int
  | _, _ => none
def potM (fa fb : Env' → M D) : Env' → M D := fun ρ => do
  let x ← fa ρ
  let y ← fb ρ
  fun S => match potGet S x y with
    | some d => .ok d S
    | none => .bad
theorem at_map {ns : List Int} {i j : Int} (h : atI ns i = some j) : atI (ns.map V.int) i = some (V.int j) := by
  unfold atI at *
  rw [List.length_map]
  obtain ⟨q, h1, h2⟩ := Option.bind_eq_some_iff.mp h
  rw [h1]
  show (ns.map V.int)[q]? = _
  rw [List.getElem?_map, h2]; rfl
theorem db_ixP (T : Std C) (ha : DB C a 0 fa) (hb : DB C b 0 fb) (hs : PlainIx b := by exact fun _ _ => rfl) : DB C (.Subscript a b pos) 0 (potM fa fb) := by
  obtain ⟨ta, tb, pa, pb, s⟩ := run2 (R := fun _ _ _ => True) ha hb
  refine ⟨tOp (rIxL C.K) ta tb, fun i => pe_ix (by rw [← T.k i]; exact ix_list) (pa i) (pb i) hs, fun g H S ρ σ A Q st hp => ?_⟩
  unfold potM at hp
  rw [post_bind] at hp
  refine s g H S ρ σ A _ st (hp.mono (fun x S1 q1 => (post_bind.mp q1).mono (fun y S2 q2 g2 H2 v w ok2 gr2 r1 r2 => ?_) fun _ _ q => q) fun _ _ q => q)
  clear q1
  cases e : potGet S2 x y with
  | none => rw [e] at q2; exact q2.elim
  | some z =>
    rw [e] at q2
    cases x <;> simp only [potGet, reduceCtorEq] at e
    case pot k =>
      cases y <;> simp only [reduceCtorEq] at e
      rename_i i
      obtain ⟨ad, rfl, hπ⟩ := r1
      cases r2
      cases eS : S2[k]? with
      | none => rw [eS] at e; cases e
      | some pp =>
        rw [eS] at e
        obtain ⟨ad', e1, e2⟩ := ok2.pot k pp eS
        rw [hπ] at e1
        cases e1
        simp only at e
        split at e
        · rename_i hi
          subst hi
          cases e
          exact ⟨_, _, _, .int pp.1, rfl, rfl, SqL.of e2, rfl, q2 g2 H2 _ ok2 gr2 rfl⟩
        · split at e
          · rename_i hi
            subst hi
            cases e
            exact ⟨_, _, _, .int pp.2, rfl, rfl, SqL.of e2, rfl, q2 g2 H2 _ ok2 gr2 rfl⟩
          · cases e
    case scr ns =>
      cases y <;> simp only [reduceCtorEq] at e
      rename_i i
      obtain ⟨j, ej, rfl⟩ := Option.map_eq_some_iff.mp e
      obtain ⟨ad, rfl, h1⟩ := r1
      cases r2
      refine ⟨ad, ns.map V.int, i, .int j, rfl, rfl, ?_, at_map ej, q2 g2 H2 _ ok2 gr2 rfl⟩
      rcases h1 with (h1 | ⟨p', h1⟩) | h1
      · exact .inl (.inl (ok2.sub _ _ h1).2)
      · exact .inl (.inr ⟨p', (ok2.sub _ _ h1).2⟩)
      · exact .inr h1

/-! ### a pot's number is set -/
def potPut (S : Pots) : D → D → D → Option Pots
  | .pot k, .int i, .int z => match S[k]? with
    | some p => if i = 0 then some (S.set k (z, p.2)) else if i = 1 then some (S.set k (p.1, z)) else none
    | none => none
  | _, _, _ => none
def gPotM (k : Nat) (fi : Env' → M D) : D → Env' → M Env' := fun v ρ => do
  let x ← bVar 0 k ρ
  let i ← fi ρ
  fun S => match potPut S x i v with
    | some S' => .ok ρ S'
    | none => .bad
theorem Ok.setPot {g : G} {H : Hp} {S : Pots} (ok : Ok g H S) {k : Nat} {ad : Addr} {p : Int × Int} (hπ : g.π[k]? = some ad) (hk : k < S.length) : Ok g (upd H ad (.lst [.int p.1, .int p.2])) (S.set k p) where
  sub := fun x u e => by
    obtain ⟨h1, h2⟩ := ok.sub x u e
    refine ⟨h1, ?_⟩
    rw [upd_ne fun z => by subst z; exact h1 (List.mem_of_getElem? hπ)]; exact h2
  tup := fun x q vs e => by
    by_cases z : x = ad
    · subst z; rw [upd_same] at e; cases e
    · rw [upd_ne z] at e; exact ok.tup x q vs e
  len := by rw [List.length_set]; exact ok.len
  pot := fun j q e => by
    by_cases z : j = k
    · subst z
      rw [List.getElem?_set_self hk] at e
      cases e
      exact ⟨ad, hπ, upd_same⟩
    · rw [List.getElem?_set_ne fun y => z y.symm] at e
      obtain ⟨b, e1, e2⟩ := ok.pot j q e
      refine ⟨b, e1, ?_⟩
      rw [upd_ne fun y => by
        subst y
        obtain ⟨l1, q1⟩ := List.getElem?_eq_some_iff.mp e1
        obtain ⟨l2, q2⟩ := List.getElem?_eq_some_iff.mp hπ
        exact z ((List.getElem_inj ok.nd).mp (q1.trans q2.symm))]
      exact e2
  nd := ok.nd
theorem Grow.setPot {g : G} {H : Hp} {A : List Addr} {k : Nat} {ad : Addr} {o : HO} (hπ : g.π[k]? = some ad) : GrowA g H A g (upd H ad o) where
  fr := fun _ _ e => e
  keep := fun x u e n _ => by
    rw [upd_ne fun z => by subst z; exact n (List.mem_of_getElem? hπ)]; exact e
  fresh := fun _ e _ _ _ => e
  there := fun x e => by
    by_cases z : x = ad
    · subst z; rw [upd_same]; simp
    · rw [upd_ne z]; exact e
  pre := ⟨[], by simp, fun _ z => by simp at z⟩
theorem dg_pot (T : Std C) (k : Nat) {x : Str} {ie : Expr} (hi : DB C ie 0 fi) (hN : ∀ j, (C.X j).N[k]? = some x := by intro _; rfl)
    (hv : ∀ j, Vis (C.X j).env.scope x := by first | exact fun _ => Or.inl rfl | exact fun _ => Or.inr (Or.inl rfl) | exact fun _ => Or.inr (Or.inr rfl))
    (hd : (x == ("__debug__" : Str)) = false := by decide) (hcd : (x == ("__classdict__" : Str)) = false := by decide)
    (ha : ∀ j v, assign (.Subscript (.Name x p) ie pos) (C.X j).env v = (do
      let ov ← holding [v] (eval (.Name x p) (C.X j).env)
      let iv ← holding [v, ov] (eval ie (C.X j).env)
      standAt pos
      holding [v, ov, iv] (setItem ov iv v)
      release [v, ov, iv] []) := by intro _ _; rfl) : DG C false (.Subscript (.Name x p) ie pos) (gPotM k fi) := by
  obtain ⟨t, pi, s⟩ := hi
  refine ⟨gSub (tVar k) t rSetL, fun j => pg_sub (pe_var (hN j) (hv j) hd hcd) (pi j) set_list (ha j), fun g H S ρ σ A d v Q st hr hp => ?_⟩
  unfold gPotM at hp
  rw [post_bind] at hp
  unfold bVar at hp
  rcases eρ0 : ρ[k]? with _ | _ | ⟨d0, n0⟩
  · rw [eρ0] at hp; exact hp.elim
  · rw [eρ0] at hp; exact hp.elim
  · rw [eρ0] at hp
    by_cases hn : n0 ≤ 0
    · simp only [hn, if_true] at hp
      have hn : n0 = 0 := Nat.le_zero.mp hn
      subst hn
      obtain ⟨o, B, es, ro, _⟩ := slots_get st.sl eρ0
      refine ⟨o, es, ?_⟩
      refine s g H S ρ σ A _ st ((post_bind.mp (post_pure.mp hp)).mono (fun i S1 q1 g1 H1 x1 ok1 gr1 r1 => ?_) fun _ _ z => z.e)
      have gA : GrowA g H A g1 H1 := gr1.weak fun _ z => by simp at z
      have rv := Rp.grA gA (RpB.frz hr)
      have ro1 : Rp C.K g1.π g1.F d0 o := Rp.mono (Le.of gr1.fr) gr1.ix d0 o ro.1
      cases e : potPut S1 d0 i d with
      | none => rw [e] at q1; exact q1.elim
      | some S2 =>
        rw [e] at q1
        cases d0 <;> simp only [potPut, reduceCtorEq] at e
        rename_i kk
        cases i <;> try (cases e; done)
        rename_i i
        cases d <;> try (cases e; done)
        rename_i z
        dsimp only at e
        obtain ⟨ad, rfl, hπ⟩ := ro1
        cases (show x1 = .int i from r1)
        cases (show v = .int z from rv)
        cases eS : S1[kk]? with
        | none => rw [eS] at e; cases e
        | some pp =>
          rw [eS] at e
          have hk : kk < S1.length := (List.getElem?_eq_some_iff.mp eS).1
          obtain ⟨ad', e1, e2⟩ := ok1.pot kk pp eS
          rw [hπ] at e1
          cases e1
          have fin : ∀ p' : Int × Int, S2 = S1.set kk p' → Q σ (upd H1 ad (.lst [.int p'.1, .int p'.2])) := fun p' e' => by
            subst e'
            have gr2 : GrowA g1 H1 A g1 (upd H1 ad (.lst [.int p'.1, .int p'.2])) := Grow.setPot hπ
            have gr2' : Grow g1 H1 g1 (upd H1 ad (.lst [.int p'.1, .int p'.2])) := Grow.setPot hπ
            exact q1 g1 _ σ A ((st.grow ok1 gr1).grow (ok1.setPot hπ hk) gr2') (gA.trans gr2 sub_refl) sub_refl
          dsimp only at e
          split at e
          · rename_i hi
            subst hi
            cases e
            exact ⟨ad, _, 0, 0, rfl, rfl, e2, rfl, fin (z, pp.2) rfl⟩
          · split at e
            · rename_i hi
              subst hi
              cases e
              exact ⟨ad, _, 1, 1, rfl, rfl, e2, rfl, fin (pp.1, z) rfl⟩
            · cases e
    · simp only [hn, if_false] at hp
      exact hp.elim
end

/-! ### a new pot -/
def potted (m : List D → M D) : List D → M D := fun ds S => match m ds S with
  | .ok (.lst [.int x, .int y]) S' => .ok (.pot S'.length) (S' ++ [(x, y)])
  | .err e S' => .err e S'
  | _ => .bad
theorem fnG_potted {P : Program} {w : World} {K : PySem.W.Frag} {mg : Str → Option Value} {base : Heap} {k n : Nat} {f : Addr} {fd : FuncData} {ps : List Str} {m : List D → M D} (F : FnG P w K mg base k f fd ps (spD K mg n 1 m)) : FnG P w K mg base k f fd ps (spD K mg n 0 (potted m)) := by
  have imp : ∀ vs H Q E, spD K mg n 0 (potted m) vs H Q E → spD K mg n 1 m vs H Q E := by
    rintro vs H Q E ⟨hl, g, S, ds, ok, rp, hp⟩
    refine ⟨hl, g, S, ds, ok, rp, ?_⟩
    unfold potted at hp
    cases e : m ds S with
    | bad => rw [e] at hp; exact hp.elim
    | err x S' => rw [e] at hp; exact hp
    | ok d S' =>
      rw [e] at hp
      show ∀ g' H' v, Ok g' H' S' → Grow g H g' H' → RN K g' H [] H' 1 d v → Q v H'
      intro g' H' v ok' gr rn
      split at hp
      · rename_i x y S'' e'
        cases e'
        obtain ⟨B, ⟨ad, us, As, rfl, h1, h2, h3, h4, rfl⟩, nd, hf⟩ := rn
        obtain ⟨_, r⟩ := all3_zero h4
        obtain ⟨v1, r1, rfl, hv1, r2⟩ := r
        obtain ⟨v2, r3, rfl, hv2, r4⟩ := r2
        cases (show r3 = [] from r4)
        cases (show v1 = .int x from hv1)
        cases (show v2 = .int y from hv2)
        have hH : H ad = none := by
          rcases hf ad (by simp) with z | z
          · simp at z
          · exact z
        have px : ∀ k a : Addr, g'.π[k]? = some a → (g'.π ++ [ad])[k]? = some a := fun j a e => by
          rw [List.getElem?_append_left (List.getElem?_eq_some_iff.mp e).1]; exact e
        refine hp ⟨g'.F, g'.π ++ [ad]⟩ H' (.ref ad) ⟨fun a o e => ?_, ok'.tup, by simp [ok'.len], fun j q e => ?_, ?_⟩ ⟨gr.fr, gr.keep, gr.fresh, gr.there, ?_⟩ (RN.zero.mpr ⟨ad, rfl, ?_⟩)
        · obtain ⟨q1, q2⟩ := ok'.sub a o e
          refine ⟨fun z => ?_, q2⟩
          rcases List.mem_append.mp z with z | z
          · exact q1 z
          · rw [List.mem_singleton.mp z] at e
            rw [h2] at e; cases e
        · by_cases hj : j < S'.length
          · rw [List.getElem?_append_left hj] at e
            obtain ⟨a, q1, q2⟩ := ok'.pot j q e
            exact ⟨a, px _ _ q1, q2⟩
          · rw [List.getElem?_append_right (by omega)] at e
            have hj' : j = S'.length := by
              have := (List.getElem?_eq_some_iff.mp e).1
              simp at this
              omega
            subst hj'
            simp at e
            subst e
            refine ⟨ad, ?_, h1⟩
            show (g'.π ++ [ad])[S'.length]? = some ad
            rw [← ok'.len, List.getElem?_append_right (Nat.le_refl _)]
            simp
        · exact List.nodup_append.mpr ⟨ok'.nd, by simp, fun a ha b hb e => h3 (by rw [← List.mem_singleton.mp hb, ← e]; exact ha)⟩
        · obtain ⟨l, el, fl⟩ := gr.pre
          refine ⟨l ++ [ad], by show g'.π ++ [ad] = _; rw [el, List.append_assoc], fun a ha => ?_⟩
          rcases List.mem_append.mp ha with z | z
          · exact fl a z
          · rw [List.mem_singleton.mp z]; exact hH
        · show (g'.π ++ [ad])[S'.length]? = some ad
          rw [← ok'.len, List.getElem?_append_right (Nat.le_refl _)]
          simp
      · rename_i e'; cases e'
      · exact hp.elim
  exact ⟨fun vs H Q E h => F.len vs H Q E (imp vs H Q E h), fun A outer s H args us vs Q E hr hg e0 hb rv h => F.run A outer s H args us vs Q E hr hg e0 hb rv (imp _ _ _ _ h)⟩


/-! ### a law's end -/
theorem law_sp {K : PySem.W.Frag} {mg : Str → Option Value} {r : Nat} {m : List D → M D} {H : Hp} {a : Addr} {ns : List Int} (hS : SqL K H a (ns.map V.int)) (h : (m [.scr ns] []).Post (fun d _ => d = .bl true) (fun _ _ => False)) :
    spD K mg 1 r m [.ref a] H (fun v _ => v = .bl true) (fun _ _ _ => False) := by
  refine ⟨rfl, ⟨H, []⟩, [], [.scr ns], ⟨fun b o e => ⟨by simp, e⟩, fun b p vs e => e, rfl, fun k p e => by simp at e, List.nodup_nil⟩, ⟨.ref a, [], rfl, ⟨a, rfl, hS⟩, rfl⟩, h.mono (fun d S' e g' H' v ok gr rn => ?_) fun _ _ z => z.elim⟩
  subst e
  exact RB.flat (d := .bl true) rfl rn.rb
theorem law_callG {P : Program} {w : World} {K : PySem.W.Frag} {mg mb : Str → Option Value} {k : Nat} {fa a : Addr} {fd : FuncData} {x : Str} {sp : Sp} {s₁ : Shared} {vs : List Value} {ns : List Int}
    (KX : K.In s₁.heap) (hns : s₁.heap.Ns mainGlobals mg) (hb : s₁.heap.Ns builtinsNs mb) (hbb : ∀ x : Str, x ≠ "__name__" → mb x = bootBuiltins x) (hlim : s₁.heap.NoLimit) (hg : s₁.gens = #[])
    (ha : s₁.heap.get? a = some { cls := .type "list", data := .seq vs.toArray }) (hi : IntsAre vs ns) (hl : ns.length ≤ sizeLine) (hr : Room k callerA)
    (F : ∀ base : Heap, K.In base → base.Ns mainGlobals mg → FnG P w K mg base k fa fd [x] sp) (hbind : ∀ (s : Shared) (u : Value), BindsTo s fd ⟨[u], []⟩ [(x, u)])
    (hsp : ∀ H : Hp, SqL K H a (ns.map V.int) → sp [.ref a] H (fun v _ => v = .bl true) fun _ _ _ => False) :
    codeAny (model P w) callerA (.call (.ref fa) ⟨[.ref a], []⟩) (fun r s' => r = .ok (.ret (.bool true)) ∧ OldK s₁.heap s'.heap ∧ s'.os = s₁.os ∧ AllBare s'.gens) s₁ := by
  have run : ∀ H : Hp, (∀ b, H b = none ∨ (b = a ∧ K.lookup a = none ∧ ∃ o xs, H b = some (.frz o (.lst xs)))) → SqL K H a (ns.map V.int) → HOk P w H s₁.heap →
      codeAny (model P w) callerA (.call (.ref fa) ⟨[.ref a], []⟩) (fun r s' => r = .ok (.ret (.bool true)) ∧ OldK s₁.heap s'.heap ∧ s'.os = s₁.os ∧ AllBare s'.gens) s₁ := by
    intro H hH hS hok
    have there : ∀ {b : Addr} {o : Obj}, s₁.heap.get? b = some o → (b = a → K.lookup a = none → False) → (hidT s₁.heap H).get? b = some o := fun {b o} e n => hidT_get e (by
      rcases hH b with z | ⟨z1, z2, _⟩
      · exact z
      · exact (n z1 z2).elim)
    have nsK : ∀ {b : Addr} {m : Str → Option Value}, s₁.heap.Ns b m → (hidT s₁.heap H).Ns b m := fun {b m} ⟨o, es, ep, e, d, r⟩ => ⟨o, es, ep, there e (fun z _ => by
      subst z
      rw [ha] at e; cases e
      have d' : Data.seq vs.toArray _ = Data.dict es ep := d
      cases d'), d, r⟩
    have hKb : K.In (hidT s₁.heap H) := fun b o e => there (KX b o e) fun z n => by subst z; rw [n] at e; cases e
    have e0 : Env0 P w K mg (hidT s₁.heap H) callerA [] s₁ H := ⟨rfl, ⟨hKb, nsK hns, ⟨mb, nsK hb, hbb⟩, let ⟨mc, h1, h2⟩ := hlim; ⟨mc, nsK h1, h2⟩⟩, fun b o e => of_hidT e, Nat.le_of_eq (hidT_size _ _), trivial, fun b hb => absurd (show b ∈ ([] : List Addr) from hb) (by simp), hok, .of_eq hg⟩
    refine codeAny_mono ((F _ hKb (nsK hns)).run callerA [] s₁ H ⟨[.ref a], []⟩ [.ref a] [.ref a] _ _ hr rfl e0 (hbind s₁ (.ref a)) (.cons rfl .nil) (hsp H hS)) fun r s' h => ?_
    cases r with
    | error e =>
      obtain ⟨_, _, _, _, _, _, _, _, _, _, _, _, z⟩ := h
      exact z.elim
    | ok fl =>
      cases fl with
      | next => exact False.elim h
      | brk => exact False.elim h
      | cont => exact False.elim h
      | ret u =>
        obtain ⟨v, H', os, bare, un, hok', r', q⟩ := h
        obtain rfl : v = .bl true := q
        obtain rfl : u = Value.bool true := r'
        refine ⟨rfl, OldK.of_keep fun b o e => ?_, os, bare⟩
        rcases hH b with z | ⟨_, _, ob, xs, z⟩
        · exact un.keep b o e z (by intro y; exact absurd (show b ∈ ([] : List Addr) from y) (by simp)) (by simp)
        · obtain ⟨e1, _⟩ := hok b _ z
          obtain ⟨e2, _⟩ := hok' b _ (un.frzs b ob _ z)
          rw [e] at e1; cases e1
          exact e2
  cases hk : K.lookup a with
  | some o =>
    have e := KX a o hk
    rw [ha] at e
    cases e
    exact run (fun _ => none) (fun _ => .inl rfl) (.inr ⟨_, vs.toArray, _, hk, rfl, rfl, rfl, by rw [List.size_toArray, hi.length]; exact hl, by simpa using vals_ints hi⟩) (fun b u z => by have z' : (none : Option HO) = some u := z; cases z')
  | none =>
    refine run (fun b => if b = a then some (.frz { cls := .type "list", data := .seq vs.toArray } (.lst (ns.map V.int))) else none) (fun b => ?_) (.inl (.inr ⟨{ cls := .type "list", data := .seq vs.toArray }, if_pos rfl⟩)) (fun b u z => ?_)
    · by_cases hb : b = a
      · exact .inr ⟨hb, hk, _, _, if_pos hb⟩
      · exact .inl (if_neg hb)
    · by_cases hb : b = a
      · have z' := (if_pos hb).symm.trans z
        cases z'
        subst hb
        exact ⟨ha, by rw [List.length_map]; exact hl, vs, _, vals_ints hi, ha⟩
      · have z' := (if_neg hb).symm.trans z
        cases z'
theorem walk_ofG {l : PySem.W.OpenLaw} {n k : Nat} {q : Program} {loose : List Str} {XP : (Str → Option Value) → Heap → Prop} {YP : World → Heap → Prop} {d : DefRec} {x : Str}
    (hn : l.most = some n) (hn2 : n ≤ sizeLine) (hdf : d.params.defaults = []) (hr : Room k callerA)
    (F : ∀ (w : World) (mg : Str → Option Value) (fa : Addr) (h : Heap), YP w h → h.Ns mainGlobals mg → mg d.name = some (.ref fa) →
      ∃ (K : PySem.W.Frag) (fd : FuncData) (sp : Sp), K.In h ∧ (∀ (s : Shared) (u : Value), BindsTo s fd ⟨[u], []⟩ [(x, u)]) ∧
        (∀ (H : Hp) (a : Addr) (ns : List Int), ns.length ≤ n → SqL K H a (ns.map V.int) → sp [.ref a] H (fun v _ => v = .bl true) fun _ _ _ => False) ∧
        ∀ base : Heap, K.In base → base.Ns mainGlobals mg → FnG l.prog w K mg base k fa fd [x] sp) :
    PySem.W.WalkO q loose XP YP l.row.toRowW d [] (fun f vs => PySem.call f vs) := by
  refine Att.attach_call hn hdf fun w s₀ s₁ mg mb fa o pm cd doc a vs ns G Y ho hd hcd hmg hobj hints hlen hg => ?_
  obtain ⟨K, fd, sp, KX, hb, hsp, hF⟩ := F w mg fa _ Y G.T.g hmg
  exact law_callG KX G.T.g G.T.b G.T.builtins G.T.nolimit hg hobj hints (Nat.le_trans hlen hn2) hr hF hb fun H hS => hsp H a ns hlen hS
end DS
/-! DSt: dicts of one pair, three names at once. -/
namespace DS
open PySem PySem.Spec PyProof.Rows L2
section
variable {C : Ctx} {e a b c k v : Expr} {m n r n1 n2 n3 : Nat} {fk fv fa fb fc : Env' → M D} {pos : Pos}
def disp1M (fk fv : Env' → M D) : Env' → M D := fun ρ => do
  let x ← fk ρ
  let y ← fv ρ
  let _ ← liftO (tkeyOf x)
  pure (.dict true [x] [y])
/-- {k: v}, k a tuple of ints -/
theorem de_disp1 (T : Std C) (hk : DB C k 0 fk) (hv : DB C v 0 fv) : DE C (.Dict [some k] [v] pos) 1 (disp1M fk fv) := by
  obtain ⟨tk, pk, sk⟩ := hk
  obtain ⟨tv, pv, sv⟩ := hv
  refine ⟨tDisp1X C.K tk tv, fun i => by rw [← T.k i]; exact pe_disp1X (by have := T.hu i; omega) (pk i) (pv i), fun g H S ρ σ A Q st hp p np => ?_⟩
  obtain ⟨ok0, gr0⟩ := st.ok.new np (o := XD p []) (fun _ _ z => by cases z)
  have hF : g.F p = none := st.ok.nfz np
  have hπ : p ∉ g.π := st.ok.npot np
  refine sk g _ S ρ σ A _ (st.grow ok0 gr0) ((post_bind.mp hp).mono (fun x S1 q1 g1 H1 v1 ok1 gr1 r1 => ?_) fun _ _ z => z.step gr0)
  refine sv g1 H1 S1 ρ σ A _ ((st.grow ok0 gr0).grow ok1 gr1) ((post_bind.mp q1).mono (fun y S2 q2 g2 H2 v2 ok2 gr2 r2 => ?_) fun _ _ z => z.step (gr0.trans gr1))
  obtain ⟨j, ej, q⟩ := post_lift (post_bind.mp q2)
  have gr12 := gr1.trans gr2
  have e2 : H2 p = some (XD p []) := gr12.keep p _ upd_same hπ (by simp)
  have f2 : g2.F p = none := gr12.fresh p hF (by rw [upd_same]; simp) hπ (by simp)
  have p2 : p ∉ g2.π := gr12.npi (by rw [upd_same]; simp) hπ
  have r1' : Rp C.K g2.π g2.F x v1 := Rp.mono (Le.of gr2.fr) gr2.ix x v1 r1
  obtain ⟨b', rfl, hb, _⟩ := tup_key ok2 ej r1'
  refine ⟨e2, b', j, rfl, hb, fun u ru => ?_⟩
  have gA : Grow g H g2 (upd H2 p (XD p [(j, b', u)])) := GrowA.put ((gr0.trans gr12)) (.inr np)
  refine q g2 _ (.ref p) (ok2.put f2 p2 (fun _ _ z => by cases z)) gA ⟨[p], ⟨p, [v2], _, [], rfl, upd_same, f2, p2, All3.cons (A := []) ⟨r2, rfl⟩ .nil, .inr ⟨rfl, [(j, b', u)], ⟨_, _, rfl, r1', rfl⟩, by simp [ej], .cons ru .nil, rfl⟩, rfl⟩, by simp, fun a z => by simp at z; subst z; exact .inr np⟩

/-! ### x, y, z = .. -/
theorem RO.growA {K : PySem.W.Frag} {g g' : G} {H H' : Hp} {A B : List Addr} {n : Nat} {d : D} {w : V} (ro : RO K g.π g.F H n d w B) (h : GrowA g H A g' H') (dj : ∀ a ∈ B, a ∉ A) : RO K g'.π g'.F H' n d w B := by
  refine RO.mono (Le.of h.fr) h.ix n d w B (fun a ha => ?_) ro
  obtain ⟨h1, h2, o, h3, _⟩ := RO.cells n d w B ro a ha
  have nn : H a ≠ none := by rw [h3]; simp
  exact ⟨by rw [h.keep a o h3 h2 (dj a ha), h3], h.fresh a h1 nn h2 (dj a ha), h.npi nn h2⟩
def par3 (i j l n1 n2 n3 : Nat) (fa fb fc : Env' → M D) : Env' → M (Fl × Env') := fun ρ => do
  let x ← fa ρ
  let y ← fb ρ
  let z ← fc ρ
  pure (.nx, ((ρ.set i (some (x, n1))).set j (some (y, n2))).set l (some (z, n3)))
theorem ds_par3 (T : Std C) (i j l : Nat) {n1 n2 n3 : Nat} {x y z : Str} {px py pz pt pt2 : Pos} {kt k2 : Nat} (ha : DE C a n1 fa) (hb : DE C b n2 fb) (hc : DE C c n3 fc) (hij : i ≠ j := by decide) (hil : i ≠ l := by decide) (hjl : j ≠ l := by decide)
    (hi : ∀ t, (C.X t).N[i]? = some x := by intro _; rfl) (hj : ∀ t, (C.X t).N[j]? = some y := by intro _; rfl) (hl : ∀ t, (C.X t).N[l]? = some z := by intro _; rfl)
    (hx : ∀ t, (C.X t).env.scope.names.lookup x = some .local := by intro _; rfl) (hy : ∀ t, (C.X t).env.scope.names.lookup y = some .local := by intro _; rfl) (hz : ∀ t, (C.X t).env.scope.names.lookup z = some .local := by intro _; rfl)
    (hw : ∀ t, swappedStores [.Tuple [.Name x px, .Name y py, .Name z pz] kt pt] (.Tuple [a, b, c] k2 pt2) (C.X t).env = pure (some [x, y, z]) := by intro _; rfl)
    (hs : ∀ t, swapsWithSole [.Tuple [.Name x px, .Name y py, .Name z pz] kt pt] (.Tuple [a, b, c] k2 pt2) pos.line (C.X t).env = pure false := by intro _; rfl)
    (h1 : ∀ t, starEach [a, b, c] (C.X t).env = (false, eval a (C.X t).env) :: starEach [b, c] (C.X t).env := by intro _; rfl) (h2 : ∀ t, starEach [b, c] (C.X t).env = (false, eval b (C.X t).env) :: starEach [c] (C.X t).env := by intro _; rfl)
    (h3 : ∀ t, starEach [c] (C.X t).env = (false, eval c (C.X t).env) :: starEach [] (C.X t).env := by intro _; rfl) :
    DS C (.Assign [.Tuple [.Name x px, .Name y py, .Name z pz] kt pt] (.Tuple [a, b, c] k2 pt2) pos) r (par3 i j l n1 n2 n3 fa fb fc) := by
  obtain ⟨t1, p1, s1⟩ := ha
  obtain ⟨t2, t3, p2, p3, s⟩ := two_new hb hc
  refine ⟨tPar3 i j l (tCons t1 (tCons t2 (tCons t3 tNil))), fun t => ps_par3 (T.calm t) (T.nd t) (hi t) (hj t) (hl t) hij hil hjl (hx t) (hy t) (hz t) (pa_cons (p1 t) (pa_cons (p2 t) (pa_cons (p3 t) pa_nil (h3 t)) (h2 t)) (h1 t)) (hw t) (hs t), fun g H S ρ σ A Dd st hp => ?_⟩
  refine s1 g H S ρ σ A _ st ((post_bind.mp hp).mono (fun xd S1 q1 g1 H1 v1 ok1 gr1 r1 => ?_) fun _ _ z => z.e)
  have gA : GrowA g H A g1 H1 := gr1.weak fun _ z => by simp at z
  obtain ⟨B, ro, nB, hf⟩ := r1
  have hB : ∀ a ∈ B, H a = none := fun a ha => by
    rcases hf a ha with z | z
    · simp at z
    · exact z
  have hB1 : ∀ a ∈ B, H1 a ≠ none := fun a ha => by
    obtain ⟨_, _, o, eo, _⟩ := RO.cells _ _ _ _ ro a ha
    rw [eo]; simp
  have dj : ∀ a ∈ B, a ∉ A := fun a ha z => st.there a z (hB a ha)
  refine s g1 H1 S1 ρ σ A j l (fun v w H2 => ∃ u' v' w', [v1, v, w] = [u', v', w'] ∧ Dd.nx (((σ.set i (some u')).set j (some v')).set l (some w')) H2) (st.grow ok1 gr1) ((post_bind.mp q1).mono (fun yd S2 q2 => (post_bind.mp q2).mono (fun zd S3 q3 g2 H2 v w A2 st2 gr2 sb2 => ?_) fun _ _ z => z.step gA sub_refl) fun _ _ z => z.step gA sub_refl)
  refine ⟨v1, v, w, rfl, ?_⟩
  obtain ⟨A3, st3, sb3⟩ := st2.set (ro.growA gr2 dj) nB i fun a ha z => by
    rcases sb2 a z with q | q
    · exact dj a ha q
    · exact hB1 a ha q
  have c1 : ∀ {α : Type} (xs : List α) (p q r : α), ((xs.set j q).set l r).set i p = ((xs.set i p).set j q).set l r := fun xs p q r => by
    rw [List.set_comm _ _ (Ne.symm hil), List.set_comm _ _ (Ne.symm hij)]
  rw [c1, c1] at st3
  exact q3 g2 H2 _ A3 st3 (gA.trans gr2 sub_refl) fun a ha => by
    rcases sb3 a ha with z | z
    · rcases sb2 a z with q | q
      · exact .inl q
      · refine .inr ?_
        cases qq : H a with
        | none => rfl
        | some o => exact absurd q (gr1.there a (by rw [qq]; simp))
    · exact .inr (hB a z)
end

/-! ### a value dropped -/
section
variable {C : Ctx} {e : Expr} {n r : Nat} {f : Env' → M D} {pos : Pos}
def dropM (f : Env' → M D) : Env' → M (Fl × Env') := fun ρ => do let _ ← f ρ; pure (.nx, ρ)
theorem ds_drop (T : Std C) (h : DE C e n f) (hs : ∀ i, swapsWith e none pos.line (C.X i).env = pure false := by intro _; rfl) : DS C (.Expr e pos) r (dropM f) := by
  obtain ⟨t, p, s⟩ := h
  refine ⟨tDrop t, fun i => ps_expr (p i) (hs i), fun g H S ρ σ A Dd st hp => ?_⟩
  exact s g H S ρ σ A _ st ((post_bind.mp hp).mono (fun d S1 q1 g1 H1 v ok1 gr1 rn => q1 g1 H1 σ A (st.grow ok1 gr1) (gr1.weak fun _ z => by simp at z) sub_refl) fun _ _ z => z.e)
end

/-! ### the same data -/
mutual
def D.beq : D → D → Bool
  | .non, .non => true
  | .bl a, .bl b => a == b
  | .int i, .int j => decide (i = j)
  | .str x, .str y => x == y
  | .tup ds, .tup es => beqL ds es
  | .lst ds, .lst es => beqL ds es
  | _, _ => false
def beqL : List D → List D → Bool
  | [], [] => true
  | d :: ds, e :: es => d.beq e && beqL ds es
  | _, _ => false
end
mutual
theorem D.beq_eq : ∀ (d e : D), d.beq e = true → d = e
  | .non, e, h => by cases e <;> simp [D.beq] at h; rfl
  | .bl a, e, h => by cases e <;> simp [D.beq] at h; subst h; rfl
  | .int i, e, h => by cases e <;> simp [D.beq] at h; subst h; rfl
  | .str x, e, h => by cases e <;> simp [D.beq] at h; subst h; rfl
  | .tup ds, e, h => by
    cases e <;> simp [D.beq] at h
    rw [beqL_eq _ _ h]
  | .lst ds, e, h => by
    cases e <;> simp [D.beq] at h
    rw [beqL_eq _ _ h]
  | .dict _ _ _, e, h => by cases e <;> simp [D.beq] at h
  | .pot _, e, h => by cases e <;> simp [D.beq] at h
  | .scr _, e, h => by cases e <;> simp [D.beq] at h
theorem beqL_eq : ∀ (ds es : List D), beqL ds es = true → ds = es
  | [], [], _ => rfl
  | [], _ :: _, h => by simp [beqL] at h
  | _ :: _, [], h => by simp [beqL] at h
  | d :: ds, e :: es, h => by
    simp [beqL] at h
    rw [D.beq_eq d e h.1, beqL_eq ds es h.2]
end
/-! ### repr(x) != repr(y) -/
def dStr (neg : Bool) : D → D → Option D
  | .str x, .str y => some (.bl (neg != decide (x = y)))
  | _, _ => none
theorem dec_str {x y : Str} : decide (V.str x = V.str y) = decide (x = y) := by
  rw [Bool.eq_iff_iff]
  simp
section
variable {C : Ctx} {a b : Expr} {m1 m2 : Nat} {fa fb : Env' → M D} {pos p1 p2 q1 q2 : Pos}
theorem cmp_neS : Cmp C .NotEq 0 0 (dStr true) := ⟨rNe, fun _ => op_ne, fun g H S x y d e z Q ok hd he hz q => by
  cases d <;> cases e <;> simp only [dStr, reduceCtorEq, Option.some.injEq] at hz
  rename_i x' y'
  cases (show x = .str x' from hd)
  cases (show y = .str y' from he)
  subst hz
  refine ⟨rfl, ?_⟩
  rw [dec_str]
  exact q g H _ ok GrowA.refl (RN.flat rfl (by simp [Rp]))⟩
theorem cmp_eqS : Cmp C .Eq 0 0 (dStr false) := ⟨rEq, fun _ => op_eq, fun g H S x y d e z Q ok hd he hz q => by
  cases d <;> cases e <;> simp only [dStr, reduceCtorEq, Option.some.injEq] at hz
  rename_i x' y'
  cases (show x = .str x' from hd)
  cases (show y = .str y' from he)
  subst hz
  refine ⟨rfl, ?_⟩
  rw [dec_str]
  exact q g H _ ok GrowA.refl (RN.flat rfl (by simp [Rp]))⟩
/-- whether the texts are unlike (neg) or alike; the same data have the same text -/
def repCmp (neg : Bool) (x y : D) : Option Bool := if x.beq y then some (!neg) else (dRepr x).bind fun s => (dRepr y).bind fun t => (dStr neg s t).bind isB
def repM (neg : Bool) (fa fb : Env' → M D) : Env' → M Bool := fun ρ => do
  let x ← fa ρ
  chk (reprOk x)
  let y ← fb ρ
  liftO (repCmp neg x y)
theorem rep_le {neg : Bool} {ρ : Env'} {S : Pots} {P : Bool → Pots → Prop} {E : Exn → Pots → Prop} (h : (repM neg fa fb ρ S).Post P E) :
    (tst (ap2 (dStr neg) (apL (uno dRepr) (consM fa fun _ => pure [])) (apL (uno dRepr) (consM fb fun _ => pure []))) ρ S).Post P E := by
  unfold repM at h
  rw [post_bind] at h
  unfold tst ap2 apL consM
  simp only [post_bind]
  refine h.mono (fun x S1 q => ?_) fun _ _ z => z
  obtain ⟨hk, q⟩ := post_chk (post_bind.mp q)
  have ex : dRepr x = some (.str x.py.shown) := by unfold dRepr; rw [if_pos hk]
  show (liftO (dRepr x) S1).Post _ _
  rw [ex]
  show (fb ρ S1).Post _ _
  refine (post_bind.mp q).mono (fun y S2 q => ?_) fun _ _ z => z
  obtain ⟨r, er, q⟩ := post_lift q
  unfold repCmp at er
  show (liftO (dRepr y) S2).Post _ _
  by_cases hb : x.beq y = true
  · rw [if_pos hb] at er
    have e := D.beq_eq x y hb
    subst e
    cases er
    rw [ex]
    show P (neg != decide (x.py.shown = x.py.shown)) S2
    rw [decide_eq_true rfl]
    cases neg <;> exact q
  · rw [if_neg hb, ex] at er
    obtain ⟨t, et, er⟩ := Option.bind_eq_some_iff.mp (show (dRepr y).bind (fun t => (dStr neg (.str x.py.shown) t).bind isB) = some r from er)
    rw [et]
    obtain ⟨z, ez, er⟩ := Option.bind_eq_some_iff.mp er
    show (liftO (dStr neg (.str x.py.shown) t) S2).Post _ _
    rw [ez]
    show (liftO (isB z) S2).Post _ _
    rw [er]
    exact q
/-- a test whose mirror may be weakened -/
theorem DT.le {e : Expr} {f f' : Env' → M Bool} (h : DT C e f) (k : ∀ ρ S P E, (f' ρ S).Post P E → (f ρ S).Post P E) : DT C e f' := by
  obtain ⟨t, p, s⟩ := h
  exact ⟨t, p, fun g H S ρ σ A Q st hp => s g H S ρ σ A Q st (k _ _ _ _ hp)⟩
theorem dt_rep (T : Std C) (hm : C.mg "repr" = none) (ha : DB C a m1 fa) (hb : DB C b m2 fb) (hg : ∀ i, Gl (C.X i) "repr" := by intro _; rfl) (he : ∀ i, starEach [a] (C.X i).env = (false, eval a (C.X i).env) :: starEach [] (C.X i).env := by intro _; rfl)
    (he2 : ∀ i, starEach [b] (C.X i).env = (false, eval b (C.X i).env) :: starEach [] (C.X i).env := by intro _; rfl) :
    DT C (.Compare (.Call (.Name "repr" p1) [a] [] q1) [.NotEq] [.Call (.Name "repr" p2) [b] [] q2] pos) (repM true fa fb) :=
  (dt_cmpC cmp_neS (DE.fz (de_repr T hm ha hg he)) (DE.fz (de_repr T hm hb hg he2))).le fun _ _ _ _ h => rep_le h
theorem dt_repE (T : Std C) (hm : C.mg "repr" = none) (ha : DB C a m1 fa) (hb : DB C b m2 fb) (hg : ∀ i, Gl (C.X i) "repr" := by intro _; rfl) (he : ∀ i, starEach [a] (C.X i).env = (false, eval a (C.X i).env) :: starEach [] (C.X i).env := by intro _; rfl)
    (he2 : ∀ i, starEach [b] (C.X i).env = (false, eval b (C.X i).env) :: starEach [] (C.X i).env := by intro _; rfl) :
    DT C (.Compare (.Call (.Name "repr" p1) [a] [] q1) [.Eq] [.Call (.Name "repr" p2) [b] [] q2] pos) (repM false fa fb) :=
  (dt_cmpC cmp_eqS (DE.fz (de_repr T hm ha hg he)) (DE.fz (de_repr T hm hb hg he2))).le fun _ _ _ _ h => rep_le h
/-- a test's value -/
theorem DB.ofT {e : Expr} {f : Env' → M D} {f' : Env' → M Bool} (h : DB C e m1 f) (k : ∀ ρ S P E, (f' ρ S).Post P E → (tst f ρ S).Post P E) : DB C e 0 (fun ρ => do let z ← f' ρ; pure (.bl z)) := by
  obtain ⟨t, p, s⟩ := h
  refine ⟨t, p, fun g H S ρ σ A Q st hp => s g H S ρ σ A Q st ?_⟩
  have hp := k ρ S _ _ (post_bind.mp hp)
  refine (tst_post hp).mono (fun d S' q g' H' v ok gr rb => ?_) fun _ _ z => z
  obtain ⟨z, rfl, q⟩ := q
  exact q g' H' v ok gr (show v = .bl z from RB.flat rfl rb)
theorem db_rep (T : Std C) (hm : C.mg "repr" = none) (ha : DB C a m1 fa) (hb : DB C b m2 fb) (hg : ∀ i, Gl (C.X i) "repr" := by intro _; rfl) (he : ∀ i, starEach [a] (C.X i).env = (false, eval a (C.X i).env) :: starEach [] (C.X i).env := by intro _; rfl)
    (he2 : ∀ i, starEach [b] (C.X i).env = (false, eval b (C.X i).env) :: starEach [] (C.X i).env := by intro _; rfl) :
    DB C (.Compare (.Call (.Name "repr" p1) [a] [] q1) [.NotEq] [.Call (.Name "repr" p2) [b] [] q2] pos) 0 (fun ρ => do let z ← repM true fa fb ρ; pure (.bl z)) :=
  (DE.fz (de_cmpC cmp_neS (DE.fz (de_repr T hm ha hg he)) (DE.fz (de_repr T hm hb hg he2)))).ofT fun _ _ _ _ h => rep_le h
theorem db_repE (T : Std C) (hm : C.mg "repr" = none) (ha : DB C a m1 fa) (hb : DB C b m2 fb) (hg : ∀ i, Gl (C.X i) "repr" := by intro _; rfl) (he : ∀ i, starEach [a] (C.X i).env = (false, eval a (C.X i).env) :: starEach [] (C.X i).env := by intro _; rfl)
    (he2 : ∀ i, starEach [b] (C.X i).env = (false, eval b (C.X i).env) :: starEach [] (C.X i).env := by intro _; rfl) :
    DB C (.Compare (.Call (.Name "repr" p1) [a] [] q1) [.Eq] [.Call (.Name "repr" p2) [b] [] q2] pos) 0 (fun ρ => do let z ← repM false fa fb ρ; pure (.bl z)) :=
  (DE.fz (de_cmpC cmp_eqS (DE.fz (de_repr T hm ha hg he)) (DE.fz (de_repr T hm hb hg he2)))).ofT fun _ _ _ _ h => rep_le h
end
end DS
namespace KX
open PySem PySem.Spec PyProof.Rows L2 DS
abbrev top (i : Nat) : Stmt := PySem.Challenge.pw_pealworks_k64_whole_two_changes_in_turn.main.body.getD i (.Pass ⟨0, 0, 0, 0⟩)
abbrev s__law_pot : Stmt := top 41
abbrev s__law_draw : Stmt := top 42
abbrev s__law_pick : Stmt := top 43
abbrev s__law_some : Stmt := top 50
abbrev s__law_step : Stmt := top 46
abbrev s__law_come : Stmt := top 49
abbrev s__law_rings : Stmt := top 52
abbrev s__law_is_change : Stmt := top 44
abbrev s__law_all : Stmt := top 45
abbrev s__law_order : Stmt := top 53
abbrev s_is_integer : Stmt := top 1
abbrev s_is_within : Stmt := top 2
abbrev s_is_bells : Stmt := top 19
abbrev s_want_bells : Stmt := top 22
abbrev s_is_list : Stmt := top 3
abbrev s_pairs_of : Stmt := top 17
abbrev s_are_rising : Stmt := top 4
abbrev s_is_lot : Stmt := top 5
abbrev s_is_change_of : Stmt := top 20
abbrev s_are_changes_of : Stmt := top 21
abbrev s_is_told_lot : Stmt := top 26
abbrev s_want_told : Stmt := top 27
abbrev s_rounds_of : Stmt := top 15
abbrev s_times : Stmt := top 16
abbrev s_change_row : Stmt := top 18
abbrev s_row_behind : Stmt := top 29
abbrev s_alternating : Stmt := top 34
abbrev s_two_ring : Stmt := top 38
abbrev s_rows_along : Stmt := top 30
abbrev s_is_ring_any : Stmt := top 31
abbrev s_want_ring : Stmt := top 32
abbrev s_turned_back : Stmt := top 39
abbrev s_come_to : Stmt := top 28
abbrev s_is_full : Stmt := top 33
abbrev s_is_full_ring : Stmt := top 36
abbrev s_rows_by : Stmt := top 35
abbrev s__law_two_right : Stmt := top 54
abbrev s_ring_rows : Stmt := top 37
abbrev s__law_hunting_right : Stmt := top 55
abbrev s_law : Stmt := top 56
structure Facts (K : PySem.W.Frag) (mg : Str → Option Value) : Prop where
  d__law_pot : ∃ (f : Addr) (fd : FuncData), FunD K "_law_pot" "_law_pot" (defArgs s__law_pot) (defBody s__law_pot) (defScope s__law_pot) [] [] f fd ∧ mg "_law_pot" = some (.ref f)
  d__law_draw : ∃ (f : Addr) (fd : FuncData), FunD K "_law_draw" "_law_draw" (defArgs s__law_draw) (defBody s__law_draw) (defScope s__law_draw) [] [] f fd ∧ mg "_law_draw" = some (.ref f)
  d__law_pick : ∃ (f : Addr) (fd : FuncData), FunD K "_law_pick" "_law_pick" (defArgs s__law_pick) (defBody s__law_pick) (defScope s__law_pick) [] [] f fd ∧ mg "_law_pick" = some (.ref f)
  d__law_some : ∃ (f : Addr) (fd : FuncData), FunD K "_law_some" "_law_some" (defArgs s__law_some) (defBody s__law_some) (defScope s__law_some) [] [] f fd ∧ mg "_law_some" = some (.ref f)
  d__law_step : ∃ (f : Addr) (fd : FuncData), FunD K "_law_step" "_law_step" (defArgs s__law_step) (defBody s__law_step) (defScope s__law_step) [] [] f fd ∧ mg "_law_step" = some (.ref f)
  d__law_come : ∃ (f : Addr) (fd : FuncData), FunD K "_law_come" "_law_come" (defArgs s__law_come) (defBody s__law_come) (defScope s__law_come) [] [] f fd ∧ mg "_law_come" = some (.ref f)
  d__law_rings : ∃ (f : Addr) (fd : FuncData), FunD K "_law_rings" "_law_rings" (defArgs s__law_rings) (defBody s__law_rings) (defScope s__law_rings) [] [] f fd ∧ mg "_law_rings" = some (.ref f)
  d__law_is_change : ∃ (f : Addr) (fd : FuncData), FunD K "_law_is_change" "_law_is_change" (defArgs s__law_is_change) (defBody s__law_is_change) (defScope s__law_is_change) [] [] f fd ∧ mg "_law_is_change" = some (.ref f)
  d__law_all : ∃ (f : Addr) (fd : FuncData), FunD K "_law_all" "_law_all" (defArgs s__law_all) (defBody s__law_all) (defScope s__law_all) [] [] f fd ∧ mg "_law_all" = some (.ref f)
  d__law_order : ∃ (f : Addr) (fd : FuncData), FunD K "_law_order" "_law_order" (defArgs s__law_order) (defBody s__law_order) (defScope s__law_order) [] [] f fd ∧ mg "_law_order" = some (.ref f)
  d_is_integer : ∃ (f : Addr) (fd : FuncData), FunD K "is_integer" "is_integer" (defArgs s_is_integer) (defBody s_is_integer) (defScope s_is_integer) [] [] f fd ∧ mg "is_integer" = some (.ref f)
  d_is_within : ∃ (f : Addr) (fd : FuncData), FunD K "is_within" "is_within" (defArgs s_is_within) (defBody s_is_within) (defScope s_is_within) [] [] f fd ∧ mg "is_within" = some (.ref f)
  d_is_bells : ∃ (f : Addr) (fd : FuncData), FunD K "is_bells" "is_bells" (defArgs s_is_bells) (defBody s_is_bells) (defScope s_is_bells) [] [] f fd ∧ mg "is_bells" = some (.ref f)
  d_want_bells : ∃ (f : Addr) (fd : FuncData), FunD K "want_bells" "want_bells" (defArgs s_want_bells) (defBody s_want_bells) (defScope s_want_bells) [] [] f fd ∧ mg "want_bells" = some (.ref f)
  d_is_list : ∃ (f : Addr) (fd : FuncData), FunD K "is_list" "is_list" (defArgs s_is_list) (defBody s_is_list) (defScope s_is_list) [] [] f fd ∧ mg "is_list" = some (.ref f)
  d_pairs_of : ∃ (f : Addr) (fd : FuncData), FunD K "pairs_of" "pairs_of" (defArgs s_pairs_of) (defBody s_pairs_of) (defScope s_pairs_of) [] [] f fd ∧ mg "pairs_of" = some (.ref f)
  d_are_rising : ∃ (f : Addr) (fd : FuncData), FunD K "are_rising" "are_rising" (defArgs s_are_rising) (defBody s_are_rising) (defScope s_are_rising) [] [] f fd ∧ mg "are_rising" = some (.ref f)
  d_is_lot : ∃ (f : Addr) (fd : FuncData), FunD K "is_lot" "is_lot" (defArgs s_is_lot) (defBody s_is_lot) (defScope s_is_lot) [] [] f fd ∧ mg "is_lot" = some (.ref f)
  d_is_change_of : ∃ (f : Addr) (fd : FuncData), FunD K "is_change_of" "is_change_of" (defArgs s_is_change_of) (defBody s_is_change_of) (defScope s_is_change_of) [] [] f fd ∧ mg "is_change_of" = some (.ref f)
  d_are_changes_of : ∃ (f : Addr) (fd : FuncData), FunD K "are_changes_of" "are_changes_of" (defArgs s_are_changes_of) (defBody s_are_changes_of) (defScope s_are_changes_of) [] [] f fd ∧ mg "are_changes_of" = some (.ref f)
  d_is_told_lot : ∃ (f : Addr) (fd : FuncData), FunD K "is_told_lot" "is_told_lot" (defArgs s_is_told_lot) (defBody s_is_told_lot) (defScope s_is_told_lot) [] [] f fd ∧ mg "is_told_lot" = some (.ref f)
  d_want_told : ∃ (f : Addr) (fd : FuncData), FunD K "want_told" "want_told" (defArgs s_want_told) (defBody s_want_told) (defScope s_want_told) [] [] f fd ∧ mg "want_told" = some (.ref f)
  d_rounds_of : ∃ (f : Addr) (fd : FuncData), FunD K "rounds_of" "rounds_of" (defArgs s_rounds_of) (defBody s_rounds_of) (defScope s_rounds_of) [] [] f fd ∧ mg "rounds_of" = some (.ref f)
  d_times : ∃ (f : Addr) (fd : FuncData), FunD K "times" "times" (defArgs s_times) (defBody s_times) (defScope s_times) [] [] f fd ∧ mg "times" = some (.ref f)
  d_change_row : ∃ (f : Addr) (fd : FuncData), FunD K "change_row" "change_row" (defArgs s_change_row) (defBody s_change_row) (defScope s_change_row) [] [] f fd ∧ mg "change_row" = some (.ref f)
  d_row_behind : ∃ (f : Addr) (fd : FuncData), FunD K "row_behind" "row_behind" (defArgs s_row_behind) (defBody s_row_behind) (defScope s_row_behind) [] [] f fd ∧ mg "row_behind" = some (.ref f)
  d_alternating : ∃ (f : Addr) (fd : FuncData), FunD K "alternating" "alternating" (defArgs s_alternating) (defBody s_alternating) (defScope s_alternating) [] [] f fd ∧ mg "alternating" = some (.ref f)
  d_two_ring : ∃ (f : Addr) (fd : FuncData), FunD K "two_ring" "two_ring" (defArgs s_two_ring) (defBody s_two_ring) (defScope s_two_ring) [] [] f fd ∧ mg "two_ring" = some (.ref f)
  d_rows_along : ∃ (f : Addr) (fd : FuncData), FunD K "rows_along" "rows_along" (defArgs s_rows_along) (defBody s_rows_along) (defScope s_rows_along) [] [] f fd ∧ mg "rows_along" = some (.ref f)
  d_is_ring_any : ∃ (f : Addr) (fd : FuncData), FunD K "is_ring_any" "is_ring_any" (defArgs s_is_ring_any) (defBody s_is_ring_any) (defScope s_is_ring_any) [] [] f fd ∧ mg "is_ring_any" = some (.ref f)
  d_want_ring : ∃ (f : Addr) (fd : FuncData), FunD K "want_ring" "want_ring" (defArgs s_want_ring) (defBody s_want_ring) (defScope s_want_ring) [] [] f fd ∧ mg "want_ring" = some (.ref f)
  d_turned_back : ∃ (f : Addr) (fd : FuncData), FunD K "turned_back" "turned_back" (defArgs s_turned_back) (defBody s_turned_back) (defScope s_turned_back) [] [] f fd ∧ mg "turned_back" = some (.ref f)
  d_come_to : ∃ (f : Addr) (fd : FuncData), FunD K "come_to" "come_to" (defArgs s_come_to) (defBody s_come_to) (defScope s_come_to) [] [] f fd ∧ mg "come_to" = some (.ref f)
  d_is_full : ∃ (f : Addr) (fd : FuncData), FunD K "is_full" "is_full" (defArgs s_is_full) (defBody s_is_full) (defScope s_is_full) [] [] f fd ∧ mg "is_full" = some (.ref f)
  d_is_full_ring : ∃ (f : Addr) (fd : FuncData), FunD K "is_full_ring" "is_full_ring" (defArgs s_is_full_ring) (defBody s_is_full_ring) (defScope s_is_full_ring) [] [] f fd ∧ mg "is_full_ring" = some (.ref f)
  d_rows_by : ∃ (f : Addr) (fd : FuncData), FunD K "rows_by" "rows_by" (defArgs s_rows_by) (defBody s_rows_by) (defScope s_rows_by) [] [] f fd ∧ mg "rows_by" = some (.ref f)
  d__law_two_right : ∃ (f : Addr) (fd : FuncData), FunD K "_law_two_right" "_law_two_right" (defArgs s__law_two_right) (defBody s__law_two_right) (defScope s__law_two_right) [] [] f fd ∧ mg "_law_two_right" = some (.ref f)
  d_ring_rows : ∃ (f : Addr) (fd : FuncData), FunD K "ring_rows" "ring_rows" (defArgs s_ring_rows) (defBody s_ring_rows) (defScope s_ring_rows) [] [] f fd ∧ mg "ring_rows" = some (.ref f)
  d__law_hunting_right : ∃ (f : Addr) (fd : FuncData), FunD K "_law_hunting_right" "_law_hunting_right" (defArgs s__law_hunting_right) (defBody s__law_hunting_right) (defScope s__law_hunting_right) [] [] f fd ∧ mg "_law_hunting_right" = some (.ref f)
  d_law : ∃ (f : Addr) (fd : FuncData), FunD K "law" "law" (defArgs s_law) (defBody s_law) (defScope s_law) [] [] f fd ∧ mg "law" = some (.ref f)
  b_abs : mg "abs" = none
  b_all : mg "all" = none
  b_bool : mg "bool" = none
  b_divmod : mg "divmod" = none
  b_int : mg "int" = none
  b_isinstance : mg "isinstance" = none
  b_len : mg "len" = none
  b_list : mg "list" = none
  b_max : mg "max" = none
  b_min : mg "min" = none
  b_range : mg "range" = none
  b_repr : mg "repr" = none
  b_set : mg "set" = none
  b_sorted : mg "sorted" = none
  b_tuple : mg "tuple" = none
  b_zip : mg "zip" = none
  c_LEAST_BELLS : ∃ t, mg "LEAST_BELLS" = some (.int 3 t)
  c_MOST_BELLS : ∃ t, mg "MOST_BELLS" = some (.int 6 t)
  c_MOST_CHANGES : ∃ t, mg "MOST_CHANGES" = some (.int 800 t)
  c_MOST_RING : ∃ t, mg "MOST_RING" = some (.int 800 t)
  c_MOST_TOLD : ∃ t, mg "MOST_TOLD" = some (.int 12 t)
def q__law_pot : Env' → M (Fl × Env') := (seqM (setM 2 0 (iteM (tst (ap2 dLt (bVar 0 1) (apL (uno dLen) (consM (bVar 1 0) fun _ => pure [])))) (apL (uno dAbs) (consM (potM (bVar 0 0) (bVar 0 1)) fun _ => pure [])) (ap2 dAdd (ap2 dMul (fun _ => pure (.int 1733)) (bVar 0 1)) (fun _ => pure (.int 64))))) (retM (lstM (consM (apL (duo dMax) (consM (fun _ => pure (.int 0)) (consM (ap2 dSub (bVar 0 2) (ap2 dPow (fun _ => pure (.int 10)) (fun _ => pure (.int 18)))) (fun _ => pure [])))) (consM (ap2 dAdd (ap2 dMod (apL (uno dInt) (consM (ap2 dAdd (ap2 dAdd (ap2 dMul (ap2 dMod (apL (uno dInt) (consM (bVar 0 2) fun _ => pure [])) (fun _ => pure (.int 2147483549))) (fun _ => pure (.int 69621))) (ap2 dMul (fun _ => pure (.int 2647)) (bVar 0 1))) (fun _ => pure (.int 64))) fun _ => pure [])) (fun _ => pure (.int 2147483563))) (fun _ => pure (.int 1))) (fun _ => pure []))))))
def m__law_pot : List D → M D := potted (fnM 3 q__law_pot)
theorem sc__law_pot : FnScope ["script", "k", "cell"] ["script", "k"] (defScope s__law_pot) := ⟨rfl, rfl, rfl, by decide +kernel, rfl, by decide +kernel, by decide +kernel⟩
theorem fg__law_pot {P : Program} {w : World} {K : PySem.W.Frag} {mg : Str → Option Value} {base : Heap} (h : Facts K mg) {f : Addr} {fd : FuncData} (F : FunD K "_law_pot" "_law_pot" (defArgs s__law_pot) (defBody s__law_pot) (defScope s__law_pot) [] [] f fd) :
    FnG P w K mg base 1 f fd ["script", "k"] (spD K mg 2 0 m__law_pot) :=
  fnG_potted (fn_ds (N := ["script", "k", "cell"]) (ps := ["script", "k"]) (r := 1) (q := q__law_pot) F sc__law_pot fun cdv E c =>
    (dss_cons (ds_set c.std 2 (de_if (dt_cmpC (cmp_lt c.std) (db_var 0 1) (DE.fz (de_len c.std h.b_len (db_var 1 0)))) (de_abs c.std h.b_abs (db_ixP c.std (db_var 0 0) (db_var 0 1))) (DE.z (de_add c.std (DE.brw (de_mul (DB.up db_int (by decide : 0 ≤ 1)) (db_var 0 1))) (DB.up db_int (by decide : 0 ≤ 1)))))) (dss_one (ds_ret (de_lst (da_cons (DE.fz (de_max2 c.std h.b_max (da_cons db_int (da_cons (DE.fz (de_sub (db_var 0 2) (DE.fz (de_pow db_int db_int)))) da_nil)))) (da_cons (DE.fz (de_add c.std (DB.up (DE.brw (de_mod (DE.fz (de_int c.std h.b_int (DE.fz (de_add c.std (DE.brw (de_add c.std (DE.brw (de_mul (DB.up (DE.brw (de_mod (DE.fz (de_int c.std h.b_int (db_var 0 2))) db_int)) (by decide : 0 ≤ 1)) db_int)) (DE.brw (de_mul (DB.up db_int (by decide : 0 ≤ 1)) (db_var 0 1))))) (DB.up db_int (by decide : 0 ≤ 1)))))) db_int)) (by decide : 0 ≤ 1)) (DB.up db_int (by decide : 0 ≤ 1)))) da_nil)))))))
theorem fn__law_pot {P : Program} {w : World} {K : PySem.W.Frag} {mg : Str → Option Value} {base : Heap} (h : Facts K mg) : Fn P w K mg base 1 "_law_pot" 2 0 m__law_pot := by
  obtain ⟨f, fd, F, hm⟩ := h.d__law_pot
  exact fn_def F hm (fg__law_pot h F) (F.bindsN fun _ _ _ _ _ _ us hl => match us, hl with | [_, _], _ => rfl)

def q__law_draw : Env' → M (Fl × Env') := (seqM (iteM (tst (ap2 dGt (potM (bVar 0 0) (fun _ => pure (.int 0))) (fun _ => pure (.int 0)))) (seqM (asgM (gTp (lenG 2 (gsCons (gPotM 0 (fun _ => pure (.int 0))) (gsCons (gNm 2) gsNil)))) (apL (duo dDivmod) (consM (potM (bVar 0 0) (fun _ => pure (.int 0))) (consM (bVar 0 1) (fun _ => pure []))))) (retM (bVar 0 2))) nextM) (seqM (asgM (gPotM 0 (fun _ => pure (.int 1))) (ap2 dMod (apL (uno dInt) (consM (ap2 dAdd (ap2 dMul (potM (bVar 0 0) (fun _ => pure (.int 1))) (fun _ => pure (.int 40014))) (fun _ => pure (.int 2647))) fun _ => pure [])) (fun _ => pure (.int 2147483549)))) (retM (ap2 dMod (apL (uno dInt) (consM (ap2 dDiv (ap2 dMod (apL (uno dInt) (consM (ap2 dMul (potM (bVar 0 0) (fun _ => pure (.int 1))) (potM (bVar 0 0) (fun _ => pure (.int 1)))) fun _ => pure [])) (fun _ => pure (.int 2147483563))) (fun _ => pure (.int 31))) fun _ => pure [])) (bVar 0 1)))))
def m__law_draw : List D → M D := fnM 3 q__law_draw
theorem sc__law_draw : FnScope ["pot", "many", "digit"] ["pot", "many"] (defScope s__law_draw) := ⟨rfl, rfl, rfl, by decide +kernel, rfl, by decide +kernel, by decide +kernel⟩
theorem fg__law_draw {P : Program} {w : World} {K : PySem.W.Frag} {mg : Str → Option Value} {base : Heap} (h : Facts K mg) {f : Addr} {fd : FuncData} (F : FunD K "_law_draw" "_law_draw" (defArgs s__law_draw) (defBody s__law_draw) (defScope s__law_draw) [] [] f fd) :
    FnG P w K mg base 1 f fd ["pot", "many"] (spD K mg 2 0 m__law_draw) :=
  fn_ds (N := ["pot", "many", "digit"]) (ps := ["pot", "many"]) (r := 0) (q := q__law_draw) F sc__law_draw fun cdv E c =>
    (dss_cons (ds_if (dt_cmpC cmp_gt (db_ixP c.std (db_var 0 0) db_int) db_int) (dss_cons (ds_asg (DE.fz (de_divmod c.std h.b_divmod (da_cons (db_ixP c.std (db_var 0 0) db_int) (da_cons (db_var 0 1) da_nil)))) (dg_tup c.std (dgs_cons (dg_pot c.std 0 db_int) (dgs_cons (dg_name c.std 2) dgs_nil)))) (dss_one (ds_ret (DB.val (db_var 0 2))))) dss_nil) (dss_cons (ds_asg (DE.fz (de_mod (DE.fz (de_int c.std h.b_int (DE.fz (de_add c.std (DE.brw (de_mul (DB.up (db_ixP c.std (db_var 0 0) db_int) (by decide : 0 ≤ 1)) db_int)) (DB.up db_int (by decide : 0 ≤ 1)))))) db_int)) (dg_pot c.std 0 db_int)) (dss_one (ds_ret (de_mod (DE.fz (de_int c.std h.b_int (DE.fz (de_div (DE.fz (de_mod (DE.fz (de_int c.std h.b_int (DE.fz (de_mul (DB.up (db_ixP c.std (db_var 0 0) db_int) (by decide : 0 ≤ 1)) (db_ixP c.std (db_var 0 0) db_int))))) db_int)) db_int)))) (db_var 0 1))))))
theorem fn__law_draw {P : Program} {w : World} {K : PySem.W.Frag} {mg : Str → Option Value} {base : Heap} (h : Facts K mg) : Fn P w K mg base 1 "_law_draw" 2 0 m__law_draw := by
  obtain ⟨f, fd, F, hm⟩ := h.d__law_draw
  exact fn_def F hm (fg__law_draw h F) (F.bindsN fun _ _ _ _ _ _ us hl => match us, hl with | [_, _], _ => rfl)

def q__law_pick : Env' → M (Fl × Env') := (retM (ap2 dGet (bVar 1 1) (callM 2 (consM (bVar 0 0) (consM (apL (uno dLen) (consM (bVar 1 1) fun _ => pure [])) (fun _ => pure []))) m__law_draw)))
def m__law_pick : List D → M D := fnM 2 q__law_pick
theorem sc__law_pick : FnScope ["pot", "some"] ["pot", "some"] (defScope s__law_pick) := ⟨rfl, rfl, rfl, by decide +kernel, rfl, by decide +kernel, by decide +kernel⟩
theorem fg__law_pick {P : Program} {w : World} {K : PySem.W.Frag} {mg : Str → Option Value} {base : Heap} (h : Facts K mg) {f : Addr} {fd : FuncData} (F : FunD K "_law_pick" "_law_pick" (defArgs s__law_pick) (defBody s__law_pick) (defScope s__law_pick) [] [] f fd) :
    FnG P w K mg base 2 f fd ["pot", "some"] (spD K mg 2 0 m__law_pick) :=
  fn_ds (N := ["pot", "some"]) (ps := ["pot", "some"]) (r := 0) (q := q__law_pick) F sc__law_pick fun cdv E c =>
    (dss_one (ds_ret (DB.val (db_ix c.std (db_var 1 1) (DE.fz (de_call c (fn__law_draw h) (by decide) (da_cons (db_var 0 0) (da_cons (DE.fz (de_len c.std h.b_len (db_var 1 1))) da_nil))))))))
theorem fn__law_pick {P : Program} {w : World} {K : PySem.W.Frag} {mg : Str → Option Value} {base : Heap} (h : Facts K mg) : Fn P w K mg base 2 "_law_pick" 2 0 m__law_pick := by
  obtain ⟨f, fd, F, hm⟩ := h.d__law_pick
  exact fn_def F hm (fg__law_pick h F) (F.bindsN fun _ _ _ _ _ _ us hl => match us, hl with | [_, _], _ => rfl)

def q__law_some : Env' → M (Fl × Env') := (seqM (par2 1 4 1 1 (apL (uno dListOf) (consM (bVar 1 1) fun _ => pure [])) (fun _ => pure (.lst []))) (seqM (forS (rngI rng1 (consM (apL (duo dMin) (consM (bVar 0 2) (consM (apL (uno dLen) (consM (bVar 1 1) fun _ => pure [])) (fun _ => pure [])))) (fun _ => pure []))) (gNm 3) (appM 4 0 (fun ρ => do chk (isLst 1 ρ); popAtM 1 0 (callM 2 (consM (bVar 0 0) (consM (apL (uno dLen) (consM (bVar 1 1) fun _ => pure [])) (fun _ => pure []))) m__law_draw) ρ))) (fun ρ => (retM (bVar 0 4)) (frzE 4 ρ))))
def m__law_some : List D → M D := fnM 5 q__law_some
theorem sc__law_some : FnScope ["pot", "left", "many", "turn", "found"] ["pot", "left", "many"] (defScope s__law_some) := ⟨rfl, rfl, rfl, by decide +kernel, rfl, by decide +kernel, by decide +kernel⟩
theorem fg__law_some {P : Program} {w : World} {K : PySem.W.Frag} {mg : Str → Option Value} {base : Heap} (h : Facts K mg) {f : Addr} {fd : FuncData} (F : FunD K "_law_some" "_law_some" (defArgs s__law_some) (defBody s__law_some) (defScope s__law_some) [] [] f fd) :
    FnG P w K mg base 2 f fd ["pot", "left", "many"] (spD K mg 3 0 m__law_some) :=
  fn_ds (N := ["pot", "left", "many", "turn", "found"]) (ps := ["pot", "left", "many"]) (r := 0) (q := q__law_some) F sc__law_some fun cdv E c =>
    (dss_cons (ds_par2 c.std 1 4 (de_listOf c.std h.b_list (db_var 1 1)) de_nil) (dss_cons (ds_for c.std (di_rng1 c.std (da_cons (DE.fz (de_min2 c.std h.b_min (da_cons (db_var 0 2) (da_cons (DE.fz (de_len c.std h.b_len (db_var 1 1))) da_nil)))) da_nil) h.b_range) (dg_name c.std 3) (dss_one (ds_app c.std 4 0 (dx_popAt c.std 1 0 (DE.fz (de_call c (fn__law_draw h) (by decide) (da_cons (db_var 0 0) (da_cons (DE.fz (de_len c.std h.b_len (db_var 1 1))) da_nil)))))))) (dss_frz 4 (dss_one (ds_ret (DB.val (db_var 0 4)))))))
theorem fn__law_some {P : Program} {w : World} {K : PySem.W.Frag} {mg : Str → Option Value} {base : Heap} (h : Facts K mg) : Fn P w K mg base 2 "_law_some" 3 0 m__law_some := by
  obtain ⟨f, fd, F, hm⟩ := h.d__law_some
  exact fn_def F hm (fg__law_some h F) (F.bindsN fun _ _ _ _ _ _ us hl => match us, hl with | [_, _, _], _ => rfl)

def q__law_step : Env' → M (Fl × Env') := (seqM (par2 2 3 1 0 (apL (uno dListOf) (consM (bVar 1 0) fun _ => pure [])) (fun _ => pure (.int 0))) (seqM (whileM (tst (ap2 dLt (bVar 0 3) (apL (uno dLen) (consM (bVar 1 0) fun _ => pure [])))) (iteM (tst (ap2 dIn (bVar 0 3) (bVar 1 1))) (setM 3 0 (ap2 dAdd (bVar 1 3) (fun _ => pure (.int 1)))) (seqM (asgM (gTp (lenG 2 (gsCons (gSubM 2 (bVar 0 3)) (gsCons (gSubM 2 (ap2 dAdd (bVar 1 3) (fun _ => pure (.int 1)))) gsNil)))) (tupM (consM (ap2 dGet (bVar 1 0) (ap2 dAdd (bVar 1 3) (fun _ => pure (.int 1)))) (consM (ap2 dGet (bVar 1 0) (bVar 0 3)) (fun _ => pure []))))) (setM 3 0 (ap2 dAdd (bVar 1 3) (fun _ => pure (.int 2)))))) FUEL) (retM (apL (uno dTupOf) (consM (bVar 1 2) fun _ => pure [])))))
def m__law_step : List D → M D := fnM 4 q__law_step
theorem sc__law_step : FnScope ["row", "change", "found", "place"] ["row", "change"] (defScope s__law_step) := ⟨rfl, rfl, rfl, by decide +kernel, rfl, by decide +kernel, by decide +kernel⟩
theorem fg__law_step {P : Program} {w : World} {K : PySem.W.Frag} {mg : Str → Option Value} {base : Heap} (h : Facts K mg) {f : Addr} {fd : FuncData} (F : FunD K "_law_step" "_law_step" (defArgs s__law_step) (defBody s__law_step) (defScope s__law_step) [] [] f fd) :
    FnG P w K mg base 1 f fd ["row", "change"] (spD K mg 2 0 m__law_step) :=
  fn_ds (N := ["row", "change", "found", "place"]) (ps := ["row", "change"]) (r := 0) (q := q__law_step) F sc__law_step fun cdv E c =>
    (dss_cons (ds_par2 c.std 2 3 (de_listOf c.std h.b_list (db_var 1 0)) (DB.val db_int)) (dss_cons (ds_while c.std (dt_cmpC (cmp_lt c.std) (db_var 0 3) (DE.fz (de_len c.std h.b_len (db_var 1 0)))) (dss_one (ds_if (dt_cmpC (cmp_in (m := 0) c.std) (db_var 0 3) (db_var 1 1)) (dss_one (ds_set c.std 3 (DE.z (de_add c.std (db_var 1 3) (DB.up db_int (by decide : 0 ≤ 1)))))) (dss_cons (ds_asg (DE.fz (de_tup (da_cons (db_ix c.std (db_var 1 0) (DE.fz (de_add c.std (db_var 1 3) (DB.up db_int (by decide : 0 ≤ 1))))) (da_cons (db_ix c.std (db_var 1 0) (db_var 0 3)) da_nil)))) (dg_tup c.std (dgs_cons (dg_sub c.std 2 (db_var 0 3)) (dgs_cons (dg_sub c.std 2 (DE.fz (de_add c.std (db_var 1 3) (DB.up db_int (by decide : 0 ≤ 1))))) dgs_nil)))) (dss_one (ds_set c.std 3 (DE.z (de_add c.std (db_var 1 3) (DB.up db_int (by decide : 0 ≤ 1)))))))))) (dss_one (ds_ret (de_tupOf c.std h.b_tuple (db_var 1 2))))))
theorem fn__law_step {P : Program} {w : World} {K : PySem.W.Frag} {mg : Str → Option Value} {base : Heap} (h : Facts K mg) : Fn P w K mg base 1 "_law_step" 2 0 m__law_step := by
  obtain ⟨f, fd, F, hm⟩ := h.d__law_step
  exact fn_def F hm (fg__law_step h F) (F.bindsN fun _ _ _ _ _ _ us hl => match us, hl with | [_, _], _ => rfl)

def q__law_come : Env' → M (Fl × Env') := (seqM (par2 2 3 1 1 (fun _ => pure (.dict true [] [])) (lstM (consM (trgM (rg1 (bVar 0 0))) (fun _ => pure [])))) (seqM (whileM (tst (ap2 dNe (bVar 1 3) (fun _ => pure (.lst [])))) (seqM (setX 4 0 (popM 3 0)) (iteM (tst (ap2 dNotIn (bVar 0 4) (bVar 1 2))) (seqM (asgM (gSubM 2 (bVar 0 4)) (fun _ => pure (.bl true))) (extM 3 (lcM [5] (seqI (bVar 0 1)) (gNm 5) (fun _ => pure true) (callM 2 (consM (bVar 0 4) (consM (bVar 0 5) (fun _ => pure []))) m__law_step)))) nextM)) FUEL) (retM (apL (uno dSorted) (consM (bVar 1 2) fun _ => pure [])))))
def m__law_come : List D → M D := fnM 6 q__law_come
theorem sc__law_come : FnScope ["bells", "changes", "found", "left", "row", "change"] ["bells", "changes"] (defScope s__law_come) := ⟨rfl, rfl, rfl, by decide +kernel, rfl, by decide +kernel, by decide +kernel⟩
theorem fg__law_come {P : Program} {w : World} {K : PySem.W.Frag} {mg : Str → Option Value} {base : Heap} (h : Facts K mg) {f : Addr} {fd : FuncData} (F : FunD K "_law_come" "_law_come" (defArgs s__law_come) (defBody s__law_come) (defScope s__law_come) [] [] f fd) :
    FnG P w K mg base 2 f fd ["bells", "changes"] (spD K mg 2 0 m__law_come) :=
  fn_ds (N := ["bells", "changes", "found", "left", "row", "change"]) (ps := ["bells", "changes"]) (r := 0) (q := q__law_come) F sc__law_come fun cdv E c =>
    (dss_cons (ds_par2 c.std 2 3 de_dnewT (de_lst (da_cons (DE.fz (de_tupRg c.std (drg1 c.std (db_var 0 0) h.b_range) h.b_tuple)) da_nil))) (dss_cons (ds_while c.std (dt_cmpC (cmp_ne c.std) (db_var 1 3) (DE.fz (n := 1) de_nil)) (dss_cons (ds_setX c.std 4 (dx_pop c.std 3 0)) (dss_one (ds_if (dt_cmpC (cmp_notin (m := 0) c.std) (db_var 0 4) (db_var 1 2)) (dss_cons (ds_asg db_bl (dg_sub c.std 2 (db_var 0 4))) (dss_one (ds_ext c.std 3 (DE.brw (de_lc c.std [("change", 5)] (di_seq c.std (db_var 0 1)) (fun _ => blkOk_by (by kernel_rfl)) (dgv_name (c.blk _).std 5) dts_nil (de_call (c.blk _) (fn__law_step h) (by decide) (da_cons (db_var 0 4) (da_cons (db_var 0 5) da_nil)))))))) dss_nil)))) (dss_one (ds_ret (DE.z (de_sorted c.std h.b_sorted (db_var 1 2)))))))
theorem fn__law_come {P : Program} {w : World} {K : PySem.W.Frag} {mg : Str → Option Value} {base : Heap} (h : Facts K mg) : Fn P w K mg base 2 "_law_come" 2 0 m__law_come := by
  obtain ⟨f, fd, F, hm⟩ := h.d__law_come
  exact fn_def F hm (fg__law_come h F) (F.bindsN fun _ _ _ _ _ _ us hl => match us, hl with | [_, _], _ => rfl)

def q__law_rings : Env' → M (Fl × Env') := (seqM (par3 5 6 4 0 1 1 (callM 2 (consM (bVar 0 0) (consM (bVar 0 1) (fun _ => pure []))) m__law_come) (fun _ => pure (.lst [])) (lstM (consM (fun _ => pure (.lst [])) (fun _ => pure [])))) (seqM (par2 7 8 1 0 (fun _ => pure (.dict true [] [])) (apL (uno dLen) (consM (bVar 1 5) fun _ => pure []))) (seqM (forS (seqI (bVar 0 5)) (gNm 2) (asgM (gSubM 7 (bVar 0 2)) (lcM [12] (seqI (bVar 0 1)) (gNm 12) (fun _ => pure true) (tupM (consM (bVar 0 12) (consM (callM 2 (consM (bVar 0 2) (consM (bVar 0 12) (fun _ => pure []))) m__law_step) (fun _ => pure []))))))) (seqM (setM 3 0 (trgM (rg1 (bVar 0 0)))) (seqM (setM 4 1 (lstM (consM (tupM (consM (fun _ => pure (.lst [])) (consM (bVar 0 3) (consM (tupM (consM (bVar 0 3) (fun _ => pure []))) (fun _ => pure []))))) (fun _ => pure [])))) (seqM (whileM (tst (ap2 dNe (bVar 1 4) (fun _ => pure (.lst [])))) (seqM (asgX (gTp (lenG 3 (gsCons (gNm 9) (gsCons (gNm 10) (gsCons (gNm 11) gsNil))))) (popM 4 0)) (forS (seqI (ap2 dGet (bVar 1 7) (bVar 0 10))) (gTp (lenG 2 (gsCons (gNm 12) (gsCons (gNm 13) gsNil)))) (iteM (andM (tst (ap2 dEq (bVar 0 13) (bVar 0 3))) (tst (ap2 dEq (ap2 dAdd (apL (uno dLen) (consM (bVar 1 9) fun _ => pure [])) (fun _ => pure (.int 1))) (bVar 0 8)))) (appM 6 0 (keepM (ap2 dAdd (bVar 1 9) (lstM (consM (bVar 0 12) (fun _ => pure [])))))) (iteM (tst (ap2 dNotIn (bVar 0 13) (bVar 1 11))) (appM 4 0 (keepM (tupM (consM (ap2 dAdd (bVar 1 9) (lstM (consM (bVar 0 12) (fun _ => pure [])))) (consM (bVar 0 13) (consM (ap2 dAdd (bVar 1 11) (tupM (consM (bVar 0 13) (fun _ => pure [])))) (fun _ => pure []))))))) nextM)))) FUEL) (retM (apL (uno dSorted) (consM (bVar 1 6) fun _ => pure [])))))))))
def m__law_rings : List D → M D := fnM 14 q__law_rings
theorem sc__law_rings : FnScope ["bells", "changes", "row", "first", "left", "rows", "found", "nexts", "many", "ring", "here", "seen", "change", "late"] ["bells", "changes"] (defScope s__law_rings) := ⟨rfl, rfl, rfl, by decide +kernel, rfl, by decide +kernel, by decide +kernel⟩
theorem fg__law_rings {P : Program} {w : World} {K : PySem.W.Frag} {mg : Str → Option Value} {base : Heap} (h : Facts K mg) {f : Addr} {fd : FuncData} (F : FunD K "_law_rings" "_law_rings" (defArgs s__law_rings) (defBody s__law_rings) (defScope s__law_rings) [] [] f fd) :
    FnG P w K mg base 3 f fd ["bells", "changes"] (spD K mg 2 0 m__law_rings) :=
  fn_ds (N := ["bells", "changes", "row", "first", "left", "rows", "found", "nexts", "many", "ring", "here", "seen", "change", "late"]) (ps := ["bells", "changes"]) (r := 0) (q := q__law_rings) F sc__law_rings fun cdv E c =>
    (dss_cons (ds_par3 c.std 5 6 4 (de_call c (fn__law_come h) (by decide) (da_cons (db_var 0 0) (da_cons (db_var 0 1) da_nil))) de_nil (de_lst (da_cons (DE.fz (n := 1) de_nil) da_nil))) (dss_cons (ds_par2 c.std 7 8 de_dnewT (de_len c.std h.b_len (db_var 1 5))) (dss_cons (ds_for c.std (di_seq c.std (db_var 0 5)) (dg_name c.std 2) (dss_one (ds_asg (DE.fz (de_lc c.std [("change", 12)] (di_seq c.std (db_var 0 1)) (fun _ => blkOk_by (by kernel_rfl)) (dgv_name (c.blk _).std 12) dts_nil (de_tup (da_cons (db_var 0 12) (da_cons (DE.fz (de_call (c.blk _) (fn__law_step h) (by decide) (da_cons (db_var 0 2) (da_cons (db_var 0 12) da_nil)))) da_nil))))) (dg_sub c.std 7 (db_var 0 2))))) (dss_cons (ds_set c.std 3 (de_tupRg c.std (drg1 c.std (db_var 0 0) h.b_range) h.b_tuple)) (dss_cons (ds_set c.std 4 (de_lst (da_cons (DE.fz (de_tup (da_cons (DE.fz (n := 1) de_nil) (da_cons (db_var 0 3) (da_cons (DE.fz (de_tup (da_cons (db_var 0 3) da_nil))) da_nil))))) da_nil))) (dss_cons (ds_while c.std (dt_cmpC (cmp_ne c.std) (db_var 1 4) (DE.fz (n := 1) de_nil)) (dss_cons (ds_asgX (dx_pop c.std 4 0) (dg_tup c.std (dgs_cons (dg_name c.std 9) (dgs_cons (dg_name c.std 10) (dgs_cons (dg_name c.std 11) dgs_nil))))) (dss_one (ds_for c.std (di_seq c.std (db_ix c.std (db_var 1 7) (db_var 0 10))) (dg_tup c.std (dgs_cons (dg_name c.std 12) (dgs_cons (dg_name c.std 13) dgs_nil))) (dss_one (ds_if (DW.t (dw_and (dt_cmpC (cmp_eq c.std) (db_var 0 13) (db_var 0 3)) (dw_and1 (dt_cmpC (cmp_eq c.std) (DE.fz (de_add c.std (DB.up (DE.brw (de_len c.std h.b_len (db_var 1 9))) (by decide : 0 ≤ 1)) (DB.up db_int (by decide : 0 ≤ 1)))) (db_var 0 8))))) (dss_one (ds_app c.std 6 0 (DE.x (DE.z (de_add c.std (db_var 1 9) (DE.brw (de_lst (da_cons (db_var 0 12) da_nil)))))))) (dss_one (ds_if (dt_cmpC (cmp_notin (m := 0) c.std) (db_var 0 13) (db_var 1 11)) (dss_one (ds_app c.std 4 0 (DE.x (de_tup (da_cons (DE.fz (de_add c.std (db_var 1 9) (DE.brw (de_lst (da_cons (db_var 0 12) da_nil))))) (da_cons (db_var 0 13) (da_cons (DE.fz (de_add c.std (db_var 1 11) (DB.up (DE.brw (de_tup (da_cons (db_var 0 13) da_nil))) (by decide : 0 ≤ 1)))) da_nil))))))) dss_nil)))))))) (dss_one (ds_ret (DE.z (de_sorted c.std h.b_sorted (db_var 1 6)))))))))))
theorem fn__law_rings {P : Program} {w : World} {K : PySem.W.Frag} {mg : Str → Option Value} {base : Heap} (h : Facts K mg) : Fn P w K mg base 3 "_law_rings" 2 0 m__law_rings := by
  obtain ⟨f, fd, F, hm⟩ := h.d__law_rings
  exact fn_def F hm (fg__law_rings h F) (F.bindsN fun _ _ _ _ _ _ us hl => match us, hl with | [_, _], _ => rfl)

def q__law_is_change : Env' → M (Fl × Env') := (seqM (setM 2 0 (fun _ => pure (.int 0))) (seqM (whileM (tst (ap2 dLt (bVar 0 2) (bVar 0 0))) (iteM (tst (ap2 dIn (bVar 0 2) (bVar 1 1))) (setM 2 0 (ap2 dAdd (bVar 1 2) (fun _ => pure (.int 1)))) (iteM (andM (tst (ap2 dLt (ap2 dAdd (bVar 1 2) (fun _ => pure (.int 1))) (bVar 0 0))) (tst (ap2 dNotIn (ap2 dAdd (bVar 1 2) (fun _ => pure (.int 1))) (bVar 1 1)))) (setM 2 0 (ap2 dAdd (bVar 1 2) (fun _ => pure (.int 2)))) (retM (fun _ => pure (.bl false))))) FUEL) (retM (ap2 dLt (apL (uno dLen) (consM (bVar 1 1) fun _ => pure [])) (bVar 0 0)))))
def m__law_is_change : List D → M D := fnM 3 q__law_is_change
theorem sc__law_is_change : FnScope ["bells", "change", "place"] ["bells", "change"] (defScope s__law_is_change) := ⟨rfl, rfl, rfl, by decide +kernel, rfl, by decide +kernel, by decide +kernel⟩
theorem fg__law_is_change {P : Program} {w : World} {K : PySem.W.Frag} {mg : Str → Option Value} {base : Heap} (h : Facts K mg) {f : Addr} {fd : FuncData} (F : FunD K "_law_is_change" "_law_is_change" (defArgs s__law_is_change) (defBody s__law_is_change) (defScope s__law_is_change) [] [] f fd) :
    FnG P w K mg base 1 f fd ["bells", "change"] (spD K mg 2 0 m__law_is_change) :=
  fn_ds (N := ["bells", "change", "place"]) (ps := ["bells", "change"]) (r := 0) (q := q__law_is_change) F sc__law_is_change fun cdv E c =>
    (dss_cons (ds_set c.std 2 (DB.val db_int)) (dss_cons (ds_while c.std (dt_cmpC (cmp_lt c.std) (db_var 0 2) (db_var 0 0)) (dss_one (ds_if (dt_cmpC (cmp_in (m := 0) c.std) (db_var 0 2) (db_var 1 1)) (dss_one (ds_set c.std 2 (DE.z (de_add c.std (db_var 1 2) (DB.up db_int (by decide : 0 ≤ 1)))))) (dss_one (ds_if (DW.t (dw_and (dt_cmpC (cmp_lt c.std) (DE.fz (de_add c.std (db_var 1 2) (DB.up db_int (by decide : 0 ≤ 1)))) (db_var 0 0)) (dw_and1 (dt_cmpC (cmp_notin (m := 0) c.std) (DE.fz (de_add c.std (db_var 1 2) (DB.up db_int (by decide : 0 ≤ 1)))) (db_var 1 1))))) (dss_one (ds_set c.std 2 (DE.z (de_add c.std (db_var 1 2) (DB.up db_int (by decide : 0 ≤ 1)))))) (dss_one (ds_ret (DB.val db_bl)))))))) (dss_one (ds_ret (de_cmpC (cmp_lt c.std) (DE.fz (de_len c.std h.b_len (db_var 1 1))) (db_var 0 0))))))
theorem fn__law_is_change {P : Program} {w : World} {K : PySem.W.Frag} {mg : Str → Option Value} {base : Heap} (h : Facts K mg) : Fn P w K mg base 1 "_law_is_change" 2 0 m__law_is_change := by
  obtain ⟨f, fd, F, hm⟩ := h.d__law_is_change
  exact fn_def F hm (fg__law_is_change h F) (F.bindsN fun _ _ _ _ _ _ us hl => match us, hl with | [_, _], _ => rfl)

def q__law_all : Env' → M (Fl × Env') := (seqM (setM 1 0 (lstM (consM (tupM (fun _ => pure [])) (fun _ => pure [])))) (seqM (forS (rngI rng1 (consM (bVar 0 0) (fun _ => pure []))) (gNm 2) (setM 1 0 (ap2 dAdd (bVar 1 1) (lcM [3] (seqI (bVar 0 1)) (gNm 3) (fun _ => pure true) (ap2 dAdd (bVar 1 3) (tupM (consM (bVar 0 2) (fun _ => pure [])))))))) (retM (apL (uno dSorted) (consM (lcM [3] (seqI (bVar 0 1)) (gNm 3) (tst (callM 2 (consM (bVar 0 0) (consM (bVar 0 3) (fun _ => pure []))) m__law_is_change)) (bVar 0 3)) fun _ => pure [])))))
def m__law_all : List D → M D := fnM 4 q__law_all
theorem sc__law_all : FnScope ["bells", "found", "place", "one"] ["bells"] (defScope s__law_all) := ⟨rfl, rfl, rfl, by decide +kernel, rfl, by decide +kernel, by decide +kernel⟩
theorem fg__law_all {P : Program} {w : World} {K : PySem.W.Frag} {mg : Str → Option Value} {base : Heap} (h : Facts K mg) {f : Addr} {fd : FuncData} (F : FunD K "_law_all" "_law_all" (defArgs s__law_all) (defBody s__law_all) (defScope s__law_all) [] [] f fd) :
    FnG P w K mg base 2 f fd ["bells"] (spD K mg 1 0 m__law_all) :=
  fn_ds (N := ["bells", "found", "place", "one"]) (ps := ["bells"]) (r := 0) (q := q__law_all) F sc__law_all fun cdv E c =>
    (dss_cons (ds_set c.std 1 (DE.z (de_lst (da_cons (DE.fz (de_tup da_nil)) da_nil)))) (dss_cons (ds_for c.std (di_rng1 c.std (da_cons (db_var 0 0) da_nil) h.b_range) (dg_name c.std 2) (dss_one (ds_set c.std 1 (DE.z (de_add c.std (db_var 1 1) (DE.brw (de_lc c.std [("one", 3)] (di_seq c.std (db_var 0 1)) (fun _ => blkOk_by (by kernel_rfl)) (dgv_name (c.blk _).std 3) dts_nil (DE.z (de_add (c.blk _).std (db_var 1 3) (DB.up (DE.brw (de_tup (da_cons (db_var 0 2) da_nil))) (by decide : 0 ≤ 1))))))))))) (dss_one (ds_ret (DE.z (de_sorted c.std h.b_sorted (DE.brw (de_lc c.std [("one", 3)] (di_seq c.std (db_var 0 1)) (fun _ => blkOk_by (by kernel_rfl)) (dgv_name (c.blk _).std 3) (dts_one (dt_val (DE.fz (de_call (c.blk _) (fn__law_is_change h) (by decide) (da_cons (db_var 0 0) (da_cons (db_var 0 3) da_nil)))))) (DB.val (db_var 0 3))))))))))
theorem fn__law_all {P : Program} {w : World} {K : PySem.W.Frag} {mg : Str → Option Value} {base : Heap} (h : Facts K mg) : Fn P w K mg base 2 "_law_all" 1 0 m__law_all := by
  obtain ⟨f, fd, F, hm⟩ := h.d__law_all
  exact fn_def F hm (fg__law_all h F) (F.bindsN fun _ _ _ _ _ _ us hl => match us, hl with | [_], _ => rfl)

def q__law_order : Env' → M (Fl × Env') := (seqM (par2 3 4 0 0 (trgM (rg1 (bVar 0 0))) (fun _ => pure (.int 0))) (seqM (whileM (orM (tst (ap2 dEq (bVar 0 4) (fun _ => pure (.int 0)))) (tst (ap2 dNe (bVar 0 3) (trgM (rg1 (bVar 0 0)))))) (par2 3 4 0 0 (callM 2 (consM (callM 2 (consM (bVar 0 3) (consM (bVar 0 1) (fun _ => pure []))) m__law_step) (consM (bVar 0 2) (fun _ => pure []))) m__law_step) (ap2 dAdd (bVar 1 4) (fun _ => pure (.int 1)))) FUEL) (retM (bVar 0 4))))
def m__law_order : List D → M D := fnM 5 q__law_order
theorem sc__law_order : FnScope ["bells", "near", "far", "here", "many"] ["bells", "near", "far"] (defScope s__law_order) := ⟨rfl, rfl, rfl, by decide +kernel, rfl, by decide +kernel, by decide +kernel⟩
theorem fg__law_order {P : Program} {w : World} {K : PySem.W.Frag} {mg : Str → Option Value} {base : Heap} (h : Facts K mg) {f : Addr} {fd : FuncData} (F : FunD K "_law_order" "_law_order" (defArgs s__law_order) (defBody s__law_order) (defScope s__law_order) [] [] f fd) :
    FnG P w K mg base 2 f fd ["bells", "near", "far"] (spD K mg 3 0 m__law_order) :=
  fn_ds (N := ["bells", "near", "far", "here", "many"]) (ps := ["bells", "near", "far"]) (r := 0) (q := q__law_order) F sc__law_order fun cdv E c =>
    (dss_cons (ds_par2 c.std 3 4 (de_tupRg c.std (drg1 c.std (db_var 0 0) h.b_range) h.b_tuple) (DB.val db_int)) (dss_cons (ds_while c.std (DW.t (dw_or (dt_cmpC (cmp_eq c.std) (db_var 0 4) db_int) (dw_or1 (dt_cmpC (cmp_ne c.std) (db_var 0 3) (DE.fz (de_tupRg c.std (drg1 c.std (db_var 0 0) h.b_range) h.b_tuple)))))) (dss_one (ds_par2 c.std 3 4 (de_call c (fn__law_step h) (by decide) (da_cons (DE.fz (de_call c (fn__law_step h) (by decide) (da_cons (db_var 0 3) (da_cons (db_var 0 1) da_nil)))) (da_cons (db_var 0 2) da_nil))) (DE.z (de_add c.std (db_var 1 4) (DB.up db_int (by decide : 0 ≤ 1))))))) (dss_one (ds_ret (DB.val (db_var 0 4))))))
theorem fn__law_order {P : Program} {w : World} {K : PySem.W.Frag} {mg : Str → Option Value} {base : Heap} (h : Facts K mg) : Fn P w K mg base 2 "_law_order" 3 0 m__law_order := by
  obtain ⟨f, fd, F, hm⟩ := h.d__law_order
  exact fn_def F hm (fg__law_order h F) (F.bindsN fun _ _ _ _ _ _ us hl => match us, hl with | [_, _, _], _ => rfl)

def q_is_integer : Env' → M (Fl × Env') := (retM (andV (ap1 (isiD .int) (bVar 1 0)) (notV (ap1 (isiD .bool) (bVar 1 0)))))
def m_is_integer : List D → M D := fnM 1 q_is_integer
theorem sc_is_integer : FnScope ["value"] ["value"] (defScope s_is_integer) := ⟨rfl, rfl, rfl, by decide +kernel, rfl, by decide +kernel, by decide +kernel⟩
theorem fg_is_integer {P : Program} {w : World} {K : PySem.W.Frag} {mg : Str → Option Value} {base : Heap} (h : Facts K mg) {f : Addr} {fd : FuncData} (F : FunD K "is_integer" "is_integer" (defArgs s_is_integer) (defBody s_is_integer) (defScope s_is_integer) [] [] f fd) :
    FnG P w K mg base 1 f fd ["value"] (spD K mg 1 0 m_is_integer) :=
  fn_ds (N := ["value"]) (ps := ["value"]) (r := 0) (q := q_is_integer) F sc_is_integer fun cdv E c =>
    (dss_one (ds_ret (DB.val (db_and (db_isi c.std .int h.b_isinstance h.b_int (db_var 1 0)) (db_one (db_not (db_isi c.std .bool h.b_isinstance h.b_bool (db_var 1 0))))))))
theorem fn_is_integer {P : Program} {w : World} {K : PySem.W.Frag} {mg : Str → Option Value} {base : Heap} (h : Facts K mg) : Fn P w K mg base 1 "is_integer" 1 0 m_is_integer := by
  obtain ⟨f, fd, F, hm⟩ := h.d_is_integer
  exact fn_def F hm (fg_is_integer h F) (F.bindsN fun _ _ _ _ _ _ us hl => match us, hl with | [_], _ => rfl)

def q_is_within : Env' → M (Fl × Env') := (retM (andV (callM 1 (consM (bVar 0 0) (fun _ => pure [])) m_is_integer) (chV dLe dLe (bVar 0 1) (bVar 0 0) (bVar 0 2))))
def m_is_within : List D → M D := fnM 3 q_is_within
theorem sc_is_within : FnScope ["value", "least", "most"] ["value", "least", "most"] (defScope s_is_within) := ⟨rfl, rfl, rfl, by decide +kernel, rfl, by decide +kernel, by decide +kernel⟩
theorem fg_is_within {P : Program} {w : World} {K : PySem.W.Frag} {mg : Str → Option Value} {base : Heap} (h : Facts K mg) {f : Addr} {fd : FuncData} (F : FunD K "is_within" "is_within" (defArgs s_is_within) (defBody s_is_within) (defScope s_is_within) [] [] f fd) :
    FnG P w K mg base 2 f fd ["value", "least", "most"] (spD K mg 3 0 m_is_within) :=
  fn_ds (N := ["value", "least", "most"]) (ps := ["value", "least", "most"]) (r := 0) (q := q_is_within) F sc_is_within fun cdv E c =>
    (dss_one (ds_ret (DB.val (db_and (DE.fz (de_call c (fn_is_integer h) (by decide) (da_cons (db_var 0 0) da_nil))) (db_one (db_chain cmp_le cmp_le (db_var 0 1) (db_var 0 0) (db_var 0 2)))))))
theorem fn_is_within {P : Program} {w : World} {K : PySem.W.Frag} {mg : Str → Option Value} {base : Heap} (h : Facts K mg) : Fn P w K mg base 2 "is_within" 3 0 m_is_within := by
  obtain ⟨f, fd, F, hm⟩ := h.d_is_within
  exact fn_def F hm (fg_is_within h F) (F.bindsN fun _ _ _ _ _ _ us hl => match us, hl with | [_, _, _], _ => rfl)

def q_is_bells : Env' → M (Fl × Env') := (retM (callM 3 (consM (bVar 0 0) (consM (fun _ => pure (.int 3)) (consM (fun _ => pure (.int 6)) (fun _ => pure [])))) m_is_within))
def m_is_bells : List D → M D := fnM 1 q_is_bells
theorem sc_is_bells : FnScope ["value"] ["value"] (defScope s_is_bells) := ⟨rfl, rfl, rfl, by decide +kernel, rfl, by decide +kernel, by decide +kernel⟩
theorem fg_is_bells {P : Program} {w : World} {K : PySem.W.Frag} {mg : Str → Option Value} {base : Heap} (h : Facts K mg) {f : Addr} {fd : FuncData} (F : FunD K "is_bells" "is_bells" (defArgs s_is_bells) (defBody s_is_bells) (defScope s_is_bells) [] [] f fd) :
    FnG P w K mg base 3 f fd ["value"] (spD K mg 1 0 m_is_bells) :=
  fn_ds (N := ["value"]) (ps := ["value"]) (r := 0) (q := q_is_bells) F sc_is_bells fun cdv E c =>
    (dss_one (ds_ret (de_call c (fn_is_within h) (by decide) (da_cons (db_var 0 0) (da_cons (db_glob (.int 3) (.int 3) h.c_LEAST_BELLS.choose_spec ⟨_, rfl⟩ (fun _ _ => rfl)) (da_cons (db_glob (.int 6) (.int 6) h.c_MOST_BELLS.choose_spec ⟨_, rfl⟩ (fun _ _ => rfl)) da_nil))))))
theorem fn_is_bells {P : Program} {w : World} {K : PySem.W.Frag} {mg : Str → Option Value} {base : Heap} (h : Facts K mg) : Fn P w K mg base 3 "is_bells" 1 0 m_is_bells := by
  obtain ⟨f, fd, F, hm⟩ := h.d_is_bells
  exact fn_def F hm (fg_is_bells h F) (F.bindsN fun _ _ _ _ _ _ us hl => match us, hl with | [_], _ => rfl)

def q_want_bells : Env' → M (Fl × Env') := (iteM (notM (tst (callM 1 (consM (bVar 0 0) (fun _ => pure [])) m_is_bells))) (fun _ => M.bad) nextM)
def m_want_bells : List D → M D := fnM 1 q_want_bells
theorem sc_want_bells : FnScope ["bells"] ["bells"] (defScope s_want_bells) := ⟨rfl, rfl, rfl, by decide +kernel, rfl, by decide +kernel, by decide +kernel⟩
theorem fg_want_bells {P : Program} {w : World} {K : PySem.W.Frag} {mg : Str → Option Value} {base : Heap} (h : Facts K mg) {f : Addr} {fd : FuncData} (F : FunD K "want_bells" "want_bells" (defArgs s_want_bells) (defBody s_want_bells) (defScope s_want_bells) [] [] f fd) :
    FnG P w K mg base 4 f fd ["bells"] (spD K mg 1 0 m_want_bells) :=
  fn_ds (N := ["bells"]) (ps := ["bells"]) (r := 0) (q := q_want_bells) F sc_want_bells fun cdv E c =>
    (dss_one (ds_if (dt_not (dt_val (DE.fz (de_call c (fn_is_bells h) (by decide) (da_cons (db_var 0 0) da_nil))))) (dss_one ds_never) dss_nil))
theorem fn_want_bells {P : Program} {w : World} {K : PySem.W.Frag} {mg : Str → Option Value} {base : Heap} (h : Facts K mg) : Fn P w K mg base 4 "want_bells" 1 0 m_want_bells := by
  obtain ⟨f, fd, F, hm⟩ := h.d_want_bells
  exact fn_def F hm (fg_want_bells h F) (F.bindsN fun _ _ _ _ _ _ us hl => match us, hl with | [_], _ => rfl)

def q_is_list : Env' → M (Fl × Env') := (retM (ap1 (isiDs [.list, .tuple]) (bVar 1 0)))
def m_is_list : List D → M D := fnM 1 q_is_list
theorem sc_is_list : FnScope ["value"] ["value"] (defScope s_is_list) := ⟨rfl, rfl, rfl, by decide +kernel, rfl, by decide +kernel, by decide +kernel⟩
theorem fg_is_list {P : Program} {w : World} {K : PySem.W.Frag} {mg : Str → Option Value} {base : Heap} (h : Facts K mg) {f : Addr} {fd : FuncData} (F : FunD K "is_list" "is_list" (defArgs s_is_list) (defBody s_is_list) (defScope s_is_list) [] [] f fd) :
    FnG P w K mg base 1 f fd ["value"] (spD K mg 1 0 m_is_list) :=
  fn_ds (N := ["value"]) (ps := ["value"]) (r := 0) (q := q_is_list) F sc_is_list fun cdv E c =>
    (dss_one (ds_ret (DB.val (db_isi2 c.std .list .tuple h.b_isinstance h.b_list h.b_tuple (db_var 1 0)))))
theorem fn_is_list {P : Program} {w : World} {K : PySem.W.Frag} {mg : Str → Option Value} {base : Heap} (h : Facts K mg) : Fn P w K mg base 1 "is_list" 1 0 m_is_list := by
  obtain ⟨f, fd, F, hm⟩ := h.d_is_list
  exact fn_def F hm (fg_is_list h F) (F.bindsN fun _ _ _ _ _ _ us hl => match us, hl with | [_], _ => rfl)

def q_pairs_of : Env' → M (Fl × Env') := (seqM (par2 2 3 1 0 (fun _ => pure (.lst [])) (fun _ => pure (.int 0))) (seqM (whileM (tst (ap2 dLt (bVar 0 3) (bVar 0 0))) (iteM (tst (ap2 dIn (bVar 0 3) (bVar 1 1))) (setM 3 0 (ap2 dAdd (bVar 1 3) (fun _ => pure (.int 1)))) (iteM (andM (tst (ap2 dLt (ap2 dAdd (bVar 1 3) (fun _ => pure (.int 1))) (bVar 0 0))) (tst (ap2 dNotIn (ap2 dAdd (bVar 1 3) (fun _ => pure (.int 1))) (bVar 1 1)))) (seqM (appM 2 0 (keepM (bVar 0 3))) (setM 3 0 (ap2 dAdd (bVar 1 3) (fun _ => pure (.int 2))))) (retM (fun _ => pure .non)))) FUEL) (fun ρ => (retM (bVar 0 2)) (frzE 2 ρ))))
def m_pairs_of : List D → M D := fnM 4 q_pairs_of
theorem sc_pairs_of : FnScope ["bells", "change", "found", "place"] ["bells", "change"] (defScope s_pairs_of) := ⟨rfl, rfl, rfl, by decide +kernel, rfl, by decide +kernel, by decide +kernel⟩
theorem fg_pairs_of {P : Program} {w : World} {K : PySem.W.Frag} {mg : Str → Option Value} {base : Heap} (h : Facts K mg) {f : Addr} {fd : FuncData} (F : FunD K "pairs_of" "pairs_of" (defArgs s_pairs_of) (defBody s_pairs_of) (defScope s_pairs_of) [] [] f fd) :
    FnG P w K mg base 1 f fd ["bells", "change"] (spD K mg 2 0 m_pairs_of) :=
  fn_ds (N := ["bells", "change", "found", "place"]) (ps := ["bells", "change"]) (r := 0) (q := q_pairs_of) F sc_pairs_of fun cdv E c =>
    (dss_cons (ds_par2 c.std 2 3 de_nil (DB.val db_int)) (dss_cons (ds_while c.std (dt_cmpC (cmp_lt c.std) (db_var 0 3) (db_var 0 0)) (dss_one (ds_if (dt_cmpC (cmp_in (m := 0) c.std) (db_var 0 3) (db_var 1 1)) (dss_one (ds_set c.std 3 (DE.z (de_add c.std (db_var 1 3) (DB.up db_int (by decide : 0 ≤ 1)))))) (dss_one (ds_if (DW.t (dw_and (dt_cmpC (cmp_lt c.std) (DE.fz (de_add c.std (db_var 1 3) (DB.up db_int (by decide : 0 ≤ 1)))) (db_var 0 0)) (dw_and1 (dt_cmpC (cmp_notin (m := 0) c.std) (DE.fz (de_add c.std (db_var 1 3) (DB.up db_int (by decide : 0 ≤ 1)))) (db_var 1 1))))) (dss_cons (ds_app c.std 2 0 (DE.x (DB.val (db_var 0 3)))) (dss_one (ds_set c.std 3 (DE.z (de_add c.std (db_var 1 3) (DB.up db_int (by decide : 0 ≤ 1))))))) (dss_one (ds_ret (DB.val db_non)))))))) (dss_frz 2 (dss_one (ds_ret (DB.val (db_var 0 2)))))))
theorem fn_pairs_of {P : Program} {w : World} {K : PySem.W.Frag} {mg : Str → Option Value} {base : Heap} (h : Facts K mg) : Fn P w K mg base 1 "pairs_of" 2 0 m_pairs_of := by
  obtain ⟨f, fd, F, hm⟩ := h.d_pairs_of
  exact fn_def F hm (fg_pairs_of h F) (F.bindsN fun _ _ _ _ _ _ us hl => match us, hl with | [_, _], _ => rfl)

def q_are_rising : Env' → M (Fl × Env') := (retM (apL (uno dAll) (consM (lcM [1, 2] (rngI zip2 (consM (bVar 0 0) (consM (slM (bVar 1 0) (partM (fun _ => pure (.int 1))) (fun _ => pure none)) (fun _ => pure [])))) (gTp (lenG 2 (gsCons (gNm 1) (gsCons (gNm 2) gsNil)))) (fun _ => pure true) (ap2 dLt (bVar 0 1) (bVar 0 2))) fun _ => pure [])))
def m_are_rising : List D → M D := fnM 3 q_are_rising
theorem sc_are_rising : FnScope ["values", "near", "far"] ["values"] (defScope s_are_rising) := ⟨rfl, rfl, rfl, by decide +kernel, rfl, by decide +kernel, by decide +kernel⟩
theorem fg_are_rising {P : Program} {w : World} {K : PySem.W.Frag} {mg : Str → Option Value} {base : Heap} (h : Facts K mg) {f : Addr} {fd : FuncData} (F : FunD K "are_rising" "are_rising" (defArgs s_are_rising) (defBody s_are_rising) (defScope s_are_rising) [] [] f fd) :
    FnG P w K mg base 1 f fd ["values"] (spD K mg 1 0 m_are_rising) :=
  fn_ds (N := ["values", "near", "far"]) (ps := ["values"]) (r := 0) (q := q_are_rising) F sc_are_rising fun cdv E c =>
    (dss_one (ds_ret (de_all c.std h.b_all (DE.brw (de_lc c.std [("near", 1), ("far", 2)] (di_zip c.std (da_cons (db_var 0 0) (da_cons (DE.fz (de_slice c.std (db_var 1 0) (dpo_some db_int) dpo_none)) da_nil)) h.b_zip) (fun _ => blkOk_by (by kernel_rfl)) (dgv_tup (c.blk _).std (dgsv_cons (dgv_name (c.blk _).std 1) (dgsv_cons (dgv_name (c.blk _).std 2) dgsv_nil))) dts_nil (de_cmpC (cmp_lt (c.blk _).std) (db_var 0 1) (db_var 0 2)))))))
theorem fn_are_rising {P : Program} {w : World} {K : PySem.W.Frag} {mg : Str → Option Value} {base : Heap} (h : Facts K mg) : Fn P w K mg base 1 "are_rising" 1 0 m_are_rising := by
  obtain ⟨f, fd, F, hm⟩ := h.d_are_rising
  exact fn_def F hm (fg_are_rising h F) (F.bindsN fun _ _ _ _ _ _ us hl => match us, hl with | [_], _ => rfl)

def q_is_lot : Env' → M (Fl × Env') := (retM (andV (ap1 (isiD .tuple) (bVar 1 0)) (andV (apL (uno dAll) (consM (lcM [2] (seqI (bVar 0 0)) (gNm 2) (fun _ => pure true) (callM 3 (consM (bVar 0 2) (consM (fun _ => pure (.int 0)) (consM (bVar 0 1) (fun _ => pure [])))) m_is_within)) fun _ => pure [])) (callM 1 (consM (bVar 0 0) (fun _ => pure [])) m_are_rising))))
def m_is_lot : List D → M D := fnM 3 q_is_lot
theorem sc_is_lot : FnScope ["value", "most", "one"] ["value", "most"] (defScope s_is_lot) := ⟨rfl, rfl, rfl, by decide +kernel, rfl, by decide +kernel, by decide +kernel⟩
theorem fg_is_lot {P : Program} {w : World} {K : PySem.W.Frag} {mg : Str → Option Value} {base : Heap} (h : Facts K mg) {f : Addr} {fd : FuncData} (F : FunD K "is_lot" "is_lot" (defArgs s_is_lot) (defBody s_is_lot) (defScope s_is_lot) [] [] f fd) :
    FnG P w K mg base 3 f fd ["value", "most"] (spD K mg 2 0 m_is_lot) :=
  fn_ds (N := ["value", "most", "one"]) (ps := ["value", "most"]) (r := 0) (q := q_is_lot) F sc_is_lot fun cdv E c =>
    (dss_one (ds_ret (DB.val (db_and (db_isi c.std .tuple h.b_isinstance h.b_tuple (db_var 1 0)) (db_and (DE.fz (de_all c.std h.b_all (DE.brw (de_lc c.std [("one", 2)] (di_seq c.std (db_var 0 0)) (fun _ => blkOk_by (by kernel_rfl)) (dgv_name (c.blk _).std 2) dts_nil (de_call (c.blk _) (fn_is_within h) (by decide) (da_cons (db_var 0 2) (da_cons db_int (da_cons (db_var 0 1) da_nil)))))))) (db_one (DE.fz (de_call c (fn_are_rising h) (by decide) (da_cons (db_var 0 0) da_nil)))))))))
theorem fn_is_lot {P : Program} {w : World} {K : PySem.W.Frag} {mg : Str → Option Value} {base : Heap} (h : Facts K mg) : Fn P w K mg base 3 "is_lot" 2 0 m_is_lot := by
  obtain ⟨f, fd, F, hm⟩ := h.d_is_lot
  exact fn_def F hm (fg_is_lot h F) (F.bindsN fun _ _ _ _ _ _ us hl => match us, hl with | [_, _], _ => rfl)

def q_is_change_of : Env' → M (Fl × Env') := (seqM (iteM (orM (notM (tst (callM 2 (consM (bVar 0 1) (consM (ap2 dSub (bVar 0 0) (fun _ => pure (.int 1))) (fun _ => pure []))) m_is_lot))) (tst (ap2 dEq (apL (uno dLen) (consM (bVar 1 1) fun _ => pure [])) (bVar 0 0)))) (retM (fun _ => pure (.bl false))) nextM) (retM (ap2 dIsNot (callM 2 (consM (bVar 0 0) (consM (bVar 0 1) (fun _ => pure []))) m_pairs_of) (fun _ => pure .non))))
def m_is_change_of : List D → M D := fnM 2 q_is_change_of
theorem sc_is_change_of : FnScope ["bells", "value"] ["bells", "value"] (defScope s_is_change_of) := ⟨rfl, rfl, rfl, by decide +kernel, rfl, by decide +kernel, by decide +kernel⟩
theorem fg_is_change_of {P : Program} {w : World} {K : PySem.W.Frag} {mg : Str → Option Value} {base : Heap} (h : Facts K mg) {f : Addr} {fd : FuncData} (F : FunD K "is_change_of" "is_change_of" (defArgs s_is_change_of) (defBody s_is_change_of) (defScope s_is_change_of) [] [] f fd) :
    FnG P w K mg base 4 f fd ["bells", "value"] (spD K mg 2 0 m_is_change_of) :=
  fn_ds (N := ["bells", "value"]) (ps := ["bells", "value"]) (r := 0) (q := q_is_change_of) F sc_is_change_of fun cdv E c =>
    (dss_cons (ds_if (DW.t (dw_or (dt_not (dt_val (DE.fz (de_call c (fn_is_lot h) (by decide) (da_cons (db_var 0 1) (da_cons (DE.fz (de_sub (db_var 0 0) db_int)) da_nil)))))) (dw_or1 (dt_cmpC (cmp_eq c.std) (DE.fz (de_len c.std h.b_len (db_var 1 1))) (db_var 0 0))))) (dss_one (ds_ret (DB.val db_bl))) dss_nil) (dss_one (ds_ret (de_cmpC cmp_isnot (DE.fz (de_call c (fn_pairs_of h) (by decide) (da_cons (db_var 0 0) (da_cons (db_var 0 1) da_nil)))) db_non))))
theorem fn_is_change_of {P : Program} {w : World} {K : PySem.W.Frag} {mg : Str → Option Value} {base : Heap} (h : Facts K mg) : Fn P w K mg base 4 "is_change_of" 2 0 m_is_change_of := by
  obtain ⟨f, fd, F, hm⟩ := h.d_is_change_of
  exact fn_def F hm (fg_is_change_of h F) (F.bindsN fun _ _ _ _ _ _ us hl => match us, hl with | [_, _], _ => rfl)

def q_are_changes_of : Env' → M (Fl × Env') := (retM (andV (callM 1 (consM (bVar 0 1) (fun _ => pure [])) m_is_list) (andV (ap2 dLe (apL (uno dLen) (consM (bVar 1 1) fun _ => pure [])) (fun _ => pure (.int 800))) (apL (uno dAll) (consM (lcM [2] (seqI (bVar 0 1)) (gNm 2) (fun _ => pure true) (callM 2 (consM (bVar 0 0) (consM (bVar 0 2) (fun _ => pure []))) m_is_change_of)) fun _ => pure [])))))
def m_are_changes_of : List D → M D := fnM 3 q_are_changes_of
theorem sc_are_changes_of : FnScope ["bells", "value", "one"] ["bells", "value"] (defScope s_are_changes_of) := ⟨rfl, rfl, rfl, by decide +kernel, rfl, by decide +kernel, by decide +kernel⟩
theorem fg_are_changes_of {P : Program} {w : World} {K : PySem.W.Frag} {mg : Str → Option Value} {base : Heap} (h : Facts K mg) {f : Addr} {fd : FuncData} (F : FunD K "are_changes_of" "are_changes_of" (defArgs s_are_changes_of) (defBody s_are_changes_of) (defScope s_are_changes_of) [] [] f fd) :
    FnG P w K mg base 5 f fd ["bells", "value"] (spD K mg 2 0 m_are_changes_of) :=
  fn_ds (N := ["bells", "value", "one"]) (ps := ["bells", "value"]) (r := 0) (q := q_are_changes_of) F sc_are_changes_of fun cdv E c =>
    (dss_one (ds_ret (DB.val (db_and (DE.fz (de_call c (fn_is_list h) (by decide) (da_cons (db_var 0 1) da_nil))) (db_and (DE.fz (de_cmpC cmp_le (DE.fz (de_len c.std h.b_len (db_var 1 1))) (db_glob (.int 800) (.int 800) h.c_MOST_CHANGES.choose_spec ⟨_, rfl⟩ (fun _ _ => rfl)))) (db_one (DE.fz (de_all c.std h.b_all (DE.brw (de_lc c.std [("one", 2)] (di_seq c.std (db_var 0 1)) (fun _ => blkOk_by (by kernel_rfl)) (dgv_name (c.blk _).std 2) dts_nil (de_call (c.blk _) (fn_is_change_of h) (by decide) (da_cons (db_var 0 0) (da_cons (db_var 0 2) da_nil)))))))))))))
theorem fn_are_changes_of {P : Program} {w : World} {K : PySem.W.Frag} {mg : Str → Option Value} {base : Heap} (h : Facts K mg) : Fn P w K mg base 5 "are_changes_of" 2 0 m_are_changes_of := by
  obtain ⟨f, fd, F, hm⟩ := h.d_are_changes_of
  exact fn_def F hm (fg_are_changes_of h F) (F.bindsN fun _ _ _ _ _ _ us hl => match us, hl with | [_, _], _ => rfl)

def q_is_told_lot : Env' → M (Fl × Env') := (seqM (iteM (orM (notM (tst (callM 1 (consM (bVar 0 1) (fun _ => pure [])) m_is_list))) (orM (notM (tst (chV dLe dLe (fun _ => pure (.int 1)) (apL (uno dLen) (consM (bVar 1 1) fun _ => pure [])) (fun _ => pure (.int 12))))) (notM (tst (callM 2 (consM (bVar 0 0) (consM (bVar 0 1) (fun _ => pure []))) m_are_changes_of))))) (retM (fun _ => pure (.bl false))) nextM) (retM (ap2 dEq (ap1 dSetLen (bVar 1 1)) (apL (uno dLen) (consM (bVar 1 1) fun _ => pure [])))))
def m_is_told_lot : List D → M D := fnM 2 q_is_told_lot
theorem sc_is_told_lot : FnScope ["bells", "value"] ["bells", "value"] (defScope s_is_told_lot) := ⟨rfl, rfl, rfl, by decide +kernel, rfl, by decide +kernel, by decide +kernel⟩
theorem fg_is_told_lot {P : Program} {w : World} {K : PySem.W.Frag} {mg : Str → Option Value} {base : Heap} (h : Facts K mg) {f : Addr} {fd : FuncData} (F : FunD K "is_told_lot" "is_told_lot" (defArgs s_is_told_lot) (defBody s_is_told_lot) (defScope s_is_told_lot) [] [] f fd) :
    FnG P w K mg base 6 f fd ["bells", "value"] (spD K mg 2 0 m_is_told_lot) :=
  fn_ds (N := ["bells", "value"]) (ps := ["bells", "value"]) (r := 0) (q := q_is_told_lot) F sc_is_told_lot fun cdv E c =>
    (dss_cons (ds_if (DW.t (dw_or (dt_not (dt_val (DE.fz (de_call c (fn_is_list h) (by decide) (da_cons (db_var 0 1) da_nil))))) (dw_or (dt_not (dt_chain cmp_le cmp_le db_int (DE.fz (de_len c.std h.b_len (db_var 1 1))) (db_glob (.int 12) (.int 12) h.c_MOST_TOLD.choose_spec ⟨_, rfl⟩ (fun _ _ => rfl)))) (dw_or1 (dt_not (dt_val (DE.fz (de_call c (fn_are_changes_of h) (by decide) (da_cons (db_var 0 0) (da_cons (db_var 0 1) da_nil)))))))))) (dss_one (ds_ret (DB.val db_bl))) dss_nil) (dss_one (ds_ret (de_cmpC (cmp_eq c.std) (db_setLen c.std h.b_len h.b_set (db_var 1 1)) (DE.fz (de_len c.std h.b_len (db_var 1 1)))))))
theorem fn_is_told_lot {P : Program} {w : World} {K : PySem.W.Frag} {mg : Str → Option Value} {base : Heap} (h : Facts K mg) : Fn P w K mg base 6 "is_told_lot" 2 0 m_is_told_lot := by
  obtain ⟨f, fd, F, hm⟩ := h.d_is_told_lot
  exact fn_def F hm (fg_is_told_lot h F) (F.bindsN fun _ _ _ _ _ _ us hl => match us, hl with | [_, _], _ => rfl)

def q_want_told : Env' → M (Fl × Env') := (seqM (dropM (callM 1 (consM (bVar 0 0) (fun _ => pure [])) m_want_bells)) (iteM (notM (tst (callM 2 (consM (bVar 0 0) (consM (bVar 0 1) (fun _ => pure []))) m_is_told_lot))) (fun _ => M.bad) nextM))
def m_want_told : List D → M D := fnM 2 q_want_told
theorem sc_want_told : FnScope ["bells", "changes"] ["bells", "changes"] (defScope s_want_told) := ⟨rfl, rfl, rfl, by decide +kernel, rfl, by decide +kernel, by decide +kernel⟩
theorem fg_want_told {P : Program} {w : World} {K : PySem.W.Frag} {mg : Str → Option Value} {base : Heap} (h : Facts K mg) {f : Addr} {fd : FuncData} (F : FunD K "want_told" "want_told" (defArgs s_want_told) (defBody s_want_told) (defScope s_want_told) [] [] f fd) :
    FnG P w K mg base 7 f fd ["bells", "changes"] (spD K mg 2 0 m_want_told) :=
  fn_ds (N := ["bells", "changes"]) (ps := ["bells", "changes"]) (r := 0) (q := q_want_told) F sc_want_told fun cdv E c =>
    (dss_cons (ds_drop c.std (de_call c (fn_want_bells h) (by decide) (da_cons (db_var 0 0) da_nil))) (dss_one (ds_if (dt_not (dt_val (DE.fz (de_call c (fn_is_told_lot h) (by decide) (da_cons (db_var 0 0) (da_cons (db_var 0 1) da_nil)))))) (dss_one ds_never) dss_nil)))
theorem fn_want_told {P : Program} {w : World} {K : PySem.W.Frag} {mg : Str → Option Value} {base : Heap} (h : Facts K mg) : Fn P w K mg base 7 "want_told" 2 0 m_want_told := by
  obtain ⟨f, fd, F, hm⟩ := h.d_want_told
  exact fn_def F hm (fg_want_told h F) (F.bindsN fun _ _ _ _ _ _ us hl => match us, hl with | [_, _], _ => rfl)

def q_rounds_of : Env' → M (Fl × Env') := (retM (trgM (rg1 (bVar 0 0))))
def m_rounds_of : List D → M D := fnM 1 q_rounds_of
theorem sc_rounds_of : FnScope ["bells"] ["bells"] (defScope s_rounds_of) := ⟨rfl, rfl, rfl, by decide +kernel, rfl, by decide +kernel, by decide +kernel⟩
theorem fg_rounds_of {P : Program} {w : World} {K : PySem.W.Frag} {mg : Str → Option Value} {base : Heap} (h : Facts K mg) {f : Addr} {fd : FuncData} (F : FunD K "rounds_of" "rounds_of" (defArgs s_rounds_of) (defBody s_rounds_of) (defScope s_rounds_of) [] [] f fd) :
    FnG P w K mg base 1 f fd ["bells"] (spD K mg 1 0 m_rounds_of) :=
  fn_ds (N := ["bells"]) (ps := ["bells"]) (r := 0) (q := q_rounds_of) F sc_rounds_of fun cdv E c =>
    (dss_one (ds_ret (de_tupRg c.std (drg1 c.std (db_var 0 0) h.b_range) h.b_tuple)))
theorem fn_rounds_of {P : Program} {w : World} {K : PySem.W.Frag} {mg : Str → Option Value} {base : Heap} (h : Facts K mg) : Fn P w K mg base 1 "rounds_of" 1 0 m_rounds_of := by
  obtain ⟨f, fd, F, hm⟩ := h.d_rounds_of
  exact fn_def F hm (fg_rounds_of h F) (F.bindsN fun _ _ _ _ _ _ us hl => match us, hl with | [_], _ => rfl)

def q_times : Env' → M (Fl × Env') := (retM (apL (uno dTupOf) (consM (lcM [2] (seqI (bVar 0 1)) (gNm 2) (fun _ => pure true) (ap2 dGet (bVar 1 0) (bVar 0 2))) fun _ => pure [])))
def m_times : List D → M D := fnM 3 q_times
theorem sc_times : FnScope ["row", "other", "place"] ["row", "other"] (defScope s_times) := ⟨rfl, rfl, rfl, by decide +kernel, rfl, by decide +kernel, by decide +kernel⟩
theorem fg_times {P : Program} {w : World} {K : PySem.W.Frag} {mg : Str → Option Value} {base : Heap} (h : Facts K mg) {f : Addr} {fd : FuncData} (F : FunD K "times" "times" (defArgs s_times) (defBody s_times) (defScope s_times) [] [] f fd) :
    FnG P w K mg base 1 f fd ["row", "other"] (spD K mg 2 0 m_times) :=
  fn_ds (N := ["row", "other", "place"]) (ps := ["row", "other"]) (r := 0) (q := q_times) F sc_times fun cdv E c =>
    (dss_one (ds_ret (de_tupOf c.std h.b_tuple (DE.brw (de_lc c.std [("place", 2)] (di_seq c.std (db_var 0 1)) (fun _ => blkOk_by (by kernel_rfl)) (dgv_name (c.blk _).std 2) dts_nil (DB.val (db_ix (c.blk _).std (db_var 1 0) (db_var 0 2))))))))
theorem fn_times {P : Program} {w : World} {K : PySem.W.Frag} {mg : Str → Option Value} {base : Heap} (h : Facts K mg) : Fn P w K mg base 1 "times" 2 0 m_times := by
  obtain ⟨f, fd, F, hm⟩ := h.d_times
  exact fn_def F hm (fg_times h F) (F.bindsN fun _ _ _ _ _ _ us hl => match us, hl with | [_, _], _ => rfl)

def q_change_row : Env' → M (Fl × Env') := (seqM (setM 2 1 (lrgM (rg1 (bVar 0 0)))) (seqM (forS (seqI (callM 2 (consM (bVar 0 0) (consM (bVar 0 1) (fun _ => pure []))) m_pairs_of)) (gNm 3) (asgM (gTp (lenG 2 (gsCons (gSubM 2 (bVar 0 3)) (gsCons (gSubM 2 (ap2 dAdd (bVar 1 3) (fun _ => pure (.int 1)))) gsNil)))) (tupM (consM (ap2 dAdd (bVar 1 3) (fun _ => pure (.int 1))) (consM (bVar 0 3) (fun _ => pure [])))))) (retM (apL (uno dTupOf) (consM (bVar 1 2) fun _ => pure [])))))
def m_change_row : List D → M D := fnM 4 q_change_row
theorem sc_change_row : FnScope ["bells", "change", "found", "place"] ["bells", "change"] (defScope s_change_row) := ⟨rfl, rfl, rfl, by decide +kernel, rfl, by decide +kernel, by decide +kernel⟩
theorem fg_change_row {P : Program} {w : World} {K : PySem.W.Frag} {mg : Str → Option Value} {base : Heap} (h : Facts K mg) {f : Addr} {fd : FuncData} (F : FunD K "change_row" "change_row" (defArgs s_change_row) (defBody s_change_row) (defScope s_change_row) [] [] f fd) :
    FnG P w K mg base 2 f fd ["bells", "change"] (spD K mg 2 0 m_change_row) :=
  fn_ds (N := ["bells", "change", "found", "place"]) (ps := ["bells", "change"]) (r := 0) (q := q_change_row) F sc_change_row fun cdv E c =>
    (dss_cons (ds_set c.std 2 (de_listRg c.std (drg1 c.std (db_var 0 0) h.b_range) h.b_list)) (dss_cons (ds_for c.std (di_seq c.std (DE.fz (de_call c (fn_pairs_of h) (by decide) (da_cons (db_var 0 0) (da_cons (db_var 0 1) da_nil))))) (dg_name c.std 3) (dss_one (ds_asg (DE.fz (de_tup (da_cons (DE.fz (de_add c.std (db_var 1 3) (DB.up db_int (by decide : 0 ≤ 1)))) (da_cons (db_var 0 3) da_nil)))) (dg_tup c.std (dgs_cons (dg_sub c.std 2 (db_var 0 3)) (dgs_cons (dg_sub c.std 2 (DE.fz (de_add c.std (db_var 1 3) (DB.up db_int (by decide : 0 ≤ 1))))) dgs_nil)))))) (dss_one (ds_ret (de_tupOf c.std h.b_tuple (db_var 1 2))))))
theorem fn_change_row {P : Program} {w : World} {K : PySem.W.Frag} {mg : Str → Option Value} {base : Heap} (h : Facts K mg) : Fn P w K mg base 2 "change_row" 2 0 m_change_row := by
  obtain ⟨f, fd, F, hm⟩ := h.d_change_row
  exact fn_def F hm (fg_change_row h F) (F.bindsN fun _ _ _ _ _ _ us hl => match us, hl with | [_, _], _ => rfl)

def q_row_behind : Env' → M (Fl × Env') := (seqM (setM 2 0 (callM 1 (consM (bVar 0 0) (fun _ => pure [])) m_rounds_of)) (seqM (forS (seqI (bVar 0 1)) (gNm 3) (setM 2 0 (callM 2 (consM (bVar 0 2) (consM (callM 2 (consM (bVar 0 0) (consM (bVar 0 3) (fun _ => pure []))) m_change_row) (fun _ => pure []))) m_times))) (retM (bVar 0 2))))
def m_row_behind : List D → M D := fnM 4 q_row_behind
theorem sc_row_behind : FnScope ["bells", "changes", "here", "change"] ["bells", "changes"] (defScope s_row_behind) := ⟨rfl, rfl, rfl, by decide +kernel, rfl, by decide +kernel, by decide +kernel⟩
theorem fg_row_behind {P : Program} {w : World} {K : PySem.W.Frag} {mg : Str → Option Value} {base : Heap} (h : Facts K mg) {f : Addr} {fd : FuncData} (F : FunD K "row_behind" "row_behind" (defArgs s_row_behind) (defBody s_row_behind) (defScope s_row_behind) [] [] f fd) :
    FnG P w K mg base 3 f fd ["bells", "changes"] (spD K mg 2 0 m_row_behind) :=
  fn_ds (N := ["bells", "changes", "here", "change"]) (ps := ["bells", "changes"]) (r := 0) (q := q_row_behind) F sc_row_behind fun cdv E c =>
    (dss_cons (ds_set c.std 2 (de_call c (fn_rounds_of h) (by decide) (da_cons (db_var 0 0) da_nil))) (dss_cons (ds_for c.std (di_seq c.std (db_var 0 1)) (dg_name c.std 3) (dss_one (ds_set c.std 2 (de_call c (fn_times h) (by decide) (da_cons (db_var 0 2) (da_cons (DE.fz (de_call c (fn_change_row h) (by decide) (da_cons (db_var 0 0) (da_cons (db_var 0 3) da_nil)))) da_nil)))))) (dss_one (ds_ret (DB.val (db_var 0 2))))))
theorem fn_row_behind {P : Program} {w : World} {K : PySem.W.Frag} {mg : Str → Option Value} {base : Heap} (h : Facts K mg) : Fn P w K mg base 3 "row_behind" 2 0 m_row_behind := by
  obtain ⟨f, fd, F, hm⟩ := h.d_row_behind
  exact fn_def F hm (fg_row_behind h F) (F.bindsN fun _ _ _ _ _ _ us hl => match us, hl with | [_, _], _ => rfl)

def q_alternating : Env' → M (Fl × Env') := (seqM (setM 2 1 (lstM (consM (ap2 dGet (bVar 1 1) (fun _ => pure (.int 0))) (consM (ap2 dGet (bVar 1 1) (ap1 dNeg (fun _ => pure (.int 1)))) (fun _ => pure []))))) (seqM (whileM (tst (ap2 dNe (callBM 2 0 (consM (bVar 1 0) (consM (bVar 1 2) (fun _ => pure []))) m_row_behind) (callM 1 (consM (bVar 0 0) (fun _ => pure [])) m_rounds_of))) (extM 2 (lstM (consM (ap2 dGet (bVar 1 1) (fun _ => pure (.int 0))) (consM (ap2 dGet (bVar 1 1) (ap1 dNeg (fun _ => pure (.int 1)))) (fun _ => pure []))))) FUEL) (fun ρ => (retM (bVar 0 2)) (frzE 2 ρ))))
def m_alternating : List D → M D := fnM 3 q_alternating
theorem sc_alternating : FnScope ["bells", "changes", "found"] ["bells", "changes"] (defScope s_alternating) := ⟨rfl, rfl, rfl, by decide +kernel, rfl, by decide +kernel, by decide +kernel⟩
theorem fg_alternating {P : Program} {w : World} {K : PySem.W.Frag} {mg : Str → Option Value} {base : Heap} (h : Facts K mg) {f : Addr} {fd : FuncData} (F : FunD K "alternating" "alternating" (defArgs s_alternating) (defBody s_alternating) (defScope s_alternating) [] [] f fd) :
    FnG P w K mg base 4 f fd ["bells", "changes"] (spD K mg 2 0 m_alternating) :=
  fn_ds (N := ["bells", "changes", "found"]) (ps := ["bells", "changes"]) (r := 0) (q := q_alternating) F sc_alternating fun cdv E c =>
    (dss_cons (ds_set c.std 2 (de_lst (da_cons (db_ix c.std (db_var 1 1) db_int) (da_cons (db_ix c.std (db_var 1 1) (db_neg db_int)) da_nil)))) (dss_cons (ds_while c.std (dt_cmpC (cmp_ne c.std) (DE.fz (de_callB c (fn_row_behind h) (by decide) (da_cons (db_var 1 0) (da_cons (db_var 1 2) da_nil)))) (DE.fz (de_call c (fn_rounds_of h) (by decide) (da_cons (db_var 0 0) da_nil)))) (dss_one (ds_ext c.std 2 (DE.brw (de_lst (da_cons (db_ix c.std (db_var 1 1) db_int) (da_cons (db_ix c.std (db_var 1 1) (db_neg db_int)) da_nil))))))) (dss_frz 2 (dss_one (ds_ret (DB.val (db_var 0 2)))))))
theorem fn_alternating {P : Program} {w : World} {K : PySem.W.Frag} {mg : Str → Option Value} {base : Heap} (h : Facts K mg) : Fn P w K mg base 4 "alternating" 2 0 m_alternating := by
  obtain ⟨f, fd, F, hm⟩ := h.d_alternating
  exact fn_def F hm (fg_alternating h F) (F.bindsN fun _ _ _ _ _ _ us hl => match us, hl with | [_, _], _ => rfl)

def q_two_ring : Env' → M (Fl × Env') := (seqM (dropM (callM 2 (consM (bVar 0 0) (consM (bVar 0 1) (fun _ => pure []))) m_want_told)) (seqM (iteM (tst (ap2 dGt (apL (uno dLen) (consM (bVar 1 1) fun _ => pure [])) (fun _ => pure (.int 2)))) (fun _ => M.bad) nextM) (retM (callM 2 (consM (bVar 0 0) (consM (bVar 0 1) (fun _ => pure []))) m_alternating))))
def m_two_ring : List D → M D := fnM 2 q_two_ring
theorem sc_two_ring : FnScope ["bells", "changes"] ["bells", "changes"] (defScope s_two_ring) := ⟨rfl, rfl, rfl, by decide +kernel, rfl, by decide +kernel, by decide +kernel⟩
theorem fg_two_ring {P : Program} {w : World} {K : PySem.W.Frag} {mg : Str → Option Value} {base : Heap} (h : Facts K mg) {f : Addr} {fd : FuncData} (F : FunD K "two_ring" "two_ring" (defArgs s_two_ring) (defBody s_two_ring) (defScope s_two_ring) [] [] f fd) :
    FnG P w K mg base 8 f fd ["bells", "changes"] (spD K mg 2 0 m_two_ring) :=
  fn_ds (N := ["bells", "changes"]) (ps := ["bells", "changes"]) (r := 0) (q := q_two_ring) F sc_two_ring fun cdv E c =>
    (dss_cons (ds_drop c.std (de_call c (fn_want_told h) (by decide) (da_cons (db_var 0 0) (da_cons (db_var 0 1) da_nil)))) (dss_cons (ds_if (dt_cmpC cmp_gt (DE.fz (de_len c.std h.b_len (db_var 1 1))) db_int) (dss_one ds_never) dss_nil) (dss_one (ds_ret (de_call c (fn_alternating h) (by decide) (da_cons (db_var 0 0) (da_cons (db_var 0 1) da_nil)))))))
theorem fn_two_ring {P : Program} {w : World} {K : PySem.W.Frag} {mg : Str → Option Value} {base : Heap} (h : Facts K mg) : Fn P w K mg base 8 "two_ring" 2 0 m_two_ring := by
  obtain ⟨f, fd, F, hm⟩ := h.d_two_ring
  exact fn_def F hm (fg_two_ring h F) (F.bindsN fun _ _ _ _ _ _ us hl => match us, hl with | [_, _], _ => rfl)

theorem fn_two_ring_kw10 {P : Program} {w : World} {K : PySem.W.Frag} {mg : Str → Option Value} {base : Heap} (h : Facts K mg) : FnKw P w K mg base 8 "two_ring" ["changes", "bells"] [1, 0] 0 m_two_ring := by
  obtain ⟨f, fd, F, hm⟩ := h.d_two_ring
  have G := fg_two_ring (P := P) (w := w) (base := base) h F
  refine ⟨f, fd, _, G, hm, F.kp, by decide, ?_⟩
  obtain ⟨oc, od, dV, kV, doc, pm, an, cdv, ct, osl, rfl, lk, hcd, hD, hK⟩ := F.ex
  rcases hD with ⟨_, rfl⟩ | ⟨e, _⟩
  · intro s ws _ hl
    match ws, hl with
    | [_, _], _ => exact BindsTo.of_eq rfl
  · exact absurd rfl e

def q_rows_along : Env' → M (Fl × Env') := (seqM (setM 2 1 (lstM (consM (callM 1 (consM (bVar 0 0) (fun _ => pure [])) m_rounds_of) (fun _ => pure [])))) (seqM (forS (seqI (slM (bVar 1 1) (fun _ => pure none) (partM (ap1 dNeg (fun _ => pure (.int 1)))))) (gNm 3) (appM 2 0 (keepM (callM 2 (consM (ap2 dGet (bVar 1 2) (ap1 dNeg (fun _ => pure (.int 1)))) (consM (callM 2 (consM (bVar 0 0) (consM (bVar 0 3) (fun _ => pure []))) m_change_row) (fun _ => pure []))) m_times)))) (fun ρ => (retM (bVar 0 2)) (frzE 2 ρ))))
def m_rows_along : List D → M D := fnM 4 q_rows_along
theorem sc_rows_along : FnScope ["bells", "ring", "found", "change"] ["bells", "ring"] (defScope s_rows_along) := ⟨rfl, rfl, rfl, by decide +kernel, rfl, by decide +kernel, by decide +kernel⟩
theorem fg_rows_along {P : Program} {w : World} {K : PySem.W.Frag} {mg : Str → Option Value} {base : Heap} (h : Facts K mg) {f : Addr} {fd : FuncData} (F : FunD K "rows_along" "rows_along" (defArgs s_rows_along) (defBody s_rows_along) (defScope s_rows_along) [] [] f fd) :
    FnG P w K mg base 3 f fd ["bells", "ring"] (spD K mg 2 0 m_rows_along) :=
  fn_ds (N := ["bells", "ring", "found", "change"]) (ps := ["bells", "ring"]) (r := 0) (q := q_rows_along) F sc_rows_along fun cdv E c =>
    (dss_cons (ds_set c.std 2 (de_lst (da_cons (DE.fz (de_call c (fn_rounds_of h) (by decide) (da_cons (db_var 0 0) da_nil))) da_nil))) (dss_cons (ds_for c.std (di_seq c.std (DE.fz (de_slice c.std (db_var 1 1) dpo_none (dpo_some (db_neg db_int))))) (dg_name c.std 3) (dss_one (ds_app c.std 2 0 (DE.x (de_call c (fn_times h) (by decide) (da_cons (db_ix c.std (db_var 1 2) (db_neg db_int)) (da_cons (DE.fz (de_call c (fn_change_row h) (by decide) (da_cons (db_var 0 0) (da_cons (db_var 0 3) da_nil)))) da_nil))))))) (dss_frz 2 (dss_one (ds_ret (DB.val (db_var 0 2)))))))
theorem fn_rows_along {P : Program} {w : World} {K : PySem.W.Frag} {mg : Str → Option Value} {base : Heap} (h : Facts K mg) : Fn P w K mg base 3 "rows_along" 2 0 m_rows_along := by
  obtain ⟨f, fd, F, hm⟩ := h.d_rows_along
  exact fn_def F hm (fg_rows_along h F) (F.bindsN fun _ _ _ _ _ _ us hl => match us, hl with | [_, _], _ => rfl)

def q_is_ring_any : Env' → M (Fl × Env') := (seqM (iteM (orM (notM (tst (callM 1 (consM (bVar 0 1) (fun _ => pure [])) m_is_list))) (notM (tst (chV dLe dLe (fun _ => pure (.int 1)) (apL (uno dLen) (consM (bVar 1 1) fun _ => pure [])) (fun _ => pure (.int 800)))))) (retM (fun _ => pure (.bl false))) nextM) (seqM (iteM (orM (notM (tst (apL (uno dAll) (consM (lcM [2] (seqI (bVar 0 1)) (gNm 2) (fun _ => pure true) (callM 2 (consM (bVar 0 0) (consM (bVar 0 2) (fun _ => pure []))) m_is_change_of)) fun _ => pure [])))) (tst (ap2 dNe (callM 2 (consM (bVar 0 0) (consM (bVar 0 1) (fun _ => pure []))) m_row_behind) (callM 1 (consM (bVar 0 0) (fun _ => pure [])) m_rounds_of)))) (retM (fun _ => pure (.bl false))) nextM) (retM (ap2 dEq (ap1 dSetLen (callM 2 (consM (bVar 0 0) (consM (bVar 0 1) (fun _ => pure []))) m_rows_along)) (apL (uno dLen) (consM (bVar 1 1) fun _ => pure []))))))
def m_is_ring_any : List D → M D := fnM 3 q_is_ring_any
theorem sc_is_ring_any : FnScope ["bells", "value", "one"] ["bells", "value"] (defScope s_is_ring_any) := ⟨rfl, rfl, rfl, by decide +kernel, rfl, by decide +kernel, by decide +kernel⟩
theorem fg_is_ring_any {P : Program} {w : World} {K : PySem.W.Frag} {mg : Str → Option Value} {base : Heap} (h : Facts K mg) {f : Addr} {fd : FuncData} (F : FunD K "is_ring_any" "is_ring_any" (defArgs s_is_ring_any) (defBody s_is_ring_any) (defScope s_is_ring_any) [] [] f fd) :
    FnG P w K mg base 5 f fd ["bells", "value"] (spD K mg 2 0 m_is_ring_any) :=
  fn_ds (N := ["bells", "value", "one"]) (ps := ["bells", "value"]) (r := 0) (q := q_is_ring_any) F sc_is_ring_any fun cdv E c =>
    (dss_cons (ds_if (DW.t (dw_or (dt_not (dt_val (DE.fz (de_call c (fn_is_list h) (by decide) (da_cons (db_var 0 1) da_nil))))) (dw_or1 (dt_not (dt_chain cmp_le cmp_le db_int (DE.fz (de_len c.std h.b_len (db_var 1 1))) (db_glob (.int 800) (.int 800) h.c_MOST_RING.choose_spec ⟨_, rfl⟩ (fun _ _ => rfl))))))) (dss_one (ds_ret (DB.val db_bl))) dss_nil) (dss_cons (ds_if (DW.t (dw_or (dt_not (dt_val (DE.fz (de_all c.std h.b_all (DE.brw (de_lc c.std [("one", 2)] (di_seq c.std (db_var 0 1)) (fun _ => blkOk_by (by kernel_rfl)) (dgv_name (c.blk _).std 2) dts_nil (de_call (c.blk _) (fn_is_change_of h) (by decide) (da_cons (db_var 0 0) (da_cons (db_var 0 2) da_nil))))))))) (dw_or1 (dt_cmpC (cmp_ne c.std) (DE.fz (de_call c (fn_row_behind h) (by decide) (da_cons (db_var 0 0) (da_cons (db_var 0 1) da_nil)))) (DE.fz (de_call c (fn_rounds_of h) (by decide) (da_cons (db_var 0 0) da_nil))))))) (dss_one (ds_ret (DB.val db_bl))) dss_nil) (dss_one (ds_ret (de_cmpC (cmp_eq c.std) (db_setLen c.std h.b_len h.b_set (DB.up (DE.brw (de_call c (fn_rows_along h) (by decide) (da_cons (db_var 0 0) (da_cons (db_var 0 1) da_nil)))) (by decide : 0 ≤ 1))) (DE.fz (de_len c.std h.b_len (db_var 1 1))))))))
theorem fn_is_ring_any {P : Program} {w : World} {K : PySem.W.Frag} {mg : Str → Option Value} {base : Heap} (h : Facts K mg) : Fn P w K mg base 5 "is_ring_any" 2 0 m_is_ring_any := by
  obtain ⟨f, fd, F, hm⟩ := h.d_is_ring_any
  exact fn_def F hm (fg_is_ring_any h F) (F.bindsN fun _ _ _ _ _ _ us hl => match us, hl with | [_, _], _ => rfl)

def q_want_ring : Env' → M (Fl × Env') := (seqM (dropM (callM 1 (consM (bVar 0 0) (fun _ => pure [])) m_want_bells)) (iteM (notM (tst (callM 2 (consM (bVar 0 0) (consM (bVar 0 1) (fun _ => pure []))) m_is_ring_any))) (fun _ => M.bad) nextM))
def m_want_ring : List D → M D := fnM 2 q_want_ring
theorem sc_want_ring : FnScope ["bells", "ring"] ["bells", "ring"] (defScope s_want_ring) := ⟨rfl, rfl, rfl, by decide +kernel, rfl, by decide +kernel, by decide +kernel⟩
theorem fg_want_ring {P : Program} {w : World} {K : PySem.W.Frag} {mg : Str → Option Value} {base : Heap} (h : Facts K mg) {f : Addr} {fd : FuncData} (F : FunD K "want_ring" "want_ring" (defArgs s_want_ring) (defBody s_want_ring) (defScope s_want_ring) [] [] f fd) :
    FnG P w K mg base 6 f fd ["bells", "ring"] (spD K mg 2 0 m_want_ring) :=
  fn_ds (N := ["bells", "ring"]) (ps := ["bells", "ring"]) (r := 0) (q := q_want_ring) F sc_want_ring fun cdv E c =>
    (dss_cons (ds_drop c.std (de_call c (fn_want_bells h) (by decide) (da_cons (db_var 0 0) da_nil))) (dss_one (ds_if (dt_not (dt_val (DE.fz (de_call c (fn_is_ring_any h) (by decide) (da_cons (db_var 0 0) (da_cons (db_var 0 1) da_nil)))))) (dss_one ds_never) dss_nil)))
theorem fn_want_ring {P : Program} {w : World} {K : PySem.W.Frag} {mg : Str → Option Value} {base : Heap} (h : Facts K mg) : Fn P w K mg base 6 "want_ring" 2 0 m_want_ring := by
  obtain ⟨f, fd, F, hm⟩ := h.d_want_ring
  exact fn_def F hm (fg_want_ring h F) (F.bindsN fun _ _ _ _ _ _ us hl => match us, hl with | [_, _], _ => rfl)

def q_turned_back : Env' → M (Fl × Env') := (seqM (dropM (callM 2 (consM (bVar 0 0) (consM (bVar 0 1) (fun _ => pure []))) m_want_ring)) (retM (apL (uno dListOf) (consM (ap1 dRev (bVar 1 1)) fun _ => pure []))))
def m_turned_back : List D → M D := fnM 2 q_turned_back
theorem sc_turned_back : FnScope ["bells", "ring"] ["bells", "ring"] (defScope s_turned_back) := ⟨rfl, rfl, rfl, by decide +kernel, rfl, by decide +kernel, by decide +kernel⟩
theorem fg_turned_back {P : Program} {w : World} {K : PySem.W.Frag} {mg : Str → Option Value} {base : Heap} (h : Facts K mg) {f : Addr} {fd : FuncData} (F : FunD K "turned_back" "turned_back" (defArgs s_turned_back) (defBody s_turned_back) (defScope s_turned_back) [] [] f fd) :
    FnG P w K mg base 7 f fd ["bells", "ring"] (spD K mg 2 0 m_turned_back) :=
  fn_ds (N := ["bells", "ring"]) (ps := ["bells", "ring"]) (r := 0) (q := q_turned_back) F sc_turned_back fun cdv E c =>
    (dss_cons (ds_drop c.std (de_call c (fn_want_ring h) (by decide) (da_cons (db_var 0 0) (da_cons (db_var 0 1) da_nil)))) (dss_one (ds_ret (DE.z (de_listOf c.std h.b_list (DE.brw (de_rev c.std (db_var 1 1))))))))
theorem fn_turned_back {P : Program} {w : World} {K : PySem.W.Frag} {mg : Str → Option Value} {base : Heap} (h : Facts K mg) : Fn P w K mg base 7 "turned_back" 2 0 m_turned_back := by
  obtain ⟨f, fd, F, hm⟩ := h.d_turned_back
  exact fn_def F hm (fg_turned_back h F) (F.bindsN fun _ _ _ _ _ _ us hl => match us, hl with | [_, _], _ => rfl)

def q_come_to : Env' → M (Fl × Env') := (seqM (setM 2 1 (lstM (consM (callM 1 (consM (bVar 0 0) (fun _ => pure [])) m_rounds_of) (fun _ => pure [])))) (seqM (par2 3 4 1 0 (disp1M (ap2 dGet (bVar 1 2) (fun _ => pure (.int 0))) (fun _ => pure (.lst []))) (fun _ => pure (.int 0))) (seqM (whileM (tst (ap2 dLt (bVar 0 4) (apL (uno dLen) (consM (bVar 1 2) fun _ => pure [])))) (seqM (forS (seqI (bVar 0 1)) (gNm 5) (seqM (setM 6 0 (callM 2 (consM (ap2 dGet (bVar 1 2) (bVar 0 4)) (consM (callM 2 (consM (bVar 0 0) (consM (bVar 0 5) (fun _ => pure []))) m_change_row) (fun _ => pure []))) m_times)) (iteM (tst (ap2 dNotIn (bVar 0 6) (bVar 1 3))) (seqM (asgM (gSubM 3 (bVar 0 6)) (ap2 dAdd (ap2 dGet (bVar 2 3) (ap2 dGet (bVar 1 2) (bVar 0 4))) (lstM (consM (bVar 0 5) (fun _ => pure []))))) (appM 2 0 (keepM (bVar 0 6)))) nextM))) (setM 4 0 (ap2 dAdd (bVar 1 4) (fun _ => pure (.int 1))))) FUEL) (fun ρ => (retM (bVar 0 3)) (frzE 3 ρ)))))
def m_come_to : List D → M D := fnM 7 q_come_to
theorem sc_come_to : FnScope ["bells", "changes", "order", "found", "at", "change", "late"] ["bells", "changes"] (defScope s_come_to) := ⟨rfl, rfl, rfl, by decide +kernel, rfl, by decide +kernel, by decide +kernel⟩
theorem fg_come_to {P : Program} {w : World} {K : PySem.W.Frag} {mg : Str → Option Value} {base : Heap} (h : Facts K mg) {f : Addr} {fd : FuncData} (F : FunD K "come_to" "come_to" (defArgs s_come_to) (defBody s_come_to) (defScope s_come_to) [] [] f fd) :
    FnG P w K mg base 3 f fd ["bells", "changes"] (spD K mg 2 0 m_come_to) :=
  fn_ds (N := ["bells", "changes", "order", "found", "at", "change", "late"]) (ps := ["bells", "changes"]) (r := 0) (q := q_come_to) F sc_come_to fun cdv E c =>
    (dss_cons (ds_set c.std 2 (de_lst (da_cons (DE.fz (de_call c (fn_rounds_of h) (by decide) (da_cons (db_var 0 0) da_nil))) da_nil))) (dss_cons (ds_par2 c.std 3 4 (de_disp1 c.std (db_ix c.std (db_var 1 2) db_int) (DE.fz (n := 1) de_nil)) (DB.val db_int)) (dss_cons (ds_while c.std (dt_cmpC (cmp_lt c.std) (db_var 0 4) (DE.fz (de_len c.std h.b_len (db_var 1 2)))) (dss_cons (ds_for c.std (di_seq c.std (db_var 0 1)) (dg_name c.std 5) (dss_cons (ds_set c.std 6 (de_call c (fn_times h) (by decide) (da_cons (db_ix c.std (db_var 1 2) (db_var 0 4)) (da_cons (DE.fz (de_call c (fn_change_row h) (by decide) (da_cons (db_var 0 0) (da_cons (db_var 0 5) da_nil)))) da_nil)))) (dss_one (ds_if (dt_cmpC (cmp_notin (m := 0) c.std) (db_var 0 6) (db_var 1 3)) (dss_cons (ds_asg (DE.fz (de_add c.std (db_ix c.std (db_var 2 3) (db_ix c.std (db_var 1 2) (db_var 0 4))) (DE.brw (de_lst (da_cons (db_var 0 5) da_nil))))) (dg_sub c.std 3 (db_var 0 6))) (dss_one (ds_app c.std 2 0 (DE.x (DB.val (db_var 0 6)))))) dss_nil)))) (dss_one (ds_set c.std 4 (DE.z (de_add c.std (db_var 1 4) (DB.up db_int (by decide : 0 ≤ 1)))))))) (dss_frz 3 (dss_one (ds_ret (DB.val (db_var 0 3))))))))
theorem fn_come_to {P : Program} {w : World} {K : PySem.W.Frag} {mg : Str → Option Value} {base : Heap} (h : Facts K mg) : Fn P w K mg base 3 "come_to" 2 0 m_come_to := by
  obtain ⟨f, fd, F, hm⟩ := h.d_come_to
  exact fn_def F hm (fg_come_to h F) (F.bindsN fun _ _ _ _ _ _ us hl => match us, hl with | [_, _], _ => rfl)

def q_is_full : Env' → M (Fl × Env') := (seqM (iteM (orM (notM (tst (callM 2 (consM (bVar 0 0) (consM (bVar 0 2) (fun _ => pure []))) m_is_ring_any))) (notM (tst (apL (uno dAll) (consM (lcM [3] (seqI (bVar 0 2)) (gNm 3) (fun _ => pure true) (ap2 dIn (bVar 0 3) (bVar 1 1))) fun _ => pure []))))) (retM (fun _ => pure (.bl false))) nextM) (retM (ap2 dEq (apL (uno dLen) (consM (bVar 1 2) fun _ => pure [])) (apL (uno dLen) (consM (callM 2 (consM (bVar 0 0) (consM (bVar 0 1) (fun _ => pure []))) m_come_to) fun _ => pure [])))))
def m_is_full : List D → M D := fnM 4 q_is_full
theorem sc_is_full : FnScope ["bells", "changes", "value", "one"] ["bells", "changes", "value"] (defScope s_is_full) := ⟨rfl, rfl, rfl, by decide +kernel, rfl, by decide +kernel, by decide +kernel⟩
theorem fg_is_full {P : Program} {w : World} {K : PySem.W.Frag} {mg : Str → Option Value} {base : Heap} (h : Facts K mg) {f : Addr} {fd : FuncData} (F : FunD K "is_full" "is_full" (defArgs s_is_full) (defBody s_is_full) (defScope s_is_full) [] [] f fd) :
    FnG P w K mg base 6 f fd ["bells", "changes", "value"] (spD K mg 3 0 m_is_full) :=
  fn_ds (N := ["bells", "changes", "value", "one"]) (ps := ["bells", "changes", "value"]) (r := 0) (q := q_is_full) F sc_is_full fun cdv E c =>
    (dss_cons (ds_if (DW.t (dw_or (dt_not (dt_val (DE.fz (de_call c (fn_is_ring_any h) (by decide) (da_cons (db_var 0 0) (da_cons (db_var 0 2) da_nil)))))) (dw_or1 (dt_not (dt_val (DE.fz (de_all c.std h.b_all (DE.brw (de_lc c.std [("one", 3)] (di_seq c.std (db_var 0 2)) (fun _ => blkOk_by (by kernel_rfl)) (dgv_name (c.blk _).std 3) dts_nil (de_cmpC (cmp_in (m := 0) (c.blk _).std) (db_var 0 3) (db_var 1 1))))))))))) (dss_one (ds_ret (DB.val db_bl))) dss_nil) (dss_one (ds_ret (de_cmpC (cmp_eq c.std) (DE.fz (de_len c.std h.b_len (db_var 1 2))) (DE.fz (de_len c.std h.b_len (DB.up (DE.brw (de_call c (fn_come_to h) (by decide) (da_cons (db_var 0 0) (da_cons (db_var 0 1) da_nil)))) (by decide : 0 ≤ 1))))))))
theorem fn_is_full {P : Program} {w : World} {K : PySem.W.Frag} {mg : Str → Option Value} {base : Heap} (h : Facts K mg) : Fn P w K mg base 6 "is_full" 3 0 m_is_full := by
  obtain ⟨f, fd, F, hm⟩ := h.d_is_full
  exact fn_def F hm (fg_is_full h F) (F.bindsN fun _ _ _ _ _ _ us hl => match us, hl with | [_, _, _], _ => rfl)

def q_is_full_ring : Env' → M (Fl × Env') := (seqM (dropM (callM 2 (consM (bVar 0 0) (consM (bVar 0 1) (fun _ => pure []))) m_want_told)) (retM (callM 3 (consM (bVar 0 0) (consM (bVar 0 1) (consM (bVar 0 2) (fun _ => pure [])))) m_is_full)))
def m_is_full_ring : List D → M D := fnM 3 q_is_full_ring
theorem sc_is_full_ring : FnScope ["bells", "changes", "value"] ["bells", "changes", "value"] (defScope s_is_full_ring) := ⟨rfl, rfl, rfl, by decide +kernel, rfl, by decide +kernel, by decide +kernel⟩
theorem fg_is_full_ring {P : Program} {w : World} {K : PySem.W.Frag} {mg : Str → Option Value} {base : Heap} (h : Facts K mg) {f : Addr} {fd : FuncData} (F : FunD K "is_full_ring" "is_full_ring" (defArgs s_is_full_ring) (defBody s_is_full_ring) (defScope s_is_full_ring) [] [] f fd) :
    FnG P w K mg base 8 f fd ["bells", "changes", "value"] (spD K mg 3 0 m_is_full_ring) :=
  fn_ds (N := ["bells", "changes", "value"]) (ps := ["bells", "changes", "value"]) (r := 0) (q := q_is_full_ring) F sc_is_full_ring fun cdv E c =>
    (dss_cons (ds_drop c.std (de_call c (fn_want_told h) (by decide) (da_cons (db_var 0 0) (da_cons (db_var 0 1) da_nil)))) (dss_one (ds_ret (de_call c (fn_is_full h) (by decide) (da_cons (db_var 0 0) (da_cons (db_var 0 1) (da_cons (db_var 0 2) da_nil)))))))
theorem fn_is_full_ring {P : Program} {w : World} {K : PySem.W.Frag} {mg : Str → Option Value} {base : Heap} (h : Facts K mg) : Fn P w K mg base 8 "is_full_ring" 3 0 m_is_full_ring := by
  obtain ⟨f, fd, F, hm⟩ := h.d_is_full_ring
  exact fn_def F hm (fg_is_full_ring h F) (F.bindsN fun _ _ _ _ _ _ us hl => match us, hl with | [_, _, _], _ => rfl)

def q_rows_by : Env' → M (Fl × Env') := (seqM (dropM (callM 2 (consM (bVar 0 0) (consM (bVar 0 1) (fun _ => pure []))) m_want_told)) (retM (apL (uno dSorted) (consM (callM 2 (consM (bVar 0 0) (consM (bVar 0 1) (fun _ => pure []))) m_come_to) fun _ => pure []))))
def m_rows_by : List D → M D := fnM 2 q_rows_by
theorem sc_rows_by : FnScope ["bells", "changes"] ["bells", "changes"] (defScope s_rows_by) := ⟨rfl, rfl, rfl, by decide +kernel, rfl, by decide +kernel, by decide +kernel⟩
theorem fg_rows_by {P : Program} {w : World} {K : PySem.W.Frag} {mg : Str → Option Value} {base : Heap} (h : Facts K mg) {f : Addr} {fd : FuncData} (F : FunD K "rows_by" "rows_by" (defArgs s_rows_by) (defBody s_rows_by) (defScope s_rows_by) [] [] f fd) :
    FnG P w K mg base 8 f fd ["bells", "changes"] (spD K mg 2 0 m_rows_by) :=
  fn_ds (N := ["bells", "changes"]) (ps := ["bells", "changes"]) (r := 0) (q := q_rows_by) F sc_rows_by fun cdv E c =>
    (dss_cons (ds_drop c.std (de_call c (fn_want_told h) (by decide) (da_cons (db_var 0 0) (da_cons (db_var 0 1) da_nil)))) (dss_one (ds_ret (DE.z (de_sorted c.std h.b_sorted (DB.up (DE.brw (de_call c (fn_come_to h) (by decide) (da_cons (db_var 0 0) (da_cons (db_var 0 1) da_nil)))) (by decide : 0 ≤ 1)))))))
theorem fn_rows_by {P : Program} {w : World} {K : PySem.W.Frag} {mg : Str → Option Value} {base : Heap} (h : Facts K mg) : Fn P w K mg base 8 "rows_by" 2 0 m_rows_by := by
  obtain ⟨f, fd, F, hm⟩ := h.d_rows_by
  exact fn_def F hm (fg_rows_by h F) (F.bindsN fun _ _ _ _ _ _ us hl => match us, hl with | [_, _], _ => rfl)

def q__law_two_right : Env' → M (Fl × Env') := (seqM (setM 1 0 (callM 2 (consM (bVar 0 0) (consM (lstM (consM (fun _ => pure (.int 3)) (consM (fun _ => pure (.int 4)) (consM (fun _ => pure (.int 5)) (consM (fun _ => pure (.int 6)) (fun _ => pure [])))))) (fun _ => pure []))) m__law_pick)) (seqM (setM 2 0 (callM 3 (consM (bVar 0 0) (consM (callM 1 (consM (bVar 0 1) (fun _ => pure [])) m__law_all) (consM (ap2 dAdd (fun _ => pure (.int 1)) (callM 2 (consM (bVar 0 0) (consM (fun _ => pure (.int 2)) (fun _ => pure []))) m__law_draw)) (fun _ => pure [])))) m__law_some)) (seqM (par2 5 6 0 0 (ap2 dGet (bVar 1 2) (fun _ => pure (.int 0))) (ap2 dGet (bVar 1 2) (ap1 dNeg (fun _ => pure (.int 1))))) (seqM (setM 3 0 (ap2 dMul (lstM (consM (bVar 0 5) (consM (bVar 0 6) (fun _ => pure [])))) (callM 3 (consM (bVar 0 1) (consM (bVar 0 5) (consM (bVar 0 6) (fun _ => pure [])))) m__law_order))) (seqM (iteM (repM true (lstM (consM (callM 2 (consM (bVar 0 1) (consM (bVar 0 2) (fun _ => pure []))) m_two_ring) (consM (callKM 2 [1, 0] (consM (apL (uno dTupOf) (consM (bVar 1 2) fun _ => pure [])) (consM (bVar 0 1) (fun _ => pure []))) m_two_ring) (fun _ => pure [])))) (lstM (consM (bVar 0 3) (consM (bVar 0 3) (fun _ => pure []))))) (retM (fun _ => pure (.bl false))) nextM) (seqM (iteM (orM (tst (ap2 dIsNot (callM 3 (consM (bVar 0 1) (consM (bVar 0 2) (consM (bVar 0 3) (fun _ => pure [])))) m_is_full_ring) (fun _ => pure (.bl true)))) (tst (ap2 dNe (apL (uno dLen) (consM (callM 2 (consM (bVar 0 1) (consM (bVar 0 2) (fun _ => pure []))) m_rows_by) fun _ => pure [])) (apL (uno dLen) (consM (bVar 1 3) fun _ => pure []))))) (retM (fun _ => pure (.bl false))) nextM) (seqM (setM 4 0 (callM 2 (consM (bVar 0 1) (consM (bVar 0 2) (fun _ => pure []))) m__law_rings)) (seqM (iteM (tst (ap2 dNe (bVar 0 4) (apL (uno dSorted) (consM (iteM (tst (ap2 dEq (apL (uno dLen) (consM (bVar 1 2) fun _ => pure [])) (fun _ => pure (.int 2)))) (lstM (consM (bVar 0 3) (consM (ap1 dRev (bVar 1 3)) (fun _ => pure [])))) (lstM (consM (bVar 0 3) (fun _ => pure [])))) fun _ => pure [])))) (retM (fun _ => pure (.bl false))) nextM) (retM (ap2 dEq (callM 2 (consM (bVar 0 1) (consM (ap1 dRev (bVar 1 2)) (fun _ => pure []))) m_two_ring) (callM 2 (consM (bVar 0 1) (consM (bVar 0 3) (fun _ => pure []))) m_turned_back)))))))))))
def m__law_two_right : List D → M D := fnM 7 q__law_two_right
theorem sc__law_two_right : FnScope ["pot", "bells", "changes", "due", "rings", "near", "far"] ["pot"] (defScope s__law_two_right) := ⟨rfl, rfl, rfl, by decide +kernel, rfl, by decide +kernel, by decide +kernel⟩
theorem fg__law_two_right {P : Program} {w : World} {K : PySem.W.Frag} {mg : Str → Option Value} {base : Heap} (h : Facts K mg) {f : Addr} {fd : FuncData} (F : FunD K "_law_two_right" "_law_two_right" (defArgs s__law_two_right) (defBody s__law_two_right) (defScope s__law_two_right) [] [] f fd) :
    FnG P w K mg base 9 f fd ["pot"] (spD K mg 1 0 m__law_two_right) :=
  fn_ds (N := ["pot", "bells", "changes", "due", "rings", "near", "far"]) (ps := ["pot"]) (r := 0) (q := q__law_two_right) F sc__law_two_right fun cdv E c =>
    (dss_cons (ds_set c.std 1 (de_call c (fn__law_pick h) (by decide) (da_cons (db_var 0 0) (da_cons (DE.fz (de_lst (da_cons db_int (da_cons db_int (da_cons db_int (da_cons db_int da_nil)))))) da_nil)))) (dss_cons (ds_set c.std 2 (de_call c (fn__law_some h) (by decide) (da_cons (db_var 0 0) (da_cons (DE.fz (de_call c (fn__law_all h) (by decide) (da_cons (db_var 0 1) da_nil))) (da_cons (DE.fz (de_add c.std (DB.up db_int (by decide : 0 ≤ 1)) (DB.up (DE.brw (de_call c (fn__law_draw h) (by decide) (da_cons (db_var 0 0) (da_cons db_int da_nil)))) (by decide : 0 ≤ 1)))) da_nil))))) (dss_cons (ds_par2 c.std 5 6 (DB.val (db_ix c.std (db_var 1 2) db_int)) (DB.val (db_ix c.std (db_var 1 2) (db_neg db_int)))) (dss_cons (ds_set c.std 3 (DE.z (de_mul (DE.brw (de_lst (da_cons (db_var 0 5) (da_cons (db_var 0 6) da_nil)))) (DE.fz (de_call c (fn__law_order h) (by decide) (da_cons (db_var 0 1) (da_cons (db_var 0 5) (da_cons (db_var 0 6) da_nil)))))))) (dss_cons (ds_if (dt_rep c.std h.b_repr (DE.fz (de_lst (da_cons (DE.fz (de_call c (fn_two_ring h) (by decide) (da_cons (db_var 0 1) (da_cons (db_var 0 2) da_nil)))) (da_cons (DE.fz (de_callK c (fn_two_ring_kw10 h) (by decide) (dk_cons (DE.fz (de_tupOf c.std h.b_tuple (db_var 1 2))) (dk_cons (db_var 0 1) dk_nil)))) da_nil)))) (DE.fz (de_lst (da_cons (db_var 0 3) (da_cons (db_var 0 3) da_nil))))) (dss_one (ds_ret (DB.val db_bl))) dss_nil) (dss_cons (ds_if (DW.t (dw_or (dt_cmpC cmp_isnot (DE.fz (de_call c (fn_is_full_ring h) (by decide) (da_cons (db_var 0 1) (da_cons (db_var 0 2) (da_cons (db_var 0 3) da_nil))))) db_bl) (dw_or1 (dt_cmpC (cmp_ne c.std) (DE.fz (de_len c.std h.b_len (DB.up (DE.brw (de_call c (fn_rows_by h) (by decide) (da_cons (db_var 0 1) (da_cons (db_var 0 2) da_nil)))) (by decide : 0 ≤ 1)))) (DE.fz (de_len c.std h.b_len (db_var 1 3))))))) (dss_one (ds_ret (DB.val db_bl))) dss_nil) (dss_cons (ds_set c.std 4 (de_call c (fn__law_rings h) (by decide) (da_cons (db_var 0 1) (da_cons (db_var 0 2) da_nil)))) (dss_cons (ds_if (dt_cmpC (cmp_ne c.std) (db_var 0 4) (DE.fz (de_sorted c.std h.b_sorted (db_if (dt_cmpC (cmp_eq c.std) (DE.fz (de_len c.std h.b_len (db_var 1 2))) db_int) (DE.brw (de_lst (da_cons (db_var 0 3) (da_cons (DE.fz (de_rev c.std (db_var 1 3))) da_nil)))) (DE.brw (de_lst (da_cons (db_var 0 3) da_nil))))))) (dss_one (ds_ret (DB.val db_bl))) dss_nil) (dss_one (ds_ret (de_cmpC (cmp_eq c.std) (DE.fz (de_call c (fn_two_ring h) (by decide) (da_cons (db_var 0 1) (da_cons (DE.fz (de_rev c.std (db_var 1 2))) da_nil)))) (DE.fz (de_call c (fn_turned_back h) (by decide) (da_cons (db_var 0 1) (da_cons (db_var 0 3) da_nil)))))))))))))))
theorem fn__law_two_right {P : Program} {w : World} {K : PySem.W.Frag} {mg : Str → Option Value} {base : Heap} (h : Facts K mg) : Fn P w K mg base 9 "_law_two_right" 1 0 m__law_two_right := by
  obtain ⟨f, fd, F, hm⟩ := h.d__law_two_right
  exact fn_def F hm (fg__law_two_right h F) (F.bindsN fun _ _ _ _ _ _ us hl => match us, hl with | [_], _ => rfl)

def q_ring_rows : Env' → M (Fl × Env') := (seqM (dropM (callM 2 (consM (bVar 0 0) (consM (bVar 0 1) (fun _ => pure []))) m_want_ring)) (retM (callM 2 (consM (bVar 0 0) (consM (bVar 0 1) (fun _ => pure []))) m_rows_along)))
def m_ring_rows : List D → M D := fnM 2 q_ring_rows
theorem sc_ring_rows : FnScope ["bells", "ring"] ["bells", "ring"] (defScope s_ring_rows) := ⟨rfl, rfl, rfl, by decide +kernel, rfl, by decide +kernel, by decide +kernel⟩
theorem fg_ring_rows {P : Program} {w : World} {K : PySem.W.Frag} {mg : Str → Option Value} {base : Heap} (h : Facts K mg) {f : Addr} {fd : FuncData} (F : FunD K "ring_rows" "ring_rows" (defArgs s_ring_rows) (defBody s_ring_rows) (defScope s_ring_rows) [] [] f fd) :
    FnG P w K mg base 7 f fd ["bells", "ring"] (spD K mg 2 0 m_ring_rows) :=
  fn_ds (N := ["bells", "ring"]) (ps := ["bells", "ring"]) (r := 0) (q := q_ring_rows) F sc_ring_rows fun cdv E c =>
    (dss_cons (ds_drop c.std (de_call c (fn_want_ring h) (by decide) (da_cons (db_var 0 0) (da_cons (db_var 0 1) da_nil)))) (dss_one (ds_ret (de_call c (fn_rows_along h) (by decide) (da_cons (db_var 0 0) (da_cons (db_var 0 1) da_nil))))))
theorem fn_ring_rows {P : Program} {w : World} {K : PySem.W.Frag} {mg : Str → Option Value} {base : Heap} (h : Facts K mg) : Fn P w K mg base 7 "ring_rows" 2 0 m_ring_rows := by
  obtain ⟨f, fd, F, hm⟩ := h.d_ring_rows
  exact fn_def F hm (fg_ring_rows h F) (F.bindsN fun _ _ _ _ _ _ us hl => match us, hl with | [_, _], _ => rfl)

def q__law_hunting_right : Env' → M (Fl × Env') := (seqM (par2 5 6 0 0 (iteM (tst (ap2 dEq (ap2 dMod (apL (uno dInt) (consM (bVar 0 0) fun _ => pure [])) (fun _ => pure (.int 2))) (fun _ => pure (.int 1)))) (tupM (consM (ap2 dSub (bVar 0 0) (fun _ => pure (.int 1))) (fun _ => pure []))) (tupM (fun _ => pure []))) (iteM (tst (ap2 dEq (ap2 dMod (apL (uno dInt) (consM (bVar 0 0) fun _ => pure [])) (fun _ => pure (.int 2))) (fun _ => pure (.int 1)))) (tupM (consM (fun _ => pure (.int 0)) (fun _ => pure []))) (tupM (consM (fun _ => pure (.int 0)) (consM (ap2 dSub (bVar 0 0) (fun _ => pure (.int 1))) (fun _ => pure [])))))) (seqM (setM 1 0 (callM 2 (consM (bVar 0 0) (consM (lstM (consM (bVar 0 5) (consM (bVar 0 6) (fun _ => pure [])))) (fun _ => pure []))) m_two_ring)) (seqM (iteM (orM (tst (ap2 dNe (apL (uno dLen) (consM (bVar 1 1) fun _ => pure [])) (ap2 dMul (fun _ => pure (.int 2)) (bVar 0 0)))) (tst (ap2 dNe (callM 2 (consM (bVar 0 0) (consM (lstM (consM (bVar 0 5) (consM (bVar 0 6) (fun _ => pure [])))) (fun _ => pure []))) m_rows_by) (apL (uno dSorted) (consM (callM 2 (consM (bVar 0 0) (consM (bVar 0 1) (fun _ => pure []))) m_ring_rows) fun _ => pure []))))) (retM (fun _ => pure (.bl false))) nextM) (seqM (setM 2 0 (callM 2 (consM (bVar 0 0) (consM (bVar 0 1) (fun _ => pure []))) m_ring_rows)) (seqM (forS (rngI rng1 (consM (bVar 0 0) (fun _ => pure []))) (gNm 3) (forS (rngI rng1 (consM (bVar 0 0) (fun _ => pure []))) (gNm 7) (iteM (tst (ap2 dNe (apL (uno dLen) (consM (lcM [8] (seqI (bVar 0 2)) (gNm 8) (tst (ap2 dEq (ap2 dGet (bVar 1 8) (bVar 0 3)) (bVar 0 7))) (bVar 0 8)) fun _ => pure [])) (fun _ => pure (.int 2)))) (retM (fun _ => pure (.bl false))) nextM))) (seqM (setM 4 0 (ap2 dAdd (lrgM (rg1 (bVar 0 0))) (ap1 dRev (lrgM (rg1 (bVar 0 0)))))) (retM (andV (ap2 dEq (lcM [8] (seqI (bVar 0 2)) (gNm 8) (fun _ => pure true) (indexM (bVar 0 8) (fun _ => pure (.int 0)))) (bVar 0 4)) (ap2 dEq (ap2 dGet (bVar 1 2) (bVar 0 0)) (ap1 dRev (trgM (rg1 (bVar 0 0)))))))))))))
def m__law_hunting_right : List D → M D := fnM 9 q__law_hunting_right
theorem sc__law_hunting_right : FnScope ["bells", "ring", "rows", "place", "due", "near", "far", "bell", "row"] ["bells"] (defScope s__law_hunting_right) := ⟨rfl, rfl, rfl, by decide +kernel, rfl, by decide +kernel, by decide +kernel⟩
theorem fg__law_hunting_right {P : Program} {w : World} {K : PySem.W.Frag} {mg : Str → Option Value} {base : Heap} (h : Facts K mg) {f : Addr} {fd : FuncData} (F : FunD K "_law_hunting_right" "_law_hunting_right" (defArgs s__law_hunting_right) (defBody s__law_hunting_right) (defScope s__law_hunting_right) [] [] f fd) :
    FnG P w K mg base 9 f fd ["bells"] (spD K mg 1 0 m__law_hunting_right) :=
  fn_ds (N := ["bells", "ring", "rows", "place", "due", "near", "far", "bell", "row"]) (ps := ["bells"]) (r := 0) (q := q__law_hunting_right) F sc__law_hunting_right fun cdv E c =>
    (dss_cons (ds_par2 c.std 5 6 (de_if (dt_cmpC (cmp_eq c.std) (DE.fz (de_mod (DE.fz (de_int c.std h.b_int (db_var 0 0))) db_int)) db_int) (de_tup (da_cons (DE.fz (de_sub (db_var 0 0) db_int)) da_nil)) (de_tup da_nil)) (de_if (dt_cmpC (cmp_eq c.std) (DE.fz (de_mod (DE.fz (de_int c.std h.b_int (db_var 0 0))) db_int)) db_int) (de_tup (da_cons db_int da_nil)) (de_tup (da_cons db_int (da_cons (DE.fz (de_sub (db_var 0 0) db_int)) da_nil))))) (dss_cons (ds_set c.std 1 (de_call c (fn_two_ring h) (by decide) (da_cons (db_var 0 0) (da_cons (DE.fz (de_lst (da_cons (db_var 0 5) (da_cons (db_var 0 6) da_nil)))) da_nil)))) (dss_cons (ds_if (DW.t (dw_or (dt_cmpC (cmp_ne c.std) (DE.fz (de_len c.std h.b_len (db_var 1 1))) (DE.fz (de_mul (DB.up db_int (by decide : 0 ≤ 1)) (db_var 0 0)))) (dw_or1 (dt_cmpC (cmp_ne c.std) (DE.fz (de_call c (fn_rows_by h) (by decide) (da_cons (db_var 0 0) (da_cons (DE.fz (de_lst (da_cons (db_var 0 5) (da_cons (db_var 0 6) da_nil)))) da_nil)))) (DE.fz (de_sorted c.std h.b_sorted (DB.up (DE.brw (de_call c (fn_ring_rows h) (by decide) (da_cons (db_var 0 0) (da_cons (db_var 0 1) da_nil)))) (by decide : 0 ≤ 1)))))))) (dss_one (ds_ret (DB.val db_bl))) dss_nil) (dss_cons (ds_set c.std 2 (de_call c (fn_ring_rows h) (by decide) (da_cons (db_var 0 0) (da_cons (db_var 0 1) da_nil)))) (dss_cons (ds_for c.std (di_rng1 c.std (da_cons (db_var 0 0) da_nil) h.b_range) (dg_name c.std 3) (dss_one (ds_for c.std (di_rng1 c.std (da_cons (db_var 0 0) da_nil) h.b_range) (dg_name c.std 7) (dss_one (ds_if (dt_cmpC (cmp_ne c.std) (DE.fz (de_len c.std h.b_len (DE.brw (de_lc c.std [("row", 8)] (di_seq c.std (db_var 0 2)) (fun _ => blkOk_by (by kernel_rfl)) (dgv_name (c.blk _).std 8) (dts_one (dt_cmpC (cmp_eq (c.blk _).std) (db_ix (c.blk _).std (db_var 1 8) (db_var 0 3)) (db_var 0 7))) (DB.val (db_var 0 8)))))) db_int) (dss_one (ds_ret (DB.val db_bl))) dss_nil))))) (dss_cons (ds_set c.std 4 (DE.z (de_add c.std (DE.brw (de_listRg c.std (drg1 c.std (db_var 0 0) h.b_range) h.b_list)) (DE.brw (de_rev c.std (DE.brw (de_listRg c.std (drg1 c.std (db_var 0 0) h.b_range) h.b_list))))))) (dss_one (ds_ret (DB.val (db_and (DE.fz (de_cmpC (cmp_eq c.std) (DE.fz (de_lc c.std [("row", 8)] (di_seq c.std (db_var 0 2)) (fun _ => blkOk_by (by kernel_rfl)) (dgv_name (c.blk _).std 8) dts_nil (DB.val (db_index (c.blk _).std (db_var 0 8) db_int)))) (db_var 0 4))) (db_one (DE.fz (de_cmpC (cmp_eq c.std) (db_ix c.std (db_var 1 2) (db_var 0 0)) (DE.fz (de_rev c.std (DB.up (DE.brw (de_tupRg c.std (drg1 c.std (db_var 0 0) h.b_range) h.b_tuple)) (by decide : 0 ≤ 1)))))))))))))))))
theorem fn__law_hunting_right {P : Program} {w : World} {K : PySem.W.Frag} {mg : Str → Option Value} {base : Heap} (h : Facts K mg) : Fn P w K mg base 9 "_law_hunting_right" 1 0 m__law_hunting_right := by
  obtain ⟨f, fd, F, hm⟩ := h.d__law_hunting_right
  exact fn_def F hm (fg__law_hunting_right h F) (F.bindsN fun _ _ _ _ _ _ us hl => match us, hl with | [_], _ => rfl)

def q_law : Env' → M (Fl × Env') := (seqM (setM 1 1 (lcM [2] (rngI rng1 (consM (apL (duo dMax) (consM (fun _ => pure (.int 2)) (consM (apL (duo dMin) (consM (fun _ => pure (.int 3)) (consM (apL (uno dLen) (consM (bVar 1 0) fun _ => pure [])) (fun _ => pure [])))) (fun _ => pure [])))) (fun _ => pure []))) (gNm 2) (fun _ => pure true) (callM 2 (consM (bVar 0 0) (consM (bVar 0 2) (fun _ => pure []))) m__law_pot))) (fun ρ => (retM (andV (apL (uno dAll) (consM (lcM [3] (seqI (bVar 0 1)) (gNm 3) (fun _ => pure true) (callM 1 (consM (bVar 0 3) (fun _ => pure [])) m__law_two_right)) fun _ => pure [])) (apL (uno dAll) (consM (lcM [4] (seqI (tupM (consM (fun _ => pure (.int 3)) (consM (fun _ => pure (.int 4)) (consM (fun _ => pure (.int 5)) (consM (fun _ => pure (.int 6)) (fun _ => pure []))))))) (gNm 4) (fun _ => pure true) (callM 1 (consM (bVar 0 4) (fun _ => pure [])) m__law_hunting_right)) fun _ => pure [])))) (frzE 1 ρ)))
def m_law : List D → M D := fnM 5 q_law
theorem sc_law : FnScope ["script", "pots", "k", "pot", "bells"] ["script"] (defScope s_law) := ⟨rfl, rfl, rfl, by decide +kernel, rfl, by decide +kernel, by decide +kernel⟩
theorem fg_law {P : Program} {w : World} {K : PySem.W.Frag} {mg : Str → Option Value} {base : Heap} (h : Facts K mg) {f : Addr} {fd : FuncData} (F : FunD K "law" "law" (defArgs s_law) (defBody s_law) (defScope s_law) [] [] f fd) :
    FnG P w K mg base 10 f fd ["script"] (spD K mg 1 0 m_law) :=
  fn_ds (N := ["script", "pots", "k", "pot", "bells"]) (ps := ["script"]) (r := 0) (q := q_law) F sc_law fun cdv E c =>
    (dss_cons (ds_setLc c.std 1 [("k", 2)] (di_rng1 c.std (da_cons (DE.fz (de_max2 c.std h.b_max (da_cons db_int (da_cons (DE.fz (de_min2 c.std h.b_min (da_cons db_int (da_cons (DE.fz (de_len c.std h.b_len (db_var 1 0))) da_nil)))) da_nil)))) da_nil) h.b_range) (fun _ => blkOk_by (by kernel_rfl)) (dgv_name (c.blk _).std 2) dts_nil (de_call (c.blk _) (fn__law_pot h) (by decide) (da_cons (db_var 0 0) (da_cons (db_var 0 2) da_nil)))) (dss_frz 1 (dss_one (ds_ret (DB.val (db_and (DE.fz (de_all c.std h.b_all (DE.brw (de_lc c.std [("pot", 3)] (di_seq c.std (db_var 0 1)) (fun _ => blkOk_by (by kernel_rfl)) (dgv_name (c.blk _).std 3) dts_nil (de_call (c.blk _) (fn__law_two_right h) (by decide) (da_cons (db_var 0 3) da_nil)))))) (db_one (DE.fz (de_all c.std h.b_all (DE.brw (de_lc c.std [("bells", 4)] (di_seq c.std (DE.fz (de_tup (da_cons db_int (da_cons db_int (da_cons db_int (da_cons db_int da_nil))))))) (fun _ => blkOk_by (by kernel_rfl)) (dgv_name (c.blk _).std 4) dts_nil (de_call (c.blk _) (fn__law_hunting_right h) (by decide) (da_cons (db_var 0 4) da_nil)))))))))))))
theorem fn_law {P : Program} {w : World} {K : PySem.W.Frag} {mg : Str → Option Value} {base : Heap} (h : Facts K mg) : Fn P w K mg base 10 "law" 1 0 m_law := by
  obtain ⟨f, fd, F, hm⟩ := h.d_law
  exact fn_def F hm (fg_law h F) (F.bindsN fun _ _ _ _ _ _ us hl => match us, hl with | [_], _ => rfl)

/-! the head -/
def dd__law_pot : He.DefD := ⟨("_law_pot", none), "_law_pot", "_law_pot", defArgs s__law_pot, defBody s__law_pot, defScope s__law_pot, [], []⟩
def dd__law_draw : He.DefD := ⟨("_law_draw", none), "_law_draw", "_law_draw", defArgs s__law_draw, defBody s__law_draw, defScope s__law_draw, [], []⟩
def dd__law_pick : He.DefD := ⟨("_law_pick", none), "_law_pick", "_law_pick", defArgs s__law_pick, defBody s__law_pick, defScope s__law_pick, [], []⟩
def dd__law_some : He.DefD := ⟨("_law_some", none), "_law_some", "_law_some", defArgs s__law_some, defBody s__law_some, defScope s__law_some, [], []⟩
def dd__law_step : He.DefD := ⟨("_law_step", none), "_law_step", "_law_step", defArgs s__law_step, defBody s__law_step, defScope s__law_step, [], []⟩
def dd__law_come : He.DefD := ⟨("_law_come", none), "_law_come", "_law_come", defArgs s__law_come, defBody s__law_come, defScope s__law_come, [], []⟩
def dd__law_rings : He.DefD := ⟨("_law_rings", none), "_law_rings", "_law_rings", defArgs s__law_rings, defBody s__law_rings, defScope s__law_rings, [], []⟩
def dd__law_is_change : He.DefD := ⟨("_law_is_change", none), "_law_is_change", "_law_is_change", defArgs s__law_is_change, defBody s__law_is_change, defScope s__law_is_change, [], []⟩
def dd__law_all : He.DefD := ⟨("_law_all", none), "_law_all", "_law_all", defArgs s__law_all, defBody s__law_all, defScope s__law_all, [], []⟩
def dd__law_order : He.DefD := ⟨("_law_order", none), "_law_order", "_law_order", defArgs s__law_order, defBody s__law_order, defScope s__law_order, [], []⟩
def dd_is_integer : He.DefD := ⟨("is_integer", none), "is_integer", "is_integer", defArgs s_is_integer, defBody s_is_integer, defScope s_is_integer, [], []⟩
def dd_is_within : He.DefD := ⟨("is_within", none), "is_within", "is_within", defArgs s_is_within, defBody s_is_within, defScope s_is_within, [], []⟩
def dd_is_bells : He.DefD := ⟨("is_bells", none), "is_bells", "is_bells", defArgs s_is_bells, defBody s_is_bells, defScope s_is_bells, [], []⟩
def dd_want_bells : He.DefD := ⟨("want_bells", none), "want_bells", "want_bells", defArgs s_want_bells, defBody s_want_bells, defScope s_want_bells, [], []⟩
def dd_is_list : He.DefD := ⟨("is_list", none), "is_list", "is_list", defArgs s_is_list, defBody s_is_list, defScope s_is_list, [], []⟩
def dd_pairs_of : He.DefD := ⟨("pairs_of", none), "pairs_of", "pairs_of", defArgs s_pairs_of, defBody s_pairs_of, defScope s_pairs_of, [], []⟩
def dd_are_rising : He.DefD := ⟨("are_rising", none), "are_rising", "are_rising", defArgs s_are_rising, defBody s_are_rising, defScope s_are_rising, [], []⟩
def dd_is_lot : He.DefD := ⟨("is_lot", none), "is_lot", "is_lot", defArgs s_is_lot, defBody s_is_lot, defScope s_is_lot, [], []⟩
def dd_is_change_of : He.DefD := ⟨("is_change_of", none), "is_change_of", "is_change_of", defArgs s_is_change_of, defBody s_is_change_of, defScope s_is_change_of, [], []⟩
def dd_are_changes_of : He.DefD := ⟨("are_changes_of", none), "are_changes_of", "are_changes_of", defArgs s_are_changes_of, defBody s_are_changes_of, defScope s_are_changes_of, [], []⟩
def dd_is_told_lot : He.DefD := ⟨("is_told_lot", none), "is_told_lot", "is_told_lot", defArgs s_is_told_lot, defBody s_is_told_lot, defScope s_is_told_lot, [], []⟩
def dd_want_told : He.DefD := ⟨("want_told", none), "want_told", "want_told", defArgs s_want_told, defBody s_want_told, defScope s_want_told, [], []⟩
def dd_rounds_of : He.DefD := ⟨("rounds_of", none), "rounds_of", "rounds_of", defArgs s_rounds_of, defBody s_rounds_of, defScope s_rounds_of, [], []⟩
def dd_times : He.DefD := ⟨("times", none), "times", "times", defArgs s_times, defBody s_times, defScope s_times, [], []⟩
def dd_change_row : He.DefD := ⟨("change_row", none), "change_row", "change_row", defArgs s_change_row, defBody s_change_row, defScope s_change_row, [], []⟩
def dd_row_behind : He.DefD := ⟨("row_behind", none), "row_behind", "row_behind", defArgs s_row_behind, defBody s_row_behind, defScope s_row_behind, [], []⟩
def dd_alternating : He.DefD := ⟨("alternating", none), "alternating", "alternating", defArgs s_alternating, defBody s_alternating, defScope s_alternating, [], []⟩
def dd_two_ring : He.DefD := ⟨("two_ring", none), "two_ring", "two_ring", defArgs s_two_ring, defBody s_two_ring, defScope s_two_ring, [], []⟩
def dd_rows_along : He.DefD := ⟨("rows_along", none), "rows_along", "rows_along", defArgs s_rows_along, defBody s_rows_along, defScope s_rows_along, [], []⟩
def dd_is_ring_any : He.DefD := ⟨("is_ring_any", none), "is_ring_any", "is_ring_any", defArgs s_is_ring_any, defBody s_is_ring_any, defScope s_is_ring_any, [], []⟩
def dd_want_ring : He.DefD := ⟨("want_ring", none), "want_ring", "want_ring", defArgs s_want_ring, defBody s_want_ring, defScope s_want_ring, [], []⟩
def dd_turned_back : He.DefD := ⟨("turned_back", none), "turned_back", "turned_back", defArgs s_turned_back, defBody s_turned_back, defScope s_turned_back, [], []⟩
def dd_come_to : He.DefD := ⟨("come_to", none), "come_to", "come_to", defArgs s_come_to, defBody s_come_to, defScope s_come_to, [], []⟩
def dd_is_full : He.DefD := ⟨("is_full", none), "is_full", "is_full", defArgs s_is_full, defBody s_is_full, defScope s_is_full, [], []⟩
def dd_is_full_ring : He.DefD := ⟨("is_full_ring", none), "is_full_ring", "is_full_ring", defArgs s_is_full_ring, defBody s_is_full_ring, defScope s_is_full_ring, [], []⟩
def dd_rows_by : He.DefD := ⟨("rows_by", none), "rows_by", "rows_by", defArgs s_rows_by, defBody s_rows_by, defScope s_rows_by, [], []⟩
def dd__law_two_right : He.DefD := ⟨("_law_two_right", none), "_law_two_right", "_law_two_right", defArgs s__law_two_right, defBody s__law_two_right, defScope s__law_two_right, [], []⟩
def dd_ring_rows : He.DefD := ⟨("ring_rows", none), "ring_rows", "ring_rows", defArgs s_ring_rows, defBody s_ring_rows, defScope s_ring_rows, [], []⟩
def dd__law_hunting_right : He.DefD := ⟨("_law_hunting_right", none), "_law_hunting_right", "_law_hunting_right", defArgs s__law_hunting_right, defBody s__law_hunting_right, defScope s__law_hunting_right, [], []⟩
def dd_law : He.DefD := ⟨("law", none), "law", "law", defArgs s_law, defBody s_law, defScope s_law, [], []⟩
def fns : List He.DefD := [dd__law_pot, dd__law_draw, dd__law_pick, dd__law_some, dd__law_step, dd__law_come, dd__law_rings, dd__law_is_change, dd__law_all, dd__law_order, dd_is_integer, dd_is_within, dd_is_bells, dd_want_bells, dd_is_list, dd_pairs_of, dd_are_rising, dd_is_lot, dd_is_change_of, dd_are_changes_of, dd_is_told_lot, dd_want_told, dd_rounds_of, dd_times, dd_change_row, dd_row_behind, dd_alternating, dd_two_ring, dd_rows_along, dd_is_ring_any, dd_want_ring, dd_turned_back, dd_come_to, dd_is_full, dd_is_full_ring, dd_rows_by, dd__law_two_right, dd_ring_rows, dd__law_hunting_right, dd_law]
def fas : List He.Fa := [.glo "_law_pot", .glo "_law_draw", .glo "_law_pick", .glo "_law_some", .glo "_law_step", .glo "_law_come", .glo "_law_rings", .glo "_law_is_change", .glo "_law_all", .glo "_law_order", .glo "is_integer", .glo "is_within", .glo "is_bells", .glo "want_bells", .glo "is_list", .glo "pairs_of", .glo "are_rising", .glo "is_lot", .glo "is_change_of", .glo "are_changes_of", .glo "is_told_lot", .glo "want_told", .glo "rounds_of", .glo "times", .glo "change_row", .glo "row_behind", .glo "alternating", .glo "two_ring", .glo "rows_along", .glo "is_ring_any", .glo "want_ring", .glo "turned_back", .glo "come_to", .glo "is_full", .glo "is_full_ring", .glo "rows_by", .glo "_law_two_right", .glo "ring_rows", .glo "_law_hunting_right", .glo "law", .free "abs", .free "all", .free "bool", .free "divmod", .free "int", .free "isinstance", .free "len", .free "list", .free "max", .free "min", .free "range", .free "repr", .free "set", .free "sorted", .free "tuple", .free "zip", .int "LEAST_BELLS" 3, .int "MOST_BELLS" 6, .int "MOST_CHANGES" 800, .int "MOST_RING" 800, .int "MOST_TOLD" 12]
theorem facts_of {K : PySem.W.Frag} {h : Heap} {mg : Str → Option Value} (X : K.In h) (G : h.Ns mainGlobals mg) (c : He.SaysD fas fns K) : Facts K mg where
  d__law_pot := by
    obtain ⟨fd, F⟩ := c.def_ 0 (d := dd__law_pot) rfl
    exact ⟨_, fd, F, He.glo_ok X G (c.fact 0 (f := .glo "_law_pot") rfl)⟩
  d__law_draw := by
    obtain ⟨fd, F⟩ := c.def_ 1 (d := dd__law_draw) rfl
    exact ⟨_, fd, F, He.glo_ok X G (c.fact 1 (f := .glo "_law_draw") rfl)⟩
  d__law_pick := by
    obtain ⟨fd, F⟩ := c.def_ 2 (d := dd__law_pick) rfl
    exact ⟨_, fd, F, He.glo_ok X G (c.fact 2 (f := .glo "_law_pick") rfl)⟩
  d__law_some := by
    obtain ⟨fd, F⟩ := c.def_ 3 (d := dd__law_some) rfl
    exact ⟨_, fd, F, He.glo_ok X G (c.fact 3 (f := .glo "_law_some") rfl)⟩
  d__law_step := by
    obtain ⟨fd, F⟩ := c.def_ 4 (d := dd__law_step) rfl
    exact ⟨_, fd, F, He.glo_ok X G (c.fact 4 (f := .glo "_law_step") rfl)⟩
  d__law_come := by
    obtain ⟨fd, F⟩ := c.def_ 5 (d := dd__law_come) rfl
    exact ⟨_, fd, F, He.glo_ok X G (c.fact 5 (f := .glo "_law_come") rfl)⟩
  d__law_rings := by
    obtain ⟨fd, F⟩ := c.def_ 6 (d := dd__law_rings) rfl
    exact ⟨_, fd, F, He.glo_ok X G (c.fact 6 (f := .glo "_law_rings") rfl)⟩
  d__law_is_change := by
    obtain ⟨fd, F⟩ := c.def_ 7 (d := dd__law_is_change) rfl
    exact ⟨_, fd, F, He.glo_ok X G (c.fact 7 (f := .glo "_law_is_change") rfl)⟩
  d__law_all := by
    obtain ⟨fd, F⟩ := c.def_ 8 (d := dd__law_all) rfl
    exact ⟨_, fd, F, He.glo_ok X G (c.fact 8 (f := .glo "_law_all") rfl)⟩
  d__law_order := by
    obtain ⟨fd, F⟩ := c.def_ 9 (d := dd__law_order) rfl
    exact ⟨_, fd, F, He.glo_ok X G (c.fact 9 (f := .glo "_law_order") rfl)⟩
  d_is_integer := by
    obtain ⟨fd, F⟩ := c.def_ 10 (d := dd_is_integer) rfl
    exact ⟨_, fd, F, He.glo_ok X G (c.fact 10 (f := .glo "is_integer") rfl)⟩
  d_is_within := by
    obtain ⟨fd, F⟩ := c.def_ 11 (d := dd_is_within) rfl
    exact ⟨_, fd, F, He.glo_ok X G (c.fact 11 (f := .glo "is_within") rfl)⟩
  d_is_bells := by
    obtain ⟨fd, F⟩ := c.def_ 12 (d := dd_is_bells) rfl
    exact ⟨_, fd, F, He.glo_ok X G (c.fact 12 (f := .glo "is_bells") rfl)⟩
  d_want_bells := by
    obtain ⟨fd, F⟩ := c.def_ 13 (d := dd_want_bells) rfl
    exact ⟨_, fd, F, He.glo_ok X G (c.fact 13 (f := .glo "want_bells") rfl)⟩
  d_is_list := by
    obtain ⟨fd, F⟩ := c.def_ 14 (d := dd_is_list) rfl
    exact ⟨_, fd, F, He.glo_ok X G (c.fact 14 (f := .glo "is_list") rfl)⟩
  d_pairs_of := by
    obtain ⟨fd, F⟩ := c.def_ 15 (d := dd_pairs_of) rfl
    exact ⟨_, fd, F, He.glo_ok X G (c.fact 15 (f := .glo "pairs_of") rfl)⟩
  d_are_rising := by
    obtain ⟨fd, F⟩ := c.def_ 16 (d := dd_are_rising) rfl
    exact ⟨_, fd, F, He.glo_ok X G (c.fact 16 (f := .glo "are_rising") rfl)⟩
  d_is_lot := by
    obtain ⟨fd, F⟩ := c.def_ 17 (d := dd_is_lot) rfl
    exact ⟨_, fd, F, He.glo_ok X G (c.fact 17 (f := .glo "is_lot") rfl)⟩
  d_is_change_of := by
    obtain ⟨fd, F⟩ := c.def_ 18 (d := dd_is_change_of) rfl
    exact ⟨_, fd, F, He.glo_ok X G (c.fact 18 (f := .glo "is_change_of") rfl)⟩
  d_are_changes_of := by
    obtain ⟨fd, F⟩ := c.def_ 19 (d := dd_are_changes_of) rfl
    exact ⟨_, fd, F, He.glo_ok X G (c.fact 19 (f := .glo "are_changes_of") rfl)⟩
  d_is_told_lot := by
    obtain ⟨fd, F⟩ := c.def_ 20 (d := dd_is_told_lot) rfl
    exact ⟨_, fd, F, He.glo_ok X G (c.fact 20 (f := .glo "is_told_lot") rfl)⟩
  d_want_told := by
    obtain ⟨fd, F⟩ := c.def_ 21 (d := dd_want_told) rfl
    exact ⟨_, fd, F, He.glo_ok X G (c.fact 21 (f := .glo "want_told") rfl)⟩
  d_rounds_of := by
    obtain ⟨fd, F⟩ := c.def_ 22 (d := dd_rounds_of) rfl
    exact ⟨_, fd, F, He.glo_ok X G (c.fact 22 (f := .glo "rounds_of") rfl)⟩
  d_times := by
    obtain ⟨fd, F⟩ := c.def_ 23 (d := dd_times) rfl
    exact ⟨_, fd, F, He.glo_ok X G (c.fact 23 (f := .glo "times") rfl)⟩
  d_change_row := by
    obtain ⟨fd, F⟩ := c.def_ 24 (d := dd_change_row) rfl
    exact ⟨_, fd, F, He.glo_ok X G (c.fact 24 (f := .glo "change_row") rfl)⟩
  d_row_behind := by
    obtain ⟨fd, F⟩ := c.def_ 25 (d := dd_row_behind) rfl
    exact ⟨_, fd, F, He.glo_ok X G (c.fact 25 (f := .glo "row_behind") rfl)⟩
  d_alternating := by
    obtain ⟨fd, F⟩ := c.def_ 26 (d := dd_alternating) rfl
    exact ⟨_, fd, F, He.glo_ok X G (c.fact 26 (f := .glo "alternating") rfl)⟩
  d_two_ring := by
    obtain ⟨fd, F⟩ := c.def_ 27 (d := dd_two_ring) rfl
    exact ⟨_, fd, F, He.glo_ok X G (c.fact 27 (f := .glo "two_ring") rfl)⟩
  d_rows_along := by
    obtain ⟨fd, F⟩ := c.def_ 28 (d := dd_rows_along) rfl
    exact ⟨_, fd, F, He.glo_ok X G (c.fact 28 (f := .glo "rows_along") rfl)⟩
  d_is_ring_any := by
    obtain ⟨fd, F⟩ := c.def_ 29 (d := dd_is_ring_any) rfl
    exact ⟨_, fd, F, He.glo_ok X G (c.fact 29 (f := .glo "is_ring_any") rfl)⟩
  d_want_ring := by
    obtain ⟨fd, F⟩ := c.def_ 30 (d := dd_want_ring) rfl
    exact ⟨_, fd, F, He.glo_ok X G (c.fact 30 (f := .glo "want_ring") rfl)⟩
  d_turned_back := by
    obtain ⟨fd, F⟩ := c.def_ 31 (d := dd_turned_back) rfl
    exact ⟨_, fd, F, He.glo_ok X G (c.fact 31 (f := .glo "turned_back") rfl)⟩
  d_come_to := by
    obtain ⟨fd, F⟩ := c.def_ 32 (d := dd_come_to) rfl
    exact ⟨_, fd, F, He.glo_ok X G (c.fact 32 (f := .glo "come_to") rfl)⟩
  d_is_full := by
    obtain ⟨fd, F⟩ := c.def_ 33 (d := dd_is_full) rfl
    exact ⟨_, fd, F, He.glo_ok X G (c.fact 33 (f := .glo "is_full") rfl)⟩
  d_is_full_ring := by
    obtain ⟨fd, F⟩ := c.def_ 34 (d := dd_is_full_ring) rfl
    exact ⟨_, fd, F, He.glo_ok X G (c.fact 34 (f := .glo "is_full_ring") rfl)⟩
  d_rows_by := by
    obtain ⟨fd, F⟩ := c.def_ 35 (d := dd_rows_by) rfl
    exact ⟨_, fd, F, He.glo_ok X G (c.fact 35 (f := .glo "rows_by") rfl)⟩
  d__law_two_right := by
    obtain ⟨fd, F⟩ := c.def_ 36 (d := dd__law_two_right) rfl
    exact ⟨_, fd, F, He.glo_ok X G (c.fact 36 (f := .glo "_law_two_right") rfl)⟩
  d_ring_rows := by
    obtain ⟨fd, F⟩ := c.def_ 37 (d := dd_ring_rows) rfl
    exact ⟨_, fd, F, He.glo_ok X G (c.fact 37 (f := .glo "ring_rows") rfl)⟩
  d__law_hunting_right := by
    obtain ⟨fd, F⟩ := c.def_ 38 (d := dd__law_hunting_right) rfl
    exact ⟨_, fd, F, He.glo_ok X G (c.fact 38 (f := .glo "_law_hunting_right") rfl)⟩
  d_law := by
    obtain ⟨fd, F⟩ := c.def_ 39 (d := dd_law) rfl
    exact ⟨_, fd, F, He.glo_ok X G (c.fact 39 (f := .glo "law") rfl)⟩
  b_abs := He.free_ok X G (c.fact 40 (f := .free "abs") rfl)
  b_all := He.free_ok X G (c.fact 41 (f := .free "all") rfl)
  b_bool := He.free_ok X G (c.fact 42 (f := .free "bool") rfl)
  b_divmod := He.free_ok X G (c.fact 43 (f := .free "divmod") rfl)
  b_int := He.free_ok X G (c.fact 44 (f := .free "int") rfl)
  b_isinstance := He.free_ok X G (c.fact 45 (f := .free "isinstance") rfl)
  b_len := He.free_ok X G (c.fact 46 (f := .free "len") rfl)
  b_list := He.free_ok X G (c.fact 47 (f := .free "list") rfl)
  b_max := He.free_ok X G (c.fact 48 (f := .free "max") rfl)
  b_min := He.free_ok X G (c.fact 49 (f := .free "min") rfl)
  b_range := He.free_ok X G (c.fact 50 (f := .free "range") rfl)
  b_repr := He.free_ok X G (c.fact 51 (f := .free "repr") rfl)
  b_set := He.free_ok X G (c.fact 52 (f := .free "set") rfl)
  b_sorted := He.free_ok X G (c.fact 53 (f := .free "sorted") rfl)
  b_tuple := He.free_ok X G (c.fact 54 (f := .free "tuple") rfl)
  b_zip := He.free_ok X G (c.fact 55 (f := .free "zip") rfl)
  c_LEAST_BELLS := He.int_ok X G (c.fact 56 (f := .int "LEAST_BELLS" 3) rfl)
  c_MOST_BELLS := He.int_ok X G (c.fact 57 (f := .int "MOST_BELLS" 6) rfl)
  c_MOST_CHANGES := He.int_ok X G (c.fact 58 (f := .int "MOST_CHANGES" 800) rfl)
  c_MOST_RING := He.int_ok X G (c.fact 59 (f := .int "MOST_RING" 800) rfl)
  c_MOST_TOLD := He.int_ok X G (c.fact 60 (f := .int "MOST_TOLD" 12) rfl)
end KX
namespace KX
open PySem PySem.Spec PyProof.Rows L2 DS
def getP (x y : D) : M D := fun S => match potGet S x y with
  | some d => .ok d S
  | none => .bad
def putP (x i v : D) (ρ : Env') : M Env' := fun S => match potPut S x i v with
  | some S' => .ok ρ S'
  | none => .bad
theorem potM_eq (fa fb : Env' → M D) (ρ : Env') : potM fa fb ρ = (fa ρ >>= fun x => fb ρ >>= fun y => getP x y) := rfl
theorem gPotM_eq (k : Nat) (fi : Env' → M D) (v : D) (ρ : Env') : gPotM k fi v ρ = (bVar 0 k ρ >>= fun x => fi ρ >>= fun i => putP x i v ρ) := rfl
theorem getP_run {S : Pots} {x y d : D} (h : potGet S x y = some d) : getP x y S = .ok d S := by unfold getP; rw [h]
theorem putP_run {S S' : Pots} {x i v : D} {ρ : Env'} (h : potPut S x i v = some S') : putP x i v ρ S = .ok ρ S' := by unfold putP; rw [h]
theorem get0 {S : Pots} {k : Nat} {p : Int × Int} (h : S[k]? = some p) : getP (.pot k) (.int 0) S = .ok (.int p.1) S := getP_run (by simp [potGet, h])
theorem get1 {S : Pots} {k : Nat} {p : Int × Int} (h : S[k]? = some p) : getP (.pot k) (.int 1) S = .ok (.int p.2) S := getP_run (by simp [potGet, h])
theorem put0 {S : Pots} {k : Nat} {p : Int × Int} {z : Int} {ρ : Env'} (h : S[k]? = some p) : putP (.pot k) (.int 0) (.int z) ρ S = .ok ρ (S.set k (z, p.2)) := putP_run (by simp [potPut, h])
theorem put1 {S : Pots} {k : Nat} {p : Int × Int} {z : Int} {ρ : Env'} (h : S[k]? = some p) : putP (.pot k) (.int 1) (.int z) ρ S = .ok ρ (S.set k (p.1, z)) := putP_run (by simp [potPut, h])
theorem liftO_some {α : Type} (a : α) : liftO (some a) = (pure a : M α) := rfl
theorem chk_true : chk true = (pure () : M Unit) := rfl
theorem bind_pure' {α β : Type} (f : α → M β) (a : α) : ((pure a : M α) >>= f) = f a := rfl
theorem bind_ok {α β : Type} {m : M α} {f : α → M β} {S S' : Pots} {a : α} (h : m S = .ok a S') : (m >>= f) S = f a S' := by rw [bind_run, h]
theorem bind_assoc' {α β γ : Type} (m : M α) (f : α → M β) (g : β → M γ) : ((m >>= f) >>= g) = (m >>= fun x => f x >>= g) := by
  funext S; rw [bind_run, bind_run, bind_run]; cases m S <;> rfl
theorem draw_ok {S : Pots} {k : Nat} {many : Int} (hk : k < S.length) (h0 : 0 < many) (h1 : many < 1073741824) : ∃ (d : Int) (S' : Pots), m__law_draw [.pot k, .int many] S = .ok (.int d) S' ∧ 0 ≤ d ∧ d < many ∧ S'.length = S.length := by
  obtain ⟨p, hp⟩ : ∃ p, S[k]? = some p := ⟨S[k], List.getElem?_eq_getElem hk⟩
  have q : ∀ x : Int, 0 ≤ x % many ∧ x % many < many := fun x => ⟨Int.emod_nonneg _ (by omega), Int.emod_lt_of_pos _ h0⟩
  have unf : m__law_draw [.pot k, .int many] = fnM 3 q__law_draw [.pot k, .int many] := rfl
  by_cases h : 0 < p.1
  · refine ⟨p.1 % many, S.set k (p.1 / many, p.2), ?_, (q p.1).1, (q p.1).2, List.length_set⟩
    rw [unf]
    simp (config := { maxSteps := 1000000 }) only [fnM, q__law_draw, startE, seqM, iteM, tst, ap2, apL, duo, uno, potM_eq, gPotM_eq, bVar, bind_pure', bind_assoc', List.map, List.length_cons, List.length_nil, List.replicate, Nat.reduceAdd, Nat.reduceSub, List.cons_append, List.nil_append, List.getElem?_cons_zero, List.getElem?_cons_succ, Nat.le_refl, if_true, dGt, dII, liftO_some, isB, decide_true, decide_false, asgM, gTp, lenG, gsCons, gsNil, gNm, dDivmod, consM, retM, chk_true, nextM, List.set_cons_zero, List.set_cons_succ, dMul, dAdd, dMod, dDiv, dInt, Bool.false_eq_true, if_false, reduceIte, pure_run, and_self, gTp, seqOf, Int.reduceLT, decide_eq_true_eq, true_and, Int.reduceMul, Int.reduceAdd]
    rw [bind_ok (get0 hp)]
    simp (config := { maxSteps := 1000000 }) only [fnM, q__law_draw, startE, seqM, iteM, tst, ap2, apL, duo, uno, potM_eq, gPotM_eq, bVar, bind_pure', bind_assoc', List.map, List.length_cons, List.length_nil, List.replicate, Nat.reduceAdd, Nat.reduceSub, List.cons_append, List.nil_append, List.getElem?_cons_zero, List.getElem?_cons_succ, Nat.le_refl, if_true, dGt, dII, liftO_some, isB, decide_true, decide_false, asgM, gTp, lenG, gsCons, gsNil, gNm, dDivmod, consM, retM, chk_true, nextM, List.set_cons_zero, List.set_cons_succ, dMul, dAdd, dMod, dDiv, dInt, Bool.false_eq_true, if_false, reduceIte, pure_run, and_self, gTp, seqOf, Int.reduceLT, decide_eq_true_eq, true_and, Int.reduceMul, Int.reduceAdd, h, h0, h1, or_true, true_or]
    rw [bind_ok (get0 hp)]
    simp (config := { maxSteps := 1000000 }) only [fnM, q__law_draw, startE, seqM, iteM, tst, ap2, apL, duo, uno, potM_eq, gPotM_eq, bVar, bind_pure', bind_assoc', List.map, List.length_cons, List.length_nil, List.replicate, Nat.reduceAdd, Nat.reduceSub, List.cons_append, List.nil_append, List.getElem?_cons_zero, List.getElem?_cons_succ, Nat.le_refl, if_true, dGt, dII, liftO_some, isB, decide_true, decide_false, asgM, gTp, lenG, gsCons, gsNil, gNm, dDivmod, consM, retM, chk_true, nextM, List.set_cons_zero, List.set_cons_succ, dMul, dAdd, dMod, dDiv, dInt, Bool.false_eq_true, if_false, reduceIte, pure_run, and_self, gTp, seqOf, Int.reduceLT, decide_eq_true_eq, true_and, Int.reduceMul, Int.reduceAdd, h, h0, h1, or_true, true_or]
    rw [bind_ok (put0 hp)]
    simp (config := { maxSteps := 1000000 }) only [fnM, q__law_draw, startE, seqM, iteM, tst, ap2, apL, duo, uno, potM_eq, gPotM_eq, bVar, bind_pure', bind_assoc', List.map, List.length_cons, List.length_nil, List.replicate, Nat.reduceAdd, Nat.reduceSub, List.cons_append, List.nil_append, List.getElem?_cons_zero, List.getElem?_cons_succ, Nat.le_refl, if_true, dGt, dII, liftO_some, isB, decide_true, decide_false, asgM, gTp, lenG, gsCons, gsNil, gNm, dDivmod, consM, retM, chk_true, nextM, List.set_cons_zero, List.set_cons_succ, dMul, dAdd, dMod, dDiv, dInt, Bool.false_eq_true, if_false, reduceIte, pure_run, and_self, gTp, seqOf, Int.reduceLT, decide_eq_true_eq, true_and, Int.reduceMul, Int.reduceAdd, h, h0, h1, or_true, true_or]
  · refine ⟨(p.2 * 40014 + 2647) % 2147483549 * ((p.2 * 40014 + 2647) % 2147483549) % 2147483563 / 31 % many, S.set k (p.1, (p.2 * 40014 + 2647) % 2147483549), ?_, (q _).1, (q _).2, List.length_set⟩
    have h40 : (-2 ^ 64 < (40014 : Int) ∧ (40014 : Int) < 2 ^ 64) = True := by simp
    have hx : (-2 ^ 64 < (p.2 * 40014 + 2647) % 2147483549 ∧ (p.2 * 40014 + 2647) % 2147483549 < 2 ^ 64) = True := by
      have e1 := Int.emod_nonneg (p.2 * 40014 + 2647) (b := 2147483549) (by decide)
      have e2 := Int.emod_lt_of_pos (p.2 * 40014 + 2647) (b := 2147483549) (by decide)
      have e3 : (2 : Int) ^ 64 = 18446744073709551616 := by decide
      rw [e3]
      exact eq_true ⟨by omega, by omega⟩
    have hp' : (S.set k (p.1, (p.2 * 40014 + 2647) % 2147483549))[k]? = some (p.1, (p.2 * 40014 + 2647) % 2147483549) := List.getElem?_set_self hk
    rw [unf]
    simp (config := { maxSteps := 1000000 }) only [fnM, q__law_draw, startE, seqM, iteM, tst, ap2, apL, duo, uno, potM_eq, gPotM_eq, bVar, bind_pure', bind_assoc', List.map, List.length_cons, List.length_nil, List.replicate, Nat.reduceAdd, Nat.reduceSub, List.cons_append, List.nil_append, List.getElem?_cons_zero, List.getElem?_cons_succ, Nat.le_refl, if_true, dGt, dII, liftO_some, isB, decide_true, decide_false, asgM, gTp, lenG, gsCons, gsNil, gNm, dDivmod, consM, retM, chk_true, nextM, List.set_cons_zero, List.set_cons_succ, dMul, dAdd, dMod, dDiv, dInt, Bool.false_eq_true, if_false, reduceIte, pure_run, and_self, gTp, seqOf, Int.reduceLT, decide_eq_true_eq, true_and, Int.reduceMul, Int.reduceAdd]
    rw [bind_ok (get0 hp)]
    simp (config := { maxSteps := 1000000 }) only [fnM, q__law_draw, startE, seqM, iteM, tst, ap2, apL, duo, uno, potM_eq, gPotM_eq, bVar, bind_pure', bind_assoc', List.map, List.length_cons, List.length_nil, List.replicate, Nat.reduceAdd, Nat.reduceSub, List.cons_append, List.nil_append, List.getElem?_cons_zero, List.getElem?_cons_succ, Nat.le_refl, if_true, dGt, dII, liftO_some, isB, decide_true, decide_false, asgM, gTp, lenG, gsCons, gsNil, gNm, dDivmod, consM, retM, chk_true, nextM, List.set_cons_zero, List.set_cons_succ, dMul, dAdd, dMod, dDiv, dInt, Bool.false_eq_true, if_false, reduceIte, pure_run, and_self, gTp, seqOf, Int.reduceLT, decide_eq_true_eq, true_and, Int.reduceMul, Int.reduceAdd, h, h0, h1, or_true, true_or]
    rw [bind_ok (get1 hp)]
    simp (config := { maxSteps := 1000000 }) only [fnM, q__law_draw, startE, seqM, iteM, tst, ap2, apL, duo, uno, potM_eq, gPotM_eq, bVar, bind_pure', bind_assoc', List.map, List.length_cons, List.length_nil, List.replicate, Nat.reduceAdd, Nat.reduceSub, List.cons_append, List.nil_append, List.getElem?_cons_zero, List.getElem?_cons_succ, Nat.le_refl, if_true, dGt, dII, liftO_some, isB, decide_true, decide_false, asgM, gTp, lenG, gsCons, gsNil, gNm, dDivmod, consM, retM, chk_true, nextM, List.set_cons_zero, List.set_cons_succ, dMul, dAdd, dMod, dDiv, dInt, Bool.false_eq_true, if_false, reduceIte, pure_run, and_self, gTp, seqOf, Int.reduceLT, decide_eq_true_eq, true_and, Int.reduceMul, Int.reduceAdd, h, h0, h1, or_true, true_or, h40, hx, or_self]
    rw [bind_ok (put1 hp)]
    simp (config := { maxSteps := 1000000 }) only [fnM, q__law_draw, startE, seqM, iteM, tst, ap2, apL, duo, uno, potM_eq, gPotM_eq, bVar, bind_pure', bind_assoc', List.map, List.length_cons, List.length_nil, List.replicate, Nat.reduceAdd, Nat.reduceSub, List.cons_append, List.nil_append, List.getElem?_cons_zero, List.getElem?_cons_succ, Nat.le_refl, if_true, dGt, dII, liftO_some, isB, decide_true, decide_false, asgM, gTp, lenG, gsCons, gsNil, gNm, dDivmod, consM, retM, chk_true, nextM, List.set_cons_zero, List.set_cons_succ, dMul, dAdd, dMod, dDiv, dInt, Bool.false_eq_true, if_false, reduceIte, pure_run, and_self, gTp, seqOf, Int.reduceLT, decide_eq_true_eq, true_and, Int.reduceMul, Int.reduceAdd, h, h0, h1, or_true, true_or, h40, hx, or_self]
    rw [bind_ok (get1 hp')]
    simp (config := { maxSteps := 1000000 }) only [fnM, q__law_draw, startE, seqM, iteM, tst, ap2, apL, duo, uno, potM_eq, gPotM_eq, bVar, bind_pure', bind_assoc', List.map, List.length_cons, List.length_nil, List.replicate, Nat.reduceAdd, Nat.reduceSub, List.cons_append, List.nil_append, List.getElem?_cons_zero, List.getElem?_cons_succ, Nat.le_refl, if_true, dGt, dII, liftO_some, isB, decide_true, decide_false, asgM, gTp, lenG, gsCons, gsNil, gNm, dDivmod, consM, retM, chk_true, nextM, List.set_cons_zero, List.set_cons_succ, dMul, dAdd, dMod, dDiv, dInt, Bool.false_eq_true, if_false, reduceIte, pure_run, and_self, gTp, seqOf, Int.reduceLT, decide_eq_true_eq, true_and, Int.reduceMul, Int.reduceAdd, h, h0, h1, or_true, true_or, h40, hx, or_self]
    rw [bind_ok (get1 hp')]
    simp (config := { maxSteps := 1000000 }) only [fnM, q__law_draw, startE, seqM, iteM, tst, ap2, apL, duo, uno, potM_eq, gPotM_eq, bVar, bind_pure', bind_assoc', List.map, List.length_cons, List.length_nil, List.replicate, Nat.reduceAdd, Nat.reduceSub, List.cons_append, List.nil_append, List.getElem?_cons_zero, List.getElem?_cons_succ, Nat.le_refl, if_true, dGt, dII, liftO_some, isB, decide_true, decide_false, asgM, gTp, lenG, gsCons, gsNil, gNm, dDivmod, consM, retM, chk_true, nextM, List.set_cons_zero, List.set_cons_succ, dMul, dAdd, dMod, dDiv, dInt, Bool.false_eq_true, if_false, reduceIte, pure_run, and_self, gTp, seqOf, Int.reduceLT, decide_eq_true_eq, true_and, Int.reduceMul, Int.reduceAdd, h, h0, h1, or_true, true_or, h40, hx, or_self]
theorem pot_ok {S : Pots} {ns : List Int} {k : Int} (hk : 0 ≤ k) : ∃ x y : Int, m__law_pot [.scr ns, .int k] S = .ok (.pot S.length) (S ++ [(x, y)]) := by
  have h1733 : (-2 ^ 64 < (1733 : Int) ∧ (1733 : Int) < 2 ^ 64) = True := by simp
  have h2647 : (-2 ^ 64 < (2647 : Int) ∧ (2647 : Int) < 2 ^ 64) = True := by simp
  have h69621 : (-2 ^ 64 < (69621 : Int) ∧ (69621 : Int) < 2 ^ 64) = True := by simp
  have h10 : ((10 : Int).natAbs < 2 ^ 64) = True := by simp
  have core : ∃ x y : Int, fnM 3 q__law_pot [.scr ns, .int k] S = .ok (.lst [.int x, .int y]) S := by
    by_cases h : k < ns.length
    · have e : ∃ i, atI ns k = some i := by
        unfold atI
        refine ⟨ns[k.toNat]'(by omega), ?_⟩
        have : ixN ns.length k = some k.toNat := by
          unfold ixN
          rw [if_pos hk, if_pos h]
        rw [this]
        exact List.getElem?_eq_getElem _
      obtain ⟨i, e⟩ := e
      have g : getP (.scr ns) (.int k) S = .ok (.int i) S := getP_run (by simp [potGet, e])
      let cell : Int := if i < 0 then -i else i
      refine ⟨if cell - 10 ^ (18 : Int).toNat > 0 then cell - 10 ^ (18 : Int).toNat else 0, (cell % 2147483549 * 69621 + 2647 * k + 64) % 2147483563 + 1, ?_⟩
      simp (config := { maxSteps := 1000000 }) only [fnM, q__law_pot, startE, seqM, setM, lstM, iteM, tst, ap2, apL, duo, uno, potM_eq, bVar, bind_pure', bind_assoc', List.map, List.length_cons, List.length_nil, List.replicate, Nat.reduceAdd, Nat.reduceSub, List.cons_append, List.nil_append, List.getElem?_cons_zero, List.getElem?_cons_succ, Nat.le_refl, Nat.zero_le, if_true, dLt, dLen, dAbs, dMax, dPow, dII, liftO_some, isB, decide_true, decide_false, consM, retM, chk_true, nextM, List.set_cons_zero, List.set_cons_succ, dMul, dAdd, dSub, dMod, dDiv, dInt, Bool.false_eq_true, if_false, reduceIte, pure_run, and_self, decide_eq_true_eq, true_and, Int.reduceLT, Int.reduceLE, Int.reduceMul, Int.reduceAdd, or_true, true_or, h1733, h2647, h69621, h10, h]
      rw [bind_ok g]
      simp (config := { maxSteps := 1000000 }) only [fnM, q__law_pot, startE, seqM, setM, lstM, iteM, tst, ap2, apL, duo, uno, potM_eq, bVar, bind_pure', bind_assoc', List.map, List.length_cons, List.length_nil, List.replicate, Nat.reduceAdd, Nat.reduceSub, List.cons_append, List.nil_append, List.getElem?_cons_zero, List.getElem?_cons_succ, Nat.le_refl, Nat.zero_le, if_true, dLt, dLen, dAbs, dMax, dPow, dII, liftO_some, isB, decide_true, decide_false, consM, retM, chk_true, nextM, List.set_cons_zero, List.set_cons_succ, dMul, dAdd, dSub, dMod, dDiv, dInt, Bool.false_eq_true, if_false, reduceIte, pure_run, and_self, decide_eq_true_eq, true_and, Int.reduceLT, Int.reduceLE, Int.reduceMul, Int.reduceAdd, or_true, true_or, h1733, h2647, h69621, h10, h]
      rfl
    · let cell : Int := 1733 * k + 64
      refine ⟨if cell - 10 ^ (18 : Int).toNat > 0 then cell - 10 ^ (18 : Int).toNat else 0, (cell % 2147483549 * 69621 + 2647 * k + 64) % 2147483563 + 1, ?_⟩
      simp (config := { maxSteps := 1000000 }) only [fnM, q__law_pot, startE, seqM, setM, lstM, iteM, tst, ap2, apL, duo, uno, potM_eq, bVar, bind_pure', bind_assoc', List.map, List.length_cons, List.length_nil, List.replicate, Nat.reduceAdd, Nat.reduceSub, List.cons_append, List.nil_append, List.getElem?_cons_zero, List.getElem?_cons_succ, Nat.le_refl, Nat.zero_le, if_true, dLt, dLen, dAbs, dMax, dPow, dII, liftO_some, isB, decide_true, decide_false, consM, retM, chk_true, nextM, List.set_cons_zero, List.set_cons_succ, dMul, dAdd, dSub, dMod, dDiv, dInt, Bool.false_eq_true, if_false, reduceIte, pure_run, and_self, decide_eq_true_eq, true_and, Int.reduceLT, Int.reduceLE, Int.reduceMul, Int.reduceAdd, or_true, true_or, h1733, h2647, h69621, h10, h]
      rfl
  obtain ⟨x, y, e⟩ := core
  refine ⟨x, y, ?_⟩
  show potted (fnM 3 q__law_pot) _ S = _
  unfold potted
  rw [e]
end KX
namespace KX
open PySem PySem.Spec PyProof.Rows L2 DS
def two_a : Env' → M (Fl × Env') := (setM 1 0 (callM 2 (consM (bVar 0 0) (consM (lstM (consM (fun _ => pure (.int 3)) (consM (fun _ => pure (.int 4)) (consM (fun _ => pure (.int 5)) (consM (fun _ => pure (.int 6)) (fun _ => pure [])))))) (fun _ => pure []))) m__law_pick))
def two_b : Env' → M (Fl × Env') := (setM 2 0 (callM 3 (consM (bVar 0 0) (consM (callM 1 (consM (bVar 0 1) (fun _ => pure [])) m__law_all) (consM (ap2 dAdd (fun _ => pure (.int 1)) (callM 2 (consM (bVar 0 0) (consM (fun _ => pure (.int 2)) (fun _ => pure []))) m__law_draw)) (fun _ => pure [])))) m__law_some))
def two_r : Env' → M (Fl × Env') := (seqM (par2 5 6 0 0 (ap2 dGet (bVar 1 2) (fun _ => pure (.int 0))) (ap2 dGet (bVar 1 2) (ap1 dNeg (fun _ => pure (.int 1))))) (seqM (setM 3 0 (ap2 dMul (lstM (consM (bVar 0 5) (consM (bVar 0 6) (fun _ => pure [])))) (callM 3 (consM (bVar 0 1) (consM (bVar 0 5) (consM (bVar 0 6) (fun _ => pure [])))) m__law_order))) (seqM (iteM (repM true (lstM (consM (callM 2 (consM (bVar 0 1) (consM (bVar 0 2) (fun _ => pure []))) m_two_ring) (consM (callKM 2 [1, 0] (consM (apL (uno dTupOf) (consM (bVar 1 2) fun _ => pure [])) (consM (bVar 0 1) (fun _ => pure []))) m_two_ring) (fun _ => pure [])))) (lstM (consM (bVar 0 3) (consM (bVar 0 3) (fun _ => pure []))))) (retM (fun _ => pure (.bl false))) nextM) (seqM (iteM (orM (tst (ap2 dIsNot (callM 3 (consM (bVar 0 1) (consM (bVar 0 2) (consM (bVar 0 3) (fun _ => pure [])))) m_is_full_ring) (fun _ => pure (.bl true)))) (tst (ap2 dNe (apL (uno dLen) (consM (callM 2 (consM (bVar 0 1) (consM (bVar 0 2) (fun _ => pure []))) m_rows_by) fun _ => pure [])) (apL (uno dLen) (consM (bVar 1 3) fun _ => pure []))))) (retM (fun _ => pure (.bl false))) nextM) (seqM (setM 4 0 (callM 2 (consM (bVar 0 1) (consM (bVar 0 2) (fun _ => pure []))) m__law_rings)) (seqM (iteM (tst (ap2 dNe (bVar 0 4) (apL (uno dSorted) (consM (iteM (tst (ap2 dEq (apL (uno dLen) (consM (bVar 1 2) fun _ => pure [])) (fun _ => pure (.int 2)))) (lstM (consM (bVar 0 3) (consM (ap1 dRev (bVar 1 3)) (fun _ => pure [])))) (lstM (consM (bVar 0 3) (fun _ => pure [])))) fun _ => pure [])))) (retM (fun _ => pure (.bl false))) nextM) (retM (ap2 dEq (callM 2 (consM (bVar 0 1) (consM (ap1 dRev (bVar 1 2)) (fun _ => pure []))) m_two_ring) (callM 2 (consM (bVar 0 1) (consM (bVar 0 3) (fun _ => pure []))) m_turned_back)))))))))
theorem two_eq : q__law_two_right = seqM two_a (seqM two_b two_r) := rfl
def endM (p : Fl × Env') : M D := match p.1 with
  | .rt d => pure d
  | .nx => pure .non
  | _ => M.bad
end KX
namespace KX
open PySem PySem.Spec PyProof.Rows L2 DS
/-- n things taken out of a list, one behind the other -/
inductive Sel : Nat → List D → List D → Prop
  | z {L} : Sel 0 L []
  | s {n L i x xs} : L[i]? = some x → Sel n (L.eraseIdx i) xs → Sel (n + 1) L (x :: xs)
def some_b : Env' → M (Fl × Env') := appM 4 0 (fun ρ => do chk (isLst 1 ρ); popAtM 1 0 (callM 2 (consM (bVar 0 0) (consM (apL (uno dLen) (consM (bVar 1 1) fun _ => pure [])) (fun _ => pure []))) m__law_draw) ρ)
theorem some_step {S : Pots} {k : Nat} {many tr : Option (D × Nat)} {L acc : List D} (hk : k < S.length) (h0 : 0 < L.length) (hL : L.length < 1000) (ha : acc.length < 1000) :
    ∃ (i : Nat) (x : D) (S' : Pots), L[i]? = some x ∧ S'.length = S.length ∧
      some_b [some (.pot k, 0), some (.lst L, 1), many, tr, some (.lst acc, 1)] S = .ok (.nx, [some (.pot k, 0), some (.lst (L.eraseIdx i), 1), many, tr, some (.lst (acc ++ [x]), 1)]) S' := by
  obtain ⟨d, S', hd, d0, d1, hS⟩ := draw_ok (S := S) (k := k) (many := (L.length : Int)) hk (by omega) (by omega)
  refine ⟨d.toNat, L[d.toNat]'(by omega), S', List.getElem?_eq_getElem _, hS, ?_⟩
  have hx : L[d.toNat]? = some (L[d.toNat]'(by omega)) := List.getElem?_eq_getElem _
  have c1 : (0 ≤ d ∧ d < (L.length : Int) ∧ L.length ≤ LIM) = True := eq_true ⟨d0, d1, by show L.length ≤ 16777216; omega⟩
  have c2 : (acc.length < LIM) = True := eq_true (by show acc.length < 16777216; omega)
  have e1 : isLst 4 [some (.pot k, 0), some (.lst L, 1), many, tr, some (.lst acc, 1)] = true := rfl
  have e2 : isLst 1 [some (.pot k, 0), some (.lst L, 1), many, tr, some (.lst acc, 1)] = true := rfl
  have e3 : popAtD 1 0 (.int d) [some (.pot k, 0), some (.lst L, 1), many, tr, some (.lst acc, 1)] = some (L[d.toNat]'(by omega), [some (.pot k, 0), some (.lst (L.eraseIdx d.toNat), 1), many, tr, some (.lst acc, 1)]) := by
    simp only [popAtD, List.getElem?_cons_succ, List.getElem?_cons_zero, Nat.zero_add, true_and, c1, if_true, hx, Option.map_some, List.set_cons_succ, List.set_cons_zero]
  have e4 : appD 4 0 (L[d.toNat]'(by omega)) [some (.pot k, 0), some (.lst (L.eraseIdx d.toNat), 1), many, tr, some (.lst acc, 1)] = some [some (.pot k, 0), some (.lst (L.eraseIdx d.toNat), 1), many, tr, some (.lst (acc ++ [L[d.toNat]'(by omega)]), 1)] := by
    simp only [appD, List.getElem?_cons_succ, List.getElem?_cons_zero, Nat.zero_add, true_and, c2, if_true, List.set_cons_succ, List.set_cons_zero]
  unfold some_b
  simp only [appM, e1, e2, chk_true, bind_pure', bind_assoc', popAtM, callM, consM, bVar, List.getElem?_cons_succ, List.getElem?_cons_zero, Nat.le_refl, if_true, apL, uno, dLen, liftO_some, List.length_cons, List.length_nil, Nat.zero_add, Nat.reduceAdd, decide_true]
  rw [bind_ok hd]
  simp only [e3, liftO_some, bind_pure', e4]
  rfl
theorem some_loop {k : Nat} {many : Option (D × Nat)} : ∀ (n : Nat) (ts : List D) (tr : Option (D × Nat)) (L acc : List D) (S : Pots), ts.length = n → k < S.length → n ≤ L.length → L.length + acc.length < 1000 →
    ∃ (xs L' : List D) (S' : Pots) (tr' : Option (D × Nat)), Sel n L xs ∧ S'.length = S.length ∧
      forM (gNm 3) some_b ts [some (.pot k, 0), some (.lst L, 1), many, tr, some (.lst acc, 1)] S = .ok (.nx, [some (.pot k, 0), some (.lst L', 1), many, tr', some (.lst (acc ++ xs), 1)]) S'
  | 0, [], tr, L, acc, S, _, hk, _, _ => ⟨[], L, S, tr, .z, rfl, by rw [List.append_nil]; rfl⟩
  | 0, _ :: _, tr, L, acc, S, h, hk, _, _ => by simp at h
  | n + 1, [], tr, L, acc, S, h, hk, _, _ => by simp at h
  | n + 1, t :: ts, tr, L, acc, S, h, hk, hn, hl => by
    obtain ⟨i, x, S1, hx, hS, e⟩ := some_step (many := many) (tr := some (t, 0)) (L := L) (acc := acc) hk (by omega) (by omega) (by omega)
    have hi : i < L.length := (List.getElem?_eq_some_iff.mp hx).1
    have l1 := List.length_eraseIdx_of_lt hi
    have l2 : (acc ++ [x]).length = acc.length + 1 := by simp
    obtain ⟨xs, L', S', tr', hs, hS', e'⟩ := some_loop n ts (some (t, 0)) (L.eraseIdx i) (acc ++ [x]) S1 (by simpa using h) (by rw [hS]; exact hk) (by omega) (by omega)
    refine ⟨x :: xs, L', S', tr', .s hx hs, hS'.trans hS, ?_⟩
    unfold DS.forM
    simp only [gNm, bind_pure', List.set_cons_succ, List.set_cons_zero]
    rw [bind_ok e]
    rw [List.append_assoc] at e'
    exact e'
theorem some_ok {S : Pots} {k : Nat} {L : List D} {many : Nat} (hk : k < S.length) (hm : many ≤ L.length) (hL : L.length < 1000) :
    ∃ (xs : List D) (S' : Pots), Sel many L xs ∧ S'.length = S.length ∧ m__law_some [.pot k, .lst L, .int many] S = .ok (.lst xs) S' := by
  obtain ⟨xs, L', S', tr', hs, hS, e⟩ := some_loop (k := k) (many := some (.int many, 0)) many (rngL 0 1 many) none L [] S rngL_length hk hm (by simpa using hL)
  refine ⟨xs, S', hs, hS, ?_⟩
  have e0 : rng1 [.int (if (L.length : Int) < (many : Int) then (L.length : Int) else (many : Int))] = some (rngL 0 1 many) := by
    rw [if_neg (by omega)]
    show (if -BIG ≤ (many : Int) ∧ (many : Int) < BIG then some (rngL 0 1 (many : Int).toNat) else none) = _
    have b1 : -BIG ≤ (many : Int) ∧ (many : Int) < BIG := ⟨by unfold BIG; omega, by unfold BIG; omega⟩
    rw [if_pos b1, Int.toNat_natCast]
  have q : q__law_some = seqM (par2 1 4 1 1 (apL (uno dListOf) (consM (bVar 1 1) fun _ => pure [])) (fun _ => pure (.lst []))) (seqM (forS (rngI rng1 (consM (apL (duo dMin) (consM (bVar 0 2) (consM (apL (uno dLen) (consM (bVar 1 1) fun _ => pure [])) (fun _ => pure [])))) (fun _ => pure []))) (gNm 3) some_b) (fun ρ => (retM (bVar 0 4)) (frzE 4 ρ))) := rfl
  show fnM 5 q__law_some _ S = _
  rw [q]
  simp only [fnM, startE, seqM, par2, List.map, List.length_cons, List.length_nil, Nat.reduceAdd, Nat.reduceSub, List.replicate, List.cons_append, List.nil_append, bind_pure', bind_assoc', consM, bVar, List.getElem?_cons_succ, List.getElem?_cons_zero, Nat.zero_le, Nat.le_refl, if_true, apL, uno, duo, dListOf, dMin, dII, dLen, liftO_some, List.set_cons_succ, List.set_cons_zero, forS, rngI, e0]
  rw [bind_ok e]
  rfl
end KX
namespace KX
open PySem PySem.Spec PyProof.Rows L2 DS
def sels : Nat → List D → List (List D)
  | 0, _ => [[]]
  | n + 1, L => (List.range L.length).flatMap fun i => match L[i]? with
    | some x => (sels n (L.eraseIdx i)).map (x :: ·)
    | none => []
theorem Sel.mem {n : Nat} {L xs : List D} (h : Sel n L xs) : xs ∈ sels n L := by
  induction h with
  | z => simp [sels]
  | @s n L i x xs hx _ ih =>
    unfold sels
    rw [List.mem_flatMap]
    refine ⟨i, List.mem_range.mpr (List.getElem?_eq_some_iff.mp hx).1, ?_⟩
    rw [hx]
    exact List.mem_map.mpr ⟨xs, ih, rfl⟩
def AllP (P : List D → Prop) : List (List D) → Prop
  | [] => True
  | x :: xs => P x ∧ AllP P xs
theorem AllP.get {P : List D → Prop} : ∀ {xs : List (List D)} {x : List D}, AllP P xs → x ∈ xs → P x
  | y :: ys, x, h, hx => by
    rcases List.mem_cons.mp hx with rfl | hx
    · exact h.1
    · exact AllP.get h.2 hx
def Two (k : Nat) (S : Pots) (b : Int) (xs : List D) : Prop := (two_r [some (.pot k, 0), some (.int b, 0), some (.lst xs, 0), none, none, none, none] >>= endM) S = .ok (.bl true) S
def al3 : List D := [.tup [.int 0], .tup [.int 2]]
theorem all3 (S : Pots) : m__law_all [.int 3] S = .ok (.lst al3) S := by kernel_rfl
theorem o3_1_0 (k : Nat) (S : Pots) : Two k S 3 [.tup [.int 0]] := by
  unfold Two
  kernel_rfl
theorem o3_1_1 (k : Nat) (S : Pots) : Two k S 3 [.tup [.int 2]] := by
  unfold Two
  kernel_rfl
theorem sel3_1 : sels 1 al3 = [[.tup [.int 0]], [.tup [.int 2]]] := rfl
theorem oc3_1 (k : Nat) (S : Pots) : AllP (Two k S 3) (sels 1 al3) := by
  rw [sel3_1]
  exact ⟨o3_1_0 k S, ⟨o3_1_1 k S, trivial⟩⟩
theorem o3_2_0 (k : Nat) (S : Pots) : Two k S 3 [.tup [.int 0], .tup [.int 2]] := by
  unfold Two
  kernel_rfl
theorem o3_2_1 (k : Nat) (S : Pots) : Two k S 3 [.tup [.int 2], .tup [.int 0]] := by
  unfold Two
  kernel_rfl
theorem sel3_2 : sels 2 al3 = [[.tup [.int 0], .tup [.int 2]], [.tup [.int 2], .tup [.int 0]]] := rfl
theorem oc3_2 (k : Nat) (S : Pots) : AllP (Two k S 3) (sels 2 al3) := by
  rw [sel3_2]
  exact ⟨o3_2_0 k S, ⟨o3_2_1 k S, trivial⟩⟩
def al4 : List D := [.tup [], .tup [.int 0, .int 1], .tup [.int 0, .int 3], .tup [.int 2, .int 3]]
theorem all4 (S : Pots) : m__law_all [.int 4] S = .ok (.lst al4) S := by kernel_rfl
theorem o4_1_0 (k : Nat) (S : Pots) : Two k S 4 [.tup []] := by
  unfold Two
  kernel_rfl
theorem o4_1_1 (k : Nat) (S : Pots) : Two k S 4 [.tup [.int 0, .int 1]] := by
  unfold Two
  kernel_rfl
theorem o4_1_2 (k : Nat) (S : Pots) : Two k S 4 [.tup [.int 0, .int 3]] := by
  unfold Two
  kernel_rfl
theorem o4_1_3 (k : Nat) (S : Pots) : Two k S 4 [.tup [.int 2, .int 3]] := by
  unfold Two
  kernel_rfl
theorem sel4_1 : sels 1 al4 = [[.tup []], [.tup [.int 0, .int 1]], [.tup [.int 0, .int 3]], [.tup [.int 2, .int 3]]] := rfl
theorem oc4_1 (k : Nat) (S : Pots) : AllP (Two k S 4) (sels 1 al4) := by
  rw [sel4_1]
  exact ⟨o4_1_0 k S, ⟨o4_1_1 k S, ⟨o4_1_2 k S, ⟨o4_1_3 k S, trivial⟩⟩⟩⟩
theorem o4_2_0 (k : Nat) (S : Pots) : Two k S 4 [.tup [], .tup [.int 0, .int 1]] := by
  unfold Two
  kernel_rfl
theorem o4_2_1 (k : Nat) (S : Pots) : Two k S 4 [.tup [], .tup [.int 0, .int 3]] := by
  unfold Two
  kernel_rfl
theorem o4_2_2 (k : Nat) (S : Pots) : Two k S 4 [.tup [], .tup [.int 2, .int 3]] := by
  unfold Two
  kernel_rfl
theorem o4_2_3 (k : Nat) (S : Pots) : Two k S 4 [.tup [.int 0, .int 1], .tup []] := by
  unfold Two
  kernel_rfl
theorem o4_2_4 (k : Nat) (S : Pots) : Two k S 4 [.tup [.int 0, .int 1], .tup [.int 0, .int 3]] := by
  unfold Two
  kernel_rfl
theorem o4_2_5 (k : Nat) (S : Pots) : Two k S 4 [.tup [.int 0, .int 1], .tup [.int 2, .int 3]] := by
  unfold Two
  kernel_rfl
theorem o4_2_6 (k : Nat) (S : Pots) : Two k S 4 [.tup [.int 0, .int 3], .tup []] := by
  unfold Two
  kernel_rfl
theorem o4_2_7 (k : Nat) (S : Pots) : Two k S 4 [.tup [.int 0, .int 3], .tup [.int 0, .int 1]] := by
  unfold Two
  kernel_rfl
theorem o4_2_8 (k : Nat) (S : Pots) : Two k S 4 [.tup [.int 0, .int 3], .tup [.int 2, .int 3]] := by
  unfold Two
  kernel_rfl
theorem o4_2_9 (k : Nat) (S : Pots) : Two k S 4 [.tup [.int 2, .int 3], .tup []] := by
  unfold Two
  kernel_rfl
theorem o4_2_10 (k : Nat) (S : Pots) : Two k S 4 [.tup [.int 2, .int 3], .tup [.int 0, .int 1]] := by
  unfold Two
  kernel_rfl
theorem o4_2_11 (k : Nat) (S : Pots) : Two k S 4 [.tup [.int 2, .int 3], .tup [.int 0, .int 3]] := by
  unfold Two
  kernel_rfl
theorem sel4_2 : sels 2 al4 = [[.tup [], .tup [.int 0, .int 1]], [.tup [], .tup [.int 0, .int 3]], [.tup [], .tup [.int 2, .int 3]], [.tup [.int 0, .int 1], .tup []], [.tup [.int 0, .int 1], .tup [.int 0, .int 3]], [.tup [.int 0, .int 1], .tup [.int 2, .int 3]], [.tup [.int 0, .int 3], .tup []], [.tup [.int 0, .int 3], .tup [.int 0, .int 1]], [.tup [.int 0, .int 3], .tup [.int 2, .int 3]], [.tup [.int 2, .int 3], .tup []], [.tup [.int 2, .int 3], .tup [.int 0, .int 1]], [.tup [.int 2, .int 3], .tup [.int 0, .int 3]]] := rfl
theorem oc4_2 (k : Nat) (S : Pots) : AllP (Two k S 4) (sels 2 al4) := by
  rw [sel4_2]
  exact ⟨o4_2_0 k S, ⟨o4_2_1 k S, ⟨o4_2_2 k S, ⟨o4_2_3 k S, ⟨o4_2_4 k S, ⟨o4_2_5 k S, ⟨o4_2_6 k S, ⟨o4_2_7 k S, ⟨o4_2_8 k S, ⟨o4_2_9 k S, ⟨o4_2_10 k S, ⟨o4_2_11 k S, trivial⟩⟩⟩⟩⟩⟩⟩⟩⟩⟩⟩⟩
def al5 : List D := [.tup [.int 0], .tup [.int 0, .int 1, .int 2], .tup [.int 0, .int 1, .int 4], .tup [.int 0, .int 3, .int 4], .tup [.int 2], .tup [.int 2, .int 3, .int 4], .tup [.int 4]]
theorem all5 (S : Pots) : m__law_all [.int 5] S = .ok (.lst al5) S := by kernel_rfl
theorem o5_1_0 (k : Nat) (S : Pots) : Two k S 5 [.tup [.int 0]] := by
  unfold Two
  kernel_rfl
theorem o5_1_1 (k : Nat) (S : Pots) : Two k S 5 [.tup [.int 0, .int 1, .int 2]] := by
  unfold Two
  kernel_rfl
theorem o5_1_2 (k : Nat) (S : Pots) : Two k S 5 [.tup [.int 0, .int 1, .int 4]] := by
  unfold Two
  kernel_rfl
theorem o5_1_3 (k : Nat) (S : Pots) : Two k S 5 [.tup [.int 0, .int 3, .int 4]] := by
  unfold Two
  kernel_rfl
theorem o5_1_4 (k : Nat) (S : Pots) : Two k S 5 [.tup [.int 2]] := by
  unfold Two
  kernel_rfl
theorem o5_1_5 (k : Nat) (S : Pots) : Two k S 5 [.tup [.int 2, .int 3, .int 4]] := by
  unfold Two
  kernel_rfl
theorem o5_1_6 (k : Nat) (S : Pots) : Two k S 5 [.tup [.int 4]] := by
  unfold Two
  kernel_rfl
theorem sel5_1 : sels 1 al5 = [[.tup [.int 0]], [.tup [.int 0, .int 1, .int 2]], [.tup [.int 0, .int 1, .int 4]], [.tup [.int 0, .int 3, .int 4]], [.tup [.int 2]], [.tup [.int 2, .int 3, .int 4]], [.tup [.int 4]]] := rfl
theorem oc5_1 (k : Nat) (S : Pots) : AllP (Two k S 5) (sels 1 al5) := by
  rw [sel5_1]
  exact ⟨o5_1_0 k S, ⟨o5_1_1 k S, ⟨o5_1_2 k S, ⟨o5_1_3 k S, ⟨o5_1_4 k S, ⟨o5_1_5 k S, ⟨o5_1_6 k S, trivial⟩⟩⟩⟩⟩⟩⟩
theorem o5_2_0 (k : Nat) (S : Pots) : Two k S 5 [.tup [.int 0], .tup [.int 0, .int 1, .int 2]] := by
  unfold Two
  kernel_rfl
theorem o5_2_1 (k : Nat) (S : Pots) : Two k S 5 [.tup [.int 0], .tup [.int 0, .int 1, .int 4]] := by
  unfold Two
  kernel_rfl
theorem o5_2_2 (k : Nat) (S : Pots) : Two k S 5 [.tup [.int 0], .tup [.int 0, .int 3, .int 4]] := by
  unfold Two
  kernel_rfl
theorem o5_2_3 (k : Nat) (S : Pots) : Two k S 5 [.tup [.int 0], .tup [.int 2]] := by
  unfold Two
  kernel_rfl
theorem o5_2_4 (k : Nat) (S : Pots) : Two k S 5 [.tup [.int 0], .tup [.int 2, .int 3, .int 4]] := by
  unfold Two
  kernel_rfl
theorem o5_2_5 (k : Nat) (S : Pots) : Two k S 5 [.tup [.int 0], .tup [.int 4]] := by
  unfold Two
  kernel_rfl
theorem o5_2_6 (k : Nat) (S : Pots) : Two k S 5 [.tup [.int 0, .int 1, .int 2], .tup [.int 0]] := by
  unfold Two
  kernel_rfl
theorem o5_2_7 (k : Nat) (S : Pots) : Two k S 5 [.tup [.int 0, .int 1, .int 2], .tup [.int 0, .int 1, .int 4]] := by
  unfold Two
  kernel_rfl
theorem o5_2_8 (k : Nat) (S : Pots) : Two k S 5 [.tup [.int 0, .int 1, .int 2], .tup [.int 0, .int 3, .int 4]] := by
  unfold Two
  kernel_rfl
theorem o5_2_9 (k : Nat) (S : Pots) : Two k S 5 [.tup [.int 0, .int 1, .int 2], .tup [.int 2]] := by
  unfold Two
  kernel_rfl
theorem o5_2_10 (k : Nat) (S : Pots) : Two k S 5 [.tup [.int 0, .int 1, .int 2], .tup [.int 2, .int 3, .int 4]] := by
  unfold Two
  kernel_rfl
theorem o5_2_11 (k : Nat) (S : Pots) : Two k S 5 [.tup [.int 0, .int 1, .int 2], .tup [.int 4]] := by
  unfold Two
  kernel_rfl
theorem o5_2_12 (k : Nat) (S : Pots) : Two k S 5 [.tup [.int 0, .int 1, .int 4], .tup [.int 0]] := by
  unfold Two
  kernel_rfl
theorem o5_2_13 (k : Nat) (S : Pots) : Two k S 5 [.tup [.int 0, .int 1, .int 4], .tup [.int 0, .int 1, .int 2]] := by
  unfold Two
  kernel_rfl
theorem o5_2_14 (k : Nat) (S : Pots) : Two k S 5 [.tup [.int 0, .int 1, .int 4], .tup [.int 0, .int 3, .int 4]] := by
  unfold Two
  kernel_rfl
theorem o5_2_15 (k : Nat) (S : Pots) : Two k S 5 [.tup [.int 0, .int 1, .int 4], .tup [.int 2]] := by
  unfold Two
  kernel_rfl
theorem o5_2_16 (k : Nat) (S : Pots) : Two k S 5 [.tup [.int 0, .int 1, .int 4], .tup [.int 2, .int 3, .int 4]] := by
  unfold Two
  kernel_rfl
theorem o5_2_17 (k : Nat) (S : Pots) : Two k S 5 [.tup [.int 0, .int 1, .int 4], .tup [.int 4]] := by
  unfold Two
  kernel_rfl
theorem o5_2_18 (k : Nat) (S : Pots) : Two k S 5 [.tup [.int 0, .int 3, .int 4], .tup [.int 0]] := by
  unfold Two
  kernel_rfl
theorem o5_2_19 (k : Nat) (S : Pots) : Two k S 5 [.tup [.int 0, .int 3, .int 4], .tup [.int 0, .int 1, .int 2]] := by
  unfold Two
  kernel_rfl
theorem o5_2_20 (k : Nat) (S : Pots) : Two k S 5 [.tup [.int 0, .int 3, .int 4], .tup [.int 0, .int 1, .int 4]] := by
  unfold Two
  kernel_rfl
theorem o5_2_21 (k : Nat) (S : Pots) : Two k S 5 [.tup [.int 0, .int 3, .int 4], .tup [.int 2]] := by
  unfold Two
  kernel_rfl
theorem o5_2_22 (k : Nat) (S : Pots) : Two k S 5 [.tup [.int 0, .int 3, .int 4], .tup [.int 2, .int 3, .int 4]] := by
  unfold Two
  kernel_rfl
theorem o5_2_23 (k : Nat) (S : Pots) : Two k S 5 [.tup [.int 0, .int 3, .int 4], .tup [.int 4]] := by
  unfold Two
  kernel_rfl
theorem o5_2_24 (k : Nat) (S : Pots) : Two k S 5 [.tup [.int 2], .tup [.int 0]] := by
  unfold Two
  kernel_rfl
theorem o5_2_25 (k : Nat) (S : Pots) : Two k S 5 [.tup [.int 2], .tup [.int 0, .int 1, .int 2]] := by
  unfold Two
  kernel_rfl
theorem o5_2_26 (k : Nat) (S : Pots) : Two k S 5 [.tup [.int 2], .tup [.int 0, .int 1, .int 4]] := by
  unfold Two
  kernel_rfl
theorem o5_2_27 (k : Nat) (S : Pots) : Two k S 5 [.tup [.int 2], .tup [.int 0, .int 3, .int 4]] := by
  unfold Two
  kernel_rfl
theorem o5_2_28 (k : Nat) (S : Pots) : Two k S 5 [.tup [.int 2], .tup [.int 2, .int 3, .int 4]] := by
  unfold Two
  kernel_rfl
theorem o5_2_29 (k : Nat) (S : Pots) : Two k S 5 [.tup [.int 2], .tup [.int 4]] := by
  unfold Two
  kernel_rfl
theorem o5_2_30 (k : Nat) (S : Pots) : Two k S 5 [.tup [.int 2, .int 3, .int 4], .tup [.int 0]] := by
  unfold Two
  kernel_rfl
theorem o5_2_31 (k : Nat) (S : Pots) : Two k S 5 [.tup [.int 2, .int 3, .int 4], .tup [.int 0, .int 1, .int 2]] := by
  unfold Two
  kernel_rfl
theorem o5_2_32 (k : Nat) (S : Pots) : Two k S 5 [.tup [.int 2, .int 3, .int 4], .tup [.int 0, .int 1, .int 4]] := by
  unfold Two
  kernel_rfl
theorem o5_2_33 (k : Nat) (S : Pots) : Two k S 5 [.tup [.int 2, .int 3, .int 4], .tup [.int 0, .int 3, .int 4]] := by
  unfold Two
  kernel_rfl
theorem o5_2_34 (k : Nat) (S : Pots) : Two k S 5 [.tup [.int 2, .int 3, .int 4], .tup [.int 2]] := by
  unfold Two
  kernel_rfl
theorem o5_2_35 (k : Nat) (S : Pots) : Two k S 5 [.tup [.int 2, .int 3, .int 4], .tup [.int 4]] := by
  unfold Two
  kernel_rfl
theorem o5_2_36 (k : Nat) (S : Pots) : Two k S 5 [.tup [.int 4], .tup [.int 0]] := by
  unfold Two
  kernel_rfl
theorem o5_2_37 (k : Nat) (S : Pots) : Two k S 5 [.tup [.int 4], .tup [.int 0, .int 1, .int 2]] := by
  unfold Two
  kernel_rfl
theorem o5_2_38 (k : Nat) (S : Pots) : Two k S 5 [.tup [.int 4], .tup [.int 0, .int 1, .int 4]] := by
  unfold Two
  kernel_rfl
theorem o5_2_39 (k : Nat) (S : Pots) : Two k S 5 [.tup [.int 4], .tup [.int 0, .int 3, .int 4]] := by
  unfold Two
  kernel_rfl
theorem o5_2_40 (k : Nat) (S : Pots) : Two k S 5 [.tup [.int 4], .tup [.int 2]] := by
  unfold Two
  kernel_rfl
theorem o5_2_41 (k : Nat) (S : Pots) : Two k S 5 [.tup [.int 4], .tup [.int 2, .int 3, .int 4]] := by
  unfold Two
  kernel_rfl
theorem sel5_2 : sels 2 al5 = [[.tup [.int 0], .tup [.int 0, .int 1, .int 2]], [.tup [.int 0], .tup [.int 0, .int 1, .int 4]], [.tup [.int 0], .tup [.int 0, .int 3, .int 4]], [.tup [.int 0], .tup [.int 2]], [.tup [.int 0], .tup [.int 2, .int 3, .int 4]], [.tup [.int 0], .tup [.int 4]], [.tup [.int 0, .int 1, .int 2], .tup [.int 0]], [.tup [.int 0, .int 1, .int 2], .tup [.int 0, .int 1, .int 4]], [.tup [.int 0, .int 1, .int 2], .tup [.int 0, .int 3, .int 4]], [.tup [.int 0, .int 1, .int 2], .tup [.int 2]], [.tup [.int 0, .int 1, .int 2], .tup [.int 2, .int 3, .int 4]], [.tup [.int 0, .int 1, .int 2], .tup [.int 4]], [.tup [.int 0, .int 1, .int 4], .tup [.int 0]], [.tup [.int 0, .int 1, .int 4], .tup [.int 0, .int 1, .int 2]], [.tup [.int 0, .int 1, .int 4], .tup [.int 0, .int 3, .int 4]], [.tup [.int 0, .int 1, .int 4], .tup [.int 2]], [.tup [.int 0, .int 1, .int 4], .tup [.int 2, .int 3, .int 4]], [.tup [.int 0, .int 1, .int 4], .tup [.int 4]], [.tup [.int 0, .int 3, .int 4], .tup [.int 0]], [.tup [.int 0, .int 3, .int 4], .tup [.int 0, .int 1, .int 2]], [.tup [.int 0, .int 3, .int 4], .tup [.int 0, .int 1, .int 4]], [.tup [.int 0, .int 3, .int 4], .tup [.int 2]], [.tup [.int 0, .int 3, .int 4], .tup [.int 2, .int 3, .int 4]], [.tup [.int 0, .int 3, .int 4], .tup [.int 4]], [.tup [.int 2], .tup [.int 0]], [.tup [.int 2], .tup [.int 0, .int 1, .int 2]], [.tup [.int 2], .tup [.int 0, .int 1, .int 4]], [.tup [.int 2], .tup [.int 0, .int 3, .int 4]], [.tup [.int 2], .tup [.int 2, .int 3, .int 4]], [.tup [.int 2], .tup [.int 4]], [.tup [.int 2, .int 3, .int 4], .tup [.int 0]], [.tup [.int 2, .int 3, .int 4], .tup [.int 0, .int 1, .int 2]], [.tup [.int 2, .int 3, .int 4], .tup [.int 0, .int 1, .int 4]], [.tup [.int 2, .int 3, .int 4], .tup [.int 0, .int 3, .int 4]], [.tup [.int 2, .int 3, .int 4], .tup [.int 2]], [.tup [.int 2, .int 3, .int 4], .tup [.int 4]], [.tup [.int 4], .tup [.int 0]], [.tup [.int 4], .tup [.int 0, .int 1, .int 2]], [.tup [.int 4], .tup [.int 0, .int 1, .int 4]], [.tup [.int 4], .tup [.int 0, .int 3, .int 4]], [.tup [.int 4], .tup [.int 2]], [.tup [.int 4], .tup [.int 2, .int 3, .int 4]]] := rfl
theorem oc5_2 (k : Nat) (S : Pots) : AllP (Two k S 5) (sels 2 al5) := by
  rw [sel5_2]
  exact ⟨o5_2_0 k S, ⟨o5_2_1 k S, ⟨o5_2_2 k S, ⟨o5_2_3 k S, ⟨o5_2_4 k S, ⟨o5_2_5 k S, ⟨o5_2_6 k S, ⟨o5_2_7 k S, ⟨o5_2_8 k S, ⟨o5_2_9 k S, ⟨o5_2_10 k S, ⟨o5_2_11 k S, ⟨o5_2_12 k S, ⟨o5_2_13 k S, ⟨o5_2_14 k S, ⟨o5_2_15 k S, ⟨o5_2_16 k S, ⟨o5_2_17 k S, ⟨o5_2_18 k S, ⟨o5_2_19 k S, ⟨o5_2_20 k S, ⟨o5_2_21 k S, ⟨o5_2_22 k S, ⟨o5_2_23 k S, ⟨o5_2_24 k S, ⟨o5_2_25 k S, ⟨o5_2_26 k S, ⟨o5_2_27 k S, ⟨o5_2_28 k S, ⟨o5_2_29 k S, ⟨o5_2_30 k S, ⟨o5_2_31 k S, ⟨o5_2_32 k S, ⟨o5_2_33 k S, ⟨o5_2_34 k S, ⟨o5_2_35 k S, ⟨o5_2_36 k S, ⟨o5_2_37 k S, ⟨o5_2_38 k S, ⟨o5_2_39 k S, ⟨o5_2_40 k S, ⟨o5_2_41 k S, trivial⟩⟩⟩⟩⟩⟩⟩⟩⟩⟩⟩⟩⟩⟩⟩⟩⟩⟩⟩⟩⟩⟩⟩⟩⟩⟩⟩⟩⟩⟩⟩⟩⟩⟩⟩⟩⟩⟩⟩⟩⟩⟩
def al6 : List D := [.tup [], .tup [.int 0, .int 1], .tup [.int 0, .int 1, .int 2, .int 3], .tup [.int 0, .int 1, .int 2, .int 5], .tup [.int 0, .int 1, .int 4, .int 5], .tup [.int 0, .int 3], .tup [.int 0, .int 3, .int 4, .int 5], .tup [.int 0, .int 5], .tup [.int 2, .int 3], .tup [.int 2, .int 3, .int 4, .int 5], .tup [.int 2, .int 5], .tup [.int 4, .int 5]]
theorem all6 (S : Pots) : m__law_all [.int 6] S = .ok (.lst al6) S := by kernel_rfl
theorem o6_1_0 (k : Nat) (S : Pots) : Two k S 6 [.tup []] := by
  unfold Two
  kernel_rfl
theorem o6_1_1 (k : Nat) (S : Pots) : Two k S 6 [.tup [.int 0, .int 1]] := by
  unfold Two
  kernel_rfl
theorem o6_1_2 (k : Nat) (S : Pots) : Two k S 6 [.tup [.int 0, .int 1, .int 2, .int 3]] := by
  unfold Two
  kernel_rfl
theorem o6_1_3 (k : Nat) (S : Pots) : Two k S 6 [.tup [.int 0, .int 1, .int 2, .int 5]] := by
  unfold Two
  kernel_rfl
theorem o6_1_4 (k : Nat) (S : Pots) : Two k S 6 [.tup [.int 0, .int 1, .int 4, .int 5]] := by
  unfold Two
  kernel_rfl
theorem o6_1_5 (k : Nat) (S : Pots) : Two k S 6 [.tup [.int 0, .int 3]] := by
  unfold Two
  kernel_rfl
theorem o6_1_6 (k : Nat) (S : Pots) : Two k S 6 [.tup [.int 0, .int 3, .int 4, .int 5]] := by
  unfold Two
  kernel_rfl
theorem o6_1_7 (k : Nat) (S : Pots) : Two k S 6 [.tup [.int 0, .int 5]] := by
  unfold Two
  kernel_rfl
theorem o6_1_8 (k : Nat) (S : Pots) : Two k S 6 [.tup [.int 2, .int 3]] := by
  unfold Two
  kernel_rfl
theorem o6_1_9 (k : Nat) (S : Pots) : Two k S 6 [.tup [.int 2, .int 3, .int 4, .int 5]] := by
  unfold Two
  kernel_rfl
theorem o6_1_10 (k : Nat) (S : Pots) : Two k S 6 [.tup [.int 2, .int 5]] := by
  unfold Two
  kernel_rfl
theorem o6_1_11 (k : Nat) (S : Pots) : Two k S 6 [.tup [.int 4, .int 5]] := by
  unfold Two
  kernel_rfl
theorem sel6_1 : sels 1 al6 = [[.tup []], [.tup [.int 0, .int 1]], [.tup [.int 0, .int 1, .int 2, .int 3]], [.tup [.int 0, .int 1, .int 2, .int 5]], [.tup [.int 0, .int 1, .int 4, .int 5]], [.tup [.int 0, .int 3]], [.tup [.int 0, .int 3, .int 4, .int 5]], [.tup [.int 0, .int 5]], [.tup [.int 2, .int 3]], [.tup [.int 2, .int 3, .int 4, .int 5]], [.tup [.int 2, .int 5]], [.tup [.int 4, .int 5]]] := rfl
theorem oc6_1 (k : Nat) (S : Pots) : AllP (Two k S 6) (sels 1 al6) := by
  rw [sel6_1]
  exact ⟨o6_1_0 k S, ⟨o6_1_1 k S, ⟨o6_1_2 k S, ⟨o6_1_3 k S, ⟨o6_1_4 k S, ⟨o6_1_5 k S, ⟨o6_1_6 k S, ⟨o6_1_7 k S, ⟨o6_1_8 k S, ⟨o6_1_9 k S, ⟨o6_1_10 k S, ⟨o6_1_11 k S, trivial⟩⟩⟩⟩⟩⟩⟩⟩⟩⟩⟩⟩
theorem o6_2_0 (k : Nat) (S : Pots) : Two k S 6 [.tup [], .tup [.int 0, .int 1]] := by
  unfold Two
  kernel_rfl
theorem o6_2_1 (k : Nat) (S : Pots) : Two k S 6 [.tup [], .tup [.int 0, .int 1, .int 2, .int 3]] := by
  unfold Two
  kernel_rfl
theorem o6_2_2 (k : Nat) (S : Pots) : Two k S 6 [.tup [], .tup [.int 0, .int 1, .int 2, .int 5]] := by
  unfold Two
  kernel_rfl
theorem o6_2_3 (k : Nat) (S : Pots) : Two k S 6 [.tup [], .tup [.int 0, .int 1, .int 4, .int 5]] := by
  unfold Two
  kernel_rfl
theorem o6_2_4 (k : Nat) (S : Pots) : Two k S 6 [.tup [], .tup [.int 0, .int 3]] := by
  unfold Two
  kernel_rfl
theorem o6_2_5 (k : Nat) (S : Pots) : Two k S 6 [.tup [], .tup [.int 0, .int 3, .int 4, .int 5]] := by
  unfold Two
  kernel_rfl
theorem o6_2_6 (k : Nat) (S : Pots) : Two k S 6 [.tup [], .tup [.int 0, .int 5]] := by
  unfold Two
  kernel_rfl
theorem o6_2_7 (k : Nat) (S : Pots) : Two k S 6 [.tup [], .tup [.int 2, .int 3]] := by
  unfold Two
  kernel_rfl
theorem o6_2_8 (k : Nat) (S : Pots) : Two k S 6 [.tup [], .tup [.int 2, .int 3, .int 4, .int 5]] := by
  unfold Two
  kernel_rfl
theorem o6_2_9 (k : Nat) (S : Pots) : Two k S 6 [.tup [], .tup [.int 2, .int 5]] := by
  unfold Two
  kernel_rfl
theorem o6_2_10 (k : Nat) (S : Pots) : Two k S 6 [.tup [], .tup [.int 4, .int 5]] := by
  unfold Two
  kernel_rfl
theorem o6_2_11 (k : Nat) (S : Pots) : Two k S 6 [.tup [.int 0, .int 1], .tup []] := by
  unfold Two
  kernel_rfl
theorem o6_2_12 (k : Nat) (S : Pots) : Two k S 6 [.tup [.int 0, .int 1], .tup [.int 0, .int 1, .int 2, .int 3]] := by
  unfold Two
  kernel_rfl
theorem o6_2_13 (k : Nat) (S : Pots) : Two k S 6 [.tup [.int 0, .int 1], .tup [.int 0, .int 1, .int 2, .int 5]] := by
  unfold Two
  kernel_rfl
theorem o6_2_14 (k : Nat) (S : Pots) : Two k S 6 [.tup [.int 0, .int 1], .tup [.int 0, .int 1, .int 4, .int 5]] := by
  unfold Two
  kernel_rfl
theorem o6_2_15 (k : Nat) (S : Pots) : Two k S 6 [.tup [.int 0, .int 1], .tup [.int 0, .int 3]] := by
  unfold Two
  kernel_rfl
theorem o6_2_16 (k : Nat) (S : Pots) : Two k S 6 [.tup [.int 0, .int 1], .tup [.int 0, .int 3, .int 4, .int 5]] := by
  unfold Two
  kernel_rfl
theorem o6_2_17 (k : Nat) (S : Pots) : Two k S 6 [.tup [.int 0, .int 1], .tup [.int 0, .int 5]] := by
  unfold Two
  kernel_rfl
theorem o6_2_18 (k : Nat) (S : Pots) : Two k S 6 [.tup [.int 0, .int 1], .tup [.int 2, .int 3]] := by
  unfold Two
  kernel_rfl
theorem o6_2_19 (k : Nat) (S : Pots) : Two k S 6 [.tup [.int 0, .int 1], .tup [.int 2, .int 3, .int 4, .int 5]] := by
  unfold Two
  kernel_rfl
theorem o6_2_20 (k : Nat) (S : Pots) : Two k S 6 [.tup [.int 0, .int 1], .tup [.int 2, .int 5]] := by
  unfold Two
  kernel_rfl
theorem o6_2_21 (k : Nat) (S : Pots) : Two k S 6 [.tup [.int 0, .int 1], .tup [.int 4, .int 5]] := by
  unfold Two
  kernel_rfl
theorem o6_2_22 (k : Nat) (S : Pots) : Two k S 6 [.tup [.int 0, .int 1, .int 2, .int 3], .tup []] := by
  unfold Two
  kernel_rfl
theorem o6_2_23 (k : Nat) (S : Pots) : Two k S 6 [.tup [.int 0, .int 1, .int 2, .int 3], .tup [.int 0, .int 1]] := by
  unfold Two
  kernel_rfl
theorem o6_2_24 (k : Nat) (S : Pots) : Two k S 6 [.tup [.int 0, .int 1, .int 2, .int 3], .tup [.int 0, .int 1, .int 2, .int 5]] := by
  unfold Two
  kernel_rfl
theorem o6_2_25 (k : Nat) (S : Pots) : Two k S 6 [.tup [.int 0, .int 1, .int 2, .int 3], .tup [.int 0, .int 1, .int 4, .int 5]] := by
  unfold Two
  kernel_rfl
theorem o6_2_26 (k : Nat) (S : Pots) : Two k S 6 [.tup [.int 0, .int 1, .int 2, .int 3], .tup [.int 0, .int 3]] := by
  unfold Two
  kernel_rfl
theorem o6_2_27 (k : Nat) (S : Pots) : Two k S 6 [.tup [.int 0, .int 1, .int 2, .int 3], .tup [.int 0, .int 3, .int 4, .int 5]] := by
  unfold Two
  kernel_rfl
theorem o6_2_28 (k : Nat) (S : Pots) : Two k S 6 [.tup [.int 0, .int 1, .int 2, .int 3], .tup [.int 0, .int 5]] := by
  unfold Two
  kernel_rfl
theorem o6_2_29 (k : Nat) (S : Pots) : Two k S 6 [.tup [.int 0, .int 1, .int 2, .int 3], .tup [.int 2, .int 3]] := by
  unfold Two
  kernel_rfl
theorem o6_2_30 (k : Nat) (S : Pots) : Two k S 6 [.tup [.int 0, .int 1, .int 2, .int 3], .tup [.int 2, .int 3, .int 4, .int 5]] := by
  unfold Two
  kernel_rfl
theorem o6_2_31 (k : Nat) (S : Pots) : Two k S 6 [.tup [.int 0, .int 1, .int 2, .int 3], .tup [.int 2, .int 5]] := by
  unfold Two
  kernel_rfl
theorem o6_2_32 (k : Nat) (S : Pots) : Two k S 6 [.tup [.int 0, .int 1, .int 2, .int 3], .tup [.int 4, .int 5]] := by
  unfold Two
  kernel_rfl
theorem o6_2_33 (k : Nat) (S : Pots) : Two k S 6 [.tup [.int 0, .int 1, .int 2, .int 5], .tup []] := by
  unfold Two
  kernel_rfl
theorem o6_2_34 (k : Nat) (S : Pots) : Two k S 6 [.tup [.int 0, .int 1, .int 2, .int 5], .tup [.int 0, .int 1]] := by
  unfold Two
  kernel_rfl
theorem o6_2_35 (k : Nat) (S : Pots) : Two k S 6 [.tup [.int 0, .int 1, .int 2, .int 5], .tup [.int 0, .int 1, .int 2, .int 3]] := by
  unfold Two
  kernel_rfl
theorem o6_2_36 (k : Nat) (S : Pots) : Two k S 6 [.tup [.int 0, .int 1, .int 2, .int 5], .tup [.int 0, .int 1, .int 4, .int 5]] := by
  unfold Two
  kernel_rfl
theorem o6_2_37 (k : Nat) (S : Pots) : Two k S 6 [.tup [.int 0, .int 1, .int 2, .int 5], .tup [.int 0, .int 3]] := by
  unfold Two
  kernel_rfl
theorem o6_2_38 (k : Nat) (S : Pots) : Two k S 6 [.tup [.int 0, .int 1, .int 2, .int 5], .tup [.int 0, .int 3, .int 4, .int 5]] := by
  unfold Two
  kernel_rfl
theorem o6_2_39 (k : Nat) (S : Pots) : Two k S 6 [.tup [.int 0, .int 1, .int 2, .int 5], .tup [.int 0, .int 5]] := by
  unfold Two
  kernel_rfl
theorem o6_2_40 (k : Nat) (S : Pots) : Two k S 6 [.tup [.int 0, .int 1, .int 2, .int 5], .tup [.int 2, .int 3]] := by
  unfold Two
  kernel_rfl
theorem o6_2_41 (k : Nat) (S : Pots) : Two k S 6 [.tup [.int 0, .int 1, .int 2, .int 5], .tup [.int 2, .int 3, .int 4, .int 5]] := by
  unfold Two
  kernel_rfl
theorem o6_2_42 (k : Nat) (S : Pots) : Two k S 6 [.tup [.int 0, .int 1, .int 2, .int 5], .tup [.int 2, .int 5]] := by
  unfold Two
  kernel_rfl
theorem o6_2_43 (k : Nat) (S : Pots) : Two k S 6 [.tup [.int 0, .int 1, .int 2, .int 5], .tup [.int 4, .int 5]] := by
  unfold Two
  kernel_rfl
theorem o6_2_44 (k : Nat) (S : Pots) : Two k S 6 [.tup [.int 0, .int 1, .int 4, .int 5], .tup []] := by
  unfold Two
  kernel_rfl
theorem o6_2_45 (k : Nat) (S : Pots) : Two k S 6 [.tup [.int 0, .int 1, .int 4, .int 5], .tup [.int 0, .int 1]] := by
  unfold Two
  kernel_rfl
theorem o6_2_46 (k : Nat) (S : Pots) : Two k S 6 [.tup [.int 0, .int 1, .int 4, .int 5], .tup [.int 0, .int 1, .int 2, .int 3]] := by
  unfold Two
  kernel_rfl
theorem o6_2_47 (k : Nat) (S : Pots) : Two k S 6 [.tup [.int 0, .int 1, .int 4, .int 5], .tup [.int 0, .int 1, .int 2, .int 5]] := by
  unfold Two
  kernel_rfl
theorem o6_2_48 (k : Nat) (S : Pots) : Two k S 6 [.tup [.int 0, .int 1, .int 4, .int 5], .tup [.int 0, .int 3]] := by
  unfold Two
  kernel_rfl
theorem o6_2_49 (k : Nat) (S : Pots) : Two k S 6 [.tup [.int 0, .int 1, .int 4, .int 5], .tup [.int 0, .int 3, .int 4, .int 5]] := by
  unfold Two
  kernel_rfl
theorem o6_2_50 (k : Nat) (S : Pots) : Two k S 6 [.tup [.int 0, .int 1, .int 4, .int 5], .tup [.int 0, .int 5]] := by
  unfold Two
  kernel_rfl
theorem o6_2_51 (k : Nat) (S : Pots) : Two k S 6 [.tup [.int 0, .int 1, .int 4, .int 5], .tup [.int 2, .int 3]] := by
  unfold Two
  kernel_rfl
theorem o6_2_52 (k : Nat) (S : Pots) : Two k S 6 [.tup [.int 0, .int 1, .int 4, .int 5], .tup [.int 2, .int 3, .int 4, .int 5]] := by
  unfold Two
  kernel_rfl
theorem o6_2_53 (k : Nat) (S : Pots) : Two k S 6 [.tup [.int 0, .int 1, .int 4, .int 5], .tup [.int 2, .int 5]] := by
  unfold Two
  kernel_rfl
theorem o6_2_54 (k : Nat) (S : Pots) : Two k S 6 [.tup [.int 0, .int 1, .int 4, .int 5], .tup [.int 4, .int 5]] := by
  unfold Two
  kernel_rfl
theorem o6_2_55 (k : Nat) (S : Pots) : Two k S 6 [.tup [.int 0, .int 3], .tup []] := by
  unfold Two
  kernel_rfl
theorem o6_2_56 (k : Nat) (S : Pots) : Two k S 6 [.tup [.int 0, .int 3], .tup [.int 0, .int 1]] := by
  unfold Two
  kernel_rfl
theorem o6_2_57 (k : Nat) (S : Pots) : Two k S 6 [.tup [.int 0, .int 3], .tup [.int 0, .int 1, .int 2, .int 3]] := by
  unfold Two
  kernel_rfl
theorem o6_2_58 (k : Nat) (S : Pots) : Two k S 6 [.tup [.int 0, .int 3], .tup [.int 0, .int 1, .int 2, .int 5]] := by
  unfold Two
  kernel_rfl
theorem o6_2_59 (k : Nat) (S : Pots) : Two k S 6 [.tup [.int 0, .int 3], .tup [.int 0, .int 1, .int 4, .int 5]] := by
  unfold Two
  kernel_rfl
theorem o6_2_60 (k : Nat) (S : Pots) : Two k S 6 [.tup [.int 0, .int 3], .tup [.int 0, .int 3, .int 4, .int 5]] := by
  unfold Two
  kernel_rfl
theorem o6_2_61 (k : Nat) (S : Pots) : Two k S 6 [.tup [.int 0, .int 3], .tup [.int 0, .int 5]] := by
  unfold Two
  kernel_rfl
theorem o6_2_62 (k : Nat) (S : Pots) : Two k S 6 [.tup [.int 0, .int 3], .tup [.int 2, .int 3]] := by
  unfold Two
  kernel_rfl
theorem o6_2_63 (k : Nat) (S : Pots) : Two k S 6 [.tup [.int 0, .int 3], .tup [.int 2, .int 3, .int 4, .int 5]] := by
  unfold Two
  kernel_rfl
theorem o6_2_64 (k : Nat) (S : Pots) : Two k S 6 [.tup [.int 0, .int 3], .tup [.int 2, .int 5]] := by
  unfold Two
  kernel_rfl
theorem o6_2_65 (k : Nat) (S : Pots) : Two k S 6 [.tup [.int 0, .int 3], .tup [.int 4, .int 5]] := by
  unfold Two
  kernel_rfl
theorem o6_2_66 (k : Nat) (S : Pots) : Two k S 6 [.tup [.int 0, .int 3, .int 4, .int 5], .tup []] := by
  unfold Two
  kernel_rfl
theorem o6_2_67 (k : Nat) (S : Pots) : Two k S 6 [.tup [.int 0, .int 3, .int 4, .int 5], .tup [.int 0, .int 1]] := by
  unfold Two
  kernel_rfl
theorem o6_2_68 (k : Nat) (S : Pots) : Two k S 6 [.tup [.int 0, .int 3, .int 4, .int 5], .tup [.int 0, .int 1, .int 2, .int 3]] := by
  unfold Two
  kernel_rfl
theorem o6_2_69 (k : Nat) (S : Pots) : Two k S 6 [.tup [.int 0, .int 3, .int 4, .int 5], .tup [.int 0, .int 1, .int 2, .int 5]] := by
  unfold Two
  kernel_rfl
theorem o6_2_70 (k : Nat) (S : Pots) : Two k S 6 [.tup [.int 0, .int 3, .int 4, .int 5], .tup [.int 0, .int 1, .int 4, .int 5]] := by
  unfold Two
  kernel_rfl
theorem o6_2_71 (k : Nat) (S : Pots) : Two k S 6 [.tup [.int 0, .int 3, .int 4, .int 5], .tup [.int 0, .int 3]] := by
  unfold Two
  kernel_rfl
theorem o6_2_72 (k : Nat) (S : Pots) : Two k S 6 [.tup [.int 0, .int 3, .int 4, .int 5], .tup [.int 0, .int 5]] := by
  unfold Two
  kernel_rfl
theorem o6_2_73 (k : Nat) (S : Pots) : Two k S 6 [.tup [.int 0, .int 3, .int 4, .int 5], .tup [.int 2, .int 3]] := by
  unfold Two
  kernel_rfl
theorem o6_2_74 (k : Nat) (S : Pots) : Two k S 6 [.tup [.int 0, .int 3, .int 4, .int 5], .tup [.int 2, .int 3, .int 4, .int 5]] := by
  unfold Two
  kernel_rfl
theorem o6_2_75 (k : Nat) (S : Pots) : Two k S 6 [.tup [.int 0, .int 3, .int 4, .int 5], .tup [.int 2, .int 5]] := by
  unfold Two
  kernel_rfl
theorem o6_2_76 (k : Nat) (S : Pots) : Two k S 6 [.tup [.int 0, .int 3, .int 4, .int 5], .tup [.int 4, .int 5]] := by
  unfold Two
  kernel_rfl
theorem o6_2_77 (k : Nat) (S : Pots) : Two k S 6 [.tup [.int 0, .int 5], .tup []] := by
  unfold Two
  kernel_rfl
theorem o6_2_78 (k : Nat) (S : Pots) : Two k S 6 [.tup [.int 0, .int 5], .tup [.int 0, .int 1]] := by
  unfold Two
  kernel_rfl
theorem o6_2_79 (k : Nat) (S : Pots) : Two k S 6 [.tup [.int 0, .int 5], .tup [.int 0, .int 1, .int 2, .int 3]] := by
  unfold Two
  kernel_rfl
theorem o6_2_80 (k : Nat) (S : Pots) : Two k S 6 [.tup [.int 0, .int 5], .tup [.int 0, .int 1, .int 2, .int 5]] := by
  unfold Two
  kernel_rfl
theorem o6_2_81 (k : Nat) (S : Pots) : Two k S 6 [.tup [.int 0, .int 5], .tup [.int 0, .int 1, .int 4, .int 5]] := by
  unfold Two
  kernel_rfl
theorem o6_2_82 (k : Nat) (S : Pots) : Two k S 6 [.tup [.int 0, .int 5], .tup [.int 0, .int 3]] := by
  unfold Two
  kernel_rfl
theorem o6_2_83 (k : Nat) (S : Pots) : Two k S 6 [.tup [.int 0, .int 5], .tup [.int 0, .int 3, .int 4, .int 5]] := by
  unfold Two
  kernel_rfl
theorem o6_2_84 (k : Nat) (S : Pots) : Two k S 6 [.tup [.int 0, .int 5], .tup [.int 2, .int 3]] := by
  unfold Two
  kernel_rfl
theorem o6_2_85 (k : Nat) (S : Pots) : Two k S 6 [.tup [.int 0, .int 5], .tup [.int 2, .int 3, .int 4, .int 5]] := by
  unfold Two
  kernel_rfl
theorem o6_2_86 (k : Nat) (S : Pots) : Two k S 6 [.tup [.int 0, .int 5], .tup [.int 2, .int 5]] := by
  unfold Two
  kernel_rfl
theorem o6_2_87 (k : Nat) (S : Pots) : Two k S 6 [.tup [.int 0, .int 5], .tup [.int 4, .int 5]] := by
  unfold Two
  kernel_rfl
theorem o6_2_88 (k : Nat) (S : Pots) : Two k S 6 [.tup [.int 2, .int 3], .tup []] := by
  unfold Two
  kernel_rfl
theorem o6_2_89 (k : Nat) (S : Pots) : Two k S 6 [.tup [.int 2, .int 3], .tup [.int 0, .int 1]] := by
  unfold Two
  kernel_rfl
theorem o6_2_90 (k : Nat) (S : Pots) : Two k S 6 [.tup [.int 2, .int 3], .tup [.int 0, .int 1, .int 2, .int 3]] := by
  unfold Two
  kernel_rfl
theorem o6_2_91 (k : Nat) (S : Pots) : Two k S 6 [.tup [.int 2, .int 3], .tup [.int 0, .int 1, .int 2, .int 5]] := by
  unfold Two
  kernel_rfl
theorem o6_2_92 (k : Nat) (S : Pots) : Two k S 6 [.tup [.int 2, .int 3], .tup [.int 0, .int 1, .int 4, .int 5]] := by
  unfold Two
  kernel_rfl
theorem o6_2_93 (k : Nat) (S : Pots) : Two k S 6 [.tup [.int 2, .int 3], .tup [.int 0, .int 3]] := by
  unfold Two
  kernel_rfl
theorem o6_2_94 (k : Nat) (S : Pots) : Two k S 6 [.tup [.int 2, .int 3], .tup [.int 0, .int 3, .int 4, .int 5]] := by
  unfold Two
  kernel_rfl
theorem o6_2_95 (k : Nat) (S : Pots) : Two k S 6 [.tup [.int 2, .int 3], .tup [.int 0, .int 5]] := by
  unfold Two
  kernel_rfl
theorem o6_2_96 (k : Nat) (S : Pots) : Two k S 6 [.tup [.int 2, .int 3], .tup [.int 2, .int 3, .int 4, .int 5]] := by
  unfold Two
  kernel_rfl
theorem o6_2_97 (k : Nat) (S : Pots) : Two k S 6 [.tup [.int 2, .int 3], .tup [.int 2, .int 5]] := by
  unfold Two
  kernel_rfl
theorem o6_2_98 (k : Nat) (S : Pots) : Two k S 6 [.tup [.int 2, .int 3], .tup [.int 4, .int 5]] := by
  unfold Two
  kernel_rfl
theorem o6_2_99 (k : Nat) (S : Pots) : Two k S 6 [.tup [.int 2, .int 3, .int 4, .int 5], .tup []] := by
  unfold Two
  kernel_rfl
theorem o6_2_100 (k : Nat) (S : Pots) : Two k S 6 [.tup [.int 2, .int 3, .int 4, .int 5], .tup [.int 0, .int 1]] := by
  unfold Two
  kernel_rfl
theorem o6_2_101 (k : Nat) (S : Pots) : Two k S 6 [.tup [.int 2, .int 3, .int 4, .int 5], .tup [.int 0, .int 1, .int 2, .int 3]] := by
  unfold Two
  kernel_rfl
theorem o6_2_102 (k : Nat) (S : Pots) : Two k S 6 [.tup [.int 2, .int 3, .int 4, .int 5], .tup [.int 0, .int 1, .int 2, .int 5]] := by
  unfold Two
  kernel_rfl
theorem o6_2_103 (k : Nat) (S : Pots) : Two k S 6 [.tup [.int 2, .int 3, .int 4, .int 5], .tup [.int 0, .int 1, .int 4, .int 5]] := by
  unfold Two
  kernel_rfl
theorem o6_2_104 (k : Nat) (S : Pots) : Two k S 6 [.tup [.int 2, .int 3, .int 4, .int 5], .tup [.int 0, .int 3]] := by
  unfold Two
  kernel_rfl
theorem o6_2_105 (k : Nat) (S : Pots) : Two k S 6 [.tup [.int 2, .int 3, .int 4, .int 5], .tup [.int 0, .int 3, .int 4, .int 5]] := by
  unfold Two
  kernel_rfl
theorem o6_2_106 (k : Nat) (S : Pots) : Two k S 6 [.tup [.int 2, .int 3, .int 4, .int 5], .tup [.int 0, .int 5]] := by
  unfold Two
  kernel_rfl
theorem o6_2_107 (k : Nat) (S : Pots) : Two k S 6 [.tup [.int 2, .int 3, .int 4, .int 5], .tup [.int 2, .int 3]] := by
  unfold Two
  kernel_rfl
theorem o6_2_108 (k : Nat) (S : Pots) : Two k S 6 [.tup [.int 2, .int 3, .int 4, .int 5], .tup [.int 2, .int 5]] := by
  unfold Two
  kernel_rfl
theorem o6_2_109 (k : Nat) (S : Pots) : Two k S 6 [.tup [.int 2, .int 3, .int 4, .int 5], .tup [.int 4, .int 5]] := by
  unfold Two
  kernel_rfl
theorem o6_2_110 (k : Nat) (S : Pots) : Two k S 6 [.tup [.int 2, .int 5], .tup []] := by
  unfold Two
  kernel_rfl
theorem o6_2_111 (k : Nat) (S : Pots) : Two k S 6 [.tup [.int 2, .int 5], .tup [.int 0, .int 1]] := by
  unfold Two
  kernel_rfl
theorem o6_2_112 (k : Nat) (S : Pots) : Two k S 6 [.tup [.int 2, .int 5], .tup [.int 0, .int 1, .int 2, .int 3]] := by
  unfold Two
  kernel_rfl
theorem o6_2_113 (k : Nat) (S : Pots) : Two k S 6 [.tup [.int 2, .int 5], .tup [.int 0, .int 1, .int 2, .int 5]] := by
  unfold Two
  kernel_rfl
theorem o6_2_114 (k : Nat) (S : Pots) : Two k S 6 [.tup [.int 2, .int 5], .tup [.int 0, .int 1, .int 4, .int 5]] := by
  unfold Two
  kernel_rfl
theorem o6_2_115 (k : Nat) (S : Pots) : Two k S 6 [.tup [.int 2, .int 5], .tup [.int 0, .int 3]] := by
  unfold Two
  kernel_rfl
theorem o6_2_116 (k : Nat) (S : Pots) : Two k S 6 [.tup [.int 2, .int 5], .tup [.int 0, .int 3, .int 4, .int 5]] := by
  unfold Two
  kernel_rfl
theorem o6_2_117 (k : Nat) (S : Pots) : Two k S 6 [.tup [.int 2, .int 5], .tup [.int 0, .int 5]] := by
  unfold Two
  kernel_rfl
theorem o6_2_118 (k : Nat) (S : Pots) : Two k S 6 [.tup [.int 2, .int 5], .tup [.int 2, .int 3]] := by
  unfold Two
  kernel_rfl
theorem o6_2_119 (k : Nat) (S : Pots) : Two k S 6 [.tup [.int 2, .int 5], .tup [.int 2, .int 3, .int 4, .int 5]] := by
  unfold Two
  kernel_rfl
theorem o6_2_120 (k : Nat) (S : Pots) : Two k S 6 [.tup [.int 2, .int 5], .tup [.int 4, .int 5]] := by
  unfold Two
  kernel_rfl
theorem o6_2_121 (k : Nat) (S : Pots) : Two k S 6 [.tup [.int 4, .int 5], .tup []] := by
  unfold Two
  kernel_rfl
theorem o6_2_122 (k : Nat) (S : Pots) : Two k S 6 [.tup [.int 4, .int 5], .tup [.int 0, .int 1]] := by
  unfold Two
  kernel_rfl
theorem o6_2_123 (k : Nat) (S : Pots) : Two k S 6 [.tup [.int 4, .int 5], .tup [.int 0, .int 1, .int 2, .int 3]] := by
  unfold Two
  kernel_rfl
theorem o6_2_124 (k : Nat) (S : Pots) : Two k S 6 [.tup [.int 4, .int 5], .tup [.int 0, .int 1, .int 2, .int 5]] := by
  unfold Two
  kernel_rfl
theorem o6_2_125 (k : Nat) (S : Pots) : Two k S 6 [.tup [.int 4, .int 5], .tup [.int 0, .int 1, .int 4, .int 5]] := by
  unfold Two
  kernel_rfl
theorem o6_2_126 (k : Nat) (S : Pots) : Two k S 6 [.tup [.int 4, .int 5], .tup [.int 0, .int 3]] := by
  unfold Two
  kernel_rfl
theorem o6_2_127 (k : Nat) (S : Pots) : Two k S 6 [.tup [.int 4, .int 5], .tup [.int 0, .int 3, .int 4, .int 5]] := by
  unfold Two
  kernel_rfl
theorem o6_2_128 (k : Nat) (S : Pots) : Two k S 6 [.tup [.int 4, .int 5], .tup [.int 0, .int 5]] := by
  unfold Two
  kernel_rfl
theorem o6_2_129 (k : Nat) (S : Pots) : Two k S 6 [.tup [.int 4, .int 5], .tup [.int 2, .int 3]] := by
  unfold Two
  kernel_rfl
theorem o6_2_130 (k : Nat) (S : Pots) : Two k S 6 [.tup [.int 4, .int 5], .tup [.int 2, .int 3, .int 4, .int 5]] := by
  unfold Two
  kernel_rfl
theorem o6_2_131 (k : Nat) (S : Pots) : Two k S 6 [.tup [.int 4, .int 5], .tup [.int 2, .int 5]] := by
  unfold Two
  kernel_rfl
theorem sel6_2 : sels 2 al6 = [[.tup [], .tup [.int 0, .int 1]], [.tup [], .tup [.int 0, .int 1, .int 2, .int 3]], [.tup [], .tup [.int 0, .int 1, .int 2, .int 5]], [.tup [], .tup [.int 0, .int 1, .int 4, .int 5]], [.tup [], .tup [.int 0, .int 3]], [.tup [], .tup [.int 0, .int 3, .int 4, .int 5]], [.tup [], .tup [.int 0, .int 5]], [.tup [], .tup [.int 2, .int 3]], [.tup [], .tup [.int 2, .int 3, .int 4, .int 5]], [.tup [], .tup [.int 2, .int 5]], [.tup [], .tup [.int 4, .int 5]], [.tup [.int 0, .int 1], .tup []], [.tup [.int 0, .int 1], .tup [.int 0, .int 1, .int 2, .int 3]], [.tup [.int 0, .int 1], .tup [.int 0, .int 1, .int 2, .int 5]], [.tup [.int 0, .int 1], .tup [.int 0, .int 1, .int 4, .int 5]], [.tup [.int 0, .int 1], .tup [.int 0, .int 3]], [.tup [.int 0, .int 1], .tup [.int 0, .int 3, .int 4, .int 5]], [.tup [.int 0, .int 1], .tup [.int 0, .int 5]], [.tup [.int 0, .int 1], .tup [.int 2, .int 3]], [.tup [.int 0, .int 1], .tup [.int 2, .int 3, .int 4, .int 5]], [.tup [.int 0, .int 1], .tup [.int 2, .int 5]], [.tup [.int 0, .int 1], .tup [.int 4, .int 5]], [.tup [.int 0, .int 1, .int 2, .int 3], .tup []], [.tup [.int 0, .int 1, .int 2, .int 3], .tup [.int 0, .int 1]], [.tup [.int 0, .int 1, .int 2, .int 3], .tup [.int 0, .int 1, .int 2, .int 5]], [.tup [.int 0, .int 1, .int 2, .int 3], .tup [.int 0, .int 1, .int 4, .int 5]], [.tup [.int 0, .int 1, .int 2, .int 3], .tup [.int 0, .int 3]], [.tup [.int 0, .int 1, .int 2, .int 3], .tup [.int 0, .int 3, .int 4, .int 5]], [.tup [.int 0, .int 1, .int 2, .int 3], .tup [.int 0, .int 5]], [.tup [.int 0, .int 1, .int 2, .int 3], .tup [.int 2, .int 3]], [.tup [.int 0, .int 1, .int 2, .int 3], .tup [.int 2, .int 3, .int 4, .int 5]], [.tup [.int 0, .int 1, .int 2, .int 3], .tup [.int 2, .int 5]], [.tup [.int 0, .int 1, .int 2, .int 3], .tup [.int 4, .int 5]], [.tup [.int 0, .int 1, .int 2, .int 5], .tup []], [.tup [.int 0, .int 1, .int 2, .int 5], .tup [.int 0, .int 1]], [.tup [.int 0, .int 1, .int 2, .int 5], .tup [.int 0, .int 1, .int 2, .int 3]], [.tup [.int 0, .int 1, .int 2, .int 5], .tup [.int 0, .int 1, .int 4, .int 5]], [.tup [.int 0, .int 1, .int 2, .int 5], .tup [.int 0, .int 3]], [.tup [.int 0, .int 1, .int 2, .int 5], .tup [.int 0, .int 3, .int 4, .int 5]], [.tup [.int 0, .int 1, .int 2, .int 5], .tup [.int 0, .int 5]], [.tup [.int 0, .int 1, .int 2, .int 5], .tup [.int 2, .int 3]], [.tup [.int 0, .int 1, .int 2, .int 5], .tup [.int 2, .int 3, .int 4, .int 5]], [.tup [.int 0, .int 1, .int 2, .int 5], .tup [.int 2, .int 5]], [.tup [.int 0, .int 1, .int 2, .int 5], .tup [.int 4, .int 5]], [.tup [.int 0, .int 1, .int 4, .int 5], .tup []], [.tup [.int 0, .int 1, .int 4, .int 5], .tup [.int 0, .int 1]], [.tup [.int 0, .int 1, .int 4, .int 5], .tup [.int 0, .int 1, .int 2, .int 3]], [.tup [.int 0, .int 1, .int 4, .int 5], .tup [.int 0, .int 1, .int 2, .int 5]], [.tup [.int 0, .int 1, .int 4, .int 5], .tup [.int 0, .int 3]], [.tup [.int 0, .int 1, .int 4, .int 5], .tup [.int 0, .int 3, .int 4, .int 5]], [.tup [.int 0, .int 1, .int 4, .int 5], .tup [.int 0, .int 5]], [.tup [.int 0, .int 1, .int 4, .int 5], .tup [.int 2, .int 3]], [.tup [.int 0, .int 1, .int 4, .int 5], .tup [.int 2, .int 3, .int 4, .int 5]], [.tup [.int 0, .int 1, .int 4, .int 5], .tup [.int 2, .int 5]], [.tup [.int 0, .int 1, .int 4, .int 5], .tup [.int 4, .int 5]], [.tup [.int 0, .int 3], .tup []], [.tup [.int 0, .int 3], .tup [.int 0, .int 1]], [.tup [.int 0, .int 3], .tup [.int 0, .int 1, .int 2, .int 3]], [.tup [.int 0, .int 3], .tup [.int 0, .int 1, .int 2, .int 5]], [.tup [.int 0, .int 3], .tup [.int 0, .int 1, .int 4, .int 5]], [.tup [.int 0, .int 3], .tup [.int 0, .int 3, .int 4, .int 5]], [.tup [.int 0, .int 3], .tup [.int 0, .int 5]], [.tup [.int 0, .int 3], .tup [.int 2, .int 3]], [.tup [.int 0, .int 3], .tup [.int 2, .int 3, .int 4, .int 5]], [.tup [.int 0, .int 3], .tup [.int 2, .int 5]], [.tup [.int 0, .int 3], .tup [.int 4, .int 5]], [.tup [.int 0, .int 3, .int 4, .int 5], .tup []], [.tup [.int 0, .int 3, .int 4, .int 5], .tup [.int 0, .int 1]], [.tup [.int 0, .int 3, .int 4, .int 5], .tup [.int 0, .int 1, .int 2, .int 3]], [.tup [.int 0, .int 3, .int 4, .int 5], .tup [.int 0, .int 1, .int 2, .int 5]], [.tup [.int 0, .int 3, .int 4, .int 5], .tup [.int 0, .int 1, .int 4, .int 5]], [.tup [.int 0, .int 3, .int 4, .int 5], .tup [.int 0, .int 3]], [.tup [.int 0, .int 3, .int 4, .int 5], .tup [.int 0, .int 5]], [.tup [.int 0, .int 3, .int 4, .int 5], .tup [.int 2, .int 3]], [.tup [.int 0, .int 3, .int 4, .int 5], .tup [.int 2, .int 3, .int 4, .int 5]], [.tup [.int 0, .int 3, .int 4, .int 5], .tup [.int 2, .int 5]], [.tup [.int 0, .int 3, .int 4, .int 5], .tup [.int 4, .int 5]], [.tup [.int 0, .int 5], .tup []], [.tup [.int 0, .int 5], .tup [.int 0, .int 1]], [.tup [.int 0, .int 5], .tup [.int 0, .int 1, .int 2, .int 3]], [.tup [.int 0, .int 5], .tup [.int 0, .int 1, .int 2, .int 5]], [.tup [.int 0, .int 5], .tup [.int 0, .int 1, .int 4, .int 5]], [.tup [.int 0, .int 5], .tup [.int 0, .int 3]], [.tup [.int 0, .int 5], .tup [.int 0, .int 3, .int 4, .int 5]], [.tup [.int 0, .int 5], .tup [.int 2, .int 3]], [.tup [.int 0, .int 5], .tup [.int 2, .int 3, .int 4, .int 5]], [.tup [.int 0, .int 5], .tup [.int 2, .int 5]], [.tup [.int 0, .int 5], .tup [.int 4, .int 5]], [.tup [.int 2, .int 3], .tup []], [.tup [.int 2, .int 3], .tup [.int 0, .int 1]], [.tup [.int 2, .int 3], .tup [.int 0, .int 1, .int 2, .int 3]], [.tup [.int 2, .int 3], .tup [.int 0, .int 1, .int 2, .int 5]], [.tup [.int 2, .int 3], .tup [.int 0, .int 1, .int 4, .int 5]], [.tup [.int 2, .int 3], .tup [.int 0, .int 3]], [.tup [.int 2, .int 3], .tup [.int 0, .int 3, .int 4, .int 5]], [.tup [.int 2, .int 3], .tup [.int 0, .int 5]], [.tup [.int 2, .int 3], .tup [.int 2, .int 3, .int 4, .int 5]], [.tup [.int 2, .int 3], .tup [.int 2, .int 5]], [.tup [.int 2, .int 3], .tup [.int 4, .int 5]], [.tup [.int 2, .int 3, .int 4, .int 5], .tup []], [.tup [.int 2, .int 3, .int 4, .int 5], .tup [.int 0, .int 1]], [.tup [.int 2, .int 3, .int 4, .int 5], .tup [.int 0, .int 1, .int 2, .int 3]], [.tup [.int 2, .int 3, .int 4, .int 5], .tup [.int 0, .int 1, .int 2, .int 5]], [.tup [.int 2, .int 3, .int 4, .int 5], .tup [.int 0, .int 1, .int 4, .int 5]], [.tup [.int 2, .int 3, .int 4, .int 5], .tup [.int 0, .int 3]], [.tup [.int 2, .int 3, .int 4, .int 5], .tup [.int 0, .int 3, .int 4, .int 5]], [.tup [.int 2, .int 3, .int 4, .int 5], .tup [.int 0, .int 5]], [.tup [.int 2, .int 3, .int 4, .int 5], .tup [.int 2, .int 3]], [.tup [.int 2, .int 3, .int 4, .int 5], .tup [.int 2, .int 5]], [.tup [.int 2, .int 3, .int 4, .int 5], .tup [.int 4, .int 5]], [.tup [.int 2, .int 5], .tup []], [.tup [.int 2, .int 5], .tup [.int 0, .int 1]], [.tup [.int 2, .int 5], .tup [.int 0, .int 1, .int 2, .int 3]], [.tup [.int 2, .int 5], .tup [.int 0, .int 1, .int 2, .int 5]], [.tup [.int 2, .int 5], .tup [.int 0, .int 1, .int 4, .int 5]], [.tup [.int 2, .int 5], .tup [.int 0, .int 3]], [.tup [.int 2, .int 5], .tup [.int 0, .int 3, .int 4, .int 5]], [.tup [.int 2, .int 5], .tup [.int 0, .int 5]], [.tup [.int 2, .int 5], .tup [.int 2, .int 3]], [.tup [.int 2, .int 5], .tup [.int 2, .int 3, .int 4, .int 5]], [.tup [.int 2, .int 5], .tup [.int 4, .int 5]], [.tup [.int 4, .int 5], .tup []], [.tup [.int 4, .int 5], .tup [.int 0, .int 1]], [.tup [.int 4, .int 5], .tup [.int 0, .int 1, .int 2, .int 3]], [.tup [.int 4, .int 5], .tup [.int 0, .int 1, .int 2, .int 5]], [.tup [.int 4, .int 5], .tup [.int 0, .int 1, .int 4, .int 5]], [.tup [.int 4, .int 5], .tup [.int 0, .int 3]], [.tup [.int 4, .int 5], .tup [.int 0, .int 3, .int 4, .int 5]], [.tup [.int 4, .int 5], .tup [.int 0, .int 5]], [.tup [.int 4, .int 5], .tup [.int 2, .int 3]], [.tup [.int 4, .int 5], .tup [.int 2, .int 3, .int 4, .int 5]], [.tup [.int 4, .int 5], .tup [.int 2, .int 5]]] := rfl
theorem oc6_2 (k : Nat) (S : Pots) : AllP (Two k S 6) (sels 2 al6) := by
  rw [sel6_2]
  exact ⟨o6_2_0 k S, ⟨o6_2_1 k S, ⟨o6_2_2 k S, ⟨o6_2_3 k S, ⟨o6_2_4 k S, ⟨o6_2_5 k S, ⟨o6_2_6 k S, ⟨o6_2_7 k S, ⟨o6_2_8 k S, ⟨o6_2_9 k S, ⟨o6_2_10 k S, ⟨o6_2_11 k S, ⟨o6_2_12 k S, ⟨o6_2_13 k S, ⟨o6_2_14 k S, ⟨o6_2_15 k S, ⟨o6_2_16 k S, ⟨o6_2_17 k S, ⟨o6_2_18 k S, ⟨o6_2_19 k S, ⟨o6_2_20 k S, ⟨o6_2_21 k S, ⟨o6_2_22 k S, ⟨o6_2_23 k S, ⟨o6_2_24 k S, ⟨o6_2_25 k S, ⟨o6_2_26 k S, ⟨o6_2_27 k S, ⟨o6_2_28 k S, ⟨o6_2_29 k S, ⟨o6_2_30 k S, ⟨o6_2_31 k S, ⟨o6_2_32 k S, ⟨o6_2_33 k S, ⟨o6_2_34 k S, ⟨o6_2_35 k S, ⟨o6_2_36 k S, ⟨o6_2_37 k S, ⟨o6_2_38 k S, ⟨o6_2_39 k S, ⟨o6_2_40 k S, ⟨o6_2_41 k S, ⟨o6_2_42 k S, ⟨o6_2_43 k S, ⟨o6_2_44 k S, ⟨o6_2_45 k S, ⟨o6_2_46 k S, ⟨o6_2_47 k S, ⟨o6_2_48 k S, ⟨o6_2_49 k S, ⟨o6_2_50 k S, ⟨o6_2_51 k S, ⟨o6_2_52 k S, ⟨o6_2_53 k S, ⟨o6_2_54 k S, ⟨o6_2_55 k S, ⟨o6_2_56 k S, ⟨o6_2_57 k S, ⟨o6_2_58 k S, ⟨o6_2_59 k S, ⟨o6_2_60 k S, ⟨o6_2_61 k S, ⟨o6_2_62 k S, ⟨o6_2_63 k S, ⟨o6_2_64 k S, ⟨o6_2_65 k S, ⟨o6_2_66 k S, ⟨o6_2_67 k S, ⟨o6_2_68 k S, ⟨o6_2_69 k S, ⟨o6_2_70 k S, ⟨o6_2_71 k S, ⟨o6_2_72 k S, ⟨o6_2_73 k S, ⟨o6_2_74 k S, ⟨o6_2_75 k S, ⟨o6_2_76 k S, ⟨o6_2_77 k S, ⟨o6_2_78 k S, ⟨o6_2_79 k S, ⟨o6_2_80 k S, ⟨o6_2_81 k S, ⟨o6_2_82 k S, ⟨o6_2_83 k S, ⟨o6_2_84 k S, ⟨o6_2_85 k S, ⟨o6_2_86 k S, ⟨o6_2_87 k S, ⟨o6_2_88 k S, ⟨o6_2_89 k S, ⟨o6_2_90 k S, ⟨o6_2_91 k S, ⟨o6_2_92 k S, ⟨o6_2_93 k S, ⟨o6_2_94 k S, ⟨o6_2_95 k S, ⟨o6_2_96 k S, ⟨o6_2_97 k S, ⟨o6_2_98 k S, ⟨o6_2_99 k S, ⟨o6_2_100 k S, ⟨o6_2_101 k S, ⟨o6_2_102 k S, ⟨o6_2_103 k S, ⟨o6_2_104 k S, ⟨o6_2_105 k S, ⟨o6_2_106 k S, ⟨o6_2_107 k S, ⟨o6_2_108 k S, ⟨o6_2_109 k S, ⟨o6_2_110 k S, ⟨o6_2_111 k S, ⟨o6_2_112 k S, ⟨o6_2_113 k S, ⟨o6_2_114 k S, ⟨o6_2_115 k S, ⟨o6_2_116 k S, ⟨o6_2_117 k S, ⟨o6_2_118 k S, ⟨o6_2_119 k S, ⟨o6_2_120 k S, ⟨o6_2_121 k S, ⟨o6_2_122 k S, ⟨o6_2_123 k S, ⟨o6_2_124 k S, ⟨o6_2_125 k S, ⟨o6_2_126 k S, ⟨o6_2_127 k S, ⟨o6_2_128 k S, ⟨o6_2_129 k S, ⟨o6_2_130 k S, ⟨o6_2_131 k S, trivial⟩⟩⟩⟩⟩⟩⟩⟩⟩⟩⟩⟩⟩⟩⟩⟩⟩⟩⟩⟩⟩⟩⟩⟩⟩⟩⟩⟩⟩⟩⟩⟩⟩⟩⟩⟩⟩⟩⟩⟩⟩⟩⟩⟩⟩⟩⟩⟩⟩⟩⟩⟩⟩⟩⟩⟩⟩⟩⟩⟩⟩⟩⟩⟩⟩⟩⟩⟩⟩⟩⟩⟩⟩⟩⟩⟩⟩⟩⟩⟩⟩⟩⟩⟩⟩⟩⟩⟩⟩⟩⟩⟩⟩⟩⟩⟩⟩⟩⟩⟩⟩⟩⟩⟩⟩⟩⟩⟩⟩⟩⟩⟩⟩⟩⟩⟩⟩⟩⟩⟩⟩⟩⟩⟩⟩⟩⟩⟩⟩⟩⟩⟩
theorem hunt3 (S : Pots) : m__law_hunting_right [.int 3] S = .ok (.bl true) S := by kernel_rfl
theorem hunt4 (S : Pots) : m__law_hunting_right [.int 4] S = .ok (.bl true) S := by kernel_rfl
theorem hunt5 (S : Pots) : m__law_hunting_right [.int 5] S = .ok (.bl true) S := by kernel_rfl
theorem hunt6 (S : Pots) : m__law_hunting_right [.int 6] S = .ok (.bl true) S := by kernel_rfl
end KX
namespace KX
open PySem PySem.Spec PyProof.Rows L2 DS
theorem pick_ok {S : Pots} {k : Nat} {L : List D} (hk : k < S.length) (h0 : 0 < L.length) (hL : L.length < 1000) : ∃ (x : D) (S' : Pots), x ∈ L ∧ S'.length = S.length ∧ m__law_pick [.pot k, .lst L] S = .ok x S' := by
  obtain ⟨d, S', hd, d0, d1, hS⟩ := draw_ok (S := S) (k := k) (many := (L.length : Int)) hk (by omega) (by omega)
  have e : atI L d = some (L[d.toNat]'(by omega)) := by
    unfold atI ixN
    rw [if_pos d0, if_pos d1]
    exact List.getElem?_eq_getElem _
  refine ⟨L[d.toNat]'(by omega), S', List.getElem_mem _, hS, ?_⟩
  show fnM 2 q__law_pick _ S = _
  simp only [fnM, q__law_pick, startE, retM, ap2, callM, consM, bVar, List.map, List.length_cons, List.length_nil, Nat.reduceAdd, Nat.reduceSub, List.replicate, List.cons_append, List.nil_append, bind_pure', bind_assoc', List.getElem?_cons_succ, List.getElem?_cons_zero, Nat.zero_le, Nat.le_refl, if_true, apL, uno, dLen, liftO_some, chk_true, decide_true]
  rw [bind_ok hd]
  simp only [dGet, e, liftO_some, bind_pure']
  rfl
theorem seq_ok {x y : Env' → M (Fl × Env')} {ρ ρ' : Env'} {S S' : Pots} (h : x ρ S = .ok (.nx, ρ') S') : seqM x y ρ S = y ρ' S' := by
  unfold seqM
  rw [bind_ok h]
theorem two_ok {S : Pots} {k : Nat} (hk : k < S.length) : ∃ S' : Pots, S'.length = S.length ∧ m__law_two_right [.pot k] S = .ok (.bl true) S' := by
  obtain ⟨x, S1, hx, hS1, e1⟩ := pick_ok (L := [.int 3, .int 4, .int 5, .int 6]) hk (by decide) (by decide)
  have a : two_a [some (.pot k, 0), none, none, none, none, none, none] S = .ok (.nx, [some (.pot k, 0), some (x, 0), none, none, none, none, none]) S1 := by
    unfold two_a
    simp only [setM, callM, consM, lstM, bVar, bind_pure', bind_assoc', List.getElem?_cons_succ, List.getElem?_cons_zero, Nat.le_refl, if_true, List.length_cons, List.length_nil, Nat.reduceAdd, decide_true, chk_true]
    have l4 : decide (4 ≤ LIM) = true := decide_eq_true (by show 4 ≤ 16777216; omega)
    rw [l4, chk_true, bind_pure', bind_ok e1]
    rfl
  obtain ⟨d, S2, hd, d0, d1, hS2⟩ := draw_ok (S := S1) (k := k) (many := 2) (by rw [hS1]; exact hk) (by decide) (by decide)
  have hm : ∃ n : Nat, (n = 1 ∨ n = 2) ∧ (1 + d : Int) = (n : Int) := by
    by_cases h : d = 0
    · exact ⟨1, .inl rfl, by omega⟩
    · exact ⟨2, .inr rfl, by omega⟩
  obtain ⟨n, hn, en⟩ := hm
  have fin : ∀ (b : Int) (al : List D), x = .int b → (∀ S : Pots, m__law_all [.int b] S = .ok (.lst al) S) → 2 ≤ al.length → al.length < 1000 → (∀ (S : Pots), AllP (Two k S b) (sels 1 al)) → (∀ (S : Pots), AllP (Two k S b) (sels 2 al)) →
      ∃ S' : Pots, S'.length = S.length ∧ m__law_two_right [.pot k] S = .ok (.bl true) S' := by
    intro b al ex ea l1 l2 o1 o2
    subst ex
    obtain ⟨xs, S3, hsel, hS3, e3⟩ := some_ok (S := S2) (k := k) (L := al) (many := n) (by rw [hS2, hS1]; exact hk) (by omega) l2
    have bb : two_b [some (.pot k, 0), some (.int b, 0), none, none, none, none, none] S1 = .ok (.nx, [some (.pot k, 0), some (.int b, 0), some (.lst xs, 0), none, none, none, none]) S3 := by
      unfold two_b
      simp only [setM, callM, consM, lstM, bVar, bind_pure', bind_assoc', List.getElem?_cons_succ, List.getElem?_cons_zero, Nat.le_refl, if_true, List.length_cons, List.length_nil, Nat.reduceAdd, decide_true, chk_true]
      rw [bind_ok (ea S1)]
      simp only [ap2, setM, callM, consM, lstM, bVar, bind_pure', bind_assoc', List.getElem?_cons_succ, List.getElem?_cons_zero, Nat.le_refl, if_true, List.length_cons, List.length_nil, Nat.reduceAdd, decide_true, chk_true]
      rw [bind_ok hd]
      simp only [dAdd, liftO_some, bind_pure', List.length_cons, List.length_nil, Nat.reduceAdd, decide_true, chk_true, en]
      rw [bind_ok e3]
      rfl
    refine ⟨S3, hS3.trans (hS2.trans hS1), ?_⟩
    have e0 : m__law_two_right [.pot k] S = (seqM two_a (seqM two_b two_r) [some (.pot k, 0), none, none, none, none, none, none] >>= endM) S := rfl
    rw [e0, bind_run, seq_ok a, seq_ok bb, ← bind_run]
    rcases hn with rfl | rfl
    · exact (o1 S3).get hsel.mem
    · exact (o2 S3).get hsel.mem
  simp only [List.mem_cons, List.not_mem_nil, or_false] at hx
  rcases hx with rfl | rfl | rfl | rfl
  · exact fin 3 al3 rfl all3 (by decide) (by decide) (oc3_1 k) (oc3_2 k)
  · exact fin 4 al4 rfl all4 (by decide) (by decide) (oc4_1 k) (oc4_2 k)
  · exact fin 5 al5 rfl all5 (by decide) (by decide) (oc5_1 k) (oc5_2 k)
  · exact fin 6 al6 rfl all6 (by decide) (by decide) (oc6_1 k) (oc6_2 k)
/-! the law -/
def pf : Nat → Nat → List D
  | _, 0 => []
  | a, n + 1 => .pot a :: pf (a + 1) n
def potE : Env' → M D := callM 2 (consM (bVar 0 0) (consM (bVar 0 2) (fun _ => pure []))) m__law_pot
theorem pots_go {ns : List Int} : ∀ (is : List Int) (S : Pots), (∀ i ∈ is, 0 ≤ i) → ∃ S' : Pots, S'.length = S.length + is.length ∧
    lcGo (gNm 2) (fun _ => pure true) potE [some (.scr ns, 0), none, none, none, none] (is.map .int) S = .ok (pf S.length is.length) S'
  | [], S, _ => ⟨S, rfl, rfl⟩
  | i :: is, S, h => by
    obtain ⟨x, y, e⟩ := pot_ok (S := S) (ns := ns) (h i (by simp))
    obtain ⟨S', hS, e'⟩ := pots_go is (S ++ [(x, y)]) fun j hj => h j (by simp [hj])
    refine ⟨S', by rw [hS]; simp; omega, ?_⟩
    unfold potE at e' ⊢
    simp only [List.map, lcGo, gNm, bind_pure', bind_assoc', List.set_cons_succ, List.set_cons_zero, if_true, callM, consM, bVar, List.getElem?_cons_succ, List.getElem?_cons_zero, Nat.le_refl, List.length_cons, List.length_nil, Nat.reduceAdd, decide_true, chk_true]
    rw [bind_ok e]
    rw [bind_ok e']
    simp [pf, pure_run]
def twoE : Env' → M D := callM 1 (consM (bVar 0 3) (fun _ => pure [])) m__law_two_right
theorem twos_go {a b c d : Option (D × Nat)} : ∀ (ks : List Nat) (S : Pots), (∀ k ∈ ks, k < S.length) → ∃ S' : Pots, S'.length = S.length ∧
    lcGo (gNm 3) (fun _ => pure true) twoE [a, b, c, none, d] (ks.map .pot) S = .ok (ks.map fun _ => .bl true) S'
  | [], S, _ => ⟨S, rfl, rfl⟩
  | k :: ks, S, h => by
    obtain ⟨S1, hS1, e⟩ := two_ok (S := S) (h k (by simp))
    obtain ⟨S', hS, e'⟩ := twos_go (a := a) (b := b) (c := c) (d := d) ks S1 fun j hj => by rw [hS1]; exact h j (by simp [hj])
    refine ⟨S', hS.trans hS1, ?_⟩
    unfold twoE at e' ⊢
    simp only [List.map, lcGo, gNm, bind_pure', bind_assoc', List.set_cons_succ, List.set_cons_zero, if_true, callM, consM, bVar, List.getElem?_cons_succ, List.getElem?_cons_zero, Nat.le_refl, List.length_cons, List.length_nil, Nat.reduceAdd, decide_true, chk_true]
    rw [bind_ok e]
    rw [bind_ok e']
    rfl
def fiP : Env' → M (List D) := rngI rng1 (consM (apL (duo dMax) (consM (fun _ => pure (.int 2)) (consM (apL (duo dMin) (consM (fun _ => pure (.int 3)) (consM (apL (uno dLen) (consM (bVar 1 0) fun _ => pure [])) (fun _ => pure [])))) (fun _ => pure [])))) (fun _ => pure []))
def fiH : Env' → M (List D) := seqI (tupM (consM (fun _ => pure (.int 3)) (consM (fun _ => pure (.int 4)) (consM (fun _ => pure (.int 5)) (consM (fun _ => pure (.int 6)) (fun _ => pure []))))))
def huntE : Env' → M D := callM 1 (consM (bVar 0 4) (fun _ => pure [])) m__law_hunting_right
theorem law_eq : q_law = seqM (setM 1 1 (lcM [2] fiP (gNm 2) (fun _ => pure true) potE)) (fun ρ => (retM (andV (apL (uno dAll) (consM (lcM [3] (seqI (bVar 0 1)) (gNm 3) (fun _ => pure true) twoE) fun _ => pure [])) (apL (uno dAll) (consM (lcM [4] fiH (gNm 4) (fun _ => pure true) huntE) fun _ => pure [])))) (frzE 1 ρ)) := rfl
theorem noerr_ok {α : Type} {x : M α} {S S' : Pots} {a : α} (h : x S = .ok a S') : noerr x S = .ok a S' := by unfold noerr; rw [h]
theorem hunts_go {a b c d : Option (D × Nat)} (S : Pots) : lcGo (gNm 4) (fun _ => pure true) huntE [a, b, c, d, none] [.int 3, .int 4, .int 5, .int 6] S = .ok [.bl true, .bl true, .bl true, .bl true] S := by
  have st : ∀ (n : Int) (ds ys : List D), m__law_hunting_right [.int n] S = .ok (.bl true) S → lcGo (gNm 4) (fun _ => pure true) huntE [a, b, c, d, none] ds S = .ok ys S → lcGo (gNm 4) (fun _ => pure true) huntE [a, b, c, d, none] (.int n :: ds) S = .ok (.bl true :: ys) S := by
    intro n ds ys e e'
    unfold huntE at e' ⊢
    simp only [lcGo, gNm, bind_pure', bind_assoc', List.set_cons_succ, List.set_cons_zero, if_true, callM, consM, bVar, List.getElem?_cons_succ, List.getElem?_cons_zero, Nat.le_refl, List.length_cons, List.length_nil, Nat.reduceAdd, decide_true, chk_true]
    rw [bind_ok e]
    rw [bind_ok e']
    rfl
  exact st 3 _ _ (hunt3 S) (st 4 _ _ (hunt4 S) (st 5 _ _ (hunt5 S) (st 6 _ _ (hunt6 S) rfl)))
theorem all_ok {f : Env' → M D} {ρ : Env'} {S S' : Pots} {ds : List D} (h : f ρ S = .ok (.lst ds) S') (hd : dAll (.lst ds) = some (.bl true)) : (apL (uno dAll) (consM f fun _ => pure [])) ρ S = .ok (.bl true) S' := by
  unfold apL consM
  rw [bind_assoc', bind_ok h]
  show liftO (dAll (.lst ds)) S' = _
  rw [hd]
  rfl
theorem lc_ok {vs : List Nat} {fi : Env' → M (List D)} {fg : D → Env' → M Env'} {ft : Env' → M Bool} {fe : Env' → M D} {ρ : Env'} {S S1 S2 : Pots} {ds ys : List D} (h1 : fi ρ S = .ok ds S1) (hl : ds.length ≤ 1000) (h2 : lcGo fg ft fe (wipeE ρ vs) ds S1 = .ok ys S2) :
    lcM vs fi fg ft fe ρ S = .ok (.lst ys) S2 := by
  unfold lcM
  rw [bind_ok h1]
  have c : decide (ds.length ≤ LIM) = true := decide_eq_true (by show ds.length ≤ 16777216; omega)
  simp only [c, chk_true, bind_pure']
  rw [bind_ok (noerr_ok h2)]
  rfl
theorem law_run (ns : List Int) : ∃ S : Pots, m_law [.scr ns] [] = .ok (.bl true) S := by
  have hr : ∃ is : List Int, (is = [0, 1] ∨ is = [0, 1, 2]) ∧ fiP [some (.scr ns, 0), none, none, none, none] [] = .ok (is.map .int) [] := by
    have e0 : fiP [some (.scr ns, 0), none, none, none, none] [] = liftO (rng1 [.int (if (if (ns.length : Int) < 3 then (ns.length : Int) else 3) > 2 then (if (ns.length : Int) < 3 then (ns.length : Int) else 3) else 2)]) [] := rfl
    by_cases h : (ns.length : Int) < 3
    · refine ⟨[0, 1], .inl rfl, ?_⟩
      rw [e0, if_pos h, if_neg (by omega)]
      rfl
    · refine ⟨[0, 1, 2], .inr rfl, ?_⟩
      rw [e0, if_neg h, if_pos (by decide)]
      rfl
  obtain ⟨is, his, hf⟩ := hr
  obtain ⟨S1, hS1, e1⟩ := pots_go (ns := ns) is [] (by rcases his with rfl | rfl <;> decide)
  have hp : ∃ ks : List Nat, (∀ k ∈ ks, k < S1.length) ∧ pf 0 is.length = ks.map .pot ∧ dAll (.lst (ks.map fun _ => .bl true)) = some (.bl true) := by
    rcases his with rfl | rfl
    · exact ⟨[0, 1], by rw [hS1]; decide, rfl, rfl⟩
    · exact ⟨[0, 1, 2], by rw [hS1]; decide, rfl, rfl⟩
  obtain ⟨ks, hks, epf, hall⟩ := hp
  have epf' : pf ([] : Pots).length is.length = ks.map .pot := epf
  rw [epf'] at e1
  have A : setM 1 1 (lcM [2] fiP (gNm 2) (fun _ => pure true) potE) [some (.scr ns, 0), none, none, none, none] [] = .ok (.nx, [some (.scr ns, 0), some (.lst (ks.map .pot), 1), none, none, none]) S1 := by
    unfold setM
    rw [bind_ok (lc_ok hf (by rcases his with rfl | rfl <;> decide) e1)]
    rfl
  obtain ⟨S2, hS2, e2⟩ := twos_go (a := some (.scr ns, 0)) (b := some (.lst (ks.map .pot), 0)) (c := none) (d := none) ks S1 hks
  have B : lcM [3] (seqI (bVar 0 1)) (gNm 3) (fun _ => pure true) twoE [some (.scr ns, 0), some (.lst (ks.map .pot), 0), none, none, none] S1 = .ok (.lst (ks.map fun _ => .bl true)) S2 :=
    lc_ok (ds := ks.map .pot) (S1 := S1) rfl (by
      have : ks.length = is.length := by
        have := congrArg List.length epf
        rcases his with rfl | rfl <;> simpa [pf] using this.symm
      rw [List.length_map, this]
      rcases his with rfl | rfl <;> decide) e2
  have C : lcM [4] fiH (gNm 4) (fun _ => pure true) huntE [some (.scr ns, 0), some (.lst (ks.map .pot), 0), none, none, none] S2 = .ok (.lst [.bl true, .bl true, .bl true, .bl true]) S2 :=
    lc_ok (ds := [.int 3, .int 4, .int 5, .int 6]) (S1 := S2) rfl (by decide) (hunts_go S2)
  refine ⟨S2, ?_⟩
  have e0 : m_law [.scr ns] [] = (seqM (setM 1 1 (lcM [2] fiP (gNm 2) (fun _ => pure true) potE)) (fun ρ => (retM (andV (apL (uno dAll) (consM (lcM [3] (seqI (bVar 0 1)) (gNm 3) (fun _ => pure true) twoE) fun _ => pure [])) (apL (uno dAll) (consM (lcM [4] fiH (gNm 4) (fun _ => pure true) huntE) fun _ => pure [])))) (frzE 1 ρ)) [some (.scr ns, 0), none, none, none, none] >>= endM) [] := rfl
  have fz : frzE 1 [some (.scr ns, 0), some (.lst (ks.map .pot), 1), none, none, none] = [some (.scr ns, 0), some (.lst (ks.map .pot), 0), none, none, none] := rfl
  have D1 := all_ok B hall
  have D2 := all_ok C rfl
  rw [e0, bind_run, seq_ok A, ← bind_run]
  simp only [fz, retM, andV, bind_assoc']
  rw [bind_ok D1]
  simp only [isB, liftO_some, bind_pure', if_true]
  rw [bind_ok D2]
  rfl
end KX
namespace KX
open PySem PySem.Spec PyProof.Rows L2 DS
/-! ### the head -/
abbrev R : PySem.W.OpenRow := PySem.W.OpenLaw.row PySem.Challenge.rw_pealworks_k64_whole_two_changes_in_turn
abbrev hk : PySem.W.Hook := He.hookD 4 fas fns
def ob (s : PySem.W.SharedT) : He.AlD := He.obsDG 4 fas fns (HandSHeadRun.getT s)
theorem ob_eq (s : PySem.W.SharedT) : ob s = hk.obs s.abs := He.obsDG_eq (HandSHeadRun.getT_eq s)
def loose : List Str := (["is_integer", "is_within", "is_list", "are_rising", "is_lot", "WorkError", "InvalidBells", "InvalidChanges", "InvalidRing", "LEAST_BELLS", "MOST_BELLS", "MOST_CHANGES", "rounds_of", "times", "pairs_of", "change_row", "is_bells", "is_change_of", "are_changes_of", "want_bells", "MOST_TOLD", "MOST_RING", "is_told_lot", "want_told", "come_to", "row_behind", "rows_along", "is_ring_any", "want_ring", "is_full"] : List Str) ++ (["alternating", "rows_by", "is_full_ring", "ring_rows", "two_ring", "turned_back", "_law_pot", "_law_draw", "_law_pick", "_law_is_change", "_law_all", "_law_step", "_law_behind", "_law_along", "_law_come", "_law_some", "_law_told", "_law_rings", "_law_order", "_law_two_right", "_law_hunting_right"] : List Str)
theorem run (w : World) : HandSHeadRun.RunEq R (PySem.W.view R.prog [56]) hk ob 20000 loose w := by
  intro os
  kernel_rfl
theorem law_facts {P : Program} {w : World} {K : PySem.W.Frag} {h : Heap} {mg : Str → Option Value} {f : Addr} (X : K.In h) (G : h.Ns mainGlobals mg) (hfa : mg ("law" : Str) = some (.ref f)) (c : He.SaysD fas fns K) :
    ∃ fd : FuncData, (∀ (s : Shared) (v : Value), BindsTo s fd ⟨[v], []⟩ [("script", v)]) ∧ ∀ base : Heap, K.In base → base.Ns mainGlobals mg → FnG P w K mg base 10 f fd ["script"] (spD K mg 1 0 m_law) := by
  obtain ⟨fd, F⟩ := c.def_ 39 (d := dd_law) rfl
  have e := hfa.symm.trans (He.glo_ok X G (c.fact 39 (f := .glo "law") rfl))
  cases e
  have b := FunD.bindsA (ps := ["script"]) F fun _ _ _ _ _ _ us hl => match us, hl with | [_], _ => rfl
  exact ⟨fd, fun s v => b s [v] rfl, fun base _ _ => fg_law (facts_of X G c) F⟩
end KX
open PySem PySem.W PySem.Calls PyProof.Rows
theorem PySem.Challenge.cw_pealworks_k64_whole_two_changes_in_turn_holds : PySem.Challenge.rw_pealworks_k64_whole_two_changes_in_turn.Holds := by
  w_on; o_law
  refine HandSHeadRun.head_any (r := OpenLaw.row PySem.Challenge.rw_pealworks_k64_whole_two_changes_in_turn) (q := view (OpenLaw.row PySem.Challenge.rw_pealworks_k64_whole_two_changes_in_turn).prog [56]) (H := KX.hk) (ob := KX.ob) (M := 20000) (loose := KX.loose) (d := HandSHeadRun.topDef (OpenLaw.row PySem.Challenge.rw_pealworks_k64_whole_two_changes_in_turn).prog 56) (kwd := []) KX.ob_eq
    (by kernel_rfl) (fun s => by kernel_rfl) KX.run (by kernel_rfl) (by kernel_rfl) (by kernel_rfl) (by rfl) (by first | assumption | decide +kernel) (by decide +kernel) ⟨rfl, rfl, rfl, rfl, rfl, by decide +kernel⟩ ?hw ?hc
  case hw => w_witness2
  case hc =>
    refine DS.walk_ofG (l := PySem.Challenge.rw_pealworks_k64_whole_two_changes_in_turn) (n := 63) (k := 10) (x := "script") rfl (by decide) (by kernel_rfl) ⟨rfl, by decide, by decide⟩ ?F
    intro w mg fa h Y G hmg0
    obtain ⟨K, KX', c⟩ := Y
    have hmg : mg ("law" : PySem.Str) = some (.ref fa) := by
      have e : (HandSHeadRun.topDef (OpenLaw.row PySem.Challenge.rw_pealworks_k64_whole_two_changes_in_turn).prog 56).name = ("law" : PySem.Str) := by kernel_rfl
      rw [← e]
      exact hmg0
    obtain ⟨fd, hb, hF⟩ := KX.law_facts (P := (PySem.Challenge.rw_pealworks_k64_whole_two_changes_in_turn).prog) (w := w) KX' G hmg c
    refine ⟨K, fd, DS.spD K mg 1 0 KX.m_law, KX', hb, fun H a ns hl hS => DS.law_sp hS ?_, hF⟩
    obtain ⟨S, e⟩ := KX.law_run ns
    rw [e]
    exact rfl
