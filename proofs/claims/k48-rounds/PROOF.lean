import PyProof.Rows.All
import Wide.All
import OpenK.AllK
import Wide.FinOn
import HandS.ForExc
import HandS.Comp
import HandS.Iter
import HandS.Dict
import HandS.Defaults
import HandS.Deep
import HandS.Flow
import HandS.Steps
import KE.KDictKeyed
import HandS.TupSets
import HandS.Style
import HandS.Conv
import HandS.TupLen
import KE.KeyNested
import HandS.TupAny
import HandS.IsInst
import HandS.SortKw
import KE.SortData
import KE.DataMinMax
import HandS.DictComp
import HandS.SetBool
import HandS.Words
import HandS.HeadEnd
import HandS.Ends
import HandS.Head0
import HandS.Head1
import HandS.Head2
import HandS.HeadHook1
import HandS.HeadHook2
import PySem.Challenge.RW_slideinto_k48_whole_rounds
set_option Elab.async false
section
set_option linter.all false
set_option maxRecDepth 100000
set_option maxHeartbeats 1000000
/-! St1: values as data, the store, how both stand in the abstract heap, the judgements. -/
namespace SX
open PySem PySem.Spec PyProof.Rows L2

/-! ### data -/
inductive D where
  | non | bl (b : Bool) | int (i : Int) | str (x : PySem.Str) | ty (n : String) | glb (a : Nat) | rl (ns : List Int) | ref (n : Nat) | tup (ds : List D)
mutual
def D.beq : D → D → Bool
  | .non, .non => true
  | .bl a, .bl b => a == b
  | .int a, .int b => decide (a = b)
  | .str a, .str b => decide (a = b)
  | .ty a, .ty b => decide (a = b)
  | .glb a, .glb b => Nat.beq a b
  | .rl a, .rl b => decide (a = b)
  | .ref a, .ref b => Nat.beq a b
  | .tup a, .tup b => D.beqs a b
  | _, _ => false
def D.beqs : List D → List D → Bool
  | [], [] => true
  | a :: as, b :: bs => D.beq a b && D.beqs as bs
  | _, _ => false
end
mutual
theorem D.beq_self : ∀ a : D, D.beq a a = true
  | .non => by simp [D.beq]
  | .bl _ => by simp [D.beq]
  | .int _ => by simp [D.beq]
  | .str _ => by simp [D.beq]
  | .ty _ => by simp [D.beq]
  | .glb _ => by simp [D.beq]
  | .rl _ => by simp [D.beq]
  | .ref _ => by simp [D.beq]
  | .tup a => by rw [D.beq]; exact D.beqs_self a
theorem D.beqs_self : ∀ a : List D, D.beqs a a = true
  | [] => by simp [D.beqs]
  | a :: as => by rw [D.beqs, D.beq_self a, D.beqs_self as]; rfl
end
mutual
theorem D.of_beq : ∀ a b : D, D.beq a b = true → a = b
  | .non, b, h => by cases b <;> simp [D.beq] at h ⊢
  | .bl _, b, h => by cases b <;> simp [D.beq] at h ⊢ <;> exact h
  | .int _, b, h => by cases b <;> simp [D.beq] at h ⊢ <;> exact h
  | .str _, b, h => by cases b <;> simp [D.beq] at h ⊢ <;> exact h
  | .ty _, b, h => by cases b <;> simp [D.beq] at h ⊢ <;> exact h
  | .glb _, b, h => by cases b <;> simp [D.beq] at h ⊢ <;> exact h
  | .rl _, b, h => by cases b <;> simp [D.beq] at h ⊢ <;> exact h
  | .ref _, b, h => by cases b <;> simp [D.beq] at h ⊢ <;> exact h
  | .tup a, .tup b, h => by rw [D.beq] at h; rw [D.of_beqs a b h]
  | .tup a, .non, h => by simp [D.beq] at h
  | .tup a, .bl _, h => by simp [D.beq] at h
  | .tup a, .int _, h => by simp [D.beq] at h
  | .tup a, .str _, h => by simp [D.beq] at h
  | .tup a, .ty _, h => by simp [D.beq] at h
  | .tup a, .glb _, h => by simp [D.beq] at h
  | .tup a, .rl _, h => by simp [D.beq] at h
  | .tup a, .ref _, h => by simp [D.beq] at h
theorem D.of_beqs : ∀ a b : List D, D.beqs a b = true → a = b
  | [], [], _ => rfl
  | [], _ :: _, h => by simp [D.beqs] at h
  | _ :: _, [], h => by simp [D.beqs] at h
  | a :: as, b :: bs, h => by
    rw [D.beqs, Bool.and_eq_true] at h
    rw [D.of_beq a b h.1, D.of_beqs as bs h.2]
end
instance : DecidableEq D := fun a b =>
  if h : D.beq a b = true then isTrue (D.of_beq a b h) else isFalse fun e => h (by rw [e]; exact D.beq_self b)

/-- what stands at a place of the store -/
inductive SO where
  | lst (xs : List D) | dct (kvs : List (D × D)) | ins (C : Nat) (fs : List (PySem.Str × D)) | frz (kvs : List (D × D)) | set (ks : List (List Int))
abbrev Sto := List SO
structure Exn where
  cls : Nat
  fs : List (PySem.Str × D)
inductive Out (α : Type) where
  | ok (a : α) (S : Sto) | exc (x : Exn) (S : Sto) | err
@[inline] def Out.bind {α β : Type} (o : Out α) (k : α → Sto → Out β) : Out β := match o with
  | .ok a S => k a S
  | .exc x S => .exc x S
  | .err => .err
abbrev Env := List (Option D)
abbrev SE := Env → Sto → Out D
abbrev SA := Env → Sto → Out (List D)
abbrev SB := Env → Sto → Out Bool
inductive Flow where
  | nx (ρ : Env) (S : Sto) | rt (d : D) (S : Sto) | bk (ρ : Env) (S : Sto) | ct (ρ : Env) (S : Sto) | exc (x : Exn) (ρ : Env) (S : Sto) | err
abbrev SS := Env → Sto → Flow

/-! ### keys of dicts -/
mutual
/-- a key's nested form; depth is looked at apart -/
def nk : D → Option NestedKey
  | .non => some .none
  | .int i => some (.num i)
  | .str x => some (.text x)
  | .tup ds => (nks ds).map .tup
  | _ => none
def nks : List D → Option (List NestedKey)
  | [] => some []
  | d :: ds => match nk d, nks ds with
    | some k, some ks => some (k :: ks)
    | _, _ => none
end
/-- the kinds of keys that one dict may have: ints and texts, or tuples -/
def leafKey : D → Option Key
  | .int i => some (.inl i)
  | .str x => some (.inr x)
  | _ => none

/-! ### how data stands in the abstract heap -/
/-- a list that is only read -/
def RdL (K : PySem.W.Frag) (H : Hp) (a : Addr) (xs : List V) : Prop := (∃ o, H a = some (.frz o (.lst xs))) ∨
  ∃ (o : Obj) (its : Array Value) (n : Nat), K.lookup a = some o ∧ o.cls = .type "list" ∧ o.dict = none ∧ o.data = .seq its n ∧ its.size ≤ sizeLine ∧ Vals xs its.toList
theorem RdL.sq {K : PySem.W.Frag} {H : Hp} {a : Addr} {xs : List V} (h : RdL K H a xs) : SqL K H a xs := h.elim (fun ⟨o, e⟩ => .inl (.inr ⟨o, e⟩)) .inr
section
variable (K : PySem.W.Frag) (ads : List Addr) (H : Hp)
mutual
inductive RV : D → V → Prop
  | non : RV .non .non
  | bl (b : Bool) : RV (.bl b) (.bl b)
  | int (i : Int) : RV (.int i) (.int i)
  | str (x : PySem.Str) : RV (.str x) (.str x)
  | ty (n : String) : RV (.ty n) (.ty n)
  | glb (a : Nat) : RV (.glb a) (.ref a)
  | rl {ns : List Int} {a : Addr} : RdL K H a (ns.map V.int) → RV (.rl ns) (.ref a)
  | ref {n a : Nat} : ads[n]? = some a → RV (.ref n) (.ref a)
  | tup {ds : List D} {a : Addr} {xs : List V} : SqT K H a xs → RVs ds xs → RV (.tup ds) (.ref a)
inductive RVs : List D → List V → Prop
  | nil : RVs [] []
  | cons {d : D} {v : V} {ds : List D} {vs : List V} : RV d v → RVs ds vs → RVs (d :: ds) (v :: vs)
end
/-- names with values -/
inductive RFs : List (PySem.Str × D) → List (PySem.Str × V) → Prop
  | nil : RFs [] []
  | cons {f : PySem.Str} {d : D} {v : V} {ds : List (PySem.Str × D)} {vs : List (PySem.Str × V)} : RV K ads H d v → RFs ds vs → RFs ((f, d) :: ds) ((f, v) :: vs)
end
/-- what is known lasts -/
structure Le (K : PySem.W.Frag) (ads ads' : List Addr) (H H' : Hp) : Prop where
  pre : ∃ m, ads' = ads ++ m
  tups : ∀ a xs, SqT K H a xs → SqT K H' a xs
  rls : ∀ a xs, RdL K H a xs → RdL K H' a xs
theorem Le.refl {K : PySem.W.Frag} {ads : List Addr} {H : Hp} : Le K ads ads H H := ⟨⟨[], by simp⟩, fun _ _ h => h, fun _ _ h => h⟩
theorem Le.trans {K : PySem.W.Frag} {a b c : List Addr} {H1 H2 H3 : Hp} (x : Le K a b H1 H2) (y : Le K b c H2 H3) : Le K a c H1 H3 := by
  obtain ⟨m, rfl⟩ := x.pre
  obtain ⟨m2, rfl⟩ := y.pre
  exact ⟨⟨m ++ m2, by simp⟩, fun a xs h => y.tups a xs (x.tups a xs h), fun a xs h => y.rls a xs (x.rls a xs h)⟩
theorem Le.get {K : PySem.W.Frag} {ads ads' : List Addr} {H H' : Hp} (x : Le K ads ads' H H') {n : Nat} {a : Addr} (h : ads[n]? = some a) : ads'[n]? = some a := by
  obtain ⟨m, rfl⟩ := x.pre
  rw [List.getElem?_append_left (List.getElem?_eq_some_iff.mp h).1]
  exact h
section
variable {K : PySem.W.Frag} {ads ads' : List Addr} {H H' : Hp}
mutual
theorem RV.mono (le : Le K ads ads' H H') : ∀ {d : D} {v : V}, RV K ads H d v → RV K ads' H' d v
  | _, _, .non => .non
  | _, _, .bl b => .bl b
  | _, _, .int i => .int i
  | _, _, .str x => .str x
  | _, _, .ty n => .ty n
  | _, _, .glb a => .glb a
  | _, _, .rl h => .rl (le.rls _ _ h)
  | _, _, .ref h => .ref (le.get h)
  | _, _, .tup h r => .tup (le.tups _ _ h) (RVs.mono le r)
theorem RVs.mono (le : Le K ads ads' H H') : ∀ {ds : List D} {vs : List V}, RVs K ads H ds vs → RVs K ads' H' ds vs
  | _, _, .nil => .nil
  | _, _, .cons r rs => .cons (RV.mono le r) (RVs.mono le rs)
end
theorem RFs.mono (le : Le K ads ads' H H') : ∀ {ds : List (PySem.Str × D)} {vs : List (PySem.Str × V)}, RFs K ads H ds vs → RFs K ads' H' ds vs
  | _, _, .nil => .nil
  | _, _, .cons r rs => .cons (r.mono le) (RFs.mono le rs)
theorem RVs.length : ∀ {ds : List D} {vs : List V}, RVs K ads H ds vs → ds.length = vs.length
  | _, _, .nil => rfl
  | _, _, .cons _ rs => by rw [List.length_cons, List.length_cons, RVs.length rs]
theorem RVs.get : ∀ {ds : List D} {vs : List V} {i : Nat} {d : D}, RVs K ads H ds vs → ds[i]? = some d → ∃ v, vs[i]? = some v ∧ RV K ads H d v
  | _, _, _, _, .nil, h => by simp at h
  | _, _, 0, _, .cons r _, h => by
    simp only [List.getElem?_cons_zero, Option.some.injEq] at h
    subst h
    exact ⟨_, rfl, r⟩
  | _, _, i + 1, _, .cons _ rs, h => by
    simp only [List.getElem?_cons_succ] at h
    obtain ⟨v, h1, h2⟩ := RVs.get rs h
    exact ⟨v, by simpa using h1, h2⟩
theorem RVs.get' : ∀ {ds : List D} {vs : List V} {i : Nat} {v : V}, RVs K ads H ds vs → vs[i]? = some v → ∃ d, ds[i]? = some d ∧ RV K ads H d v
  | _, _, _, _, .nil, h => by simp at h
  | _, _, 0, _, .cons r _, h => by
    simp only [List.getElem?_cons_zero, Option.some.injEq] at h
    subst h
    exact ⟨_, rfl, r⟩
  | _, _, i + 1, _, .cons _ rs, h => by
    simp only [List.getElem?_cons_succ] at h
    obtain ⟨v, h1, h2⟩ := RVs.get' rs h
    exact ⟨v, by simpa using h1, h2⟩
theorem RVs.append : ∀ {ds es : List D} {vs us : List V}, RVs K ads H ds vs → RVs K ads H es us → RVs K ads H (ds ++ es) (vs ++ us)
  | _, _, _, _, .nil, h => h
  | _, _, _, _, .cons r rs, h => .cons r (RVs.append rs h)
theorem RVs.take : ∀ {ds : List D} {vs : List V} (n : Nat), RVs K ads H ds vs → RVs K ads H (ds.take n) (vs.take n)
  | _, _, 0, _ => .nil
  | _, _, _ + 1, .nil => .nil
  | _, _, n + 1, .cons r rs => .cons r (RVs.take n rs)
theorem RVs.drop : ∀ {ds : List D} {vs : List V} (n : Nat), RVs K ads H ds vs → RVs K ads H (ds.drop n) (vs.drop n)
  | _, _, 0, h => h
  | _, _, _ + 1, .nil => .nil
  | _, _, n + 1, .cons r rs => RVs.drop n rs
theorem RVs.set : ∀ {ds : List D} {vs : List V} (n : Nat) {d : D} {v : V}, RVs K ads H ds vs → RV K ads H d v → RVs K ads H (ds.set n d) (vs.set n v)
  | _, _, _, _, _, .nil, _ => .nil
  | _, _, 0, _, _, .cons r rs, h => .cons h rs
  | _, _, n + 1, _, _, .cons r rs, h => .cons r (RVs.set n rs h)
theorem RVs.dropLast : ∀ {ds : List D} {vs : List V}, RVs K ads H ds vs → RVs K ads H ds.dropLast vs.dropLast
  | _, _, .nil => .nil
  | _, _, .cons r .nil => .nil
  | _, _, .cons r (.cons r2 rs) => .cons r (RVs.dropLast (.cons r2 rs))
theorem RVs.eraseIdx : ∀ {ds : List D} {vs : List V} (n : Nat), RVs K ads H ds vs → RVs K ads H (ds.eraseIdx n) (vs.eraseIdx n)
  | _, _, _, .nil => .nil
  | _, _, 0, .cons r rs => rs
  | _, _, n + 1, .cons r rs => .cons r (RVs.eraseIdx n rs)
theorem RVs.reverse : ∀ {ds : List D} {vs : List V}, RVs K ads H ds vs → RVs K ads H ds.reverse vs.reverse
  | _, _, .nil => .nil
  | _, _, .cons r rs => by
    rw [List.reverse_cons, List.reverse_cons]
    exact RVs.append (RVs.reverse rs) (.cons r .nil)
theorem RVs.nil_of {vs : List V} (h : RVs K ads H [] vs) : vs = [] := by cases h; rfl
theorem RVs.cons_of {d : D} {ds : List D} {vs : List V} (h : RVs K ads H (d :: ds) vs) : ∃ v us, vs = v :: us ∧ RV K ads H d v ∧ RVs K ads H ds us := by
  cases h with
  | cons r rs => exact ⟨_, _, rfl, r, rs⟩
/-- a list of ints -/
theorem RVs.ints : ∀ {ns : List Int} {vs : List V}, RVs K ads H (ns.map D.int) vs → vs = ns.map V.int
  | [], _, h => by cases h; rfl
  | n :: ns, _, h => by
    cases h with
    | cons r rs =>
      cases r
      rw [RVs.ints rs, List.map_cons]
theorem RVs.of_ints : ∀ (ns : List Int), RVs K ads H (ns.map D.int) (ns.map V.int)
  | [] => .nil
  | n :: ns => .cons (.int n) (RVs.of_ints ns)
end

/-! ### dicts -/
/-- an entry: its hash, its key, its value -/
abbrev Row := Int × V × V
/-- a dict with its entries -/
def dctO (a : Addr) (rows : List Row) : HO := .ext fun h => rows.length ≤ sizeLine ∧ (a == sysModules) = false ∧ ∃ (o : Obj) (es : Array DictEntry) (ep : Nat), h.get? a = some o ∧ o.ExactDict ∧ o.data = .dict es ep ∧
  Paired (fun (r : Row) (e : DictEntry) => e.hash = r.1 ∧ RelV r.2.1 e.key ∧ RelV r.2.2 e.val) rows es.toList
/-- a key's hash -/
def hashD (w : World) (d : D) : Option Int := match d with
  | .int i => some (hashInt i)
  | .str x => some (hashStr w x)
  | .tup ds => (nks ds).map fun ks => (NestedKey.tup ks).hash w
  | _ => none
inductive RKs (K : PySem.W.Frag) (w : World) (ads : List Addr) (H : Hp) : List (D × D) → List Row → Prop
  | nil : RKs K w ads H [] []
  | cons {k d : D} {h : Int} {kv dv : V} {ds : List (D × D)} {vs : List Row} : hashD w k = some h → RV K ads H k kv → RV K ads H d dv → RKs K w ads H ds vs → RKs K w ads H ((k, d) :: ds) ((h, kv, dv) :: vs)
theorem RKs.mono {K : PySem.W.Frag} {w : World} {ads ads' : List Addr} {H H' : Hp} (le : Le K ads ads' H H') : ∀ {ds : List (D × D)} {vs : List Row}, RKs K w ads H ds vs → RKs K w ads' H' ds vs
  | _, _, .nil => .nil
  | _, _, .cons h r q rs => .cons h (r.mono le) (q.mono le) (RKs.mono le rs)

/-- an object of the store at its address -/
def RO (K : PySem.W.Frag) (w : World) (ads : List Addr) (H : Hp) (a : Addr) : SO → Prop
  | .lst xs => ∃ vs, H a = some (.lst vs) ∧ RVs K ads H xs vs
  | .dct kvs => ∃ rows, H a = some (dctO a rows) ∧ RKs K w ads H kvs rows ∧ (kvs.map (·.1)).Nodup
  | .ins C fs => ∃ dx vfs, H a = some (.ins C dx vfs) ∧ RFs K ads H fs vfs
  | .frz kvs => ∃ od rows, H a = some (.frz od (dctO a rows)) ∧ RKs K w ads H kvs rows ∧ (kvs.map (·.1)).Nodup
  | .set ks => ∃ P L, H a = some (SetTO P w a L) ∧ (L.map (·.2)).Perm ks ∧ ∀ p ∈ L, SqT K H p.1 (p.2.map V.int)
structure RS (K : PySem.W.Frag) (w : World) (ads : List Addr) (S : Sto) (H : Hp) : Prop where
  len : ads.length = S.length
  nodup : ads.Nodup
  sto : ∀ (n : Nat) (o : SO) (a : Addr), S[n]? = some o → ads[n]? = some a → RO K w ads H a o
structure RE (K : PySem.W.Frag) (ads : List Addr) (ρ : Env) (σ : L2.St) (H : Hp) : Prop where
  len : ρ.length = σ.length
  at_ : ∀ (i : Nat) (d : D), ρ[i]? = some (some d) → ∃ v, σ[i]? = some (some v) ∧ RV K ads H d v
theorem RE.mono {K : PySem.W.Frag} {ads ads' : List Addr} {ρ : Env} {σ : L2.St} {H H' : Hp} (le : Le K ads ads' H H') (r : RE K ads ρ σ H) : RE K ads' ρ σ H' :=
  ⟨r.len, fun i d h => let ⟨v, e, q⟩ := r.at_ i d h; ⟨v, e, q.mono le⟩⟩
theorem RE.set {K : PySem.W.Frag} {ads : List Addr} {ρ : Env} {σ : L2.St} {H : Hp} (r : RE K ads ρ σ H) (i : Nat) {d : D} {v : V} (h : RV K ads H d v) : RE K ads (ρ.set i (some d)) (σ.set i (some v)) H := by
  refine ⟨by rw [List.length_set, List.length_set]; exact r.len, fun j e hj => ?_⟩
  by_cases c : j = i
  · subst c
    by_cases hl : j < ρ.length
    · rw [List.getElem?_set_self hl] at hj
      cases hj
      exact ⟨v, List.getElem?_set_self (by rw [← r.len]; exact hl), h⟩
    · rw [List.getElem?_eq_none (by rw [List.length_set]; omega)] at hj
      cases hj
  · rw [List.getElem?_set_ne (Ne.symm c)] at hj
    obtain ⟨u, e1, e2⟩ := r.at_ j e hj
    exact ⟨u, by rw [List.getElem?_set_ne (Ne.symm c)]; exact e1, e2⟩
theorem RE.unset {K : PySem.W.Frag} {ads : List Addr} {ρ : Env} {σ : L2.St} {H : Hp} (r : RE K ads ρ σ H) (i : Nat) : RE K ads (ρ.set i none) (σ.set i none) H := by
  refine ⟨by rw [List.length_set, List.length_set]; exact r.len, fun j e hj => ?_⟩
  by_cases c : j = i
  · subst c
    by_cases hl : j < ρ.length
    · rw [List.getElem?_set_self hl] at hj
      cases hj
    · rw [List.getElem?_eq_none (by rw [List.length_set]; omega)] at hj
      cases hj
  · rw [List.getElem?_set_ne (Ne.symm c)] at hj
    obtain ⟨u, e1, e2⟩ := r.at_ j e hj
    exact ⟨u, by rw [List.getElem?_set_ne (Ne.symm c)]; exact e1, e2⟩
theorem RO.there {K : PySem.W.Frag} {w : World} {ads : List Addr} {H : Hp} {a : Addr} {o : SO} (h : RO K w ads H a o) : ∃ u, H a = some u := by
  cases o with
  | lst xs => obtain ⟨_, e, _⟩ := h; exact ⟨_, e⟩
  | dct kvs => obtain ⟨_, e, _⟩ := h; exact ⟨_, e⟩
  | ins C fs => obtain ⟨_, _, e, _⟩ := h; exact ⟨_, e⟩
  | frz kvs => obtain ⟨_, _, e, _⟩ := h; exact ⟨_, e⟩
  | set ks => obtain ⟨_, _, e, _⟩ := h; exact ⟨_, e⟩
end SX
end
section
set_option linter.all false
set_option maxRecDepth 100000
set_option maxHeartbeats 1000000
/-! St2: the judgements' readings, operators, tests, tuples, lists. -/
namespace SX
open PySem PySem.Spec PyProof.Rows L2

/-- an exception, its class and its dict -/
def RX (K : PySem.W.Frag) (ads : List Addr) (H : Hp) (x : Exn) (cls : Value) (d : Option Addr) : Prop := cls = .ref x.cls ∧ ∃ da vfs, d = some da ∧ H da = some (.xd vfs) ∧ RFs K ads H x.fs vfs
section
variable (K : PySem.W.Frag) (w : World) (W : WX)
/-- what an outcome has to bring: R says how the answer stands -/
def Fn {α β : Type} (R : List Addr → Hp → α → β → Prop) (ads : List Addr) (σ : L2.St) (H : Hp) (Q : β → Hp → Prop) : Out α → Prop
  | .ok a S' => ∀ ads' b H', Le K ads ads' H H' → RS K w ads' S' H' → R ads' H' a b → Q b H'
  | .exc x S' => ∀ ads' cls d H', Le K ads ads' H H' → RS K w ads' S' H' → RX K ads' H' x cls d → W cls d σ H'
  | .err => False
/-- the reading of an expression, of a test, of arguments -/
def tS (f : SE) : TE := fun σ H Q => ∃ ads ρ S, RS K w ads S H ∧ RE K ads ρ σ H ∧ Fn K w W (RV K) ads σ H Q (f ρ S)
def tT (f : SB) : TT := fun σ H Q => ∃ ads ρ S, RS K w ads S H ∧ RE K ads ρ σ H ∧ Fn K w W (fun _ _ a b => a = b) ads σ H Q (f ρ S)
def tA (f : SA) : TA := fun σ H Q => ∃ ads ρ S, RS K w ads S H ∧ RE K ads ρ σ H ∧ Fn K w W (RVs K) ads σ H Q (f ρ S)
/-- what a statement's end has to bring -/
def FS (ads : List Addr) (H : Hp) (D : Ends) : Flow → Prop
  | .nx ρ' S' => ∀ ads' σ' H', Le K ads ads' H H' → RS K w ads' S' H' → RE K ads' ρ' σ' H' → D.nx σ' H'
  | .bk ρ' S' => ∀ ads' σ' H', Le K ads ads' H H' → RS K w ads' S' H' → RE K ads' ρ' σ' H' → D.bk σ' H'
  | .ct ρ' S' => ∀ ads' σ' H', Le K ads ads' H H' → RS K w ads' S' H' → RE K ads' ρ' σ' H' → D.ct σ' H'
  | .rt d S' => ∀ ads' v H', Le K ads ads' H H' → RS K w ads' S' H' → RV K ads' H' d v → D.rt v H'
  | .exc x ρ' S' => ∀ ads' cls d σ' H', Le K ads ads' H H' → RS K w ads' S' H' → RE K ads' ρ' σ' H' → RX K ads' H' x cls d → W cls d σ' H'
  | .err => False
def tSt (f : SS) : TS := fun D σ H => ∃ ads ρ S, RS K w ads S H ∧ RE K ads ρ σ H ∧ FS K w W ads H D (f ρ S)
end
section
variable {K : PySem.W.Frag} {w : World} {W : WX} {α β γ δ : Type} {R : List Addr → Hp → α → β → Prop} {R' : List Addr → Hp → γ → δ → Prop} {ads ads' : List Addr} {σ : L2.St} {H H' : Hp} {Q : β → Hp → Prop} {Q' : δ → Hp → Prop}
theorem Fn.le (le : Le K ads ads' H H') {o : Out α} (h : Fn K w W R ads σ H Q o) : Fn K w W R ads' σ H' Q o := by
  cases o with
  | ok a S => exact fun ads2 b H2 l rs r => h ads2 b H2 (le.trans l) rs r
  | exc x S => exact fun ads2 c d H2 l rs r => h ads2 c d H2 (le.trans l) rs r
  | err => exact h
theorem Fn.mono {o : Out α} {P : β → Hp → Prop} (h : Fn K w W R ads σ H Q o) (i : ∀ b H1, Q b H1 → P b H1) : Fn K w W R ads σ H P o := by
  cases o with
  | ok a S => exact fun ads2 b H2 l rs r => i _ _ (h ads2 b H2 l rs r)
  | exc x S => exact h
  | err => exact h
/-- what is known behind the first part -/
structure Mid (K : PySem.W.Frag) (w : World) (W : WX) (R : List Addr → Hp → α → β → Prop) (ads : List Addr) (σ : L2.St) (H : Hp) (o : Out α) (b : β) (H1 : Hp) (T : List Addr → α → Sto → Prop) : Prop where
  ex : ∃ a S1 ads1, o = .ok a S1 ∧ Le K ads ads1 H H1 ∧ RS K w ads1 S1 H1 ∧ R ads1 H1 a b ∧ T ads1 a S1
theorem Fn.bind {o : Out α} {k : α → Sto → Out γ} (h : Fn K w W R' ads σ H Q' (o.bind k)) :
    Fn K w W R ads σ H (fun b H1 => ∃ a S1 ads1, Le K ads ads1 H H1 ∧ RS K w ads1 S1 H1 ∧ R ads1 H1 a b ∧ Fn K w W R' ads1 σ H1 Q' (k a S1)) o := by
  cases o with
  | ok a S => exact fun ads2 b H2 l rs r => ⟨a, S, ads2, l, rs, r, Fn.le l h⟩
  | exc x S => exact h
  | err => exact h
theorem FS.le {D : Ends} (le : Le K ads ads' H H') {o : Flow} (h : FS K w W ads H D o) : FS K w W ads' H' D o := by
  cases o with
  | nx ρ S => exact fun a b c l => h a b c (le.trans l)
  | bk ρ S => exact fun a b c l => h a b c (le.trans l)
  | ct ρ S => exact fun a b c l => h a b c (le.trans l)
  | rt d S => exact fun a b c l => h a b c (le.trans l)
  | exc x ρ S => exact fun a b c d e l => h a b c d e (le.trans l)
  | err => exact h
end
theorem PE.imp {X : Cx} {e : Expr} {t t' : TE} (h : PE X e t) (i : ∀ σ H Q, t' σ H Q → t σ H Q) : PE X e t' := ⟨fun pins s σ H Q I q => h.run pins s σ H Q I (i σ H Q q)⟩
theorem PT.imp {X : Cx} {e : Expr} {t t' : TT} (h : PT X e t) (i : ∀ σ H Q, t' σ H Q → t σ H Q) : PT X e t' := ⟨fun pins s σ H Q I q => h.run pins s σ H Q I (i σ H Q q)⟩
theorem PW.imp {X : Cx} {e : Expr} {t t' : TT} (h : PW X e t) (i : ∀ σ H Q, t' σ H Q → t σ H Q) : PW X e t' := ⟨fun wh pins s σ H Q I q => h.run wh pins s σ H Q I (i σ H Q q)⟩
theorem PA.imp {X : Cx} {e : List Expr} {t t' : TA} (h : PA X e t) (i : ∀ σ H Q, t' σ H Q → t σ H Q) : PA X e t' := ⟨fun pos pins s σ H Q I q => h.run pos pins s σ H Q I (i σ H Q q)⟩
theorem PS.imp {X : Cx} {e : Stmt} {t t' : TS} (h : PS X e t) (i : ∀ D σ H, t' D σ H → t D σ H) : PS X e t' := ⟨fun pins s σ H D I q => h.run pins s σ H D I (i D σ H q)⟩
theorem PSs.imp {X : Cx} {e : List Stmt} {t t' : TS} (h : PSs X e t) (i : ∀ D σ H, t' D σ H → t D σ H) : PSs X e t' := ⟨fun pins s σ H D I q => h.run pins s σ H D I (i D σ H q)⟩

/-! ### the store: new objects, changed ones -/
section
variable {K : PySem.W.Frag} {w : World} {ads : List Addr} {S : Sto} {H : Hp} {ρ : Env} {σ : L2.St}
theorem tups_new {p : Addr} {o : HO} (hp : H p = none) {a : Addr} {xs : List V} (h : SqT K H a xs) : SqT K (upd H p o) a xs := by
  rcases h with (h | ⟨ob, h⟩) | h
  · exact .inl (.inl (by rw [upd_ne (ne_of_none h hp)]; exact h))
  · exact .inl (.inr ⟨ob, by rw [upd_ne (ne_of_none h hp)]; exact h⟩)
  · exact .inr h
theorem rls_new {p : Addr} {o : HO} (hp : H p = none) {a : Addr} {xs : List V} (h : RdL K H a xs) : RdL K (upd H p o) a xs := by
  rcases h with ⟨ob, h⟩ | h
  · exact .inl ⟨ob, by rw [upd_ne (ne_of_none h hp)]; exact h⟩
  · exact .inr h
/-- an object that is neither a tuple nor frozen may change -/
def Free : HO → Prop
  | .tup _ => False
  | .frz _ (.tup _) => False
  | .frz _ (.lst _) => False
  | .frz _ (.frz _ _) => False
  | _ => True
theorem tups_upd {p : Addr} {o u : HO} (hp : H p = some u) (fr : Free u) {a : Addr} {xs : List V} (h : SqT K H a xs) : SqT K (upd H p o) a xs := by
  rcases h with (h | ⟨ob, h⟩) | h
  · exact .inl (.inl (by rw [upd_ne (fun e => by subst e; rw [h] at hp; cases hp; exact fr)]; exact h))
  · exact .inl (.inr ⟨ob, by rw [upd_ne (fun e => by subst e; rw [h] at hp; cases hp; exact fr)]; exact h⟩)
  · exact .inr h
theorem rls_upd {p : Addr} {o u : HO} (hp : H p = some u) (fr : Free u) {a : Addr} {xs : List V} (h : RdL K H a xs) : RdL K (upd H p o) a xs := by
  rcases h with ⟨ob, h⟩ | h
  · exact .inl ⟨ob, by rw [upd_ne (fun e => by subst e; rw [h] at hp; cases hp; exact fr)]; exact h⟩
  · exact .inr h
theorem le_new {p : Addr} {o : HO} (m : List Addr) (hp : H p = none) : Le K ads (ads ++ m) H (upd H p o) := ⟨⟨m, rfl⟩, fun _ _ => tups_new hp, fun _ _ => rls_new hp⟩
theorem le_upd {p : Addr} {o u : HO} (hp : H p = some u) (fr : Free u) : Le K ads ads H (upd H p o) := ⟨⟨[], by simp⟩, fun _ _ => tups_upd hp fr, fun _ _ => rls_upd hp fr⟩
theorem RO.keep {ads' : List Addr} {H' : Hp} (le : Le K ads ads' H H') {a : Addr} (e : H' a = H a) {o : SO} (h : RO K w ads H a o) : RO K w ads' H' a o := by
  cases o with
  | lst xs => obtain ⟨vs, q, r⟩ := h; exact ⟨vs, e.trans q, r.mono le⟩
  | dct kvs => obtain ⟨rows, q, r, n⟩ := h; exact ⟨rows, e.trans q, r.mono le, n⟩
  | ins C fs => obtain ⟨dx, vfs, q, r⟩ := h; exact ⟨dx, vfs, e.trans q, r.mono le⟩
  | frz kvs => obtain ⟨od, rows, q, r, n⟩ := h; exact ⟨od, rows, e.trans q, r.mono le, n⟩
  | set ks => obtain ⟨P, L, q, n, m⟩ := h; exact ⟨P, L, e.trans q, n, fun p hp => le.tups _ _ (m p hp)⟩
/-- a new object beside the store (a tuple) -/
theorem RS.beside (rs : RS K w ads S H) {p : Addr} {o : HO} (hp : H p = none) : RS K w ads S (upd H p o) := by
  have le : Le K ads ads H (upd H p o) := ⟨⟨[], by simp⟩, fun _ _ => tups_new hp, fun _ _ => rls_new hp⟩
  refine ⟨rs.len, rs.nodup, fun n so a h1 h2 => ?_⟩
  have r := rs.sto n so a h1 h2
  obtain ⟨u, hu⟩ := r.there
  exact r.keep le (upd_ne (ne_of_none hu hp))
theorem RS.notin (rs : RS K w ads S H) {p : Addr} (hp : H p = none) : p ∉ ads := fun hm => by
  obtain ⟨n, hn⟩ := List.mem_iff_getElem?.mp hm
  have hl : n < S.length := by rw [← rs.len]; exact (List.getElem?_eq_some_iff.mp hn).1
  obtain ⟨u, hu⟩ := (rs.sto n S[n] p (List.getElem?_eq_getElem hl) hn).there
  rw [hp] at hu; cases hu
/-- a new object of the store -/
theorem RS.new (rs : RS K w ads S H) {p : Addr} {o : HO} {so : SO} (hp : H p = none) (ro : RO K w (ads ++ [p]) (upd H p o) p so) : RS K w (ads ++ [p]) (S ++ [so]) (upd H p o) := by
  have le : Le K ads (ads ++ [p]) H (upd H p o) := le_new [p] hp
  refine ⟨by rw [List.length_append, List.length_append, rs.len]; rfl, ?_, fun n so' a h1 h2 => ?_⟩
  · refine List.nodup_append.mpr ⟨rs.nodup, by simp, fun a ha b hb e => ?_⟩
    have : b = p := by simpa using hb
    exact rs.notin hp (by rw [← this, ← e]; exact ha)
  · by_cases hn : n < S.length
    · rw [List.getElem?_append_left hn] at h1
      rw [List.getElem?_append_left (by rw [rs.len]; exact hn)] at h2
      have r := rs.sto n so' a h1 h2
      obtain ⟨u, hu⟩ := r.there
      exact r.keep le (upd_ne (ne_of_none hu hp))
    · have e : n = S.length := by
        have := (List.getElem?_eq_some_iff.mp h1).1
        rw [List.length_append] at this
        simp at this
        omega
      subst e
      rw [List.getElem?_append_right (Nat.le_refl _), Nat.sub_self] at h1
      rw [← rs.len, List.getElem?_append_right (Nat.le_refl _), Nat.sub_self] at h2
      simp at h1 h2
      subst h1 h2
      exact ro
theorem ads_get (rs : RS K w ads S H) {p : Addr} : (ads ++ [p])[S.length]? = some p := by
  rw [← rs.len, List.getElem?_append_right (Nat.le_refl _), Nat.sub_self]; rfl
/-- an object of the store changes -/
theorem RS.put (rs : RS K w ads S H) {n : Nat} {a : Addr} {o u : HO} {so : SO} (ha : ads[n]? = some a) (hu : H a = some u) (fr : Free u) (ro : RO K w ads (upd H a o) a so) : RS K w ads (S.set n so) (upd H a o) := by
  have le : Le K ads ads H (upd H a o) := le_upd hu fr
  refine ⟨by rw [List.length_set]; exact rs.len, rs.nodup, fun m so' b h1 h2 => ?_⟩
  by_cases c : m = n
  · subst c
    rw [ha] at h2; cases h2
    have hl : m < S.length := by
      rw [← rs.len]; exact (List.getElem?_eq_some_iff.mp ha).1
    rw [List.getElem?_set_self hl] at h1
    cases h1
    exact ro
  · rw [List.getElem?_set_ne (Ne.symm c)] at h1
    have nb : b ≠ a := fun e => by
      subst e
      exact c ((List.getElem?_inj (List.getElem?_eq_some_iff.mp h2).1 rs.nodup).mp (h2.trans ha.symm))
    exact (rs.sto m so' b h1 h2).keep le (upd_ne nb)
theorem RS.at (rs : RS K w ads S H) {n : Nat} {o : SO} (h : S[n]? = some o) : ∃ a, ads[n]? = some a ∧ RO K w ads H a o := by
  have hl : n < ads.length := by rw [rs.len]; exact (List.getElem?_eq_some_iff.mp h).1
  exact ⟨ads[n], List.getElem?_eq_getElem hl, rs.sto n o _ h (List.getElem?_eq_getElem hl)⟩
end

/-! ### names, constants -/
section
variable {X : Cx} {W : WX} {a b c : Expr} {fa fb fc : SE} {pos : Pos}
def sVar (i : Nat) : SE := fun ρ S => match ρ[i]? with
  | some (some d) => .ok d S
  | _ => .err
def sC (d : D) : SE := fun _ S => .ok d S
theorem se_var {i : Nat} {x : PySem.Str} (hN : X.N[i]? = some x) (hv : Vis X.env.scope x) (hd : (x == ("__debug__" : PySem.Str)) = false := by decide) (hcd : (x == ("__classdict__" : PySem.Str)) = false := by decide) : PE X (.Name x pos) (tS X.K X.w W (sVar i)) := by
  refine PE.imp (pe_var hN hv hd hcd) fun σ H Q ⟨ads, ρ, S, rs, re, fin⟩ => ?_
  unfold sVar at fin
  split at fin
  · rename_i d e
    obtain ⟨v, h1, h2⟩ := re.at_ i d e
    exact ⟨v, h1, fin ads v H Le.refl rs h2⟩
  · exact fin.elim
theorem se_c {e : Expr} {v : V} {d : D} (h : PE X e (tC v)) (r : ∀ ads H, RV X.K ads H d v) : PE X e (tS X.K X.w W (sC d)) :=
  PE.imp h fun σ H Q ⟨ads, ρ, S, rs, re, fin⟩ => fin ads v H Le.refl rs (r _ _)
theorem se_int {i : Int} {j : Nat} : PE X (.Constant (.int i) j pos) (tS X.K X.w W (sC (.int i))) := se_c pe_int fun _ _ => .int i
theorem se_bl {i : Bool} {j : Nat} : PE X (.Constant (.bool i) j pos) (tS X.K X.w W (sC (.bl i))) := se_c pe_bl fun _ _ => .bl i
theorem se_non {j : Nat} : PE X (.Constant .none j pos) (tS X.K X.w W (sC .non)) := se_c pe_non fun _ _ => .non
theorem se_str {x : PySem.Str} {j : Nat} : PE X (.Constant (.str x) j pos) (tS X.K X.w W (sC (.str x))) := se_c pe_str fun _ _ => .str x

/-! ### two operands -/
def sOp2 (g : D → D → Sto → Out D) (fa fb : SE) : SE := fun ρ S => (fa ρ S).bind fun x S1 => (fb ρ S1).bind fun y S2 => g x y S2
/-- the operation on data is what the rule asks -/
def GOp (K : PySem.W.Frag) (w : World) (r : R2) (g : D → D → Sto → Out D) : Prop := ∀ (W : WX) (ads : List Addr) (σ : L2.St) (S : Sto) (H : Hp) (x y : D) (u v : V) (Q : VK), RS K w ads S H → RV K ads H x u → RV K ads H y v → Fn K w W (RV K) ads σ H Q (g x y S) → r u v H Q
theorem op2_imp {r : R2} {g : D → D → Sto → Out D} (hr : GOp X.K X.w r g) (σ : L2.St) (H : Hp) (Q : VK) (h : tS X.K X.w W (sOp2 g fa fb) σ H Q) : tOp r (tS X.K X.w W fa) (tS X.K X.w W fb) σ H Q := by
  obtain ⟨ads, ρ, S, rs, re, fin⟩ := h
  refine ⟨ads, ρ, S, rs, re, (Fn.bind fin).mono fun u H1 ⟨x, S1, ads1, le1, rs1, r1, fin1⟩ => ?_⟩
  refine ⟨ads1, ρ, S1, rs1, re.mono le1, (Fn.bind fin1).mono fun v H2 ⟨y, S2, ads2, le2, rs2, r2, fin2⟩ => ?_⟩
  exact hr W ads2 σ S2 H2 x y u v Q rs2 (r1.mono le2) r2 fin2
theorem se_op {op : Operator} {r : R2} {g : D → D → Sto → Out D} (ho : OpR X (binaryOp op) r) (hr : GOp X.K X.w r g) (ha : PE X a (tS X.K X.w W fa)) (hb : PE X b (tS X.K X.w W fb)) : PE X (.BinOp a op b pos) (tS X.K X.w W (sOp2 g fa fb)) :=
  PE.imp (pe_op ho ha hb) (op2_imp hr)
theorem se_cmp {op : CmpOp} {r : R2} {g : D → D → Sto → Out D} (ho : OpR X (compareOp op) r) (hr : GOp X.K X.w r g) (hm : behindInMarks op b = false) (ha : PE X a (tS X.K X.w W fa)) (hb : PE X b (tS X.K X.w W fb)) : PE X (.Compare a [op] [b] pos) (tS X.K X.w W (sOp2 g fa fb)) :=
  PE.imp (pe_cmpR ho ha hb hm) (op2_imp hr)
/-- a comparison as a test -/
def sBool (f : SE) : SB := fun ρ S => (f ρ S).bind fun x S1 => match x with
  | .bl b => .ok b S1
  | _ => .err
theorem test_imp {t : TE} {f : SE} (h : ∀ σ H Q, tS X.K X.w W f σ H Q → t σ H Q) (σ : L2.St) (H : Hp) (Q : Bool → Hp → Prop) (q : tT X.K X.w W (sBool f) σ H Q) : tTest t σ H Q := by
  obtain ⟨ads, ρ, S, rs, re, fin⟩ := q
  refine h σ H _ ⟨ads, ρ, S, rs, re, (Fn.bind fin).mono fun u H1 ⟨x, S1, ads1, le1, rs1, r1, fin1⟩ => ?_⟩
  cases r1 with
  | bl k => exact ⟨k, rfl, fin1 ads1 k H1 Le.refl rs1 rfl⟩
  | _ => exact fin1.elim
theorem st_cmp {op : CmpOp} {r : R2} {g : D → D → Sto → Out D} (ho : OpR X (compareOp op) r) (hr : GOp X.K X.w r g) (hm : behindInMarks op b = false) (ha : PE X a (tS X.K X.w W fa)) (hb : PE X b (tS X.K X.w W fb)) : PT X (.Compare a [op] [b] pos) (tT X.K X.w W (sBool (sOp2 g fa fb))) :=
  PT.imp (pt_cmpR ho ha hb hm) (test_imp (op2_imp hr))
/-- one operand -/
def sOp1 (g : D → Sto → Out D) (fa : SE) : SE := fun ρ S => (fa ρ S).bind g
def GUn (K : PySem.W.Frag) (w : World) (r : V → Hp → VK → Prop) (g : D → Sto → Out D) : Prop := ∀ (W : WX) (ads : List Addr) (σ : L2.St) (S : Sto) (H : Hp) (x : D) (u : V) (Q : VK), RS K w ads S H → RV K ads H x u → Fn K w W (RV K) ads σ H Q (g x S) → r u H Q
theorem se_un {op : UnaryOp} {r : V → Hp → VK → Prop} {g : D → Sto → Out D} (ho : UnR X (unaryOp op) r) (hr : GUn X.K X.w r g) (ha : PE X a (tS X.K X.w W fa)) : PE X (.UnaryOp op a pos) (tS X.K X.w W (sOp1 g fa)) :=
  PE.imp (pe_un ho ha) fun σ H Q ⟨ads, ρ, S, rs, re, fin⟩ => ⟨ads, ρ, S, rs, re, (Fn.bind fin).mono fun u H1 ⟨x, S1, ads1, le1, rs1, r1, fin1⟩ => hr W ads1 σ S1 H1 x u Q rs1 r1 fin1⟩
end

/-! ### operators on ints -/
def gI (C : Int → Int → Bool) (g : Int → Int → D) : D → D → Sto → Out D
  | .int i, .int j, S => if C i j then .ok (g i j) S else .err
  | _, _, _ => .err
section
variable {K : PySem.W.Frag} {w : World}
theorem gop_I {C : Int → Int → Prop} {c : Int → Int → Bool} {g : Int → Int → V} {g' : Int → Int → D} (hc : ∀ i j, c i j = true → C i j) (hg : ∀ ads H i j, RV K ads H (g' i j) (g i j)) : GOp K w (rI C g) (gI c g') := by
  intro W ads σ S H x y u v Q rs rx ry fin
  cases rx with
  | int i =>
    cases ry with
    | int j =>
      by_cases h : c i j = true
      · have e : gI c g' (.int i) (.int j) S = .ok (g' i j) S := if_pos h
        rw [e] at fin
        exact ⟨i, j, rfl, rfl, hc i j h, fin ads _ H Le.refl rs (hg _ _ _ _)⟩
      · have e : gI c g' (.int i) (.int j) S = .err := if_neg h
        rw [e] at fin
        exact fin.elim
    | _ => exact fin.elim
  | _ => exact fin.elim
theorem gop_I0 {g : Int → Int → V} {g' : Int → Int → D} (hg : ∀ ads H i j, RV K ads H (g' i j) (g i j)) : GOp K w (rI0 g) (gI (fun _ _ => true) g') := by
  intro W ads σ S H x y u v Q rs rx ry fin
  cases rx with
  | int i =>
    cases ry with
    | int j =>
      have e : gI (fun _ _ => true) g' (.int i) (.int j) S = .ok (g' i j) S := by simp [gI]
      rw [e] at fin
      exact ⟨i, j, rfl, rfl, fin ads _ H Le.refl rs (hg _ _ _ _)⟩
    | _ => exact fin.elim
  | _ => exact fin.elim
end
def gDif := gI (fun _ _ => true) fun i j => .int (i - j)
def cMul (i j : Int) : Bool := decide ((-(2 ^ 64) < i ∧ i < 2 ^ 64) ∨ (-(2 ^ 64) < j ∧ j < 2 ^ 64))
def gMul := gI cMul fun i j => .int (i * j)
def gFdiv := gI (fun _ j => decide (0 < j ∧ j < 1073741824)) fun i j => .int (i / j)
def gMod := gI (fun _ j => decide (0 < j)) fun i j => .int (i % j)
def gPow := gI (fun i j => decide (0 ≤ j ∧ j ≤ 1000000 ∧ i.natAbs < 2 ^ 64)) fun i j => .int (i ^ j.toNat)
def gLt := gI (fun _ _ => true) fun i j => .bl (decide (i < j))
def gLe := gI (fun _ _ => true) fun i j => .bl (decide (i ≤ j))
def gGt := gI (fun _ _ => true) fun i j => .bl (decide (j < i))
def gGe := gI (fun _ _ => true) fun i j => .bl (decide (j ≤ i))
section
variable {X : Cx} {W : WX} {a b : Expr} {fa fb : SE} {pos : Pos}
theorem se_sub (ha : PE X a (tS X.K X.w W fa)) (hb : PE X b (tS X.K X.w W fb)) : PE X (.BinOp a .Sub b pos) (tS X.K X.w W (sOp2 gDif fa fb)) := se_op op_sub (gop_I0 fun _ _ _ _ => .int _) ha hb
theorem se_mulI (ha : PE X a (tS X.K X.w W fa)) (hb : PE X b (tS X.K X.w W fb)) : PE X (.BinOp a .Mult b pos) (tS X.K X.w W (sOp2 gMul fa fb)) := se_op op_mul (gop_I (c := cMul) (fun i j h => of_decide_eq_true (p := (-(2 ^ 64) < i ∧ i < 2 ^ 64) ∨ (-(2 ^ 64) < j ∧ j < 2 ^ 64)) h) fun _ _ _ _ => .int _) ha hb
theorem se_fdiv (ha : PE X a (tS X.K X.w W fa)) (hb : PE X b (tS X.K X.w W fb)) : PE X (.BinOp a .FloorDiv b pos) (tS X.K X.w W (sOp2 gFdiv fa fb)) := se_op op_fdiv (gop_I (c := fun _ j => decide (0 < j ∧ j < 1073741824)) (fun i j h => of_decide_eq_true (p := 0 < j ∧ j < 1073741824) h) fun _ _ _ _ => .int _) ha hb
theorem se_mod (ha : PE X a (tS X.K X.w W fa)) (hb : PE X b (tS X.K X.w W fb)) : PE X (.BinOp a .Mod b pos) (tS X.K X.w W (sOp2 gMod fa fb)) := se_op op_mod (gop_I (fun i j h => of_decide_eq_true h) fun _ _ _ _ => .int _) ha hb
theorem se_pow (ha : PE X a (tS X.K X.w W fa)) (hb : PE X b (tS X.K X.w W fb)) : PE X (.BinOp a .Pow b pos) (tS X.K X.w W (sOp2 gPow fa fb)) := se_op op_pow (gop_I (c := fun i j => decide (0 ≤ j ∧ j ≤ 1000000 ∧ i.natAbs < 2 ^ 64)) (fun i j h => of_decide_eq_true (p := 0 ≤ j ∧ j ≤ 1000000 ∧ i.natAbs < 2 ^ 64) h) fun _ _ _ _ => .int _) ha hb
theorem g_lt : GOp X.K X.w (rI0 fun i j => .bl (decide (i < j))) gLt := gop_I0 fun _ _ _ _ => .bl _
theorem g_le : GOp X.K X.w (rI0 fun i j => .bl (decide (i ≤ j))) gLe := gop_I0 fun _ _ _ _ => .bl _
theorem g_gt : GOp X.K X.w (rI0 fun i j => .bl (decide (j < i))) gGt := gop_I0 fun _ _ _ _ => .bl _
theorem g_ge : GOp X.K X.w (rI0 fun i j => .bl (decide (j ≤ i))) gGe := gop_I0 fun _ _ _ _ => .bl _
theorem se_lt (ha : PE X a (tS X.K X.w W fa)) (hb : PE X b (tS X.K X.w W fb)) : PE X (.Compare a [.Lt] [b] pos) (tS X.K X.w W (sOp2 gLt fa fb)) := se_cmp op_lt g_lt (nomark _) ha hb
theorem se_le (ha : PE X a (tS X.K X.w W fa)) (hb : PE X b (tS X.K X.w W fb)) : PE X (.Compare a [.LtE] [b] pos) (tS X.K X.w W (sOp2 gLe fa fb)) := se_cmp op_le g_le (nomark _) ha hb
theorem se_gt (ha : PE X a (tS X.K X.w W fa)) (hb : PE X b (tS X.K X.w W fb)) : PE X (.Compare a [.Gt] [b] pos) (tS X.K X.w W (sOp2 gGt fa fb)) := se_cmp op_gt g_gt (nomark _) ha hb
theorem se_ge (ha : PE X a (tS X.K X.w W fa)) (hb : PE X b (tS X.K X.w W fb)) : PE X (.Compare a [.GtE] [b] pos) (tS X.K X.w W (sOp2 gGe fa fb)) := se_cmp op_ge g_ge (nomark _) ha hb
theorem st_lt (ha : PE X a (tS X.K X.w W fa)) (hb : PE X b (tS X.K X.w W fb)) : PT X (.Compare a [.Lt] [b] pos) (tT X.K X.w W (sBool (sOp2 gLt fa fb))) := st_cmp op_lt g_lt (nomark _) ha hb
theorem st_le (ha : PE X a (tS X.K X.w W fa)) (hb : PE X b (tS X.K X.w W fb)) : PT X (.Compare a [.LtE] [b] pos) (tT X.K X.w W (sBool (sOp2 gLe fa fb))) := st_cmp op_le g_le (nomark _) ha hb
theorem st_gt (ha : PE X a (tS X.K X.w W fa)) (hb : PE X b (tS X.K X.w W fb)) : PT X (.Compare a [.Gt] [b] pos) (tT X.K X.w W (sBool (sOp2 gGt fa fb))) := st_cmp op_gt g_gt (nomark _) ha hb
theorem st_ge (ha : PE X a (tS X.K X.w W fa)) (hb : PE X b (tS X.K X.w W fb)) : PT X (.Compare a [.GtE] [b] pos) (tT X.K X.w W (sBool (sOp2 gGe fa fb))) := st_cmp op_ge g_ge (nomark _) ha hb
def gNeg : D → Sto → Out D
  | .int i, S => .ok (.int (-i)) S
  | _, _ => .err
theorem se_neg (ha : PE X a (tS X.K X.w W fa)) : PE X (.UnaryOp .USub a pos) (tS X.K X.w W (sOp1 gNeg fa)) := se_un un_neg (fun W ads σ S H x u Q rs rx fin => by
  cases rx with
  | int i => exact ⟨i, rfl, fin ads _ H Le.refl rs (.int _)⟩
  | _ => exact fin.elim) ha
end
end SX
end
section
set_option linter.all false
set_option maxRecDepth 100000
set_option maxHeartbeats 1000000
/-! St3: +, ==, in, is; tests; displays; subscripts, slices. -/
namespace SX
open PySem PySem.Spec PyProof.Rows L2

/-! ### + -/
def gAdd : D → D → Sto → Out D
  | .int i, .int j, S => .ok (.int (i + j)) S
  | .str a, .str b, S => if a.length + b.length ≤ sizeLine then .ok (.str (a ++ b)) S else .err
  | .tup xs, .tup ys, S => if xs ≠ [] ∧ xs.length + ys.length ≤ sizeLine then .ok (.tup (xs ++ ys)) S else .err
  | .ref n, .ref m, S => match S[n]?, S[m]? with
    | some (.lst xs), some (.lst ys) => if xs.length + ys.length ≤ sizeLine then .ok (.ref S.length) (S ++ [.lst (xs ++ ys)]) else .err
    | _, _ => .err
  | _, _, _ => .err
def rAddAll (K : PySem.W.Frag) : R2 := fun x y H Q => (rI0 (fun i j => .int (i + j))) x y H Q ∨ ((∃ i j, x = .str i ∧ y = .str j ∧ i.length + j.length ≤ sizeLine ∧ Q (.str (i ++ j)) H) ∨ (rCatT K x y H Q ∨ rCat x y H Q))
theorem op_addAll {X : Cx} : OpR X (binaryOp .Add) (rAddAll X.K) := op_add.or (op_add_str.or (op_catT.or op_cat))
section
variable {K : PySem.W.Frag} {w : World} {W : WX} {ads : List Addr} {σ : L2.St} {S : Sto} {H : Hp} {Q : VK}
theorem RVs.ne_nil {xs : List D} {vs : List V} (r : RVs K ads H xs vs) : xs ≠ [] ↔ vs ≠ [] := by
  cases r <;> simp
/-- a new tuple is handed on -/
theorem fin_tup {ds : List D} {vs : List V} (rs : RS K w ads S H) (r : RVs K ads H ds vs) (fin : Fn K w W (RV K) ads σ H Q (.ok (.tup ds) S)) : ∀ p, H p = none → Q (.ref p) (upd H p (.tup vs)) := fun p hp =>
  fin ads _ _ ⟨⟨[], by simp⟩, fun _ _ => tups_new hp, fun _ _ => rls_new hp⟩ (rs.beside hp) (.tup (SqT.of upd_same) (r.mono ⟨⟨[], by simp⟩, fun _ _ => tups_new hp, fun _ _ => rls_new hp⟩))
/-- a new list is handed on -/
theorem fin_lst {ds : List D} {vs : List V} (rs : RS K w ads S H) (r : RVs K ads H ds vs) (fin : Fn K w W (RV K) ads σ H Q (.ok (.ref S.length) (S ++ [.lst ds]))) : ∀ p, H p = none → Q (.ref p) (upd H p (.lst vs)) := fun p hp =>
  fin (ads ++ [p]) _ _ (le_new [p] hp) (rs.new hp ⟨vs, upd_same, r.mono (le_new [p] hp)⟩) (.ref (ads_get rs))
theorem gop_add : GOp K w (rAddAll K) gAdd := by
  intro W ads σ S H x y u v Q rs rx ry fin
  cases rx with
  | int i =>
    cases ry with
    | int j => exact .inl ⟨i, j, rfl, rfl, fin ads _ H Le.refl rs (.int _)⟩
    | _ => exact fin.elim
  | str a =>
    cases ry with
    | str b =>
      by_cases h : a.length + b.length ≤ sizeLine
      · rw [show gAdd (.str a) (.str b) S = .ok (.str (a ++ b)) S from if_pos h] at fin
        exact .inr (.inl ⟨a, b, rfl, rfl, h, fin ads _ H Le.refl rs (.str _)⟩)
      · rw [show gAdd (.str a) (.str b) S = .err from if_neg h] at fin
        exact fin.elim
    | _ => exact fin.elim
  | @tup xs a vs hx rxs =>
    cases ry with
    | @tup ys b us hy rys =>
      by_cases h : xs ≠ [] ∧ xs.length + ys.length ≤ sizeLine
      · rw [show gAdd (.tup xs) (.tup ys) S = .ok (.tup (xs ++ ys)) S from if_pos h] at fin
        refine .inr (.inr (.inl ⟨a, b, vs, us, rfl, rfl, hx, hy, rxs.ne_nil.mp h.1, by rw [← rxs.length, ← rys.length]; exact h.2, fun e => ?_, fun e => fin_tup rs (rxs.append rys) fin⟩))
        subst e
        have ey : ys = [] := by cases rys; rfl
        subst ey
        rw [List.append_nil] at fin
        exact fin ads _ H Le.refl rs (.tup hx rxs)
      · rw [show gAdd (.tup xs) (.tup ys) S = .err from if_neg h] at fin
        exact fin.elim
    | _ => exact fin.elim
  | @ref n a ha =>
    cases ry with
    | @ref m b hb =>
      unfold gAdd at fin
      simp only at fin
      split at fin
      · rename_i xs ys h1 h2
        obtain ⟨vs, e1, r1⟩ := rs.sto n _ a h1 ha
        obtain ⟨us, e2, r2⟩ := rs.sto m _ b h2 hb
        split at fin
        · rename_i h
          exact .inr (.inr (.inr ⟨a, b, vs, us, rfl, rfl, e1, e2, by rw [← r1.length, ← r2.length]; exact h, fin_lst rs (r1.append r2) fin⟩))
        · exact fin.elim
      · exact fin.elim
    | _ => exact fin.elim
  | _ => exact fin.elim
end
section
variable {X : Cx} {W : WX} {a b c : Expr} {fa fb fc : SE} {pos : Pos}
theorem se_add (ha : PE X a (tS X.K X.w W fa)) (hb : PE X b (tS X.K X.w W fb)) : PE X (.BinOp a .Add b pos) (tS X.K X.w W (sOp2 gAdd fa fb)) := se_op op_addAll gop_add ha hb
end

/-! ### data to be compared -/
def mapO {α β : Type} (f : α → Option β) : List α → Option (List β)
  | [] => some []
  | a :: as => match f a, mapO f as with
    | some b, some bs => some (b :: bs)
    | _, _ => none
mutual
/-- a value without lists -/
def pyT : D → Option PyData
  | .non => some .none
  | .bl b => some (.bool b)
  | .int i => some (.int i)
  | .str x => some (.str x)
  | .tup ds => (pyTs ds).map .tuple
  | _ => none
def pyTs : List D → Option (List PyData)
  | [] => some []
  | d :: ds => match pyT d, pyTs ds with
    | some p, some ps => some (p :: ps)
    | _, _ => none
end
/-- a value as Python compares it: n bounds the depth of lists in lists -/
def toPy (S : Sto) : Nat → D → Option PyData
  | 0, d => pyT d
  | n + 1, .ref a => match S[a]? with
    | some (.lst xs) => (mapO (toPy S n) xs).map .list
    | _ => none
  | n + 1, .tup ds => (mapO (toPy S n) ds).map .tuple
  | _ + 1, .rl ns => some (.list (ns.map .int))
  | _ + 1, d => pyT d
section
variable {K : PySem.W.Frag} {w : World} {ads : List Addr} {S : Sto} {H : Hp}
mutual
theorem pyT_dp : ∀ {d : D} {v : V} {p : PyData}, RV K ads H d v → pyT d = some p → Dp K H v p
  | .non, _, _, h, e => by cases h; simp [pyT] at e; subst e; exact .non
  | .bl b, _, _, h, e => by cases h; simp [pyT] at e; subst e; exact .bl b
  | .int i, _, _, h, e => by cases h; simp [pyT] at e; subst e; exact .int i
  | .str x, _, _, h, e => by cases h; simp [pyT] at e; subst e; exact .str x
  | .tup ds, _, p, h, e => by
    cases h with
    | tup hs r =>
      simp only [pyT, Option.map_eq_some_iff] at e
      obtain ⟨ps, e1, e2⟩ := e
      subst e2
      exact .tup hs (pyTs_dp r e1)
  | .ty _, _, _, _, e => by simp [pyT] at e
  | .glb _, _, _, _, e => by simp [pyT] at e
  | .rl _, _, _, _, e => by simp [pyT] at e
  | .ref _, _, _, _, e => by simp [pyT] at e
theorem pyTs_dp : ∀ {ds : List D} {vs : List V} {ps : List PyData}, RVs K ads H ds vs → pyTs ds = some ps → DpAll K H vs ps
  | [], _, _, h, e => by cases h; simp [pyTs] at e; subst e; exact .nil
  | d :: ds, _, _, h, e => by
    cases h with
    | cons r rs =>
      simp only [pyTs] at e
      split at e
      · rename_i p ps e1 e2
        cases e
        exact .cons (pyT_dp r e1) (pyTs_dp rs e2)
      · cases e
end
theorem ints_dp : ∀ ns : List Int, DpAll K H (ns.map V.int) (ns.map PyData.int)
  | [] => .nil
  | n :: ns => .cons (.int n) (ints_dp ns)
theorem toPy_dp (rs : RS K w ads S H) : ∀ (n : Nat) {d : D} {v : V} {p : PyData}, RV K ads H d v → toPy S n d = some p → Dp K H v p
  | 0, _, _, _, h, e => pyT_dp h (by rw [toPy] at e; exact e)
  | n + 1, d, v, p, h, e => by
    have all : ∀ (ds : List D) (vs : List V) (ps : List PyData), RVs K ads H ds vs → mapO (toPy S n) ds = some ps → DpAll K H vs ps := by
      intro ds
      induction ds with
      | nil => intro vs ps r e; cases r; simp [mapO] at e; subst e; exact .nil
      | cons d ds ih =>
        intro vs ps r e
        cases r with
        | cons r rs' =>
          simp only [mapO] at e
          split at e
          · rename_i p ps e1 e2
            cases e
            exact .cons (toPy_dp rs n r e1) (ih _ _ rs' e2)
          · cases e
    cases h with
    | @ref m a ha =>
      simp only [toPy] at e
      split at e
      · rename_i xs h1
        obtain ⟨vs, e1, r1⟩ := rs.sto m _ a h1 ha
        simp only [Option.map_eq_some_iff] at e
        obtain ⟨ps, e2, e3⟩ := e
        subst e3
        exact .lst (SqL.of e1) (all _ _ _ r1 e2)
      · cases e
    | tup hs r =>
      simp only [toPy, Option.map_eq_some_iff] at e
      obtain ⟨ps, e1, e2⟩ := e
      subst e2
      exact .tup hs (all _ _ _ r e1)
    | rl hr =>
      simp only [toPy, Option.some.injEq] at e
      subst e
      exact .lst hr.sq (ints_dp _)
    | non => exact pyT_dp (ads := ads) .non (by simpa [toPy] using e)
    | bl b => exact pyT_dp (ads := ads) (.bl b) (by simpa [toPy] using e)
    | int i => exact pyT_dp (ads := ads) (.int i) (by simpa [toPy] using e)
    | str x => exact pyT_dp (ads := ads) (.str x) (by simpa [toPy] using e)
    | ty _ => simp [toPy, pyT] at e
    | glb _ => simp [toPy, pyT] at e
end
/-- two values compared -/
def eqDD (S : Sto) (x y : D) : Option Bool := match toPy S 4 x, toPy S 4 y with
  | some p, some q => if SeqAt.shaped p = true ∧ SeqAt.shaped q = true then some (PyData.eqv p q) else none
  | _, _ => none
def gEq : D → D → Sto → Out D := fun x y S => match eqDD S x y with
  | some b => .ok (.bl b) S
  | none => .err
def gNe : D → D → Sto → Out D := fun x y S => match eqDD S x y with
  | some b => .ok (.bl (!b)) S
  | none => .err
/-- the items of a list or tuple -/
def itemsD (S : Sto) : D → Option (List D)
  | .tup ds => some ds
  | .ref n => match S[n]? with
    | some (.lst xs) => some xs
    | _ => none
  | .rl ns => some (ns.map .int)
  | _ => none
/-- x in a list or tuple -/
def inDD (S : Sto) (x y : D) : Option Bool := match toPy S 4 x, toPy S 4 y with
  | some p, some (.list ps) => if SeqAt.shaped p = true ∧ SeqAt.shaped (.list ps) = true then some (ps.any fun z => PyData.eqv z p) else none
  | some p, some (.tuple ps) => if SeqAt.shaped p = true ∧ SeqAt.shaped (.tuple ps) = true then some (ps.any fun z => PyData.eqv z p) else none
  | _, _ => none
def gIn : D → D → Sto → Out D := fun x y S => match inDD S x y with
  | some b => .ok (.bl b) S
  | none => .err
def gNotIn : D → D → Sto → Out D := fun x y S => match inDD S x y with
  | some b => .ok (.bl (!b)) S
  | none => .err
section
variable {K : PySem.W.Frag} {w : World}
theorem eqDD_dp {ads : List Addr} {S : Sto} {H : Hp} {x y : D} {u v : V} {b : Bool} (rs : RS K w ads S H) (rx : RV K ads H x u) (ry : RV K ads H y v) (e : eqDD S x y = some b) : ∃ p q, Dp K H u p ∧ Dp K H v q ∧ SeqAt.shaped p = true ∧ SeqAt.shaped q = true ∧ PyData.eqv p q = b := by
  unfold eqDD at e
  split at e
  · rename_i p q e1 e2
    split at e
    · rename_i h
      exact ⟨p, q, toPy_dp rs 4 rx e1, toPy_dp rs 4 ry e2, h.1, h.2, Option.some.inj e⟩
    · cases e
  · cases e
theorem gop_eq : GOp K w (rEqD K) gEq := by
  intro W ads σ S H x y u v Q rs rx ry fin
  unfold gEq at fin
  split at fin
  · rename_i b e
    obtain ⟨p, q, h1, h2, h3, h4, h5⟩ := eqDD_dp rs rx ry e
    exact ⟨p, q, h1, h2, h3, h4, by rw [h5]; exact fin ads _ H Le.refl rs (.bl _)⟩
  · exact fin.elim
theorem gop_ne : GOp K w (rNeD K) gNe := by
  intro W ads σ S H x y u v Q rs rx ry fin
  unfold gNe at fin
  split at fin
  · rename_i b e
    obtain ⟨p, q, h1, h2, h3, h4, h5⟩ := eqDD_dp rs rx ry e
    exact ⟨p, q, h1, h2, h3, h4, by rw [h5]; exact fin ads _ H Le.refl rs (.bl _)⟩
  · exact fin.elim
end
section
variable {X : Cx}
def rInTD (K : PySem.W.Frag) : R2 := fun x y H Q => ∃ d ds, Dp K H x d ∧ Dp K H y (.tuple ds) ∧ SeqAt.shaped d = true ∧ SeqAt.shaped (.tuple ds) = true ∧ Q (.bl (ds.any fun z => PyData.eqv z d)) H
def rNotInTD (K : PySem.W.Frag) : R2 := fun x y H Q => ∃ d ds, Dp K H x d ∧ Dp K H y (.tuple ds) ∧ SeqAt.shaped d = true ∧ SeqAt.shaped (.tuple ds) = true ∧ Q (.bl (!ds.any fun z => PyData.eqv z d)) H
theorem op_inTD (hu : X.A.units + 65 < cLine) : OpR X (compareOp .In) (rInTD X.K) := by
  intro pins s σ H x y v u Q I rx ry h
  obtain ⟨d, ds, hd, he, sd, se, q⟩ := h
  obtain ⟨as, r1⟩ := Dp.reads I d x v hd rx
  obtain ⟨bs, r2⟩ := Dp.reads I (.tuple ds) y u he ry
  exact SeqAt.in_tuple_reads r2 r1 (SeqAt.canLay_of_shaped se) (SeqAt.canLay_of_shaped sd) (room_in_shaped sd hu) ⟨.bl _, H, I, rfl, q⟩
theorem op_notInTD (hu : X.A.units + 65 < cLine) : OpR X (compareOp .NotIn) (rNotInTD X.K) := by
  intro pins s σ H x y v u Q I rx ry h
  obtain ⟨d, ds, hd, he, sd, se, q⟩ := h
  obtain ⟨as, r1⟩ := Dp.reads I d x v hd rx
  obtain ⟨bs, r2⟩ := Dp.reads I (.tuple ds) y u he ry
  exact SeqAt.notIn_tuple_reads r2 r1 (SeqAt.canLay_of_shaped se) (SeqAt.canLay_of_shaped sd) (room_in_shaped sd hu) ⟨.bl _, H, I, rfl, q⟩
def rInAll (K : PySem.W.Frag) : R2 := fun x y H Q => rInD K x y H Q ∨ rInTD K x y H Q
def rNotInAll (K : PySem.W.Frag) : R2 := fun x y H Q => rNotInD K x y H Q ∨ rNotInTD K x y H Q
theorem inDD_dp {K : PySem.W.Frag} {w : World} {ads : List Addr} {S : Sto} {H : Hp} {x y : D} {u v : V} {b : Bool} (rs : RS K w ads S H) (rx : RV K ads H x u) (ry : RV K ads H y v) (e : inDD S x y = some b) :
    ∃ p ps, Dp K H u p ∧ (Dp K H v (.list ps) ∨ Dp K H v (.tuple ps)) ∧ SeqAt.shaped p = true ∧ SeqAt.shaped (.list ps) = true ∧ SeqAt.shaped (.tuple ps) = true ∧ (ps.any fun z => PyData.eqv z p) = b := by
  unfold inDD at e
  have same : ∀ ps : List PyData, SeqAt.shaped (.list ps) = SeqAt.shaped (.tuple ps) := fun ps => by simp [SeqAt.shaped, PyData.canLay0, PyData.depth]
  split at e
  · rename_i p ps e1 e2
    split at e
    · rename_i h
      exact ⟨p, ps, toPy_dp rs 4 rx e1, .inl (toPy_dp rs 4 ry e2), h.1, h.2, by rw [← same]; exact h.2, Option.some.inj e⟩
    · cases e
  · rename_i p ps e1 e2
    split at e
    · rename_i h
      exact ⟨p, ps, toPy_dp rs 4 rx e1, .inr (toPy_dp rs 4 ry e2), h.1, by rw [same]; exact h.2, h.2, Option.some.inj e⟩
    · cases e
  · cases e
theorem gop_in {K : PySem.W.Frag} {w : World} : GOp K w (rInAll K) gIn := by
  intro W ads σ S H x y u v Q rs rx ry fin
  unfold gIn at fin
  split at fin
  · rename_i b e
    obtain ⟨p, ps, h1, h2, h3, h4, h5, h6⟩ := inDD_dp rs rx ry e
    have q : Q (.bl (ps.any fun z => PyData.eqv z p)) H := by rw [h6]; exact fin ads _ H Le.refl rs (.bl _)
    exact h2.elim (fun h => .inl ⟨p, ps, h1, h, h3, h4, q⟩) fun h => .inr ⟨p, ps, h1, h, h3, h5, q⟩
  · exact fin.elim
theorem gop_notIn {K : PySem.W.Frag} {w : World} : GOp K w (rNotInAll K) gNotIn := by
  intro W ads σ S H x y u v Q rs rx ry fin
  unfold gNotIn at fin
  split at fin
  · rename_i b e
    obtain ⟨p, ps, h1, h2, h3, h4, h5, h6⟩ := inDD_dp rs rx ry e
    have q : Q (.bl (!ps.any fun z => PyData.eqv z p)) H := by rw [h6]; exact fin ads _ H Le.refl rs (.bl _)
    exact h2.elim (fun h => .inl ⟨p, ps, h1, h, h3, h4, q⟩) fun h => .inr ⟨p, ps, h1, h, h3, h5, q⟩
  · exact fin.elim
/-- is, is not: None, bools -/
def gIs : D → D → Sto → Out D
  | x, .non, S => .ok (.bl (decide (x = .non))) S
  | .bl a, .bl b, S => .ok (.bl (decide (a = b))) S
  | _, _, _ => .err
def gIsNot : D → D → Sto → Out D
  | x, .non, S => .ok (.bl (!decide (x = .non))) S
  | .bl a, .bl b, S => .ok (.bl (!decide (a = b))) S
  | _, _, _ => .err
def rIsAll : R2 := fun x y H Q => (y = .non ∧ Q (.bl (decide (x = .non))) H) ∨ ∃ a b : Bool, x = .bl a ∧ y = .bl b ∧ Q (.bl (decide (a = b))) H
def rIsNotAll : R2 := fun x y H Q => (y = .non ∧ Q (.bl (!decide (x = .non))) H) ∨ ∃ a b : Bool, x = .bl a ∧ y = .bl b ∧ Q (.bl (!decide (a = b))) H
theorem op_isAll {X : Cx} : OpR X (compareOp .Is) rIsAll := op_isN.or op_isBl
theorem op_isNotAll {X : Cx} : OpR X (compareOp .IsNot) rIsNotAll := op_notN.or op_notBl
theorem rv_non {K : PySem.W.Frag} {ads : List Addr} {H : Hp} {x : D} {u : V} (r : RV K ads H x u) : decide (x = D.non) = decide (u = V.non) := by
  cases r <;> simp
theorem gop_is {K : PySem.W.Frag} {w : World} : GOp K w rIsAll gIs := by
  intro W ads σ S H x y u v Q rs rx ry fin
  cases ry with
  | non =>
    refine .inl ⟨rfl, ?_⟩
    rw [← rv_non rx]
    exact fin ads _ H Le.refl rs (.bl _)
  | bl b =>
    cases rx with
    | bl a => exact .inr ⟨a, b, rfl, rfl, fin ads _ H Le.refl rs (.bl _)⟩
    | _ => exact fin.elim
  | _ => cases rx <;> exact fin.elim
theorem gop_isNot {K : PySem.W.Frag} {w : World} : GOp K w rIsNotAll gIsNot := by
  intro W ads σ S H x y u v Q rs rx ry fin
  cases ry with
  | non =>
    refine .inl ⟨rfl, ?_⟩
    rw [← rv_non rx]
    exact fin ads _ H Le.refl rs (.bl _)
  | bl b =>
    cases rx with
    | bl a => exact .inr ⟨a, b, rfl, rfl, fin ads _ H Le.refl rs (.bl _)⟩
    | _ => exact fin.elim
  | _ => cases rx <;> exact fin.elim
end
section
variable {X : Cx} {W : WX} {a b c : Expr} {fa fb fc : SE} {pos : Pos}
theorem se_eq (hu : X.A.units + 64 < cLine) (ha : PE X a (tS X.K X.w W fa)) (hb : PE X b (tS X.K X.w W fb)) : PE X (.Compare a [.Eq] [b] pos) (tS X.K X.w W (sOp2 gEq fa fb)) := se_cmp (op_eqD hu) gop_eq (nomark _) ha hb
theorem se_ne (hu : X.A.units + 64 < cLine) (ha : PE X a (tS X.K X.w W fa)) (hb : PE X b (tS X.K X.w W fb)) : PE X (.Compare a [.NotEq] [b] pos) (tS X.K X.w W (sOp2 gNe fa fb)) := se_cmp (op_neD hu) gop_ne (nomark _) ha hb
theorem st_eq (hu : X.A.units + 64 < cLine) (ha : PE X a (tS X.K X.w W fa)) (hb : PE X b (tS X.K X.w W fb)) : PT X (.Compare a [.Eq] [b] pos) (tT X.K X.w W (sBool (sOp2 gEq fa fb))) := st_cmp (op_eqD hu) gop_eq (nomark _) ha hb
theorem st_ne (hu : X.A.units + 64 < cLine) (ha : PE X a (tS X.K X.w W fa)) (hb : PE X b (tS X.K X.w W fb)) : PT X (.Compare a [.NotEq] [b] pos) (tT X.K X.w W (sBool (sOp2 gNe fa fb))) := st_cmp (op_neD hu) gop_ne (nomark _) ha hb
theorem se_in (hu : X.A.units + 65 < cLine) (ha : PE X a (tS X.K X.w W fa)) (hb : PE X b (tS X.K X.w W fb)) (hm : behindInMarks .In b = false := by rfl) : PE X (.Compare a [.In] [b] pos) (tS X.K X.w W (sOp2 gIn fa fb)) := se_cmp ((op_inD hu).or (op_inTD hu)) gop_in hm ha hb
theorem se_notIn (hu : X.A.units + 65 < cLine) (ha : PE X a (tS X.K X.w W fa)) (hb : PE X b (tS X.K X.w W fb)) (hm : behindInMarks .NotIn b = false := by rfl) : PE X (.Compare a [.NotIn] [b] pos) (tS X.K X.w W (sOp2 gNotIn fa fb)) := se_cmp ((op_notInD hu).or (op_notInTD hu)) gop_notIn hm ha hb
theorem st_in (hu : X.A.units + 65 < cLine) (ha : PE X a (tS X.K X.w W fa)) (hb : PE X b (tS X.K X.w W fb)) (hm : behindInMarks .In b = false := by rfl) : PT X (.Compare a [.In] [b] pos) (tT X.K X.w W (sBool (sOp2 gIn fa fb))) := st_cmp ((op_inD hu).or (op_inTD hu)) gop_in hm ha hb
theorem st_notIn (hu : X.A.units + 65 < cLine) (ha : PE X a (tS X.K X.w W fa)) (hb : PE X b (tS X.K X.w W fb)) (hm : behindInMarks .NotIn b = false := by rfl) : PT X (.Compare a [.NotIn] [b] pos) (tT X.K X.w W (sBool (sOp2 gNotIn fa fb))) := st_cmp ((op_notInD hu).or (op_notInTD hu)) gop_notIn hm ha hb
theorem se_is (ha : PE X a (tS X.K X.w W fa)) (hb : PE X b (tS X.K X.w W fb)) : PE X (.Compare a [.Is] [b] pos) (tS X.K X.w W (sOp2 gIs fa fb)) := se_cmp op_isAll gop_is (nomark _) ha hb
theorem se_isNot (ha : PE X a (tS X.K X.w W fa)) (hb : PE X b (tS X.K X.w W fb)) : PE X (.Compare a [.IsNot] [b] pos) (tS X.K X.w W (sOp2 gIsNot fa fb)) := se_cmp op_isNotAll gop_isNot (nomark _) ha hb
theorem st_is (ha : PE X a (tS X.K X.w W fa)) (hb : PE X b (tS X.K X.w W fb)) : PT X (.Compare a [.Is] [b] pos) (tT X.K X.w W (sBool (sOp2 gIs fa fb))) := st_cmp op_isAll gop_is (nomark _) ha hb
theorem st_isNot (ha : PE X a (tS X.K X.w W fa)) (hb : PE X b (tS X.K X.w W fb)) : PT X (.Compare a [.IsNot] [b] pos) (tT X.K X.w W (sBool (sOp2 gIsNot fa fb))) := st_cmp op_isNotAll gop_isNot (nomark _) ha hb

/-! ### tests, and, or, not, if -/
/-- a value's truth -/
def truD (S : Sto) : D → Option Bool
  | .non => some false
  | .bl b => some b
  | .int i => some (i != 0)
  | .str x => if x.length ≤ sizeLine then some ((x.length : Int) != 0) else none
  | .tup ds => some (!ds.isEmpty)
  | .ref n => match S[n]? with
    | some (.lst xs) => some (!xs.isEmpty)
    | _ => none
  | .rl ns => some (!ns.isEmpty)
  | _ => none
def sTru (f : SE) : SB := fun ρ S => (f ρ S).bind fun x S1 => match truD S1 x with
  | some b => .ok b S1
  | none => .err
theorem RVs.isEmpty {K : PySem.W.Frag} {ads : List Addr} {H : Hp} {xs : List D} {vs : List V} (r : RVs K ads H xs vs) : xs.isEmpty = vs.isEmpty := by
  cases r <;> rfl
theorem st_truth (ha : PE X a (tS X.K X.w W fa)) (he : ∀ whole, isTrue a X.env whole = (do let v ← whole; standAt a.pos; holding [v] (truthy v)) := by intro _; rfl) : PT X a (tT X.K X.w W (sTru fa)) :=
  PT.imp (pt_truth ha he) fun σ H Q ⟨ads, ρ, S, rs, re, fin⟩ => ⟨ads, ρ, S, rs, re, (Fn.bind fin).mono fun u H1 ⟨x, S1, ads1, le1, rs1, r1, fin1⟩ => by
    split at fin1
    · rename_i b e
      refine ⟨b, ?_, fin1 ads1 b H1 Le.refl rs1 rfl⟩
      cases r1 with
      | non => exact (Option.some.inj e).symm
      | bl k => exact (Option.some.inj e).symm
      | int i => exact (Option.some.inj e).symm
      | str x =>
        simp only [truD] at e
        split at e
        · rename_i h
          exact ⟨h, (Option.some.inj e).symm⟩
        · cases e
      | tup hs r =>
        simp only [truD, Option.some.injEq] at e
        exact .inr (.inl ⟨_, hs, by rw [← e, r.isEmpty]⟩)
      | @ref n a ha =>
        simp only [truD] at e
        split at e
        · rename_i xs h1
          obtain ⟨vs, e1, r1⟩ := rs1.sto n _ a h1 ha
          exact .inl ⟨_, SqL.of e1, by rw [← Option.some.inj e, r1.isEmpty]⟩
        · cases e
      | @rl ns a hr =>
        simp only [truD, Option.some.injEq] at e
        refine .inl ⟨_, hr.sq, ?_⟩
        rw [← e]
        cases ns <;> rfl
      | ty _ => simp [truD] at e
      | glb _ => simp [truD] at e
    · exact fin1.elim⟩
def sAnd (f g : SB) : SB := fun ρ S => (f ρ S).bind fun b S1 => if b = true then g ρ S1 else .ok false S1
def sOr (f g : SB) : SB := fun ρ S => (f ρ S).bind fun b S1 => if b = true then .ok true S1 else g ρ S1
def sNot (f : SB) : SB := fun ρ S => (f ρ S).bind fun b S1 => .ok (!b) S1
variable {ga gb : SB} {rest : List Expr}
/-- and, or as values: all but the last are bools -/
def sAndV (fa fb : SE) : SE := fun ρ S => (fa ρ S).bind fun x S1 => match x with
  | .bl true => fb ρ S1
  | .bl false => .ok (.bl false) S1
  | _ => .err
def sOrV (fa fb : SE) : SE := fun ρ S => (fa ρ S).bind fun x S1 => match x with
  | .bl true => .ok (.bl true) S1
  | .bl false => fb ρ S1
  | _ => .err
def sNotV (fa : SE) : SE := fun ρ S => (fa ρ S).bind fun x S1 => match x with
  | .bl b => .ok (.bl (!b)) S1
  | _ => .err
def sIf (g : SB) (fa fb : SE) : SE := fun ρ S => (g ρ S).bind fun b S1 => if b = true then fa ρ S1 else fb ρ S1
theorem sw_and (ha : PT X a (tT X.K X.w W ga)) (hb : PW X (.BoolOp .And (b :: rest) pos) (tT X.K X.w W gb)) : PW X (.BoolOp .And (a :: b :: rest) pos) (tT X.K X.w W (sAnd ga gb)) :=
  PW.imp (pw_and ha hb) fun σ H Q ⟨ads, ρ, S, rs, re, fin⟩ => ⟨ads, ρ, S, rs, re, (Fn.bind fin).mono fun u H1 ⟨x, S1, ads1, le1, rs1, r1, fin1⟩ => by
    subst r1
    cases x with
    | true => exact ⟨ads1, ρ, S1, rs1, re.mono le1, fin1⟩
    | false => exact fin1 ads1 _ H1 Le.refl rs1 rfl⟩
theorem sw_or (ha : PT X a (tT X.K X.w W ga)) (hb : PW X (.BoolOp .Or (b :: rest) pos) (tT X.K X.w W gb)) : PW X (.BoolOp .Or (a :: b :: rest) pos) (tT X.K X.w W (sOr ga gb)) :=
  PW.imp (pw_or ha hb) fun σ H Q ⟨ads, ρ, S, rs, re, fin⟩ => ⟨ads, ρ, S, rs, re, (Fn.bind fin).mono fun u H1 ⟨x, S1, ads1, le1, rs1, r1, fin1⟩ => by
    subst r1
    cases x with
    | true => exact fin1 ads1 _ H1 Le.refl rs1 rfl
    | false => exact ⟨ads1, ρ, S1, rs1, re.mono le1, fin1⟩⟩
theorem st_not (ha : PT X a (tT X.K X.w W ga)) : PT X (.UnaryOp .Not a pos) (tT X.K X.w W (sNot ga)) :=
  PT.imp (pt_not ha) fun σ H Q ⟨ads, ρ, S, rs, re, fin⟩ => ⟨ads, ρ, S, rs, re, (Fn.bind fin).mono fun u H1 ⟨x, S1, ads1, le1, rs1, r1, fin1⟩ => by
    subst r1
    exact fin1 ads1 _ H1 Le.refl rs1 rfl⟩
theorem se_and (ha : PE X a (tS X.K X.w W fa)) (hb : PE X (.BoolOp .And (b :: rest) pos) (tS X.K X.w W fb)) : PE X (.BoolOp .And (a :: b :: rest) pos) (tS X.K X.w W (sAndV fa fb)) :=
  PE.imp (pe_and ha hb) fun σ H Q ⟨ads, ρ, S, rs, re, fin⟩ => ⟨ads, ρ, S, rs, re, (Fn.bind fin).mono fun u H1 ⟨x, S1, ads1, le1, rs1, r1, fin1⟩ => by
    cases r1 with
    | bl k =>
      refine ⟨k, rfl, ?_⟩
      cases k with
      | true => exact ⟨ads1, ρ, S1, rs1, re.mono le1, fin1⟩
      | false => exact fin1 ads1 _ H1 Le.refl rs1 (.bl _)
    | _ => exact fin1.elim⟩
theorem se_or (ha : PE X a (tS X.K X.w W fa)) (hb : PE X (.BoolOp .Or (b :: rest) pos) (tS X.K X.w W fb)) : PE X (.BoolOp .Or (a :: b :: rest) pos) (tS X.K X.w W (sOrV fa fb)) :=
  PE.imp (pe_or ha hb) fun σ H Q ⟨ads, ρ, S, rs, re, fin⟩ => ⟨ads, ρ, S, rs, re, (Fn.bind fin).mono fun u H1 ⟨x, S1, ads1, le1, rs1, r1, fin1⟩ => by
    cases r1 with
    | bl k =>
      refine ⟨k, rfl, ?_⟩
      cases k with
      | true => exact fin1 ads1 _ H1 Le.refl rs1 (.bl _)
      | false => exact ⟨ads1, ρ, S1, rs1, re.mono le1, fin1⟩
    | _ => exact fin1.elim⟩
theorem se_not (ha : PE X a (tS X.K X.w W fa)) : PE X (.UnaryOp .Not a pos) (tS X.K X.w W (sNotV fa)) :=
  PE.imp (pe_not ha) fun σ H Q ⟨ads, ρ, S, rs, re, fin⟩ => ⟨ads, ρ, S, rs, re, (Fn.bind fin).mono fun u H1 ⟨x, S1, ads1, le1, rs1, r1, fin1⟩ => by
    cases r1 with
    | bl k => exact ⟨k, rfl, fin1 ads1 _ H1 Le.refl rs1 (.bl _)⟩
    | _ => exact fin1.elim⟩
theorem se_if (hc : PT X c (tT X.K X.w W ga)) (ha : PE X a (tS X.K X.w W fa)) (hb : PE X b (tS X.K X.w W fb)) : PE X (.IfExp c a b pos) (tS X.K X.w W (sIf ga fa fb)) :=
  PE.imp (pe_ifExp hc ha hb) fun σ H Q ⟨ads, ρ, S, rs, re, fin⟩ => ⟨ads, ρ, S, rs, re, (Fn.bind fin).mono fun u H1 ⟨x, S1, ads1, le1, rs1, r1, fin1⟩ => by
    subst r1
    cases x with
    | true => exact ⟨ads1, ρ, S1, rs1, re.mono le1, fin1⟩
    | false => exact ⟨ads1, ρ, S1, rs1, re.mono le1, fin1⟩⟩

/-! ### arguments, displays -/
def sNil : SA := fun _ S => .ok [] S
def sCons (f : SE) (g : SA) : SA := fun ρ S => (f ρ S).bind fun x S1 => (g ρ S1).bind fun xs S2 => .ok (x :: xs) S2
variable {es : List Expr} {gs : SA} {e : Expr} {f : SE}
theorem sa_nil : PA X [] (tA X.K X.w W sNil) := PA.imp pa_nil fun σ H Q ⟨ads, ρ, S, rs, re, fin⟩ => fin ads [] H Le.refl rs .nil
theorem sa_cons (ha : PE X e (tS X.K X.w W f)) (hr : PA X es (tA X.K X.w W gs)) (hs : starEach (e :: es) X.env = (false, eval e X.env) :: starEach es X.env := by rfl) : PA X (e :: es) (tA X.K X.w W (sCons f gs)) :=
  PA.imp (pa_cons ha hr hs) fun σ H Q ⟨ads, ρ, S, rs, re, fin⟩ => ⟨ads, ρ, S, rs, re, (Fn.bind fin).mono fun u H1 ⟨x, S1, ads1, le1, rs1, r1, fin1⟩ =>
    ⟨ads1, ρ, S1, rs1, re.mono le1, (Fn.bind fin1).mono fun us H2 ⟨xs, S2, ads2, le2, rs2, r2, fin2⟩ => fin2 ads2 _ H2 Le.refl rs2 (.cons (r1.mono le2) r2)⟩⟩
def sTup (g : SA) : SE := fun ρ S => (g ρ S).bind fun xs S1 => if xs.length ≤ sizeLine then .ok (.tup xs) S1 else .err
def sLst (g : SA) : SE := fun ρ S => (g ρ S).bind fun xs S1 => if xs.length ≤ sizeLine then .ok (.ref S1.length) (S1 ++ [.lst xs]) else .err
theorem se_tup {k : Nat} (h : PA X es (tA X.K X.w W gs)) : PE X (.Tuple es k pos) (tS X.K X.w W (sTup gs)) :=
  PE.imp (pe_tup h) fun σ H Q ⟨ads, ρ, S, rs, re, fin⟩ => ⟨ads, ρ, S, rs, re, (Fn.bind fin).mono fun us H1 ⟨xs, S1, ads1, le1, rs1, r1, fin1⟩ => by
    split at fin1
    · rename_i hl
      exact ⟨by rw [← r1.length]; exact hl, fin_tup rs1 r1 fin1⟩
    · exact fin1.elim⟩
theorem se_lst (h : PA X es (tA X.K X.w W gs)) : PE X (.List es pos) (tS X.K X.w W (sLst gs)) :=
  PE.imp (pe_lst h) fun σ H Q ⟨ads, ρ, S, rs, re, fin⟩ => ⟨ads, ρ, S, rs, re, (Fn.bind fin).mono fun us H1 ⟨xs, S1, ads1, le1, rs1, r1, fin1⟩ => by
    split at fin1
    · rename_i hl
      exact ⟨by rw [← r1.length]; exact hl, fin_lst rs1 r1 fin1⟩
    · exact fin1.elim⟩

/-! ### items -/
def gIx : D → D → Sto → Out D
  | .tup ds, .int i, S => match atI ds i with
    | some d => .ok d S
    | none => .err
  | .rl ns, .int i, S => match atI ns i with
    | some n => .ok (.int n) S
    | none => .err
  | .ref n, .int i, S => match S[n]? with
    | some (.lst xs) => match atI xs i with
      | some d => .ok d S
      | none => .err
    | _ => .err
  | .str z, .int i, S => if z.length ≤ sizeLine then match atI z.cps.toList i with
      | some c => .ok (.str ⟨#[c]⟩) S
      | none => .err
    else .err
  | _, _, _ => .err
theorem RVs.atI {K : PySem.W.Frag} {ads : List Addr} {H : Hp} {ds : List D} {vs : List V} {i : Int} {d : D} (r : RVs K ads H ds vs) (h : L2.atI ds i = some d) : ∃ v, L2.atI vs i = some v ∧ RV K ads H d v := by
  unfold L2.atI at h ⊢
  rw [← r.length]
  cases e : ixN ds.length i with
  | none => rw [e] at h; cases h
  | some j =>
    rw [e] at h
    exact r.get h
theorem gop_ix {K : PySem.W.Frag} {w : World} : GOp K w (rIx K) gIx := by
  intro W ads σ S H x y u v Q rs rx ry fin
  cases ry with
  | int i =>
    cases rx with
    | tup hs r =>
      simp only [gIx] at fin
      split at fin
      · rename_i d e
        obtain ⟨v, e2, r2⟩ := r.atI e
        exact .inr (.inl ⟨_, _, i, v, rfl, rfl, hs, e2, fin ads _ H Le.refl rs r2⟩)
      · exact fin.elim
    | @rl ns a hr =>
      simp only [gIx] at fin
      split at fin
      · rename_i n e
        have r0 : RVs K ads H (ns.map D.int) (ns.map V.int) := RVs.of_ints ns
        have e3 : L2.atI (ns.map V.int) i = some (.int n) := by
          unfold L2.atI at e ⊢
          rw [List.length_map]
          cases e4 : ixN ns.length i with
          | none => rw [e4] at e; cases e
          | some j =>
            rw [e4] at e
            have e5 : ns[j]? = some n := e
            show (ns.map V.int)[j]? = some (.int n)
            rw [List.getElem?_map, e5]; rfl
        exact .inl ⟨a, _, i, .int n, rfl, rfl, hr.sq, e3, fin ads _ H Le.refl rs (.int n)⟩
      · exact fin.elim
    | @ref n a ha =>
      simp only [gIx] at fin
      split at fin
      · rename_i xs h1
        obtain ⟨vs, e1, r1⟩ := rs.sto n _ a h1 ha
        split at fin
        · rename_i d e
          obtain ⟨v, e2, r2⟩ := r1.atI e
          exact .inl ⟨a, vs, i, v, rfl, rfl, SqL.of e1, e2, fin ads _ H Le.refl rs r2⟩
        · exact fin.elim
      · exact fin.elim
    | str z =>
      simp only [gIx] at fin
      split at fin
      · rename_i hl
        split at fin
        · rename_i c e
          exact .inr (.inr ⟨z, i, c, rfl, rfl, hl, e, fin ads _ H Le.refl rs (.str _)⟩)
        · exact fin.elim
      · exact fin.elim
    | _ => exact fin.elim
  | _ => cases rx <;> exact fin.elim
theorem se_ix (ha : PE X a (tS X.K X.w W fa)) (hb : PE X b (tS X.K X.w W fb)) (hs : PlainIx b := by exact fun _ _ => rfl) : PE X (.Subscript a b pos) (tS X.K X.w W (sOp2 gIx fa fb)) :=
  PE.imp (pe_ix ix_seq ha hb hs) (op2_imp gop_ix)
end
end SX
end
section
set_option linter.all false
set_option maxRecDepth 100000
set_option maxHeartbeats 1000000
/-! St4: statements, loops. -/
namespace SX
open PySem PySem.Spec PyProof.Rows L2

@[inline] def Out.flow {α : Type} (o : Out α) (ρ : Env) (k : α → Sto → Flow) : Flow := match o with
  | .ok a S => k a S
  | .exc x S => .exc x ρ S
  | .err => .err
section
variable {K : PySem.W.Frag} {w : World} {W : WX} {α β : Type} {R : List Addr → Hp → α → β → Prop} {ads : List Addr} {σ : L2.St} {H : Hp} {D : Ends} {ρ : Env}
theorem Fn.flow {o : Out α} {k : α → Sto → Flow} (re : RE K ads ρ σ H) (h : FS K w W ads H D (o.flow ρ k)) :
    Fn K w W R ads σ H (fun b H1 => ∃ a S1 ads1, Le K ads ads1 H H1 ∧ RS K w ads1 S1 H1 ∧ R ads1 H1 a b ∧ FS K w W ads1 H1 D (k a S1)) o := by
  cases o with
  | ok a S => exact fun ads2 b H2 l rs r => ⟨a, S, ads2, l, rs, r, FS.le l h⟩
  | exc x S => exact fun ads2 c d H2 l rs r => h ads2 c d σ H2 l rs (re.mono l) r
  | err => exact h
end

/-! ### blocks -/
def sSkip : SS := fun ρ S => .nx ρ S
def sSeq (f g : SS) : SS := fun ρ S => match f ρ S with
  | .nx ρ' S' => g ρ' S'
  | o => o
section
variable {X : Cx} {W : WX} {a b c e : Expr} {f g : SS} {fa fb fe : SE} {ga : SB} {pos pos' : Pos} {st : Stmt} {rest : List Stmt}
theorem ss_nil : PSs X [] (tSt X.K X.w W sSkip) := PSs.imp pss_nil fun D σ H ⟨ads, ρ, S, rs, re, fin⟩ => fin ads σ H Le.refl rs re
theorem ss_cons (h1 : PS X st (tSt X.K X.w W f)) (h2 : PSs X rest (tSt X.K X.w W g)) : PSs X (st :: rest) (tSt X.K X.w W (sSeq f g)) :=
  PSs.imp (pss_cons h1 h2) fun D σ H ⟨ads, ρ, S, rs, re, fin⟩ => ⟨ads, ρ, S, rs, re, by
    unfold sSeq at fin
    cases e : f ρ S with
    | nx ρ' S' =>
      rw [e] at fin
      exact fun ads' σ' H' le rs' re' => ⟨ads', ρ', S', rs', re', FS.le le fin⟩
    | _ => rw [e] at fin; exact fin⟩
theorem ss_one (h : PS X st (tSt X.K X.w W f)) : PSs X [st] (tSt X.K X.w W f) := pss_one h
theorem ss_pass : PS X (.Pass pos) (tSt X.K X.w W sSkip) := PS.imp ps_pass fun D σ H ⟨ads, ρ, S, rs, re, fin⟩ => fin ads σ H Le.refl rs re
def sBreak : SS := fun ρ S => .bk ρ S
def sCont : SS := fun ρ S => .ct ρ S
theorem ss_break : PS X (.Break pos) (tSt X.K X.w W sBreak) := PS.imp ps_break fun D σ H ⟨ads, ρ, S, rs, re, fin⟩ => fin ads σ H Le.refl rs re
theorem ss_cont : PS X (.Continue pos) (tSt X.K X.w W sCont) := PS.imp ps_continue fun D σ H ⟨ads, ρ, S, rs, re, fin⟩ => fin ads σ H Le.refl rs re
/-- code that is not come to -/
def sNever : SS := fun _ _ => .err
theorem ss_never : PS X st (tSt X.K X.w W sNever) := PS.imp ps_never fun D σ H ⟨ads, ρ, S, rs, re, fin⟩ => fin
theorem sss_never : PSs X rest (tSt X.K X.w W sNever) := PSs.imp pss_never fun D σ H ⟨ads, ρ, S, rs, re, fin⟩ => fin
def sExpr (f : SE) : SS := fun ρ S => (f ρ S).flow ρ fun _ S1 => .nx ρ S1
theorem ss_expr (h : PE X e (tS X.K X.w W fe)) (hs : swapsWith e none pos.line X.env = pure false := by rfl) : PS X (.Expr e pos) (tSt X.K X.w W (sExpr fe)) :=
  PS.imp (ps_expr h hs) fun D σ H ⟨ads, ρ, S, rs, re, fin⟩ => ⟨ads, ρ, S, rs, re, (Fn.flow re fin).mono fun u H1 ⟨x, S1, ads1, le1, rs1, r1, fin1⟩ => fin1 ads1 σ H1 Le.refl rs1 (re.mono le1)⟩
def sRet (f : SE) : SS := fun ρ S => (f ρ S).flow ρ fun d S1 => .rt d S1
theorem ss_ret (h : PE X e (tS X.K X.w W fe)) : PS X (.Return (some e) pos) (tSt X.K X.w W (sRet fe)) :=
  PS.imp (ps_ret h) fun D σ H ⟨ads, ρ, S, rs, re, fin⟩ => ⟨ads, ρ, S, rs, re, (Fn.flow re fin).mono fun u H1 ⟨x, S1, ads1, le1, rs1, r1, fin1⟩ => fin1 ads1 u H1 Le.refl rs1 r1⟩
def sRetN : SS := fun ρ S => .rt .non S
theorem ss_retN : PS X (.Return none pos) (tSt X.K X.w W sRetN) := PS.imp ps_retN fun D σ H ⟨ads, ρ, S, rs, re, fin⟩ => fin ads _ H Le.refl rs .non
def sIfS (c : SB) (f g : SS) : SS := fun ρ S => (c ρ S).flow ρ fun b S1 => if b = true then f ρ S1 else g ρ S1
theorem ss_if {as bs : List Stmt} (hc : PT X c (tT X.K X.w W ga)) (ha : PSs X as (tSt X.K X.w W f)) (hb : PSs X bs (tSt X.K X.w W g)) : PS X (.If c as bs pos) (tSt X.K X.w W (sIfS ga f g)) :=
  PS.imp (ps_if hc ha hb) fun D σ H ⟨ads, ρ, S, rs, re, fin⟩ => ⟨ads, ρ, S, rs, re, (Fn.flow re fin).mono fun u H1 ⟨x, S1, ads1, le1, rs1, r1, fin1⟩ => by
    subst r1
    cases x with
    | true => exact ⟨ads1, ρ, S1, rs1, re.mono le1, fin1⟩
    | false => exact ⟨ads1, ρ, S1, rs1, re.mono le1, fin1⟩⟩

/-! ### targets -/
/-- a target takes a value: the slots and the store behind it -/
abbrev SG := D → Env → Sto → Option (Env × Sto)
abbrev SGs := List D → Env → Sto → Option (Env × Sto)
def GG (K : PySem.W.Frag) (w : World) (ads : List Addr) (H : Hp) (Q : L2.St → Hp → Prop) : Option (Env × Sto) → Prop
  | some (ρ', S') => ∀ ads' σ' H', Le K ads ads' H H' → RS K w ads' S' H' → RE K ads' ρ' σ' H' → Q σ' H'
  | none => False
def tG (K : PySem.W.Frag) (w : World) (g : SG) : TG := fun v σ H Q => ∃ ads ρ S d, RS K w ads S H ∧ RE K ads ρ σ H ∧ RV K ads H d v ∧ GG K w ads H Q (g d ρ S)
def tGs (K : PySem.W.Frag) (w : World) (g : SGs) : TGs := fun vs σ H Q => ∃ ads ρ S ds, RS K w ads S H ∧ RE K ads ρ σ H ∧ RVs K ads H ds vs ∧ GG K w ads H Q (g ds ρ S)
theorem PG.imp {t : Expr} {g g' : TG} (h : PG X t g) (i : ∀ v σ H Q, g' v σ H Q → g v σ H Q) : PG X t g' := ⟨fun pins s σ H v u Q I r q => h.run pins s σ H v u Q I r (i v σ H Q q)⟩
theorem PGs.imp {t : List Expr} {g g' : TGs} (h : PGs X t g) (i : ∀ v σ H Q, g' v σ H Q → g v σ H Q) : PGs X t g' := ⟨fun pins s σ H v u Q I r q => h.run pins s σ H v u Q I r (i v σ H Q q)⟩
theorem GG.le {K : PySem.W.Frag} {w : World} {ads ads' : List Addr} {H H' : Hp} {Q : L2.St → Hp → Prop} (le : Le K ads ads' H H') {o : Option (Env × Sto)} (h : GG K w ads H Q o) : GG K w ads' H' Q o := by
  match o, h with
  | some (ρ, S), h => exact fun a b c l => h a b c (le.trans l)
def gNm (i : Nat) : SG := fun d ρ S => some (ρ.set i (some d), S)
theorem sg_name {i : Nat} {x : PySem.Str} (hN : X.N.Nodup) (hi : X.N[i]? = some x) (hx : Loc X.env.scope x) (hf : X.fn x = true ∨ X.env.scope.names.lookup x = some .local := by first | exact .inl rfl | exact .inr rfl | assumption) : PG X (.Name x pos) (tG X.K X.w (gNm i)) :=
  PG.imp (pg_name hN hi hx hf) fun v σ H Q ⟨ads, ρ, S, d, rs, re, r, h⟩ => h ads _ H Le.refl rs (re.set i r)
def gNone : SGs := fun ds ρ S => match ds with
  | [] => some (ρ, S)
  | _ => none
def gMore (g : SG) (gs : SGs) : SGs := fun ds ρ S => match ds with
  | d :: r => match g d ρ S with
    | some (ρ', S') => gs r ρ' S'
    | none => none
  | [] => none
theorem sg_nil : PGs X [] (tGs X.K X.w gNone) := PGs.imp pgs_nil fun vs σ H Q ⟨ads, ρ, S, ds, rs, re, r, h⟩ => by
  cases r with
  | nil => exact ⟨rfl, h ads σ H Le.refl rs re⟩
  | cons _ _ => exact h.elim
theorem sg_cons {t : Expr} {ts : List Expr} {g : SG} {gs : SGs} (h1 : PG X t (tG X.K X.w g)) (h2 : PGs X ts (tGs X.K X.w gs)) (hs : List.map (fun x => x.snd) (assignEach (t :: ts) X.env) = assign t X.env :: List.map (fun x => x.snd) (assignEach ts X.env) := by rfl) : PGs X (t :: ts) (tGs X.K X.w (gMore g gs)) :=
  PGs.imp (pgs_cons h1 h2 hs) fun vs σ H Q ⟨ads, ρ, S, ds, rs, re, r, h⟩ => by
    cases r with
    | nil => exact h.elim
    | @cons d v ds' vs' r1 r2 =>
      unfold gMore at h
      simp only at h
      split at h
      · rename_i ρ' S' e
        exact ⟨v, vs', rfl, ads, ρ, S, d, rs, re, r1, by rw [e]; exact fun ads' σ' H' le rs' re' => ⟨ads', ρ', S', ds', rs', re', r2.mono le, h.le le⟩⟩
      · exact h.elim
def gTp (n : Nat) (gs : SGs) : SG := fun d ρ S => match d with
  | .tup ds => if ds.length = n then gs ds ρ S else none
  | _ => none
theorem sg_tup {es : List Expr} {k n : Nat} {gs : SGs} (hc : X.calm = true) (h : PGs X es (tGs X.K X.w gs)) (i : ∀ {t : TGs}, PGs X es t → PG X (.Tuple es k pos) (gTup X.K n t)) : PG X (.Tuple es k pos) (tG X.K X.w (gTp n gs)) :=
  PG.imp (i h) fun v σ H Q ⟨ads, ρ, S, d, rs, re, r, hh⟩ => by
    cases r with
    | tup hs r =>
      unfold gTp at hh
      simp only at hh
      split at hh
      · rename_i hl
        exact ⟨_, _, rfl, hs, by rw [← r.length]; exact hl, ads, ρ, S, _, rs, re, r, hh⟩
      · exact hh.elim
    | _ => exact hh.elim

/-! ### stores -/
def sAsg (g : SG) (f : SE) : SS := fun ρ S => (f ρ S).flow ρ fun d S1 => match g d ρ S1 with
  | some (ρ', S') => .nx ρ' S'
  | none => .err
theorem asg_imp {g : SG} {tg : TG} (hg : ∀ v σ H Q, tG X.K X.w g v σ H Q → tg v σ H Q) (D : Ends) (σ : L2.St) (H : Hp) (h : tSt X.K X.w W (sAsg g fe) D σ H) : tAsg (tS X.K X.w W fe) tg D σ H := by
  obtain ⟨ads, ρ, S, rs, re, fin⟩ := h
  refine ⟨ads, ρ, S, rs, re, (Fn.flow re fin).mono fun u H1 ⟨x, S1, ads1, le1, rs1, r1, fin1⟩ => hg _ _ _ _ ⟨ads1, ρ, S1, x, rs1, re.mono le1, r1, ?_⟩⟩
  split at fin1
  · rename_i ρ' S' e
    rw [e]
    exact fin1
  · exact fin1.elim
theorem ss_asg {t : Expr} {g : SG} (he : PE X e (tS X.K X.w W fe)) (hg : PG X t (tG X.K X.w g)) (hs : swapsWithSole [t] e pos.line X.env = pure false := by rfl) (hw : swappedStores [t] e X.env = pure none := by rfl) (h1 : List.map (fun x => x.snd) (assignEach [t] X.env) = [assign t X.env] := by rfl) :
    PS X (.Assign [t] e pos) (tSt X.K X.w W (sAsg g fe)) := PS.imp (ps_asg he hg hs hw h1) (asg_imp fun _ _ _ _ h => h)
theorem ss_set {i : Nat} {x : PySem.Str} (hN : X.N.Nodup) (hi : X.N[i]? = some x) (hx : Loc X.env.scope x) (he : PE X e (tS X.K X.w W fe)) (hs : swapsWith e (some (.Name x pos')) pos.line X.env = pure false := by rfl)
    (hf : X.fn x = true ∨ X.env.scope.names.lookup x = some .local := by first | exact .inl rfl | exact .inr rfl | assumption) : PS X (.Assign [.Name x pos'] e pos) (tSt X.K X.w W (sAsg (gNm i) fe)) :=
  PS.imp (ps_set hN hi hx he hs hf) (asg_imp fun v σ H Q ⟨ads, ρ, S, d, rs, re, r, h⟩ => h ads _ H Le.refl rs (re.set i r))
/-- a, b = x, y -/
def sPar (i j : Nat) (f : SA) : SS := fun ρ S => (f ρ S).flow ρ fun ds S1 => match ds with
  | [d, e] => .nx ((ρ.set i (some d)).set j (some e)) S1
  | _ => .err
def sPar3 (i j l : Nat) (f : SA) : SS := fun ρ S => (f ρ S).flow ρ fun ds S1 => match ds with
  | [d, e, u] => .nx (((ρ.set i (some d)).set j (some e)).set l (some u)) S1
  | _ => .err
theorem ss_par {st : Stmt} {i j : Nat} {fs : SA} {es : List Expr} (ha : PA X es (tA X.K X.w W fs)) (h : ∀ {t : TA}, PA X es t → PS X st (tPar i j t)) : PS X st (tSt X.K X.w W (sPar i j fs)) :=
  PS.imp (h ha) fun D σ H ⟨ads, ρ, S, rs, re, fin⟩ => ⟨ads, ρ, S, rs, re, (Fn.flow re fin).mono fun us H1 ⟨xs, S1, ads1, le1, rs1, r1, fin1⟩ => by
    split at fin1
    · cases r1 with
      | cons q1 r1 =>
        cases r1 with
        | cons q2 r1 =>
          cases r1
          exact ⟨_, _, rfl, fin1 ads1 _ H1 Le.refl rs1 (((re.mono le1).set i q1).set j q2)⟩
    · exact fin1.elim⟩
theorem ss_par3 {st : Stmt} {i j l : Nat} {fs : SA} {es : List Expr} (ha : PA X es (tA X.K X.w W fs)) (h : ∀ {t : TA}, PA X es t → PS X st (tPar3 i j l t)) : PS X st (tSt X.K X.w W (sPar3 i j l fs)) :=
  PS.imp (h ha) fun D σ H ⟨ads, ρ, S, rs, re, fin⟩ => ⟨ads, ρ, S, rs, re, (Fn.flow re fin).mono fun us H1 ⟨xs, S1, ads1, le1, rs1, r1, fin1⟩ => by
    split at fin1
    · cases r1 with
      | cons q1 r1 =>
        cases r1 with
        | cons q2 r1 =>
          cases r1 with
          | cons q3 r1 =>
            cases r1
            exact ⟨_, _, _, rfl, fin1 ads1 _ H1 Le.refl rs1 ((((re.mono le1).set i q1).set j q2).set l q3)⟩
    · exact fin1.elim⟩
/-- x += e at a name; the operation as for + -/
def sAug (i : Nat) (g : D → D → Sto → Out D) (f : SE) : SS := fun ρ S => match ρ[i]? with
  | some (some x) => (f ρ S).flow ρ fun y S1 => (g x y S1).flow ρ fun z S2 => .nx (ρ.set i (some z)) S2
  | _ => .err
def GIp (K : PySem.W.Frag) (w : World) (r : TIp) (g : D → D → Sto → Out D) : Prop := ∀ (W : WX) (ads : List Addr) (σ : L2.St) (S : Sto) (H : Hp) (x y : D) (u v : V) (Q : VK), RS K w ads S H → RV K ads H x u → RV K ads H y v → Fn K w W (RV K) ads σ H Q (g x y S) → r u v H Q
theorem ss_aug {i : Nat} {x : PySem.Str} {op : Operator} {ti : TIp} {g : D → D → Sto → Out D} (hN : X.N.Nodup) (hi : X.N[i]? = some x) (hx : Loc X.env.scope x) (he : PE X e (tS X.K X.w W fe)) (ho : PIp X op ti) (hg : GIp X.K X.w ti g)
    (h : ∀ {te : TE}, PE X e te → PS X st (tAug i te ti)) : PS X st (tSt X.K X.w W (sAug i g fe)) :=
  PS.imp (h he) fun D σ H ⟨ads, ρ, S, rs, re, fin⟩ => by
    unfold sAug at fin
    split at fin
    · rename_i x0 e0
      obtain ⟨v, h1, h2⟩ := re.at_ i _ e0
      refine ⟨v, h1, ads, ρ, S, rs, re, (Fn.flow re fin).mono fun u H1 ⟨y, S1, ads1, le1, rs1, r1, fin1⟩ => ?_⟩
      refine hg W ads1 σ S1 H1 x0 y v u _ rs1 (h2.mono le1) r1 ((Fn.flow (re.mono le1) fin1).mono fun z H2 ⟨zd, S2, ads2, le2, rs2, r2, fin2⟩ => ?_)
      exact fin2 ads2 _ H2 Le.refl rs2 (((re.mono le1).mono le2).set i r2)
    · exact fin.elim

/-! ### while -/
def sWhile (c : SB) (b : SS) : Nat → SS
  | 0 => fun _ _ => .err
  | n + 1 => fun ρ S => (c ρ S).flow ρ fun k S1 => if k = true then (match b ρ S1 with
      | .nx ρ' S' => sWhile c b n ρ' S'
      | .ct ρ' S' => sWhile c b n ρ' S'
      | .bk ρ' S' => .nx ρ' S'
      | o => o) else .nx ρ S1
theorem ss_while {as : List Stmt} (N : Nat) (hp : PassesOwn (model X.prog X.w) X.A X.env X.xe) (hc : PT X c (tT X.K X.w W ga)) (hb : PSs X as (tSt X.K X.w W f)) : PS X (.While c as [] pos) (tSt X.K X.w W (sWhile ga f N)) :=
  PS.imp (ps_while hp hc hb) fun D σ H ⟨ads, ρ, S, rs, re, fin⟩ => by
    refine ⟨fun m σ' H' => ∃ ads' ρ' S', RS X.K X.w ads' S' H' ∧ RE X.K ads' ρ' σ' H' ∧ FS X.K X.w W ads' H' D (sWhile ga f m ρ' S'), ⟨N, ads, ρ, S, rs, re, fin⟩, ?_⟩
    rintro m σ1 H1 ⟨ads1, ρ1, S1, rs1, re1, fin1⟩
    cases m with
    | zero => exact fin1.elim
    | succ m =>
      refine ⟨ads1, ρ1, S1, rs1, re1, (Fn.flow re1 fin1).mono fun k H2 ⟨k', S2, ads2, le2, rs2, r2, fin2⟩ => ?_⟩
      subst r2
      cases k' with
      | false => exact fin2 ads2 σ1 H2 Le.refl rs2 (re1.mono le2)
      | true =>
        refine ⟨fun σ' H' => ∃ ads' ρ' S', RS X.K X.w ads' S' H' ∧ RE X.K ads' ρ' σ' H' ∧ FS X.K X.w W ads' H' D (sWhile ga f m ρ' S'), fun σ' H' h => ⟨m, Nat.lt_succ_self m, h⟩, ads2, ρ1, S2, rs2, re1.mono le2, ?_⟩
        cases e : f ρ1 S2 with
        | nx ρ' S' => simp only [if_true, e] at fin2; exact fun ads' σ' H' le rs' re' => ⟨ads', ρ', S', rs', re', FS.le le fin2⟩
        | ct ρ' S' => simp only [if_true, e] at fin2; exact fun ads' σ' H' le rs' re' => ⟨ads', ρ', S', rs', re', FS.le le fin2⟩
        | bk ρ' S' => simp only [if_true, e] at fin2; exact fin2
        | rt d S' => simp only [if_true, e] at fin2; exact fin2
        | exc x ρ' S' => simp only [if_true, e] at fin2; exact fin2
        | err => simp only [if_true, e] at fin2; exact fin2

/-! ### for -/
/-- what a loop walks: the items, and what the store has to keep -/
structure Itm where
  items : List D
  chk : Sto → Bool
abbrev SI := Env → Sto → Out Itm
/-- the iterator yields these -/
def RIt (K : PySem.W.Frag) (w : World) (ads : List Addr) (H : Hp) (m : Itm) (J : It) : Prop :=
  ∀ (ads2 : List Addr) (S2 : Sto) (H2 : Hp) (i : Nat), Le K ads ads2 H H2 → RS K w ads2 S2 H2 → m.chk S2 = true →
    (∀ d, m.items[i]? = some d → J.go i H2 ∧ ∀ x H3, J.yld i H2 x H3 → Le K ads2 ads2 H2 H3 ∧ RS K w ads2 S2 H3 ∧ RV K ads2 H3 d x) ∧ (m.items.length ≤ i → J.stop i H2)
def tI (K : PySem.W.Frag) (w : World) (W : WX) (f : SI) : TI := fun σ H R => ∃ ads ρ S, RS K w ads S H ∧ RE K ads ρ σ H ∧ Fn K w W (RIt K w) ads σ H R (f ρ S)
theorem PI.imp {tg it : Expr} {t t' : TI} (h : PI X tg it t) (i : ∀ σ H R, t' σ H R → t σ H R) : PI X tg it t' := ⟨fun pins s σ H R I q => h.run pins s σ H R I (i σ H R q)⟩
def sForGo (g : SG) (b : SS) (chk : Sto → Bool) : List D → SS
  | [] => fun ρ S => if chk S = true then .nx ρ S else .err
  | d :: ds => fun ρ S => if chk S = true then (match g d ρ S with
      | some (ρ1, S1) => (match b ρ1 S1 with
        | .nx ρ' S' => sForGo g b chk ds ρ' S'
        | .ct ρ' S' => sForGo g b chk ds ρ' S'
        | .bk ρ' S' => .nx ρ' S'
        | o => o)
      | none => .err) else .err
def sFor (it : SI) (g : SG) (b : SS) : SS := fun ρ S => (it ρ S).flow ρ fun m S1 => sForGo g b m.chk m.items ρ S1
theorem ss_for {tg iter : Expr} {as : List Stmt} {it : SI} {g : SG} (hp : PassesOwn (model X.prog X.w) X.A X.env X.xe) (hc : X.calm = true) (hi : PI X tg iter (tI X.K X.w W it)) (hg : PG X tg (tG X.K X.w g)) (hb : PSs X as (tSt X.K X.w W f))
    (hs : ∀ x, foldedSetIterable iter X.env x = pure x := by intro _; rfl) : PS X (.For tg iter as [] pos) (tSt X.K X.w W (sFor it g f)) :=
  PS.imp (ps_for hp hc hi hg hb hs) fun D σ H ⟨ads, ρ, S, rs, re, fin⟩ => by
    refine ⟨ads, ρ, S, rs, re, (Fn.flow re fin).mono fun J H1 ⟨m, S1, ads1, le1, rs1, r1, fin1⟩ => ?_⟩
    refine ⟨fun i k σ' H' => k = m.items.length - i ∧ i ≤ m.items.length ∧ ∃ ads' ρ' S', Le X.K ads1 ads' H1 H' ∧ RS X.K X.w ads' S' H' ∧ RE X.K ads' ρ' σ' H' ∧ FS X.K X.w W ads' H' D (sForGo g f m.chk (m.items.drop i) ρ' S'),
      ⟨_, rfl, Nat.zero_le _, ads1, ρ, S1, Le.refl, rs1, re.mono le1, by rw [List.drop_zero]; exact fin1⟩, ?_⟩
    rintro i k σ2 H2 ⟨rfl, hi, ads2, ρ2, S2, le2, rs2, re2, fin2⟩
    by_cases hlt : i < m.items.length
    · have ed : m.items.drop i = m.items[i] :: m.items.drop (i + 1) := List.drop_eq_getElem_cons hlt
      rw [ed] at fin2
      unfold sForGo at fin2
      by_cases ck : m.chk S2 = true
      · rw [if_pos ck] at fin2
        obtain ⟨go, yl⟩ := (r1 ads2 S2 H2 i le2 rs2 ck).1 _ (List.getElem?_eq_getElem hlt)
        refine .inr ⟨go, fun σ' H' => i + 1 ≤ m.items.length ∧ ∃ ads' ρ' S', Le X.K ads1 ads' H1 H' ∧ RS X.K X.w ads' S' H' ∧ RE X.K ads' ρ' σ' H' ∧ FS X.K X.w W ads' H' D (sForGo g f m.chk (m.items.drop (i + 1)) ρ' S'),
          fun σ' H' h => ⟨m.items.length - (i + 1), by omega, rfl, h⟩, fun x H3 hy => ?_⟩
        obtain ⟨le3, rs3, r3⟩ := yl x H3 hy
        refine ⟨ads2, ρ2, S2, m.items[i], rs3, re2.mono le3, r3, ?_⟩
        have fin3 := FS.le le3 fin2
        split at fin3
        · rename_i ρ4 S4 e4
          rw [e4]
          intro ads4 σ4 H4 le4 rs4 re4
          have fin4 := FS.le le4 fin3
          refine ⟨ads4, ρ4, S4, rs4, re4, ?_⟩
          cases e : f ρ4 S4 with
          | nx ρ' S' => simp only [e] at fin4; exact fun ads' σ' H' le rs' re' => ⟨hlt, ads', ρ', S', ((le2.trans le3).trans le4).trans le, rs', re', FS.le le fin4⟩
          | ct ρ' S' => simp only [e] at fin4; exact fun ads' σ' H' le rs' re' => ⟨hlt, ads', ρ', S', ((le2.trans le3).trans le4).trans le, rs', re', FS.le le fin4⟩
          | bk ρ' S' => simp only [e] at fin4; exact fin4
          | rt d S' => simp only [e] at fin4; exact fin4
          | exc x ρ' S' => simp only [e] at fin4; exact fin4
          | err => simp only [e] at fin4; exact fin4
        · exact fin3.elim
      · rw [if_neg ck] at fin2
        exact fin2.elim
    · have e : m.items.drop i = [] := List.drop_eq_nil_of_le (by omega)
      rw [e] at fin2
      unfold sForGo at fin2
      by_cases ck : m.chk S2 = true
      · rw [if_pos ck] at fin2
        exact .inl ⟨(r1 ads2 S2 H2 i le2 rs2 ck).2 (by omega), fin2 ads2 σ2 H2 Le.refl rs2 re2⟩
      · rw [if_neg ck] at fin2
        exact fin2.elim
end
end SX
end
section
set_option linter.all false
set_option maxRecDepth 100000
set_option maxHeartbeats 1000000
/-! St5: what is walked; methods of lists; stores to places; builtins. -/
namespace SX
open PySem PySem.Spec PyProof.Rows L2

/-! ### walks -/
def lstAt (S : Sto) (n : Nat) : Option (List D) := match S[n]? with
  | some (.lst xs) => some xs
  | _ => none
theorem lstAt_eq {S : Sto} {n : Nat} {xs : List D} (h : lstAt S n = some xs) : S[n]? = some (.lst xs) := by
  unfold lstAt at h
  split at h
  · rename_i ys e
    rw [e, Option.some.inj h]
  · cases h
def itmOf (S : Sto) : D → Option Itm
  | .tup ds => some ⟨ds, fun _ => true⟩
  | .rl ns => some ⟨ns.map .int, fun _ => true⟩
  | .ref n => (lstAt S n).map fun xs => ⟨xs, fun S' => decide (lstAt S' n = some xs)⟩
  | _ => none
def iSeq (f : SE) : SI := fun ρ S => (f ρ S).bind fun x S1 => match itmOf S1 x with
  | some m => .ok m S1
  | none => .err
/-- a list or a tuple, walked -/
def tiSeq (K : PySem.W.Frag) (tl : TE) : TI := fun σ H R => tl σ H fun x H1 => (∃ a, x = .ref a ∧ (∃ xs, SqL K H1 a xs) ∧ R (Itl K a) H1) ∨ ∃ a, x = .ref a ∧ (∃ xs, SqT K H1 a xs) ∧ R (Itt K a) H1
section
variable {X : Cx} {W : WX} {tg l e : Expr} {tl : TE} {f fe : SE} {gs : SA}
theorem pi_seq (hl : PE X l tl) : PI X tg l (tiSeq X.K tl) := by
  refine ⟨fun pins s σ H R I h => thn (hl.run pins s σ H _ I h) fun v s1 ⟨x, H1, I1, r1, q1⟩ => ?_⟩
  have ex : x = x := rfl
  rcases q1 with ⟨a, rfl, ⟨xs, hq⟩, q⟩ | ⟨a, rfl, ⟨xs, hq⟩, q⟩
  · cases r1
    obtain ⟨its, rv, p, _⟩ := I1.list hq
    have new : ∀ b ∈ [s1.heap.objs.size], FpOk X pins H1 b := fun b hb => by
      obtain rfl : b = s1.heap.objs.size := by simpa using hb
      exact I1.fpOk (Nat.le_refl _) (I1.hok.fresh (Nat.le_refl _))
    exact wpAny_pyIter_list p.isList ⟨_, _, _, _, H1, rfl, I1.kept (t' := s1.toks) fun b o q => Heap.get?_push_of_some _ q, turn_list a _, ⟨_, Heap.get?_push_size _ rfl, rfl, rfl⟩, new, q⟩
  · cases r1
    obtain ⟨its, rv, p, _⟩ := I1.tuple hq
    have new : ∀ b ∈ [s1.heap.objs.size], FpOk X pins H1 b := fun b hb => by
      obtain rfl : b = s1.heap.objs.size := by simpa using hb
      exact I1.fpOk (Nat.le_refl _) (I1.hok.fresh (Nat.le_refl _))
    exact wpAny_pyIter_tuple p ⟨_, _, _, _, H1, rfl, I1.kept (t' := s1.toks) fun b o q => Heap.get?_push_of_some _ q, turn_tuple a _, ⟨_, Heap.get?_push_size _ rfl, rfl, rfl⟩, new, q⟩
section
variable {K : PySem.W.Frag} {w : World} {ads : List Addr} {S : Sto} {H : Hp}
theorem rit_tup {ds : List D} {a : Addr} {vs : List V} (hs : SqT K H a vs) (r : RVs K ads H ds vs) : RIt K w ads H ⟨ds, fun _ => true⟩ (Itt K a) := fun ads2 S2 H2 i le rs _ => by
  have h2 := le.tups _ _ hs
  refine ⟨fun d hd => ?_, fun hi => ⟨vs, h2, by rw [← r.length]; exact hi⟩⟩
  obtain ⟨v, hv, rv⟩ := r.get hd
  refine ⟨⟨vs, v, h2, hv⟩, fun x H3 ⟨e, q⟩ => ?_⟩
  subst e
  have e2 := q vs h2
  rw [hv] at e2; cases e2
  exact ⟨Le.refl, rs, rv.mono le⟩
theorem rit_rl {ns : List Int} {a : Addr} (hs : RdL K H a (ns.map V.int)) : RIt K w ads H ⟨ns.map .int, fun _ => true⟩ (Itl K a) := fun ads2 S2 H2 i le rs _ => by
  have h2 := (le.rls _ _ hs).sq
  have r := RVs.of_ints (K := K) (ads := ads2) (H := H2) ns
  refine ⟨fun d hd => ?_, fun hi => ⟨_, h2, by rw [← r.length]; exact hi⟩⟩
  obtain ⟨v, hv, rv⟩ := r.get hd
  refine ⟨⟨_, v, h2, hv⟩, fun x H3 ⟨e, q⟩ => ?_⟩
  subst e
  have e2 := q _ h2
  rw [hv] at e2; cases e2
  exact ⟨Le.refl, rs, rv⟩
theorem rit_lst {xs : List D} {n : Nat} {a : Addr} (ha : ads[n]? = some a) : RIt K w ads H ⟨xs, fun S' => decide (lstAt S' n = some xs)⟩ (Itl K a) := fun ads2 S2 H2 i le rs ck => by
  obtain ⟨vs, e1, r⟩ := rs.sto n _ a (lstAt_eq (of_decide_eq_true ck)) (le.get ha)
  refine ⟨fun d hd => ?_, fun hi => ⟨_, SqL.of e1, by rw [← r.length]; exact hi⟩⟩
  obtain ⟨v, hv, rv⟩ := r.get hd
  refine ⟨⟨_, v, SqL.of e1, hv⟩, fun x H3 ⟨e, q⟩ => ?_⟩
  subst e
  have e2 := q _ (SqL.of e1)
  rw [hv] at e2; cases e2
  exact ⟨Le.refl, rs, rv⟩
end
theorem si_seq (hl : PE X l (tS X.K X.w W f)) : PI X tg l (tI X.K X.w W (iSeq f)) :=
  PI.imp (pi_seq hl) fun σ H R ⟨ads, ρ, S, rs, re, fin⟩ => ⟨ads, ρ, S, rs, re, (Fn.bind fin).mono fun u H1 ⟨x, S1, ads1, le1, rs1, r1, fin1⟩ => by
    split at fin1
    · rename_i m e
      cases r1 with
      | tup hs r =>
        cases e
        exact .inr ⟨_, rfl, ⟨_, hs⟩, fin1 ads1 _ H1 Le.refl rs1 (rit_tup hs r)⟩
      | rl hs =>
        cases e
        exact .inl ⟨_, rfl, ⟨_, hs.sq⟩, fin1 ads1 _ H1 Le.refl rs1 (rit_rl hs)⟩
      | @ref n a ha =>
        simp only [itmOf, Option.map_eq_some_iff] at e
        obtain ⟨xs, e1, e2⟩ := e
        subst e2
        obtain ⟨vs, q1, q2⟩ := rs1.sto n _ a (lstAt_eq e1) ha
        exact .inl ⟨_, rfl, ⟨_, SqL.of q1⟩, fin1 ads1 _ H1 Le.refl rs1 (rit_lst ha)⟩
      | _ => cases e
    · exact fin1.elim⟩
/-- range -/
def rngList (lo : Int) (n : Nat) : List D := (List.range n).map fun (i : Nat) => .int (lo + (i : Int))
theorem rngList_get {lo : Int} {n i : Nat} {d : D} (h : (rngList lo n)[i]? = some d) : i < n ∧ d = .int (lo + (i : Int)) := by
  unfold rngList at h
  rw [List.getElem?_map] at h
  by_cases c : i < n
  · rw [List.getElem?_range c] at h
    exact ⟨c, (Option.some.inj h).symm⟩
  · rw [List.getElem?_eq_none (by rw [List.length_range]; omega)] at h
    cases h
theorem rit_rng {K : PySem.W.Frag} {w : World} {ads : List Addr} {H : Hp} (lo : Int) (n : Nat) : RIt K w ads H ⟨rngList lo n, fun _ => true⟩ (Itr lo n) := fun ads2 S2 H2 i le rs _ => by
  refine ⟨fun d hd => ?_, fun hi => by
    have : n ≤ i := by simpa [rngList] using hi
    exact this⟩
  obtain ⟨h1, rfl⟩ := rngList_get hd
  refine ⟨h1, fun x H3 ⟨e, q⟩ => ?_⟩
  subst e q
  exact ⟨Le.refl, rs, .int _⟩
def smallR (i : Int) : Bool := decide (-(2 ^ 62) ≤ i ∧ i < 2 ^ 62)
def iRg1 (gs : SA) : SI := fun ρ S => (gs ρ S).bind fun ds S1 => match ds with
  | [.int j] => if smallR j = true then .ok ⟨rngList 0 j.toNat, fun _ => true⟩ S1 else .err
  | _ => .err
def iRg2 (gs : SA) : SI := fun ρ S => (gs ρ S).bind fun ds S1 => match ds with
  | [.int i, .int j] => if smallR i = true ∧ smallR j = true then .ok ⟨rngList i (j - i).toNat, fun _ => true⟩ S1 else .err
  | _ => .err
theorem RVs.one {K : PySem.W.Frag} {ads : List Addr} {H : Hp} {i : Int} {vs : List V} (r : RVs K ads H [.int i] vs) : vs = [.int i] := by
  cases r with
  | cons q1 r => cases q1; cases r; rfl
theorem RVs.two {K : PySem.W.Frag} {ads : List Addr} {H : Hp} {i j : Int} {vs : List V} (r : RVs K ads H [.int i, .int j] vs) : vs = [.int i, .int j] := by
  cases r with
  | cons q1 r => cases q1; rw [r.one]
theorem rg1_imp : ∀ σ H R, tI X.K X.w W (iRg1 gs) σ H R → iRng1 (tA X.K X.w W gs) σ H R := fun σ H R ⟨ads, ρ, S, rs, re, fin⟩ => ⟨ads, ρ, S, rs, re, (Fn.bind fin).mono fun u H1 ⟨x, S1, ads1, le1, rs1, r1, fin1⟩ => by
  split at fin1
  · rename_i j
    split at fin1
    · rename_i h
      have h2 := of_decide_eq_true h
      exact ⟨j, r1.one, h2.1, h2.2, fin1 ads1 _ H1 Le.refl rs1 (rit_rng 0 j.toNat)⟩
    · exact fin1.elim
  · exact fin1.elim⟩
theorem rg2_imp : ∀ σ H R, tI X.K X.w W (iRg2 gs) σ H R → iRng2 (tA X.K X.w W gs) σ H R := fun σ H R ⟨ads, ρ, S, rs, re, fin⟩ => ⟨ads, ρ, S, rs, re, (Fn.bind fin).mono fun u H1 ⟨x, S1, ads1, le1, rs1, r1, fin1⟩ => by
  split at fin1
  · rename_i i j
    split at fin1
    · rename_i h
      have h1 := of_decide_eq_true h.1
      have h2 := of_decide_eq_true h.2
      exact ⟨i, j, r1.two, ⟨h1.1, h1.2, h2.1, h2.2⟩, fin1 ads1 _ H1 Le.refl rs1 (rit_rng i (j - i).toNat)⟩
    · exact fin1.elim
  · exact fin1.elim⟩
/-- range with a step -/
def rngListC (lo c : Int) (n : Nat) : List D := (List.range n).map fun (i : Nat) => .int (lo + (i : Int) * c)
theorem rit_rngC {K : PySem.W.Frag} {w : World} {ads : List Addr} {H : Hp} (lo c : Int) (n : Nat) : RIt K w ads H ⟨rngListC lo c n, fun _ => true⟩ (Itc lo c n) := fun ads2 S2 H2 i le rs _ => by
  refine ⟨fun d hd => ?_, fun hi => by
    have : n ≤ i := by simpa [rngListC] using hi
    exact this⟩
  unfold rngListC at hd
  rw [List.getElem?_map] at hd
  by_cases cc : i < n
  · rw [List.getElem?_range cc] at hd
    have ed : d = .int (lo + (i : Int) * c) := (Option.some.inj hd).symm
    subst ed
    refine ⟨cc, fun x H3 ⟨e, q⟩ => ?_⟩
    subst e q
    exact ⟨Le.refl, rs, .int _⟩
  · rw [List.getElem?_eq_none (by rw [List.length_range]; omega)] at hd
    cases hd
def iRg3 (gs : SA) : SI := fun ρ S => (gs ρ S).bind fun ds S1 => match ds with
  | [.int i, .int j, .int c] => if c ≠ 0 ∧ c.natAbs < 1073741824 ∧ Builtin.Range.small i j c = true then .ok ⟨rngListC i c (Builtin.Range.rangeSize i j c).toNat, fun _ => true⟩ S1 else .err
  | _ => .err
theorem rg3_imp (hn : ∀ i j c : Int, c ≠ 0 → 0 ≤ Builtin.Range.rangeSize i j c) : ∀ σ H R, tI X.K X.w W (iRg3 gs) σ H R → iRng3 (tA X.K X.w W gs) σ H R := fun σ H R ⟨ads, ρ, S, rs, re, fin⟩ => ⟨ads, ρ, S, rs, re, (Fn.bind fin).mono fun u H1 ⟨x, S1, ads1, le1, rs1, r1, fin1⟩ => by
  split at fin1
  · rename_i i j c
    split at fin1
    · rename_i h
      have e : u = [.int i, .int j, .int c] := by
        cases r1 with
        | cons q1 r => cases q1; rw [r.two]
      refine ⟨i, j, c, (Builtin.Range.rangeSize i j c).toNat, e, ⟨h.1, h.2.1, h.2.2, ?_⟩, fin1 ads1 _ H1 Le.refl rs1 (rit_rngC i c _)⟩
      have := hn i j c h.1
      omega
    · exact fin1.elim
  · exact fin1.elim⟩
/-- enumerate of a list -/
def enmList (xs : List D) : List D := xs.mapIdx fun i x => .tup [.int (i : Int), x]
def iEnm (gs : SA) : SI := fun ρ S => (gs ρ S).bind fun ds S1 => match ds with
  | [.ref n] => match lstAt S1 n with
    | some xs => .ok ⟨enmList xs, fun S' => decide (lstAt S' n = some xs)⟩ S1
    | none => .err
  | _ => .err
theorem rit_enm {K : PySem.W.Frag} {w : World} {ads : List Addr} {H : Hp} {xs : List D} {n : Nat} {a : Addr} (ha : ads[n]? = some a) : RIt K w ads H ⟨enmList xs, fun S' => decide (lstAt S' n = some xs)⟩ (Ite K a) := fun ads2 S2 H2 i le rs ck => by
  obtain ⟨vs, e1, r⟩ := rs.sto n _ a (lstAt_eq (of_decide_eq_true ck)) (le.get ha)
  refine ⟨fun d hd => ?_, fun hi => ⟨_, SqL.of e1, by rw [← r.length]; simpa [enmList] using hi⟩⟩
  unfold enmList at hd
  rw [List.getElem?_mapIdx] at hd
  obtain ⟨d0, hd0, rfl⟩ := Option.map_eq_some_iff.mp hd
  obtain ⟨v, hv, rv⟩ := r.get hd0
  refine ⟨⟨_, v, SqL.of e1, hv⟩, fun x H3 ⟨T, y, ex, hT, eH, q⟩ => ?_⟩
  subst ex eH
  have e2 := q _ (SqL.of e1)
  rw [hv] at e2; cases e2
  have le' : Le K ads2 ads2 H2 (upd H2 T (.tup [.int (i : Nat), v])) := ⟨⟨[], by simp⟩, fun _ _ => tups_new hT, fun _ _ => rls_new hT⟩
  exact ⟨le', rs.beside hT, .tup (SqT.of upd_same) (.cons (.int _) (.cons (rv.mono le') .nil))⟩
theorem enm_imp : ∀ σ H R, tI X.K X.w W (iEnm gs) σ H R → iEnum X.K (tA X.K X.w W gs) σ H R := fun σ H R ⟨ads, ρ, S, rs, re, fin⟩ => ⟨ads, ρ, S, rs, re, (Fn.bind fin).mono fun u H1 ⟨x, S1, ads1, le1, rs1, r1, fin1⟩ => by
  split at fin1
  · rename_i n
    split at fin1
    · rename_i xs e
      cases r1 with
      | cons q1 r =>
        cases r
        cases q1 with
        | ref ha =>
          obtain ⟨vs, q1, q2⟩ := rs1.sto n _ _ (lstAt_eq e) ha
          exact ⟨_, vs, rfl, SqL.of q1, fin1 ads1 _ H1 Le.refl rs1 (rit_enm ha)⟩
    · exact fin1.elim
  · exact fin1.elim⟩

/-! ### calls by values -/
def sCall (g : List D → Sto → Out D) (gs : SA) : SE := fun ρ S => (gs ρ S).bind g
def GCall (K : PySem.W.Frag) (w : World) (r : List V → Hp → VK → Prop) (g : List D → Sto → Out D) : Prop := ∀ (W : WX) (ads : List Addr) (σ : L2.St) (S : Sto) (H : Hp) (xs : List D) (us : List V) (Q : VK), RS K w ads S H → RVs K ads H xs us → Fn K w W (RV K) ads σ H Q (g xs S) → r us H Q
theorem cb_imp {r : List V → Hp → VK → Prop} {g : List D → Sto → Out D} (hr : GCall X.K X.w r g) : ∀ σ H Q, tS X.K X.w W (sCall g gs) σ H Q → tCB r (tA X.K X.w W gs) σ H Q := fun σ H Q ⟨ads, ρ, S, rs, re, fin⟩ =>
  ⟨ads, ρ, S, rs, re, (Fn.bind fin).mono fun u H1 ⟨x, S1, ads1, le1, rs1, r1, fin1⟩ => hr W ads1 σ S1 H1 x u Q rs1 r1 fin1⟩
/-- a method of a list -/
def sMeth (g : D → List D → Sto → Out D) (fo : SE) (gs : SA) : SE := fun ρ S => (fo ρ S).bind fun x S1 => match x with
  | .ref n => match lstAt S1 n with
    | some _ => (gs ρ S1).bind fun xs S2 => g x xs S2
    | none => .err
  | _ => .err
def GMt (K : PySem.W.Frag) (w : World) (r : V → List V → Hp → VK → Prop) (g : D → List D → Sto → Out D) : Prop := ∀ (W : WX) (ads : List Addr) (σ : L2.St) (S : Sto) (H : Hp) (x : D) (v : V) (xs : List D) (us : List V) (Q : VK), RS K w ads S H → RV K ads H x v → RVs K ads H xs us → Fn K w W (RV K) ads σ H Q (g x xs S) → r v us H Q
theorem bm_imp {r : V → List V → Hp → VK → Prop} {g : D → List D → Sto → Out D} (hr : GMt X.K X.w r g) : ∀ σ H Q, tS X.K X.w W (sMeth g f gs) σ H Q → tBM X.K "list" r (tS X.K X.w W f) (tA X.K X.w W gs) σ H Q := fun σ H Q ⟨ads, ρ, S, rs, re, fin⟩ =>
  ⟨ads, ρ, S, rs, re, (Fn.bind fin).mono fun u H1 ⟨x, S1, ads1, le1, rs1, r1, fin1⟩ => by
    split at fin1
    · rename_i n
      split at fin1
      · rename_i xs e
        cases r1 with
        | ref ha =>
          obtain ⟨vs, q1, q2⟩ := rs1.sto n _ _ (lstAt_eq e) ha
          exact ⟨.inl ⟨rfl, vs, SqL.of q1⟩, ads1, ρ, S1, rs1, re.mono le1, (Fn.bind fin1).mono fun us H2 ⟨ys, S2, ads2, le2, rs2, r2, fin2⟩ => hr W ads2 σ S2 H2 _ _ ys us Q rs2 (.ref (le2.get ha)) r2 fin2⟩
      · exact fin1.elim
    · exact fin1.elim⟩
theorem bm0_imp {r : V → List V → Hp → VK → Prop} {g : D → List D → Sto → Out D} (hr : GMt X.K X.w r g) : ∀ σ H Q, tS X.K X.w W (sMeth g f sNil) σ H Q → tBM0 X.K "list" r (tS X.K X.w W f) σ H Q := fun σ H Q ⟨ads, ρ, S, rs, re, fin⟩ =>
  ⟨ads, ρ, S, rs, re, (Fn.bind fin).mono fun u H1 ⟨x, S1, ads1, le1, rs1, r1, fin1⟩ => by
    split at fin1
    · rename_i n
      split at fin1
      · rename_i xs e
        cases r1 with
        | ref ha =>
          obtain ⟨vs, q1, q2⟩ := rs1.sto n _ _ (lstAt_eq e) ha
          exact ⟨.inl ⟨rfl, vs, SqL.of q1⟩, hr W ads1 σ S1 H1 _ _ [] [] Q rs1 (.ref ha) .nil fin1⟩
      · exact fin1.elim
    · exact fin1.elim⟩
end
section
variable {K : PySem.W.Frag} {w : World}
theorem fin_put {W : WX} {ads : List Addr} {σ : L2.St} {S : Sto} {H : Hp} {Q : VK} {n : Nat} {a : Addr} {vs us : List V} {ys : List D} {d : D} {v : V} (rs : RS K w ads S H) (ha : ads[n]? = some a) (e : H a = some (.lst vs)) (r : RVs K ads H ys us) (rv : RV K ads H d v)
    (fin : Fn K w W (RV K) ads σ H Q (.ok d (S.set n (.lst ys)))) : Q v (upd H a (.lst us)) :=
  have le : Le K ads ads H (upd H a (.lst us)) := le_upd e trivial
  fin ads _ _ le (rs.put ha e trivial ⟨us, upd_same, r.mono le⟩) (rv.mono le)
def gAppend : D → List D → Sto → Out D
  | .ref n, [y], S => match lstAt S n with
    | some xs => if xs.length < sizeLine then .ok .non (S.set n (.lst (xs ++ [y]))) else .err
    | none => .err
  | _, _, _ => .err
theorem gm_append : GMt K w rAppend gAppend := by
  intro W ads σ S H x v xs us Q rs rx rxs fin
  unfold gAppend at fin
  split at fin
  · rename_i n y
    split at fin
    · rename_i ys e
      split at fin
      · rename_i hl
        cases rx with
        | @ref _ a ha =>
          cases rxs with
          | cons ry r0 =>
            cases r0
            obtain ⟨vs, q1, q2⟩ := rs.sto n _ a (lstAt_eq e) ha
            exact ⟨a, vs, _, rfl, rfl, q1, by rw [← q2.length]; exact hl, fin_put rs ha q1 (q2.append (.cons ry .nil)) .non fin⟩
      · exact fin.elim
    · exact fin.elim
  · exact fin.elim
def gPop : D → List D → Sto → Out D
  | .ref n, [], S => match lstAt S n with
    | some xs => match xs[xs.length - 1]? with
      | some y => .ok y (S.set n (.lst xs.dropLast))
      | none => .err
    | none => .err
  | _, _, _ => .err
theorem gm_pop : GMt K w rPop gPop := by
  intro W ads σ S H x v xs us Q rs rx rxs fin
  unfold gPop at fin
  split at fin
  · rename_i n
    split at fin
    · rename_i ys e
      split at fin
      · rename_i y hy
        cases rx with
        | @ref _ a ha =>
          cases rxs
          obtain ⟨vs, q1, q2⟩ := rs.sto n _ a (lstAt_eq e) ha
          obtain ⟨v, hv, rv⟩ := q2.get hy
          exact ⟨a, vs, v, rfl, rfl, q1, by rw [← q2.length]; exact hv, fin_put rs ha q1 q2.dropLast rv fin⟩
      · exact fin.elim
    · exact fin.elim
  · exact fin.elim
def gExtend : D → List D → Sto → Out D
  | .ref n, [.ref m], S => match lstAt S n, lstAt S m with
    | some xs, some zs => if xs.length + zs.length ≤ sizeLine then .ok .non (S.set n (.lst (xs ++ zs))) else .err
    | _, _ => .err
  | _, _, _ => .err
theorem gm_extend : GMt K w rExtend gExtend := by
  intro W ads σ S H x v xs us Q rs rx rxs fin
  unfold gExtend at fin
  split at fin
  · rename_i n m
    split at fin
    · rename_i ys zs e e2
      split at fin
      · rename_i hl
        cases rx with
        | @ref _ a ha =>
          cases rxs with
          | cons ry r0 =>
            cases r0
            cases ry with
            | @ref _ b hb =>
              obtain ⟨vs, q1, q2⟩ := rs.sto n _ a (lstAt_eq e) ha
              obtain ⟨us2, q3, q4⟩ := rs.sto m _ b (lstAt_eq e2) hb
              exact ⟨a, b, vs, us2, rfl, rfl, q1, q3, by rw [← q2.length, ← q4.length]; exact hl, fin_put rs ha q1 (q2.append q4) .non fin⟩
      · exact fin.elim
    · exact fin.elim
  · exact fin.elim

/-! ### builtins -/
def gLen : List D → Sto → Out D
  | [x], S => match x with
    | .tup ds => .ok (.int ds.length) S
    | .rl ns => .ok (.int ns.length) S
    | .ref n => match lstAt S n with
      | some xs => .ok (.int xs.length) S
      | none => .err
    | .str z => if z.length ≤ sizeLine then .ok (.int z.length) S else .err
    | _ => .err
  | _, _ => .err
theorem gc_len {X : Cx} : GCall X.K X.w (fun xs H Q => ∃ x n, xs = [x] ∧ LenV X.K x H n ∧ Q (.int n) H) gLen := by
  intro W ads σ S H xs us Q rs rx fin
  unfold gLen at fin
  split at fin
  · cases rx with
    | cons r r0 =>
      cases r0
      split at fin
      · cases r with
        | tup hs r => exact ⟨_, _, rfl, .inr ⟨_, hs, rfl⟩, by rw [← r.length]; exact fin ads _ H Le.refl rs (.int _)⟩
      · cases r with
        | @rl ns a hs => exact ⟨_, _, rfl, .inl ⟨_, hs.sq, rfl⟩, by rw [List.length_map]; exact fin ads _ H Le.refl rs (.int _)⟩
      · split at fin
        · rename_i xs e
          cases r with
          | ref ha =>
            obtain ⟨vs, q1, q2⟩ := rs.sto _ _ _ (lstAt_eq e) ha
            exact ⟨_, _, rfl, .inl ⟨_, SqL.of q1, rfl⟩, by rw [← q2.length]; exact fin ads _ H Le.refl rs (.int _)⟩
        · exact fin.elim
      · split at fin
        · rename_i hl
          cases r
          exact ⟨_, _, rfl, ⟨hl, rfl⟩, fin ads _ H Le.refl rs (.int _)⟩
        · exact fin.elim
      · exact fin.elim
  · exact fin.elim
def gAbs : List D → Sto → Out D
  | [.int i], S => .ok (.int (if i < 0 then -i else i)) S
  | _, _ => .err
theorem gc_abs : GCall K w (fun xs H Q => ∃ i, xs = [.int i] ∧ Q (.int (if i < 0 then -i else i)) H) gAbs := by
  intro W ads σ S H xs us Q rs rx fin
  unfold gAbs at fin
  split at fin
  · rename_i i
    exact ⟨i, rx.one, fin ads _ H Le.refl rs (.int _)⟩
  · exact fin.elim
def gMax2 : List D → Sto → Out D
  | [.int i, .int j], S => .ok (.int (if j > i then j else i)) S
  | _, _ => .err
theorem gc_max2 : GCall K w (fun xs H Q => ∃ i j, xs = [.int i, .int j] ∧ Q (.int (if j > i then j else i)) H) gMax2 := by
  intro W ads σ S H xs us Q rs rx fin
  unfold gMax2 at fin
  split at fin
  · rename_i i j
    exact ⟨i, j, rx.two, fin ads _ H Le.refl rs (.int _)⟩
  · exact fin.elim
def gMin2 : List D → Sto → Out D
  | [.int i, .int j], S => .ok (.int (if j < i then j else i)) S
  | _, _ => .err
theorem gc_min2 : GCall K w (fun xs H Q => ∃ i j, xs = [.int i, .int j] ∧ Q (.int (if j < i then j else i)) H) gMin2 := by
  intro W ads σ S H xs us Q rs rx fin
  unfold gMin2 at fin
  split at fin
  · rename_i i j
    exact ⟨i, j, rx.two, fin ads _ H Le.refl rs (.int _)⟩
  · exact fin.elim
def gInt : List D → Sto → Out D
  | [.int i], S => .ok (.int i) S
  | [.bl k], S => .ok (.int (if k then 1 else 0)) S
  | _, _ => .err
theorem gc_int : GCall K w (fun xs H Q => (∃ i, xs = [.int i] ∧ Q (.int i) H) ∨ ∃ k, xs = [.bl k] ∧ Q (.int (if k then 1 else 0)) H) gInt := by
  intro W ads σ S H xs us Q rs rx fin
  unfold gInt at fin
  split at fin
  · rename_i i
    exact .inl ⟨i, rx.one, fin ads _ H Le.refl rs (.int _)⟩
  · rename_i k
    refine .inr ⟨k, ?_, fin ads _ H Le.refl rs (.int _)⟩
    cases rx with
    | cons q r => cases q; cases r; rfl
  · exact fin.elim
/-- the ints of a list of data -/
def intsD : List D → Option (List Int)
  | [] => some []
  | .int i :: r => (intsD r).map (i :: ·)
  | _ => none
theorem intsD_eq : ∀ {ds : List D} {ns : List Int}, intsD ds = some ns → ds = ns.map .int
  | [], ns, h => by cases h; rfl
  | .int i :: r, ns, h => by
    simp only [intsD, Option.map_eq_some_iff] at h
    obtain ⟨ms, e1, e2⟩ := h
    subst e2
    rw [intsD_eq e1, List.map_cons]
  | .non :: _, _, h => by simp [intsD] at h
  | .bl _ :: _, _, h => by simp [intsD] at h
  | .str _ :: _, _, h => by simp [intsD] at h
  | .ty _ :: _, _, h => by simp [intsD] at h
  | .glb _ :: _, _, h => by simp [intsD] at h
  | .rl _ :: _, _, h => by simp [intsD] at h
  | .ref _ :: _, _, h => by simp [intsD] at h
  | .tup _ :: _, _, h => by simp [intsD] at h
def lstInts (S : Sto) : List D → Option (List Int)
  | [.ref n] => (lstAt S n).bind intsD
  | _ => none
theorem lstInts_sq {ads : List Addr} {S : Sto} {H : Hp} {xs : List D} {us : List V} {ns : List Int} (rs : RS K w ads S H) (rx : RVs K ads H xs us) (h : lstInts S xs = some ns) : ∃ a, us = [.ref a] ∧ SqL K H a (ns.map V.int) := by
  unfold lstInts at h
  split at h
  · rename_i n
    obtain ⟨ys, e1, e2⟩ := Option.bind_eq_some_iff.mp h
    cases rx with
    | cons q r0 =>
      cases r0
      cases q with
      | ref ha =>
        obtain ⟨vs, q1, q2⟩ := rs.sto _ _ _ (lstAt_eq e1) ha
        rw [intsD_eq e2] at q2
        rw [q2.ints] at q1
        exact ⟨_, rfl, SqL.of q1⟩
  · cases h
def gSum : List D → Sto → Out D := fun xs S => match lstInts S xs with
  | some ns => .ok (.int ns.sum) S
  | none => .err
theorem gc_sum : GCall K w (rSum K) gSum := by
  intro W ads σ S H xs us Q rs rx fin
  unfold gSum at fin
  split at fin
  · rename_i ns e
    obtain ⟨a, e1, e2⟩ := lstInts_sq rs rx e
    exact ⟨a, ns, e1, e2, fin ads _ H Le.refl rs (.int _)⟩
  · exact fin.elim
def maxL : List Int → Int
  | [] => 0
  | [a] => a
  | a :: r => max a (maxL r)
def minL : List Int → Int
  | [] => 0
  | [a] => a
  | a :: r => min a (minL r)
theorem maxL_spec : ∀ {ns : List Int}, ns ≠ [] → maxL ns ∈ ns ∧ ∀ y ∈ ns, y ≤ maxL ns
  | [], h => absurd rfl h
  | [a], _ => ⟨by simp [maxL], fun y hy => by simp at hy; subst hy; exact Int.le_refl _⟩
  | a :: b :: r, _ => by
    obtain ⟨h1, h2⟩ := maxL_spec (ns := b :: r) (by simp)
    have e : maxL (a :: b :: r) = max a (maxL (b :: r)) := rfl
    rw [e]
    refine ⟨?_, fun y hy => ?_⟩
    · by_cases c : a ≤ maxL (b :: r)
      · rw [Int.max_eq_right c]; exact List.mem_cons_of_mem _ h1
      · rw [Int.max_eq_left (by omega)]; exact List.mem_cons_self
    · rcases List.mem_cons.mp hy with rfl | hy
      · exact Int.le_max_left _ _
      · exact Int.le_trans (h2 y hy) (Int.le_max_right _ _)
theorem minL_spec : ∀ {ns : List Int}, ns ≠ [] → minL ns ∈ ns ∧ ∀ y ∈ ns, minL ns ≤ y
  | [], h => absurd rfl h
  | [a], _ => ⟨by simp [minL], fun y hy => by simp at hy; subst hy; exact Int.le_refl _⟩
  | a :: b :: r, _ => by
    obtain ⟨h1, h2⟩ := minL_spec (ns := b :: r) (by simp)
    have e : minL (a :: b :: r) = min a (minL (b :: r)) := rfl
    rw [e]
    refine ⟨?_, fun y hy => ?_⟩
    · by_cases c : a ≤ minL (b :: r)
      · rw [Int.min_eq_left c]; exact List.mem_cons_self
      · rw [Int.min_eq_right (by omega)]; exact List.mem_cons_of_mem _ h1
    · rcases List.mem_cons.mp hy with rfl | hy
      · exact Int.min_le_left _ _
      · exact Int.le_trans (Int.min_le_right _ _) (h2 y hy)
def gMax : List D → Sto → Out D := fun xs S => match lstInts S xs with
  | some (n :: ns) => .ok (.int (maxL (n :: ns))) S
  | _ => .err
def gMin : List D → Sto → Out D := fun xs S => match lstInts S xs with
  | some (n :: ns) => .ok (.int (minL (n :: ns))) S
  | _ => .err
theorem gc_max : GCall K w (rMax K) gMax := by
  intro W ads σ S H xs us Q rs rx fin
  unfold gMax at fin
  split at fin
  · rename_i n ns e
    obtain ⟨a, e1, e2⟩ := lstInts_sq rs rx e
    refine ⟨a, n :: ns, e1, e2, by simp, fun m hm hle => ?_⟩
    obtain ⟨h1, h2⟩ := maxL_spec (ns := n :: ns) (by simp)
    have em : m = maxL (n :: ns) := Int.le_antisymm (h2 m hm) (hle _ h1)
    rw [em]
    exact fin ads _ H Le.refl rs (.int _)
  · exact fin.elim
theorem gc_min : GCall K w (rMin K) gMin := by
  intro W ads σ S H xs us Q rs rx fin
  unfold gMin at fin
  split at fin
  · rename_i n ns e
    obtain ⟨a, e1, e2⟩ := lstInts_sq rs rx e
    refine ⟨a, n :: ns, e1, e2, by simp, fun m hm hle => ?_⟩
    obtain ⟨h1, h2⟩ := minL_spec (ns := n :: ns) (by simp)
    have em : m = minL (n :: ns) := Int.le_antisymm (hle _ h1) (h2 m hm)
    rw [em]
    exact fin ads _ H Le.refl rs (.int _)
  · exact fin.elim
/-- the bools of a list of data -/
def bolsD : List D → Option (List Bool)
  | [] => some []
  | .bl i :: r => (bolsD r).map (i :: ·)
  | _ => none
theorem bolsD_sq {ads : List Addr} {H : Hp} : ∀ {ds : List D} {ns : List Bool} {vs : List V}, bolsD ds = some ns → RVs K ads H ds vs → vs = ns.map V.bl
  | [], ns, vs, h, r => by cases h; cases r; rfl
  | .bl i :: ds, ns, vs, h, r => by
    simp only [bolsD, Option.map_eq_some_iff] at h
    obtain ⟨ms, e1, e2⟩ := h
    subst e2
    cases r with
    | cons q r => cases q; rw [bolsD_sq e1 r, List.map_cons]
  | .non :: _, _, _, h, _ => by simp [bolsD] at h
  | .int _ :: _, _, _, h, _ => by simp [bolsD] at h
  | .str _ :: _, _, _, h, _ => by simp [bolsD] at h
  | .ty _ :: _, _, _, h, _ => by simp [bolsD] at h
  | .glb _ :: _, _, _, h, _ => by simp [bolsD] at h
  | .rl _ :: _, _, _, h, _ => by simp [bolsD] at h
  | .ref _ :: _, _, _, h, _ => by simp [bolsD] at h
  | .tup _ :: _, _, _, h, _ => by simp [bolsD] at h
def lstBols (S : Sto) : List D → Option (List Bool)
  | [.ref n] => (lstAt S n).bind bolsD
  | _ => none
def gAll : List D → Sto → Out D := fun xs S => match lstBols S xs with
  | some bs => .ok (.bl (bs.all id)) S
  | none => .err
theorem gc_all : GCall K w (rAll K) gAll := by
  intro W ads σ S H xs us Q rs rx fin
  unfold gAll at fin
  split at fin
  · rename_i bs h
    unfold lstBols at h
    split at h
    · obtain ⟨ys, e1, e2⟩ := Option.bind_eq_some_iff.mp h
      cases rx with
      | cons q r0 =>
        cases r0
        cases q with
        | ref ha =>
          obtain ⟨vs, q1, q2⟩ := rs.sto _ _ _ (lstAt_eq e1) ha
          rw [bolsD_sq e2 q2] at q1
          exact ⟨_, bs, rfl, SqL.of q1, fin ads _ H Le.refl rs (.bl _)⟩
    · cases h
  · exact fin.elim
/-- list(xs), tuple(xs) -/
def gList : List D → Sto → Out D
  | [.tup ds], S => .ok (.ref S.length) (S ++ [.lst ds])
  | [.rl ns], S => .ok (.ref S.length) (S ++ [.lst (ns.map .int)])
  | [.ref n], S => match lstAt S n with
    | some xs => .ok (.ref S.length) (S ++ [.lst xs])
    | none => .err
  | _, _ => .err
theorem gc_list : GCall K w (fun xs H Q => ∃ p ys, xs = [.ref p] ∧ (SqL K H p ys ∨ SqT K H p ys) ∧ ∀ l, H l = none → Q (.ref l) (upd H l (.lst ys))) gList := by
  intro W ads σ S H xs us Q rs rx fin
  unfold gList at fin
  split at fin
  · cases rx with
    | cons q r0 =>
      cases r0
      cases q with
      | tup hs r => exact ⟨_, _, rfl, .inr hs, fin_lst rs r fin⟩
  · cases rx with
    | cons q r0 =>
      cases r0
      cases q with
      | rl hs => exact ⟨_, _, rfl, .inl hs.sq, fin_lst rs (RVs.of_ints _) fin⟩
  · split at fin
    · rename_i ys e
      cases rx with
      | cons q r0 =>
        cases r0
        cases q with
        | ref ha =>
          obtain ⟨vs, q1, q2⟩ := rs.sto _ _ _ (lstAt_eq e) ha
          exact ⟨_, _, rfl, .inl (SqL.of q1), fin_lst rs q2 fin⟩
    · exact fin.elim
  · exact fin.elim
def gTuple : List D → Sto → Out D
  | [.tup ds], S => .ok (.tup ds) S
  | [.rl ns], S => .ok (.tup (ns.map .int)) S
  | [.ref n], S => match lstAt S n with
    | some xs => .ok (.tup xs) S
    | none => .err
  | _, _ => .err
theorem gc_tuple : GCall K w (fun xs H Q => ∃ p ys, xs = [.ref p] ∧ ((SqL K H p ys ∧ ∀ l, H l = none → Q (.ref l) (upd H l (.tup ys))) ∨ (SqT K H p ys ∧ Q (.ref p) H))) gTuple := by
  intro W ads σ S H xs us Q rs rx fin
  unfold gTuple at fin
  split at fin
  · cases rx with
    | cons q r0 =>
      cases r0
      cases q with
      | tup hs r => exact ⟨_, _, rfl, .inr ⟨hs, fin ads _ H Le.refl rs (.tup hs r)⟩⟩
  · cases rx with
    | cons q r0 =>
      cases r0
      cases q with
      | rl hs => exact ⟨_, _, rfl, .inl ⟨hs.sq, fin_tup rs (RVs.of_ints _) fin⟩⟩
  · split at fin
    · rename_i ys e
      cases rx with
      | cons q r0 =>
        cases r0
        cases q with
        | ref ha =>
          obtain ⟨vs, q1, q2⟩ := rs.sto _ _ _ (lstAt_eq e) ha
          exact ⟨_, _, rfl, .inl ⟨SqL.of q1, fin_tup rs q2 fin⟩⟩
    · exact fin.elim
  · exact fin.elim
/-! ### xs[i] = v -/
def gSetIx (o i v : D) (S : Sto) : Option Sto := match o, i with
  | .ref n, .int k => match lstAt S n with
    | some xs => match ixN xs.length k with
      | some j => some (S.set n (.lst (xs.set j v)))
      | none => none
    | none => none
  | _, _ => none
def GSet (K : PySem.W.Frag) (w : World) (t : TSet) (g : D → D → D → Sto → Option Sto) : Prop := ∀ (ads : List Addr) (S : Sto) (H : Hp) (o i v : D) (ov iv vv : V) (Q : Hp → Prop), RS K w ads S H → RV K ads H o ov → RV K ads H i iv → RV K ads H v vv →
  (match g o i v S with
    | some S' => ∀ ads' H', Le K ads ads' H H' → RS K w ads' S' H' → Q H'
    | none => False) → t ov iv vv H Q
theorem gs_set : GSet K w rSetL gSetIx := by
  intro ads S H o i v ov iv vv Q rs ro ri rv h
  unfold gSetIx at h
  split at h
  · rename_i S' e
    split at e
    · rename_i n k
      split at e
      · rename_i xs e1
        split at e
        · rename_i j e2
          cases e
          cases ro with
          | @ref _ a ha =>
            cases ri
            obtain ⟨vs, q1, q2⟩ := rs.sto n _ a (lstAt_eq e1) ha
            have le : Le K ads ads H (upd H a (.lst (vs.set j vv))) := le_upd q1 trivial
            exact ⟨a, vs, k, j, rfl, rfl, q1, by rw [← q2.length]; exact e2, h ads _ le (rs.put ha q1 trivial ⟨_, upd_same, (q2.set j rv).mono le⟩)⟩
        · cases e
      · cases e
    · cases e
  · exact h.elim
end
section
variable {X : Cx} {W : WX} {o i : Expr} {fo fi : SE} {pos : Pos}
/-- o[i] as a target -/
def gSb (fo fi : SE) (g : D → D → D → Sto → Option Sto) : SG := fun v ρ S => match fo ρ S with
  | .ok ov S1 => match fi ρ S1 with
    | .ok iv S2 => (g ov iv v S2).map fun S3 => (ρ, S3)
    | _ => none
  | _ => none
theorem sg_sub {t : TSet} {g : D → D → D → Sto → Option Sto} (W : WX) (ho : PE X o (tS X.K X.w W fo)) (hi : PE X i (tS X.K X.w W fi)) (hg : GSet X.K X.w t g) (h : ∀ {to ti : TE}, PE X o to → PE X i ti → PG X (.Subscript o i pos) (gSub to ti t)) : PG X (.Subscript o i pos) (tG X.K X.w (gSb fo fi g)) :=
  PG.imp (h ho hi) fun v σ H Q ⟨ads, ρ, S, d, rs, re, r, hh⟩ => by
    unfold gSb at hh
    refine ⟨ads, ρ, S, rs, re, ?_⟩
    cases e1 : fo ρ S with
    | ok ov S1 =>
      rw [e1] at hh
      intro ads1 u H1 le1 rs1 r1
      refine ⟨ads1, ρ, S1, rs1, re.mono le1, ?_⟩
      cases e2 : fi ρ S1 with
      | ok iv S2 =>
        simp only [e2] at hh
        intro ads2 u2 H2 le2 rs2 r2
        refine hg ads2 S2 H2 ov iv d u u2 v _ rs2 (r1.mono le2) r2 ((r.mono le1).mono le2) ?_
        cases e3 : g ov iv d S2 with
        | some S3 =>
          rw [e3] at hh
          exact fun ads3 H3 le3 rs3 => hh ads3 σ H3 ((le1.trans le2).trans le3) rs3 (((re.mono le1).mono le2).mono le3)
        | none => rw [e3] at hh; exact hh.elim
      | exc x S2 => simp only [e2] at hh; exact hh.elim
      | err => simp only [e2] at hh; exact hh.elim
    | exc x S1 => rw [e1] at hh; exact hh.elim
    | err => rw [e1] at hh; exact hh.elim
end
end SX
end
section
set_option linter.all false
set_option maxRecDepth 100000
set_option maxHeartbeats 1000000
/-! St6: dicts: keys ints and texts, or tuples (nested) of these and None. -/
namespace SX
open PySem PySem.Spec PyProof.Rows L2

/-! ### keys -/
theorem nk_none {a : D} (h : nk a = some .none) : a = .non := by
  cases a <;> simp [nk] at h ⊢
theorem nk_num {a : D} {i : Int} (h : nk a = some (.num i)) : a = .int i := by
  cases a <;> simp [nk] at h ⊢
  exact h
theorem nk_text {a : D} {i : PySem.Str} (h : nk a = some (.text i)) : a = .str i := by
  cases a <;> simp [nk] at h ⊢
  exact h
theorem nk_tup {a : D} {ks : List NestedKey} (h : nk a = some (.tup ks)) : ∃ ds, a = .tup ds ∧ nks ds = some ks := by
  cases a <;> simp [nk] at h ⊢
  exact h
theorem nks_cons {a : List D} {k : NestedKey} {ks : List NestedKey} (h : nks a = some (k :: ks)) : ∃ d ds, a = d :: ds ∧ nk d = some k ∧ nks ds = some ks := by
  cases a with
  | nil => simp [nks] at h
  | cons d ds =>
    simp only [nks] at h
    split at h
    · rename_i k1 ks1 e1 e2
      cases h
      exact ⟨d, ds, rfl, e1, e2⟩
    · cases h
theorem nks_nil {a : List D} (h : nks a = some []) : a = [] := by
  cases a with
  | nil => rfl
  | cons d ds =>
    simp only [nks] at h
    split at h
    · cases h
    · cases h
mutual
theorem nk_inj : ∀ (k : NestedKey) (a b : D), nk a = some k → nk b = some k → a = b
  | .none, a, b, ha, hb => by rw [nk_none ha, nk_none hb]
  | .num i, a, b, ha, hb => by rw [nk_num ha, nk_num hb]
  | .text i, a, b, ha, hb => by rw [nk_text ha, nk_text hb]
  | .tup ks, a, b, ha, hb => by
    obtain ⟨ds, rfl, h1⟩ := nk_tup ha
    obtain ⟨es, rfl, h2⟩ := nk_tup hb
    rw [nks_inj ks ds es h1 h2]
theorem nks_inj : ∀ (ks : List NestedKey) (a b : List D), nks a = some ks → nks b = some ks → a = b
  | [], a, b, ha, hb => by rw [nks_nil ha, nks_nil hb]
  | k :: ks, a, b, ha, hb => by
    obtain ⟨d, ds, rfl, h1, h2⟩ := nks_cons ha
    obtain ⟨e, es, rfl, h3, h4⟩ := nks_cons hb
    rw [nk_inj k d e h1 h3, nks_inj ks ds es h2 h4]
end
theorem leafKey_inj {k : Key} {a b : D} (ha : leafKey a = some k) (hb : leafKey b = some k) : a = b := by
  cases a <;> simp [leafKey] at ha <;> subst ha <;> cases b <;> simp [leafKey] at hb <;> rw [hb]
/-- the class of a key: 1: int, text; 2: a tuple -/
def kcls : D → Nat
  | .int _ => 1
  | .str _ => 1
  | .tup ds => match nks ds with
    | some ks => if (NestedKey.tup ks).depth ≤ 8 then 2 else 0
    | none => 0
  | _ => 0
theorem kcls_leaf {d : D} (h : kcls d = 1) : ∃ k, leafKey d = some k := by
  cases d <;> simp [kcls, leafKey] at h ⊢
  split at h
  · split at h <;> cases h
  · cases h
theorem kcls_tup {d : D} (h : kcls d = 2) : ∃ ds ks, d = .tup ds ∧ nks ds = some ks ∧ (NestedKey.tup ks).depth ≤ 8 := by
  cases d <;> simp [kcls] at h
  rename_i ds
  split at h
  · rename_i ks e
    by_cases c : (NestedKey.tup ks).depth ≤ 8
    · exact ⟨ds, ks, rfl, e, c⟩
    · rw [if_neg c] at h; cases h
  · cases h
def clsOk (kvs : List (D × D)) (k : D) : Bool := decide (kcls k ≠ 0) && kvs.all fun p => decide (kcls p.1 = kcls k)
theorem clsOk_of {kvs : List (D × D)} {k : D} (h : clsOk kvs k = true) : (kcls k = 1 ∧ ∀ p ∈ kvs, kcls p.1 = 1) ∨ (kcls k = 2 ∧ ∀ p ∈ kvs, kcls p.1 = 2) := by
  unfold clsOk at h
  rw [Bool.and_eq_true, List.all_eq_true] at h
  have h0 : kcls k ≠ 0 := of_decide_eq_true h.1
  have h2 : ∀ p ∈ kvs, kcls p.1 = kcls k := fun p hp => of_decide_eq_true (h.2 p hp)
  have : kcls k = 1 ∨ kcls k = 2 := by
    have h3 : kcls k = 0 ∨ kcls k = 1 ∨ kcls k = 2 := by
      unfold kcls
      split
      · exact .inr (.inl rfl)
      · exact .inr (.inl rfl)
      · split
        · split
          · exact .inr (.inr rfl)
          · exact .inl rfl
        · exact .inl rfl
      · exact .inl rfl
    exact h3.elim (fun z => absurd z h0) id
  rcases this with c | c
  · exact .inl ⟨c, fun p hp => (h2 p hp).trans c⟩
  · exact .inr ⟨c, fun p hp => (h2 p hp).trans c⟩

/-! ### tables as lists of pairs -/
def valD (kvs : List (D × D)) (k : D) : Option D := (kvs.find? fun kv => decide (kv.1 = k)).map (·.2)
def putD (kvs : List (D × D)) (k v : D) : List (D × D) := if (kvs.any fun kv => decide (kv.1 = k)) = true then kvs.map (fun kv => if kv.1 = k then (kv.1, v) else kv) else kvs ++ [(k, v)]
def delD (kvs : List (D × D)) (k : D) : List (D × D) := kvs.filter fun kv => decide (kv.1 ≠ k)
section
variable {κ β : Type} [DecidableEq κ] {f : D → Option κ} {g : β → κ} {RR : D × D → β → Prop}
theorem find_rel (inj : ∀ k a b, f a = some k → f b = some k → a = b) (hk : ∀ p q, RR p q → f p.1 = some (g q)) {k : D} {k' : κ} (e : f k = some k') : ∀ {kvs : List (D × D)} {lib : List β}, Paired RR kvs lib →
    (∀ p, kvs.find? (fun p => decide (p.1 = k)) = some p → ∃ q, lib.find? (fun q => decide (g q = k')) = some q ∧ RR p q) ∧ (kvs.find? (fun p => decide (p.1 = k)) = none → lib.find? (fun q => decide (g q = k')) = none)
  | [], [], .nil => ⟨fun p h => (nomatch h), fun _ => rfl⟩
  | p :: ps, q :: qs, .cons h t => by
    obtain ⟨i1, i2⟩ := find_rel inj hk e t
    have h1 := hk p q h
    by_cases c : p.1 = k
    · have c' : g q = k' := by
        rw [c, e] at h1
        exact (Option.some.inj h1).symm
      rw [List.find?_cons, List.find?_cons, decide_eq_true c, decide_eq_true c']
      exact ⟨fun p' hp => by cases hp; exact ⟨q, rfl, h⟩, fun hn => nomatch hn⟩
    · have c' : ¬ g q = k' := fun z => c (inj k' _ _ (by rw [h1, z]) e)
      rw [List.find?_cons, List.find?_cons, decide_eq_false c, decide_eq_false c']
      exact ⟨i1, i2⟩
theorem any_rel (inj : ∀ k a b, f a = some k → f b = some k → a = b) (hk : ∀ p q, RR p q → f p.1 = some (g q)) {k : D} {k' : κ} (e : f k = some k') : ∀ {kvs : List (D × D)} {lib : List β}, Paired RR kvs lib →
    (kvs.any fun p => decide (p.1 = k)) = lib.any fun q => decide (g q = k')
  | [], [], .nil => rfl
  | p :: ps, q :: qs, .cons h t => by
    have ih := any_rel inj hk e t
    have h1 := hk p q h
    rw [List.any_cons, List.any_cons, ih]
    by_cases c : p.1 = k
    · have c' : g q = k' := by
        rw [c, e] at h1
        exact (Option.some.inj h1).symm
      rw [decide_eq_true c, decide_eq_true c']
    · have c' : ¬ g q = k' := fun z => c (inj k' _ _ (by rw [h1, z]) e)
      rw [decide_eq_false c, decide_eq_false c']
theorem filt_rel (inj : ∀ k a b, f a = some k → f b = some k → a = b) (hk : ∀ p q, RR p q → f p.1 = some (g q)) {k : D} {k' : κ} (e : f k = some k') : ∀ {kvs : List (D × D)} {lib : List β}, Paired RR kvs lib →
    Paired RR (kvs.filter fun p => decide (p.1 ≠ k)) (lib.filter fun q => decide (g q ≠ k'))
  | [], [], .nil => .nil
  | p :: ps, q :: qs, .cons h t => by
    have ih := filt_rel inj hk e t
    have h1 := hk p q h
    by_cases c : p.1 = k
    · have c' : g q = k' := by
        rw [c, e] at h1
        exact (Option.some.inj h1).symm
      rw [List.filter_cons, List.filter_cons, if_neg (by simp [c]), if_neg (by simp [c'])]
      exact ih
    · have c' : ¬ g q = k' := fun z => c (inj k' _ _ (by rw [h1, z]) e)
      rw [List.filter_cons, List.filter_cons, if_pos (by simp [c]), if_pos (by simp [c'])]
      exact .cons h ih
theorem map_rel (inj : ∀ k a b, f a = some k → f b = some k → a = b) (hk : ∀ p q, RR p q → f p.1 = some (g q)) {k : D} {k' : κ} (e : f k = some k') {F : D × D → D × D} {G : β → β} (hF : ∀ p q, RR p q → RR (F p) (G q)) : ∀ {kvs : List (D × D)} {lib : List β}, Paired RR kvs lib →
    Paired RR (kvs.map fun p => if p.1 = k then F p else p) (lib.map fun q => if g q = k' then G q else q)
  | [], [], .nil => .nil
  | p :: ps, q :: qs, .cons h t => by
    have ih := map_rel inj hk e hF t
    have h1 := hk p q h
    rw [List.map_cons, List.map_cons]
    by_cases c : p.1 = k
    · have c' : g q = k' := by
        rw [c, e] at h1
        exact (Option.some.inj h1).symm
      rw [if_pos c, if_pos c']
      exact .cons (hF p q h) ih
    · have c' : ¬ g q = k' := fun z => c (inj k' _ _ (by rw [h1, z]) e)
      rw [if_neg c, if_neg c']
      exact .cons h ih
theorem nodup_rel (inj : ∀ k a b, f a = some k → f b = some k → a = b) (hk : ∀ p q, RR p q → f p.1 = some (g q)) : ∀ {kvs : List (D × D)} {lib : List β}, Paired RR kvs lib → (kvs.map (·.1)).Nodup → (lib.map g).Nodup
  | [], [], .nil, _ => List.nodup_nil
  | p :: ps, q :: qs, .cons h t, hn => by
    rw [List.map_cons, List.nodup_cons] at hn ⊢
    refine ⟨fun hm => hn.1 ?_, nodup_rel inj hk t hn.2⟩
    obtain ⟨q', hq', e⟩ := List.mem_map.mp hm
    have : ∃ p', p' ∈ ps ∧ RR p' q' := by
      clear hn hm h
      induction t with
      | nil => cases hq'
      | @cons a b as bs h t ih =>
        rcases List.mem_cons.mp hq' with z | z
        · exact ⟨a, List.mem_cons_self, by rw [z]; exact h⟩
        · obtain ⟨p', h1, h2⟩ := ih z
          exact ⟨p', List.mem_cons_of_mem _ h1, h2⟩
    obtain ⟨p', h1, h2⟩ := this
    have e1 := hk p' q' h2
    rw [e] at e1
    exact List.mem_map.mpr ⟨p', h1, inj _ _ _ e1 (hk p q h)⟩
end
theorem putD_len (kvs : List (D × D)) (k v : D) : (putD kvs k v).length ≤ kvs.length + 1 := by
  unfold putD
  split
  · rw [List.length_map]; omega
  · rw [List.length_append, List.length_cons, List.length_nil]; omega
theorem delD_len (kvs : List (D × D)) (k : D) : (delD kvs k).length ≤ kvs.length := List.length_filter_le _ _
theorem putD_nodup {kvs : List (D × D)} {k v : D} (h : (kvs.map (·.1)).Nodup) : ((putD kvs k v).map (·.1)).Nodup := by
  unfold putD
  split
  · have e : (kvs.map fun kv => if kv.1 = k then (kv.1, v) else kv).map (·.1) = kvs.map (·.1) := by
      rw [List.map_map]
      refine List.map_congr_left fun p _ => ?_
      by_cases c : p.1 = k <;> simp [c]
    rw [e]; exact h
  · rename_i hn
    rw [List.map_append, List.map_cons, List.map_nil]
    refine List.nodup_append.mpr ⟨h, by simp, fun a ha b hb e => ?_⟩
    have hb' : b = k := by simpa using hb
    obtain ⟨p, hp, e2⟩ := List.mem_map.mp ha
    exact hn (List.any_eq_true.mpr ⟨p, hp, decide_eq_true (by rw [e2, e, hb'])⟩)
theorem delD_nodup {kvs : List (D × D)} {k : D} (h : (kvs.map (·.1)).Nodup) : ((delD kvs k).map (·.1)).Nodup := List.Nodup.sublist (List.Sublist.map _ List.filter_sublist) h

/-! ### keys in the heap -/
section
variable {X : Cx} {pins : List (Addr × Obj)} {σ : L2.St} {H : Hp} {s : Shared} {ads : List Addr}
mutual
theorem nk_is (I : Inv X pins σ H s) : ∀ (d : D) (v : V) (u : Value) (k : NestedKey), RV X.K ads H d v → RelV v u → nk d = some k → NestedIs s.heap k u
  | .non, v, u, k, r, ru, e => by
    cases r; cases ru
    simp only [nk, Option.some.injEq] at e; subst e; exact .none
  | .int i, v, u, k, r, ru, e => by
    cases r
    obtain ⟨t, rfl⟩ := ru
    simp only [nk, Option.some.injEq] at e; subst e; exact .int i t
  | .str i, v, u, k, r, ru, e => by
    cases r
    obtain ⟨t, rfl⟩ := ru
    simp only [nk, Option.some.injEq] at e; subst e; exact .text i t
  | .tup ds, v, u, k, r, ru, e => by
    cases r with
    | tup hs r =>
      obtain ⟨its, rv, ⟨o, ho, hc, n, hd⟩, _⟩ := I.tuple hs
      cases ru
      simp only [nk, Option.map_eq_some_iff] at e
      obtain ⟨ks, e1, rfl⟩ := e
      exact .tup ho hc hd (by simpa using nks_is I ds _ _ ks r rv e1)
  | .bl _, _, _, _, _, _, e => by simp [nk] at e
  | .ty _, _, _, _, _, _, e => by simp [nk] at e
  | .glb _, _, _, _, _, _, e => by simp [nk] at e
  | .rl _, _, _, _, _, _, e => by simp [nk] at e
  | .ref _, _, _, _, _, _, e => by simp [nk] at e
theorem nks_is (I : Inv X pins σ H s) : ∀ (ds : List D) (vs : List V) (us : List Value) (ks : List NestedKey), RVs X.K ads H ds vs → Vals vs us → nks ds = some ks → NestedAll s.heap ks us
  | [], _, _, ks, r, ru, e => by
    cases r; cases ru
    simp only [nks, Option.some.injEq] at e; subst e; exact .nil
  | d :: ds, _, _, ks, r, ru, e => by
    cases r with
    | cons r rs =>
      cases ru with
      | cons ru rus =>
        obtain ⟨k, ks', rfl⟩ : ∃ k ks', ks = k :: ks' := by
          cases ks with
          | nil => exact nomatch (nks_nil e)
          | cons k ks' => exact ⟨k, ks', rfl⟩
        obtain ⟨_, _, h0, h1, h2⟩ := nks_cons e
        cases h0
        exact .cons (nk_is I d _ _ k r ru h1) (nks_is I ds _ _ ks' rs rus h2)
end
theorem lk_is {P : Program} {K : PySem.W.Frag} {d : D} {v : V} {u : Value} {k : Key} (r : RV K ads H d v) (ru : RelV v u) (e : leafKey d = some k) : (mixKind P X.w).is k u = true := by
  cases d <;> simp [leafKey] at e
  · cases r
    obtain ⟨t, rfl⟩ := ru
    subst e
    exact mixKind_int _ _ _ _
  · cases r
    obtain ⟨t, rfl⟩ := ru
    subst e
    exact mixKind_str _ _ _ _
end

/-! ### the two kinds of dicts -/
section
variable (K : PySem.W.Frag) (ads : List Addr) (H : Hp)
abbrev TLr : D × D → Key × Value → Prop := fun p q => leafKey p.1 = some q.1 ∧ ∃ v, RV K ads H p.2 v ∧ RelV v q.2
abbrev TNr : D × D → NestedKey × Addr × Value → Prop := fun p q => nk p.1 = some q.1 ∧ RV K ads H p.1 (.ref q.2.1) ∧ ∃ v, RV K ads H p.2 v ∧ RelV v q.2.2
abbrev Erw : Row → DictEntry → Prop := fun r e => e.hash = r.1 ∧ RelV r.2.1 e.key ∧ RelV r.2.2 e.val
end
section
variable {X : Cx} {pins : List (Addr × Obj)} {σ : L2.St} {H : Hp} {s : Shared} {ads : List Addr} {a : Addr}
theorem to_leaf : ∀ {kvs : List (D × D)} {rows : List Row} {es : List DictEntry}, RKs X.K X.w ads H kvs rows → Paired Erw rows es → (∀ p ∈ kvs, kcls p.1 = 1) →
    ∃ lib, Paired (TLr X.K ads H) kvs lib ∧ Pairs (mixKind X.prog X.w) es lib ∧ ∀ e ∈ es, ∃ k, (mixKind X.prog X.w).is k e.key = true ∧ e.hash = (mixKind X.prog X.w).hash k
  | _, _, _, .nil, pe, _ => by
    cases pe
    exact ⟨[], .nil, .nil, fun _ h => nomatch h⟩
  | _, _, _, .cons (k := k) hh rk rd rs, pe, hc => by
    cases pe with
    | cons h t =>
      obtain ⟨lib, l1, l2, l3⟩ := to_leaf rs t fun p hp => hc p (List.mem_cons_of_mem _ hp)
      obtain ⟨k', e⟩ := kcls_leaf (hc _ List.mem_cons_self)
      have his := lk_is (X := X) (P := X.prog) rk h.2.1 e
      refine ⟨(k', _) :: lib, .cons ⟨e, _, rd, h.2.2⟩ l1, .cons his rfl l2, fun en hen => ?_⟩
      rcases List.mem_cons.mp hen with z | z
      · subst z
        refine ⟨k', his, ?_⟩
        rw [h.1]
        cases k <;> simp [leafKey] at e <;> subst e <;> simp [hashD] at hh <;> exact hh.symm
      · exact l3 en z
theorem to_nest (I : Inv X pins σ H s) : ∀ {kvs : List (D × D)} {rows : List Row} {es : List DictEntry}, RKs X.K X.w ads H kvs rows → Paired Erw rows es → (∀ p ∈ kvs, kcls p.1 = 2) →
    ∃ xs, Paired (TNr X.K ads H) kvs xs ∧ es = xs.map (entryOfKey (nestedKind X.prog X.w)) ∧ ∀ x ∈ xs, (nestedKind X.prog X.w).is s.heap x.1 x.2.1
  | _, _, _, .nil, pe, _ => by
    cases pe
    exact ⟨[], .nil, rfl, fun _ h => nomatch h⟩
  | _, _, _, .cons (k := k) hh rk rd rs, pe, hc => by
    cases pe with
    | @cons r e _ _ h t =>
      obtain ⟨xs, l1, l2, l3⟩ := to_nest I rs t fun p hp => hc p (List.mem_cons_of_mem _ hp)
      obtain ⟨ds, ks, ek, e1, e2⟩ := kcls_tup (hc _ List.mem_cons_self)
      subst ek
      have ek : nk (.tup ds) = some (.tup ks) := by simp only [nk, e1, Option.map_some]
      obtain ⟨h1, h2, h3⟩ := h
      obtain ⟨eh, eke, ev⟩ := e
      have hi := nk_is I _ _ _ _ rk h2 ek
      cases rk with
      | @tup _ b vs hs r =>
        cases (show eke = Value.ref b from h2)
        simp only [hashD, e1, Option.map_some, Option.some.injEq] at hh
        refine ⟨(.tup ks, b, ev) :: xs, .cons ⟨ek, .tup hs r, _, rd, h3⟩ l1, ?_, fun x hx => ?_⟩
        · rw [List.map_cons, ← l2]
          have : eh = (nestedKind X.prog X.w).hash (.tup ks) := by
            have h1' : eh = _ := h1
            rw [h1', ← hh]; rfl
          rw [this]; rfl
        · rcases List.mem_cons.mp hx with z | z
          · subst z; exact ⟨hi, e2⟩
          · exact l3 x z
theorem of_leaf {H' : Hp} : ∀ {kvs : List (D × D)} {lib : List (Key × Value)} {es : List DictEntry}, Paired (TLr X.K ads H') kvs lib → Pairs (mixKind X.prog X.w) es lib →
    (∀ e ∈ es, ∃ k, (mixKind X.prog X.w).is k e.key = true ∧ e.hash = (mixKind X.prog X.w).hash k) → ∃ rows, Paired Erw rows es ∧ RKs X.K X.w ads H' kvs rows
  | _, _, _, .nil, pe, _ => by
    cases pe
    exact ⟨[], .nil, .nil⟩
  | _, _, _, .cons (a := p) (b := q) h t, pe, hc => by
    cases pe with
    | @cons e _ es _ h1 h2 pe =>
      obtain ⟨rows, l1, l2⟩ := of_leaf t pe fun e he => hc e (List.mem_cons_of_mem _ he)
      obtain ⟨k, k1, k2⟩ := hc _ List.mem_cons_self
      obtain rfl : k = q.1 := (mixKind X.prog X.w).inj _ _ _ k1 h1
      obtain ⟨e1, v, rv, ru⟩ := h
      obtain ⟨pk, pd⟩ := p
      have : ∃ kv, RV X.K ads H' pk kv ∧ RelV kv e.key ∧ hashD X.w pk = some e.hash := by
        rcases keyIs_shape (show keyIs q.1 e.key = true from h1) with ⟨i, tk, q1, q2⟩ | ⟨x, tk, q1, q2⟩
        · rw [q1] at e1 k2
          have e1' : leafKey pk = leafKey (.int i) := e1
          have : pk = .int i := leafKey_inj e1 rfl
          subst this
          exact ⟨.int i, .int i, ⟨tk, q2⟩, by rw [k2]; rfl⟩
        · rw [q1] at e1 k2
          have : pk = .str x := leafKey_inj e1 rfl
          subst this
          exact ⟨.str x, .str x, ⟨tk, q2⟩, by rw [k2]; rfl⟩
      obtain ⟨kv, z1, z2, z3⟩ := this
      exact ⟨(e.hash, kv, v) :: rows, .cons ⟨rfl, z2, by rw [h2]; exact ru⟩ l1, .cons z3 z1 rv l2⟩
theorem of_nest {H' : Hp} : ∀ {kvs : List (D × D)} {xs : List (NestedKey × Addr × Value)}, Paired (TNr X.K ads H') kvs xs → ∃ rows, Paired Erw rows (xs.map (entryOfKey (nestedKind X.prog X.w))) ∧ RKs X.K X.w ads H' kvs rows
  | _, _, .nil => ⟨[], .nil, .nil⟩
  | _, _, .cons (a := p) (b := q) h t => by
    obtain ⟨rows, l1, l2⟩ := of_nest t
    obtain ⟨e1, rk, v, rv, ru⟩ := h
    obtain ⟨pk, pd⟩ := p
    obtain ⟨qk, qa, qv⟩ := q
    have : hashD X.w pk = some (qk.hash X.w) := by
      cases rk with
      | tup hs r =>
        simp only [nk, Option.map_eq_some_iff] at e1
        obtain ⟨ks, e1, e2⟩ := e1
        simp only [hashD, e1, Option.map_some, e2]
      | _ => simp [nk] at e1
    exact ⟨(qk.hash X.w, .ref qa, v) :: rows, .cons ⟨rfl, rfl, ru⟩ l1, .cons this rk rv l2⟩

theorem RKs.length {K : PySem.W.Frag} {w : World} {ads : List Addr} {H : Hp} : ∀ {kvs : List (D × D)} {rows : List Row}, RKs K w ads H kvs rows → kvs.length = rows.length
  | _, _, .nil => rfl
  | _, _, .cons _ _ _ t => by rw [List.length_cons, List.length_cons, RKs.length t]

variable {kvs : List (D × D)} {rows : List Row}
/-- a dict as it stands -/
theorem dct_at (I : Inv X pins σ H s) (e : Rd H a (dctO a rows)) (rk : RKs X.K X.w ads H kvs rows) : kvs.length ≤ sizeLine ∧ (a == sysModules) = false ∧
    ∃ (o : Obj) (es : Array DictEntry) (ep : Nat), s.heap.get? a = some o ∧ o.ExactDict ∧ o.data = .dict es ep ∧ Paired Erw rows es.toList := by
  obtain ⟨⟨z, hd, o, es, ep, h1, h2, h3, h4⟩, _, _⟩ := (show ObjOk X.prog X.w H s.heap a (dctO a rows) from e.ok I.hok)
  exact ⟨by rw [rk.length]; exact z, hd, o, es, ep, h1, h2, h3, h4⟩
theorem leaf_inj : ∀ (k : Key) (a b : D), leafKey a = some k → leafKey b = some k → a = b := fun _ _ _ => leafKey_inj
theorem dct_leaf (I : Inv X pins σ H s) (e : Rd H a (dctO a rows)) (rk : RKs X.K X.w ads H kvs rows) (nd : (kvs.map (·.1)).Nodup) (hc : ∀ p ∈ kvs, kcls p.1 = 1) : kvs.length ≤ sizeLine ∧ (a == sysModules) = false ∧
    ∃ lib, Paired (TLr X.K ads H) kvs lib ∧ s.heap.DictOf (mixKind X.prog X.w) a lib := by
  obtain ⟨z, hd, o, es, ep, h1, h2, h3, h4⟩ := dct_at I e rk
  obtain ⟨lib, l1, l2, l3⟩ := to_leaf rk h4 hc
  exact ⟨z, hd, lib, l1, o, es, ep, h1, h2, h3, fun en hen => l3 en (by simpa using hen), l2, nodup_rel (f := leafKey) (g := fun q => q.1) leaf_inj (fun p q r => r.1) l1 nd⟩
theorem dct_nest (I : Inv X pins σ H s) (e : Rd H a (dctO a rows)) (rk : RKs X.K X.w ads H kvs rows) (nd : (kvs.map (·.1)).Nodup) (hc : ∀ p ∈ kvs, kcls p.1 = 2) : kvs.length ≤ sizeLine ∧ (a == sysModules) = false ∧
    ∃ xs, Paired (TNr X.K ads H) kvs xs ∧ s.heap.DictOfH (nestedKind X.prog X.w) a xs := by
  obtain ⟨z, hd, o, es, ep, h1, h2, h3, h4⟩ := dct_at I e rk
  obtain ⟨xs, l1, l2, l3⟩ := to_nest I rk h4 hc
  exact ⟨z, hd, xs, l1, o, es, ep, h1, h2, h3, l2, l3, nodup_rel (f := nk) (g := fun q => q.1) nk_inj (fun p q r => r.1) l1 nd⟩
theorem dctO_ok {P : Program} {w : World} {H' : Hp} {h' : Heap} {rows : List Row} (z : rows.length ≤ sizeLine) (hd : (a == sysModules) = false) {o : Obj} {es : Array DictEntry} {ep : Nat} (h1 : h'.get? a = some o) (h2 : o.ExactDict) (h3 : o.data = .dict es ep) (h4 : Paired Erw rows es.toList) :
    ObjOk P w H' h' a (dctO a rows) :=
  ⟨⟨z, hd, o, es, ep, h1, h2, h3, h4⟩, ⟨o, h1⟩, fun x1 x2 ⟨z, hd, o, es, ep, q1, q2⟩ k => ⟨z, hd, o, es, ep, k o q1, q2⟩⟩
theorem leaf_ok {H' : Hp} {h' : Heap} {lib : List (Key × Value)} (z : kvs.length ≤ sizeLine) (hd : (a == sysModules) = false) (t : Paired (TLr X.K ads H) kvs lib) (dd : h'.DictOf (mixKind X.prog X.w) a lib) :
    ∃ rows, (∀ H', ObjOk X.prog X.w H' h' a (dctO a rows)) ∧ RKs X.K X.w ads H kvs rows ∧ ∃ q, h'.get? a = some q := by
  obtain ⟨o, es, ep, h1, h2, h3, h4, h5, h6⟩ := dd
  obtain ⟨rows, l1, l2⟩ := of_leaf (X := X) t h5 fun e he => h4 e (by simpa using he)
  exact ⟨rows, fun H' => dctO_ok (by rw [← l2.length]; exact z) hd h1 h2 h3 l1, l2, o, h1⟩
theorem nest_ok {H' : Hp} {h' : Heap} {xs : List (NestedKey × Addr × Value)} (z : kvs.length ≤ sizeLine) (hd : (a == sysModules) = false) (t : Paired (TNr X.K ads H) kvs xs) (dd : h'.DictOfH (nestedKind X.prog X.w) a xs) :
    ∃ rows, (∀ H', ObjOk X.prog X.w H' h' a (dctO a rows)) ∧ RKs X.K X.w ads H kvs rows ∧ ∃ q, h'.get? a = some q := by
  obtain ⟨o, es, ep, h1, h2, h3, h4, h5, h6⟩ := dd
  obtain ⟨rows, l1, l2⟩ := of_nest (X := X) t
  exact ⟨rows, fun H' => dctO_ok (by rw [← l2.length]; exact z) hd h1 h2 h3 (by rw [h4]; exact l1), l2, o, h1⟩
end
end SX
end
section
set_option linter.all false
set_option maxRecDepth 100000
set_option maxHeartbeats 1000000
/-! St7: what is done with dicts. -/
namespace SX
open PySem PySem.Spec PyProof.Rows L2

def dctW (S : Sto) (n : Nat) : Option (List (D × D)) := match S[n]? with
  | some (.dct kvs) => some kvs
  | _ => none
def dctAt (S : Sto) (n : Nat) : Option (List (D × D)) := match S[n]? with
  | some (.dct kvs) => some kvs
  | some (.frz kvs) => some kvs
  | _ => none
theorem dctW_eq {S : Sto} {n : Nat} {kvs : List (D × D)} (h : dctW S n = some kvs) : S[n]? = some (.dct kvs) := by
  unfold dctW at h
  split at h
  · rename_i e; cases h; exact e
  · cases h
theorem dctW_at {S : Sto} {n : Nat} {kvs : List (D × D)} (h : dctW S n = some kvs) : dctAt S n = some kvs := by
  unfold dctAt
  rw [dctW_eq h]
section
variable {K : PySem.W.Frag} {w : World} {ads : List Addr} {S : Sto} {H : Hp}
theorem rd_at (rs : RS K w ads S H) {n : Nat} {a : Addr} {kvs : List (D × D)} (h : dctAt S n = some kvs) (ha : ads[n]? = some a) : ∃ rows, Rd H a (dctO a rows) ∧ RKs K w ads H kvs rows ∧ (kvs.map (·.1)).Nodup := by
  unfold dctAt at h
  split at h
  · rename_i e
    cases h
    obtain ⟨rows, q1, q2, q3⟩ := rs.sto n _ a e ha
    exact ⟨rows, .inl q1, q2, q3⟩
  · rename_i e
    cases h
    obtain ⟨od, rows, q1, q2, q3⟩ := rs.sto n _ a e ha
    exact ⟨rows, .inr ⟨od, q1⟩, q2, q3⟩
  · cases h
/-- x is a dict with the entries kvs, y a key for it -/
def DHas (K : PySem.W.Frag) (w : World) (ads : List Addr) (S : Sto) (H : Hp) (x y : V) (kvs : List (D × D)) (d : D) : Prop :=
  ∃ n a, x = .ref a ∧ RS K w ads S H ∧ ads[n]? = some a ∧ dctAt S n = some kvs ∧ RV K ads H d y ∧ clsOk kvs d = true
/-- the same, to be written -/
def DHasW (K : PySem.W.Frag) (w : World) (ads : List Addr) (S : Sto) (H : Hp) (x y : V) (kvs : List (D × D)) (d : D) (a : Addr) : Prop :=
  ∃ n, x = .ref a ∧ RS K w ads S H ∧ ads[n]? = some a ∧ dctW S n = some kvs ∧ RV K ads H d y ∧ clsOk kvs d = true
theorem val_leaf {kvs : List (D × D)} {lib : List (Key × Value)} (t : Paired (TLr K ads H) kvs lib) {d : D} {k : Key} (e : leafKey d = some k) :
    (∀ r, valD kvs d = some r → ∃ u v, valueAt lib k = some u ∧ RV K ads H r v ∧ RelV v u) ∧ (valD kvs d = none → valueAt lib k = none) := by
  obtain ⟨h1, h2⟩ := find_rel (f := leafKey) (g := fun q : Key × Value => q.1) leaf_inj (fun p q r => r.1) e t
  refine ⟨fun r hr => ?_, fun hn => ?_⟩
  · obtain ⟨p, hp, e2⟩ := Option.map_eq_some_iff.mp hr
    obtain ⟨q, hq, _, v, rv, ru⟩ := h1 p hp
    exact ⟨q.2, v, by unfold valueAt; rw [hq]; rfl, by rw [← e2]; exact rv, ru⟩
  · unfold valueAt
    rw [h2 (Option.map_eq_none_iff.mp hn)]
    rfl
theorem val_nest {kvs : List (D × D)} {xs : List (NestedKey × Addr × Value)} (t : Paired (TNr K ads H) kvs xs) {d : D} {k : NestedKey} (e : nk d = some k) :
    (∀ r, valD kvs d = some r → ∃ p v, atKey xs k = some p ∧ RV K ads H r v ∧ RelV v p.2) ∧ (valD kvs d = none → atKey xs k = none) := by
  obtain ⟨h1, h2⟩ := find_rel (f := nk) (g := fun q : NestedKey × Addr × Value => q.1) nk_inj (fun p q r => r.1) e t
  refine ⟨fun r hr => ?_, fun hn => ?_⟩
  · obtain ⟨p, hp, e2⟩ := Option.map_eq_some_iff.mp hr
    obtain ⟨q, hq, _, _, v, rv, ru⟩ := h1 p hp
    exact ⟨q.2, v, by unfold atKey; rw [hq]; rfl, by rw [← e2]; exact rv, ru⟩
  · unfold atKey
    rw [h2 (Option.map_eq_none_iff.mp hn)]
    rfl
theorem put_leaf {kvs : List (D × D)} {lib : List (Key × Value)} (t : Paired (TLr K ads H) kvs lib) {d r : D} {k : Key} {v : V} {u : Value} (e : leafKey d = some k) (rv : RV K ads H r v) (ru : RelV v u) : Paired (TLr K ads H) (putD kvs d r) (stored lib k u) := by
  unfold putD stored
  rw [any_rel (f := leafKey) (g := fun q : Key × Value => q.1) leaf_inj (fun p q r => r.1) e t]
  split
  · exact map_rel (f := leafKey) (g := fun q : Key × Value => q.1) leaf_inj (fun p q r => r.1) e (fun p q z => ⟨z.1, v, rv, ru⟩) t
  · exact Paired.snoc t ⟨e, v, rv, ru⟩
theorem put_nest {kvs : List (D × D)} {xs : List (NestedKey × Addr × Value)} (t : Paired (TNr K ads H) kvs xs) {d r : D} {k : NestedKey} {b : Addr} {v : V} {u : Value} (e : nk d = some k) (rd : RV K ads H d (.ref b)) (rv : RV K ads H r v) (ru : RelV v u) :
    Paired (TNr K ads H) (putD kvs d r) (storedH xs k b u) := by
  have ea : (atKey xs k).isSome = xs.any fun q => decide (q.1 = k) := by
    unfold atKey
    rw [Option.isSome_map]
    induction xs with
    | nil => rfl
    | cons q qs ih =>
      by_cases c : q.1 = k
      · rw [List.find?_cons, List.any_cons, decide_eq_true c]; rfl
      · rw [List.find?_cons, List.any_cons, decide_eq_false c]
        simp only [Bool.false_or]
        clear ih t
        induction qs with
        | nil => rfl
        | cons q qs ih =>
          by_cases c : q.1 = k
          · rw [List.find?_cons, List.any_cons, decide_eq_true c]; rfl
          · rw [List.find?_cons, List.any_cons, decide_eq_false c]; simpa using ih
  unfold putD storedH
  rw [ea, any_rel (f := nk) (g := fun q : NestedKey × Addr × Value => q.1) nk_inj (fun p q r => r.1) e t]
  split
  · exact map_rel (f := nk) (g := fun q : NestedKey × Addr × Value => q.1) (G := fun q => (q.1, q.2.1, u)) nk_inj (fun p q r => r.1) e (fun p q z => ⟨z.1, z.2.1, v, rv, ru⟩) t
  · exact Paired.snoc t ⟨e, rd, v, rv, ru⟩
theorem del_leaf {kvs : List (D × D)} {lib : List (Key × Value)} (t : Paired (TLr K ads H) kvs lib) {d : D} {k : Key} (e : leafKey d = some k) : Paired (TLr K ads H) (delD kvs d) (without lib k) :=
  filt_rel (f := leafKey) (g := fun q : Key × Value => q.1) leaf_inj (fun p q r => r.1) e t
theorem del_nest {kvs : List (D × D)} {xs : List (NestedKey × Addr × Value)} (t : Paired (TNr K ads H) kvs xs) {d : D} {k : NestedKey} (e : nk d = some k) : Paired (TNr K ads H) (delD kvs d) (withoutH xs k) :=
  filt_rel (f := nk) (g := fun q : NestedKey × Addr × Value => q.1) nk_inj (fun p q r => r.1) e t
theorem nest_ref {d : D} {y : V} (h : kcls d = 2) (r : RV K ads H d y) : ∃ b k, y = .ref b ∧ nk d = some k ∧ k.depth ≤ 8 := by
  obtain ⟨ds, ks, rfl, e1, e2⟩ := kcls_tup h
  cases r
  exact ⟨_, .tup ks, rfl, by simp only [nk, e1, Option.map_some], e2⟩
end

section
variable {X : Cx}
theorem room9 {P : Program} {w : World} {A : Around} (hu : A.units + 65 < cLine) : (nestedKind P w).room A.in1 := by
  show A.units + 1 + 8 < cLine
  omega
/-! ### in, not in -/
def rDIn (K : PySem.W.Frag) (w : World) (neg : Bool) : R2 := fun y x H Q => ∃ ads S kvs d, DHas K w ads S H x y kvs d ∧ Q (.bl (if neg = true then !(valD kvs d).isSome else (valD kvs d).isSome)) H
theorem isSome_eq {α β : Type} {a : Option α} {b : Option β} (h1 : ∀ r, a = some r → b.isSome = true) (h2 : a = none → b = none) : a.isSome = b.isSome := by
  cases a with
  | none => rw [h2 rfl]; rfl
  | some r => rw [h1 r rfl]; rfl
theorem d_in' {pins : List (Addr × Obj)} {σ : L2.St} {H : Hp} {s : Shared} {ads : List Addr} {S : Sto} {x y : V} {v u : Value} {kvs : List (D × D)} {d : D} {A : Around} {E : Value → Shared → Prop} {Q : Value → Shared → Prop} (hu : A.units + 65 < cLine) (I : Inv X pins σ H s)
    (dh : DHas X.K X.w ads S H x y kvs d) (rx : RelV x v) (ry : RelV y u) : (∀ s', Inv X pins σ H s' → Q (.bool (valD kvs d).isSome) s') → wpAny (model X.prog X.w) A (compareOp .In u v) Q E s := by
  intro h
  obtain ⟨n, a, rfl, rs, ha, e, rd, co⟩ := dh
  cases rx
  obtain ⟨rows, q1, q2, q3⟩ := rd_at rs e ha
  rcases clsOk_of co with ⟨c1, c2⟩ | ⟨c1, c2⟩
  · obtain ⟨z, hd, lib, t, dd⟩ := dct_leaf I q1 q2 q3 c2
    obtain ⟨k, ek⟩ := kcls_leaf c1
    obtain ⟨v1, v2⟩ := val_leaf t ek
    refine wpAny_in_of (lk_is (X := X) (P := X.prog) rd ry ek) hd dd.mapOf ?_
    rw [← isSome_eq (a := valD kvs d) (b := valueAt lib k) (fun r hr => by obtain ⟨u, _, e, _⟩ := v1 r hr; rw [e]; rfl) v2]
    exact h _ (I.tok _)
  · obtain ⟨z, hd, xs, t, dd⟩ := dct_nest I q1 q2 q3 c2
    obtain ⟨b, k, rfl, ek, hk⟩ := nest_ref c1 rd
    obtain ⟨v1, v2⟩ := val_nest t ek
    cases ry
    refine wpAny_in_heap (room9 hu) ⟨nk_is I _ _ _ _ rd rfl ek, hk⟩ hd dd ?_
    rw [← isSome_eq (a := valD kvs d) (b := atKey xs k) (fun r hr => by obtain ⟨u, _, e, _⟩ := v1 r hr; rw [e]; rfl) v2]
    exact h _ (I.tok _)
theorem d_notIn' {pins : List (Addr × Obj)} {σ : L2.St} {H : Hp} {s : Shared} {ads : List Addr} {S : Sto} {x y : V} {v u : Value} {kvs : List (D × D)} {d : D} {A : Around} {E : Value → Shared → Prop} {Q : Value → Shared → Prop} (hu : A.units + 65 < cLine) (I : Inv X pins σ H s)
    (dh : DHas X.K X.w ads S H x y kvs d) (rx : RelV x v) (ry : RelV y u) : (∀ s', Inv X pins σ H s' → Q (.bool (!(valD kvs d).isSome)) s') → wpAny (model X.prog X.w) A (compareOp .NotIn u v) Q E s := by
  intro h
  obtain ⟨n, a, rfl, rs, ha, e, rd, co⟩ := dh
  cases rx
  obtain ⟨rows, q1, q2, q3⟩ := rd_at rs e ha
  rcases clsOk_of co with ⟨c1, c2⟩ | ⟨c1, c2⟩
  · obtain ⟨z, hd, lib, t, dd⟩ := dct_leaf I q1 q2 q3 c2
    obtain ⟨k, ek⟩ := kcls_leaf c1
    obtain ⟨v1, v2⟩ := val_leaf t ek
    refine wpAny_notIn_of (lk_is (X := X) (P := X.prog) rd ry ek) hd dd.mapOf ?_
    rw [← isSome_eq (a := valD kvs d) (b := valueAt lib k) (fun r hr => by obtain ⟨u, _, e, _⟩ := v1 r hr; rw [e]; rfl) v2]
    exact h _ (I.tok _)
  · obtain ⟨z, hd, xs, t, dd⟩ := dct_nest I q1 q2 q3 c2
    obtain ⟨b, k, rfl, ek, hk⟩ := nest_ref c1 rd
    obtain ⟨v1, v2⟩ := val_nest t ek
    cases ry
    refine wpAny_notIn_heap (room9 hu) ⟨nk_is I _ _ _ _ rd rfl ek, hk⟩ hd dd ?_
    rw [← isSome_eq (a := valD kvs d) (b := atKey xs k) (fun r hr => by obtain ⟨u, _, e, _⟩ := v1 r hr; rw [e]; rfl) v2]
    exact h _ (I.tok _)
theorem op_dIn (hu : X.A.units + 65 < cLine) : OpR X (compareOp .In) (rDIn X.K X.w false) := by
  intro pins s σ H y x u v Q I ry rx ⟨ads, S, kvs, d, dh, q⟩
  exact d_in' hu I dh rx ry fun s' I' => ⟨.bl _, H, I', rfl, q⟩
theorem op_dNotIn (hu : X.A.units + 65 < cLine) : OpR X (compareOp .NotIn) (rDIn X.K X.w true) := by
  intro pins s σ H y x u v Q I ry rx ⟨ads, S, kvs, d, dh, q⟩
  exact d_notIn' hu I dh rx ry fun s' I' => ⟨.bl _, H, I', rfl, q⟩
def gInA (x y : D) (S : Sto) : Out D := match y with
  | .ref n => match dctAt S n with
    | some kvs => if clsOk kvs x = true then .ok (.bl (valD kvs x).isSome) S else .err
    | none => gIn x y S
  | _ => gIn x y S
def gNotInA (x y : D) (S : Sto) : Out D := match y with
  | .ref n => match dctAt S n with
    | some kvs => if clsOk kvs x = true then .ok (.bl (!(valD kvs x).isSome)) S else .err
    | none => gNotIn x y S
  | _ => gNotIn x y S
theorem gop_inA {K : PySem.W.Frag} {w : World} : GOp K w (fun x y H Q => rInAll K x y H Q ∨ rDIn K w false x y H Q) gInA := by
  intro W ads σ S H x y u v Q rs rx ry fin
  unfold gInA at fin
  split at fin
  · rename_i n
    split at fin
    · rename_i kvs e
      split at fin
      · rename_i co
        cases ry with
        | ref ha => exact .inr ⟨ads, S, kvs, x, ⟨n, _, rfl, rs, ha, e, rx, co⟩, fin ads _ H Le.refl rs (.bl _)⟩
      · exact fin.elim
    · exact .inl (gop_in W ads σ S H _ _ u v Q rs rx ry fin)
  · exact .inl (gop_in W ads σ S H _ _ u v Q rs rx ry fin)
theorem gop_notInA {K : PySem.W.Frag} {w : World} : GOp K w (fun x y H Q => rNotInAll K x y H Q ∨ rDIn K w true x y H Q) gNotInA := by
  intro W ads σ S H x y u v Q rs rx ry fin
  unfold gNotInA at fin
  split at fin
  · rename_i n
    split at fin
    · rename_i kvs e
      split at fin
      · rename_i co
        cases ry with
        | ref ha => exact .inr ⟨ads, S, kvs, x, ⟨n, _, rfl, rs, ha, e, rx, co⟩, fin ads _ H Le.refl rs (.bl _)⟩
      · exact fin.elim
    · exact .inl (gop_notIn W ads σ S H _ _ u v Q rs rx ry fin)
  · exact .inl (gop_notIn W ads σ S H _ _ u v Q rs rx ry fin)
/-! ### d[k] -/
def rDGet (K : PySem.W.Frag) (w : World) : R2 := fun x y H Q => ∃ ads S kvs d r, DHas K w ads S H x y kvs d ∧ valD kvs d = some r ∧ ∀ v, RV K ads H r v → Q v H
theorem ix_dct (hu : X.A.units + 65 < cLine) : IxR X (rDGet X.K X.w) := by
  intro value slice pins s σ H x y v u Q I rx ry h hs
  obtain ⟨ads, S, kvs, d, r, ⟨n, a, rfl, rs, ha, e, rd, co⟩, er, q⟩ := h
  cases rx
  obtain ⟨rows, q1, q2, q3⟩ := rd_at rs e ha
  rcases clsOk_of co with ⟨c1, c2⟩ | ⟨c1, c2⟩
  · obtain ⟨z, hd, lib, t, dd⟩ := dct_leaf I q1 q2 q3 c2
    obtain ⟨k, ek⟩ := kcls_leaf c1
    obtain ⟨u', v', e1, rv, ru⟩ := (val_leaf t ek).1 r er
    exact tail_any dd.typeIs PySem.F.slot_dict_getitem.lookup (wpAny_getItem_of (lk_is (X := X) (P := X.prog) rd ry ek) dd.mapOf e1 ⟨v', H, I.tok _, ru, q v' rv⟩) hs
  · obtain ⟨z, hd, xs, t, dd⟩ := dct_nest I q1 q2 q3 c2
    obtain ⟨b, k, rfl, ek, hk⟩ := nest_ref c1 rd
    obtain ⟨p, v', e1, rv, ru⟩ := (val_nest t ek).1 r er
    cases ry
    exact tail_any dd.typeIs PySem.F.slot_dict_getitem.lookup (wpAny_getItem_heap (room9 hu) ⟨nk_is I _ _ _ _ rd rfl ek, hk⟩ dd e1 ⟨v', H, I.tok _, ru, q v' rv⟩) hs
def gIxA (x y : D) (S : Sto) : Out D := match x with
  | .ref n => match dctAt S n with
    | some kvs => if clsOk kvs y = true then (match valD kvs y with
      | some r => .ok r S
      | none => .err) else .err
    | none => gIx x y S
  | _ => gIx x y S
theorem gop_ixA {K : PySem.W.Frag} {w : World} : GOp K w (fun x y H Q => rIx K x y H Q ∨ rDGet K w x y H Q) gIxA := by
  intro W ads σ S H x y u v Q rs rx ry fin
  unfold gIxA at fin
  split at fin
  · rename_i n
    split at fin
    · rename_i kvs e
      split at fin
      · rename_i co
        split at fin
        · rename_i r er
          cases rx with
          | ref ha => exact .inr ⟨ads, S, kvs, y, r, ⟨n, _, rfl, rs, ha, e, ry, co⟩, er, fun v rv => fin ads _ H Le.refl rs rv⟩
        · exact fin.elim
      · exact fin.elim
    · exact .inl (gop_ix W ads σ S H _ _ u v Q rs rx ry fin)
  · exact .inl (gop_ix W ads σ S H _ _ u v Q rs rx ry fin)
end
section
variable {X : Cx} {W : WX} {a b : Expr} {fa fb : SE} {pos : Pos}
theorem se_ixA (hu : X.A.units + 65 < cLine) (ha : PE X a (tS X.K X.w W fa)) (hb : PE X b (tS X.K X.w W fb)) (hs : PlainIx b := by exact fun _ _ => rfl) : PE X (.Subscript a b pos) (tS X.K X.w W (sOp2 gIxA fa fb)) :=
  PE.imp (pe_ix (ix_seq.or (ix_dct hu)) ha hb hs) (op2_imp gop_ixA)
theorem se_inA (hu : X.A.units + 65 < cLine) (ha : PE X a (tS X.K X.w W fa)) (hb : PE X b (tS X.K X.w W fb)) (hm : behindInMarks .In b = false := by rfl) : PE X (.Compare a [.In] [b] pos) (tS X.K X.w W (sOp2 gInA fa fb)) :=
  se_cmp (((op_inD hu).or (op_inTD hu)).or (op_dIn hu)) gop_inA hm ha hb
theorem st_inA (hu : X.A.units + 65 < cLine) (ha : PE X a (tS X.K X.w W fa)) (hb : PE X b (tS X.K X.w W fb)) (hm : behindInMarks .In b = false := by rfl) : PT X (.Compare a [.In] [b] pos) (tT X.K X.w W (sBool (sOp2 gInA fa fb))) :=
  st_cmp (((op_inD hu).or (op_inTD hu)).or (op_dIn hu)) gop_inA hm ha hb
theorem se_notInA (hu : X.A.units + 65 < cLine) (ha : PE X a (tS X.K X.w W fa)) (hb : PE X b (tS X.K X.w W fb)) (hm : behindInMarks .NotIn b = false := by rfl) : PE X (.Compare a [.NotIn] [b] pos) (tS X.K X.w W (sOp2 gNotInA fa fb)) :=
  se_cmp (((op_notInD hu).or (op_notInTD hu)).or (op_dNotIn hu)) gop_notInA hm ha hb
theorem st_notInA (hu : X.A.units + 65 < cLine) (ha : PE X a (tS X.K X.w W fa)) (hb : PE X b (tS X.K X.w W fb)) (hm : behindInMarks .NotIn b = false := by rfl) : PT X (.Compare a [.NotIn] [b] pos) (tT X.K X.w W (sBool (sOp2 gNotInA fa fb))) :=
  st_cmp (((op_notInD hu).or (op_notInTD hu)).or (op_dNotIn hu)) gop_notInA hm ha hb
end

/-! ### writing -/
section
variable {X : Cx} {pins : List (Addr × Obj)} {σ : L2.St} {H : Hp} {s : Shared} {ads : List Addr} {S : Sto} {kvs : List (D × D)} {a : Addr} {rows : List Row}
theorem dw_leaf {h' : Heap} {t' : Nat} {kvs' : List (D × D)} {lib : List (Key × Value)} (I : Inv X pins σ H s) (e : H a = some (dctO a rows)) (z : kvs'.length ≤ sizeLine) (hd : (a == sysModules) = false) (t : Paired (TLr X.K ads H) kvs' lib)
    (dd : h'.DictOf (mixKind X.prog X.w) a lib) (hs : Heap.SameBut a s.heap h') : ∃ rows', RKs X.K X.w ads H kvs' rows' ∧ Inv X pins σ (upd H a (dctO a rows')) { s with heap := h', toks := t' } := by
  obtain ⟨rows', q1, q2, q3⟩ := leaf_ok (X := X) (H' := H) z hd t dd
  exact ⟨rows', q2, d_write I (by rw [e]; exact True.intro) hs q3 (q1 _)⟩
theorem dw_nest {h' : Heap} {t' : Nat} {kvs' : List (D × D)} {xs : List (NestedKey × Addr × Value)} (I : Inv X pins σ H s) (e : H a = some (dctO a rows)) (z : kvs'.length ≤ sizeLine) (hd : (a == sysModules) = false) (t : Paired (TNr X.K ads H) kvs' xs)
    (dd : h'.DictOfH (nestedKind X.prog X.w) a xs) (hs : Heap.SameBut a s.heap h') : ∃ rows', RKs X.K X.w ads H kvs' rows' ∧ Inv X pins σ (upd H a (dctO a rows')) { s with heap := h', toks := t' } := by
  obtain ⟨rows', q1, q2, q3⟩ := nest_ok (X := X) (H' := H) z hd t dd
  exact ⟨rows', q2, d_write I (by rw [e]; exact True.intro) hs q3 (q1 _)⟩
/-- the store behind a written dict -/
theorem RS.putD {K : PySem.W.Frag} {w : World} (rs : RS K w ads S H) {n : Nat} {rows' : List Row} {kvs' : List (D × D)} (ha : ads[n]? = some a) (e : H a = some (dctO a rows)) (rk : RKs K w ads H kvs' rows') (nd : (kvs'.map (·.1)).Nodup) :
    Le K ads ads H (upd H a (dctO a rows')) ∧ RS K w ads (S.set n (.dct kvs')) (upd H a (dctO a rows')) :=
  have le : Le K ads ads H (upd H a (dctO a rows')) := le_upd e trivial
  ⟨le, rs.put ha e trivial ⟨rows', upd_same, rk.mono le, nd⟩⟩
end
section
variable {X : Cx}
def rDSet (K : PySem.W.Frag) (w : World) : TSet := fun o i v H Q => ∃ ads S n a kvs d r, o = .ref a ∧ RS K w ads S H ∧ ads[n]? = some a ∧ dctW S n = some kvs ∧ RV K ads H d i ∧ clsOk kvs d = true ∧ RV K ads H r v ∧ kvs.length < sizeLine ∧
  ∀ H', Le K ads ads H H' → RS K w ads (S.set n (.dct (putD kvs d r))) H' → Q H'
theorem set_dct (hu : X.A.units + 65 < cLine) : PSet X (rDSet X.K X.w) := by
  intro pins s σ H o i v ov iv u Q I ro ri rv h
  obtain ⟨ads, S, n, a, kvs, d, r, rfl, rs, ha, e, rd, co, rr, hl, q⟩ := h
  cases ro
  obtain ⟨rows, q1, q2, q3⟩ := rs.sto n _ a (dctW_eq e) ha
  have hl' : (putD kvs d r).length ≤ sizeLine := by have := putD_len kvs d r; omega
  rcases clsOk_of co with ⟨c1, c2⟩ | ⟨c1, c2⟩
  · obtain ⟨z, hd, lib, t, dd⟩ := dct_leaf I (.inl q1) q2 q3 c2
    obtain ⟨k, ek⟩ := kcls_leaf c1
    refine wpAny_setItem_pairs (hsz := by rw [← Paired.length t]; exact z) (lk_is (X := X) (P := X.prog) rd ri ek) dd fun h' dd' hs => ?_
    obtain ⟨rows', p1, p2⟩ := dw_leaf (t' := s.toks + 1) I q1 hl' hd (put_leaf t ek rr rv) dd' hs
    obtain ⟨le, rs'⟩ := rs.putD ha q1 p1 (putD_nodup q3)
    exact ⟨_, p2, q _ le rs'⟩
  · obtain ⟨z, hd, xs, t, dd⟩ := dct_nest I (.inl q1) q2 q3 c2
    obtain ⟨b, k, rfl, ek, hk⟩ := nest_ref c1 rd
    cases ri
    refine wpAny_setItem_heap (hsz := by rw [← Paired.length t]; exact z) (room9 hu) ⟨nk_is I _ _ _ _ rd rfl ek, hk⟩ dd fun h' dd' hs => ?_
    obtain ⟨rows', p1, p2⟩ := dw_nest (t' := s.toks + k.draws) I q1 hl' hd (put_nest t ek rd rr rv) dd' hs
    obtain ⟨le, rs'⟩ := rs.putD ha q1 p1 (putD_nodup q3)
    exact ⟨_, p2, q _ le rs'⟩
theorem PSet.or {t t' : TSet} (h : PSet X t) (h' : PSet X t') : PSet X (fun o i v H Q => t o i v H Q ∨ t' o i v H Q) := by
  intro pins s σ H o i v ov iv u Q I ro ri rv q
  exact q.elim (h pins s σ H o i v ov iv u Q I ro ri rv) (h' pins s σ H o i v ov iv u Q I ro ri rv)
def gSetIxA (o i v : D) (S : Sto) : Option Sto := match o with
  | .ref n => match dctW S n with
    | some kvs => if clsOk kvs i = true ∧ kvs.length < sizeLine then some (S.set n (.dct (putD kvs i v))) else none
    | none => gSetIx o i v S
  | _ => none
theorem gs_setA {K : PySem.W.Frag} {w : World} : GSet K w (fun o i v H Q => rSetL o i v H Q ∨ rDSet K w o i v H Q) gSetIxA := by
  intro ads S H o i v ov iv vv Q rs ro ri rv h
  unfold gSetIxA at h
  split at h
  · rename_i S' e
    split at e
    · rename_i n
      split at e
      · rename_i kvs ed
        split at e
        · rename_i c
          cases e
          cases ro with
          | ref ha => exact .inr ⟨ads, S, n, _, kvs, i, v, rfl, rs, ha, ed, ri, c.1, rv, c.2, fun H' le rs' => h ads H' le rs'⟩
        · cases e
      · refine .inl (gs_set ads S H _ i v ov iv vv Q rs ro ri rv ?_)
        rw [e]; exact h
    · cases e
  · exact h.elim
/-! ### methods -/
variable {W : WX} {o e : Expr} {es : List Expr} {fo : SE} {gs : SA} {name : PySem.Str} {apos cpos : Pos}
def tDM (r : V → List V → Hp → VK → Prop) (to : TE) (t : TA) : TE := fun σ H Q => to σ H fun x H1 => (∃ a rows, x = .ref a ∧ Rd H1 a (dctO a rows)) ∧ t σ H1 fun xs H2 => r x xs H2 Q
theorem pe_dm {r : V → List V → Hp → VK → Prop} {id : String} {to : TE} {t : TA} (slot : Slot "dict" name id) (hty : typeOf (.builtin id) = pure (.type "method_descriptor")) (hm : MtR X id r) (ho : PE X o to) (ha : PA X (e :: es) t)
    (hbase : attributeBase o name X.env (eval o X.env) = eval o X.env := by rfl)
    (hfew : ((backTo cpos (starEach (e :: es) X.env)).all (fun x => !x.1) && (backToKw cpos (keywordEach [] X.env)).all (fun x => x.1.isSome)
      && decide ((e :: es).length + ([] : List Keyword).length + (if ([] : List Keyword).isEmpty then 0 else 1) < 30)) = true := by rfl)
    (hline : (apos.endLine == cpos.line) = true := by rfl) (hs : starEach (e :: es) X.env = (false, eval e X.env) :: starEach es X.env := by rfl) (hplain : (backTo cpos (starEach es X.env)).any (·.1) = false := by rfl) :
    PE X (.Call (.Attribute o name apos) (e :: es) [] cpos) (tDM r to t) := by
  refine ⟨fun pins s σ H Q I h => ?_⟩
  refine wpAny_Call_method_late hbase hfew hline rfl (thn (ho.run pins s σ H _ I h) fun v s1 ⟨x, H1, I1, r1, ⟨a, rows, ex, ty⟩, q1⟩ => ?_)
  subst ex
  obtain rfl : v = Value.ref a := r1
  obtain ⟨⟨_, _, ob, es', ep, h1, h2, h3, _⟩, _, _⟩ := (show ObjOk X.prog X.w H1 s1.heap a (dctO a rows) from ty.ok I1.hok)
  refine ⟨"dict", id, PySem.F.plainAttrs_dict, slot, hty, ⟨ob, h1, h2.1⟩, fun b eb => ?_, ?_⟩
  · cases eb; exact ⟨ob, h1, h2.2.1⟩
  · have hA := ha.run cpos pins s1 σ H1 _ I1 q1
    rw [hs] at hA ⊢
    refine Calls.callWith_builtin (by show (false || (backTo cpos (starEach es X.env)).any (·.1)) = false; rw [hplain] <;> rfl) (Calls.evalArgs_plain ?_)
    exact thn hA fun us s2 ⟨vs, H2, I2, r2, q2⟩ => hm pins s2 σ H2 (.ref a) vs (.ref a) us Q I2 rfl r2 q2
/-- a method of a dict -/
def sDM (g : D → List D → Sto → Out D) (fo : SE) (gs : SA) : SE := fun ρ S => (fo ρ S).bind fun x S1 => match x with
  | .ref n => match dctAt S1 n with
    | some _ => (gs ρ S1).bind fun xs S2 => g x xs S2
    | none => .err
  | _ => .err
theorem dm_imp {r : V → List V → Hp → VK → Prop} {g : D → List D → Sto → Out D} (hr : GMt X.K X.w r g) : ∀ σ H Q, tS X.K X.w W (sDM g fo gs) σ H Q → tDM r (tS X.K X.w W fo) (tA X.K X.w W gs) σ H Q := fun σ H Q ⟨ads, ρ, S, rs, re, fin⟩ =>
  ⟨ads, ρ, S, rs, re, (Fn.bind fin).mono fun u H1 ⟨x, S1, ads1, le1, rs1, r1, fin1⟩ => by
    split at fin1
    · rename_i n
      split at fin1
      · rename_i xs e
        cases r1 with
        | ref ha =>
          obtain ⟨rows, q1, q2, q3⟩ := rd_at rs1 e ha
          exact ⟨⟨_, rows, rfl, q1⟩, ads1, ρ, S1, rs1, re.mono le1, (Fn.bind fin1).mono fun us H2 ⟨ys, S2, ads2, le2, rs2, r2, fin2⟩ => hr W ads2 σ S2 H2 _ _ ys us Q rs2 (.ref (le2.get ha)) r2 fin2⟩
      · exact fin1.elim
    · exact fin1.elim⟩
/-- d.get(k), d.get(k, z) -/
def rDGetM (K : PySem.W.Frag) (w : World) : V → List V → Hp → VK → Prop := fun x ys H Q => ∃ ads S kvs d y, DHas K w ads S H x y kvs d ∧
  ((ys = [y] ∧ ∀ v, RV K ads H ((valD kvs d).getD .non) v → Q v H) ∨ ∃ z zd, ys = [y, z] ∧ RV K ads H zd z ∧ ∀ v, RV K ads H ((valD kvs d).getD zd) v → Q v H)
theorem mt_dget (hu : X.A.units + 65 < cLine) : MtR X "dict.get" (rDGetM X.K X.w) := by
  intro pins s σ H x ys v us Q I rx rys h
  obtain ⟨ads, S, kvs, d, y, ⟨n, a, rfl, rs, ha, e, rd, co⟩, hh⟩ := h
  cases rx
  obtain ⟨rows, q1, q2, q3⟩ := rd_at rs e ha
  rcases clsOk_of co with ⟨c1, c2⟩ | ⟨c1, c2⟩
  · obtain ⟨z, hd, lib, t, dd⟩ := dct_leaf I q1 q2 q3 c2
    obtain ⟨k, ek⟩ := kcls_leaf c1
    obtain ⟨v1, v2⟩ := val_leaf t ek
    rcases hh with ⟨rfl, q⟩ | ⟨z, zd, rfl, rz, q⟩
    · cases rys with
      | cons ry r0 =>
        cases r0
        refine call_meetsIn PySem.F.slot_dict_get dd.typeIs PySem.F.entry_dict_get (PySem.F.args_dict_get_2 _ _) (meets_dict_get (mixKind X.prog X.w) a (lk_is (X := X) (P := X.prog) rd ry ek) hd) ⟨_, dd.mapOf, ?_⟩
        cases er : valD kvs d with
        | some r =>
          obtain ⟨u', v', e1, rv, ru⟩ := v1 r er
          rw [er] at q
          rw [e1]
          exact ⟨v', H, I.tok _, ru, q v' rv⟩
        | none =>
          rw [er] at q
          rw [v2 er]
          exact ⟨.non, H, I.tok _, rfl, q _ .non⟩
    · cases rys with
      | cons ry r0 =>
        cases r0 with
        | cons rz' r0 =>
          cases r0
          refine call_meetsIn PySem.F.slot_dict_get dd.typeIs PySem.F.entry_dict_get (PySem.F.args_dict_get_3 _ _ _) (meets_dict_get_default (mixKind X.prog X.w) a (lk_is (X := X) (P := X.prog) rd ry ek) hd _) ⟨_, dd.mapOf, ?_⟩
          cases er : valD kvs d with
          | some r =>
            obtain ⟨u', v', e1, rv, ru⟩ := v1 r er
            rw [er] at q
            rw [e1]
            exact ⟨v', H, I.tok _, ru, q v' rv⟩
          | none =>
            rw [er] at q
            rw [v2 er]
            exact ⟨_, H, I.tok _, rz', q _ rz⟩
  · obtain ⟨z, hd, xs, t, dd⟩ := dct_nest I q1 q2 q3 c2
    obtain ⟨b, k, rfl, ek, hk⟩ := nest_ref c1 rd
    obtain ⟨v1, v2⟩ := val_nest t ek
    have his : (nestedKind X.prog X.w).is s.heap k b := ⟨nk_is I _ _ _ _ rd rfl ek, hk⟩
    rcases hh with ⟨rfl, q⟩ | ⟨z, zd, rfl, rz, q⟩
    · cases rys with
      | cons ry r0 =>
        cases r0
        cases ry
        refine call_meetsIn PySem.F.slot_dict_get dd.typeIs PySem.F.entry_dict_get (PySem.F.args_dict_get_2 _ _) (meetsH_dict_get (nestedKind X.prog X.w) a b hd) ⟨room9 hu, k, xs, his, dd, ?_⟩
        cases er : valD kvs d with
        | some r =>
          obtain ⟨p, v', e1, rv, ru⟩ := v1 r er
          rw [er] at q
          rw [e1]
          exact ⟨v', H, I.tok _, ru, q v' rv⟩
        | none =>
          rw [er] at q
          rw [v2 er]
          exact ⟨.non, H, I.tok _, rfl, q _ .non⟩
    · cases rys with
      | cons ry r0 =>
        cases r0 with
        | cons rz' r0 =>
          cases r0
          cases ry
          refine call_meetsIn PySem.F.slot_dict_get dd.typeIs PySem.F.entry_dict_get (PySem.F.args_dict_get_3 _ _ _) (meetsH_dict_get_default (nestedKind X.prog X.w) a b hd _) ⟨room9 hu, k, xs, his, dd, ?_⟩
          cases er : valD kvs d with
          | some r =>
            obtain ⟨p, v', e1, rv, ru⟩ := v1 r er
            rw [er] at q
            rw [e1]
            exact ⟨v', H, I.tok _, ru, q v' rv⟩
          | none =>
            rw [er] at q
            rw [v2 er]
            exact ⟨_, H, I.tok _, rz', q _ rz⟩
def gDGet : D → List D → Sto → Out D
  | .ref n, [k], S => match dctAt S n with
    | some kvs => if clsOk kvs k = true then .ok ((valD kvs k).getD .non) S else .err
    | none => .err
  | .ref n, [k, z], S => match dctAt S n with
    | some kvs => if clsOk kvs k = true then .ok ((valD kvs k).getD z) S else .err
    | none => .err
  | _, _, _ => .err
theorem gm_dget {K : PySem.W.Frag} {w : World} : GMt K w (rDGetM K w) gDGet := by
  intro W ads σ S H x v xs us Q rs rx rxs fin
  unfold gDGet at fin
  split at fin
  · rename_i n k
    split at fin
    · rename_i kvs e
      split at fin
      · rename_i co
        cases rx with
        | ref ha =>
          cases rxs with
          | cons r r0 =>
            cases r0
            exact ⟨ads, S, kvs, k, _, ⟨n, _, rfl, rs, ha, e, r, co⟩, .inl ⟨rfl, fun v rv => fin ads _ H Le.refl rs rv⟩⟩
      · exact fin.elim
    · exact fin.elim
  · rename_i n k z
    split at fin
    · rename_i kvs e
      split at fin
      · rename_i co
        cases rx with
        | ref ha =>
          cases rxs with
          | cons r r0 =>
            cases r0 with
            | cons rz r0 =>
              cases r0
              exact ⟨ads, S, kvs, k, _, ⟨n, _, rfl, rs, ha, e, r, co⟩, .inr ⟨_, z, rfl, rz, fun v rv => fin ads _ H Le.refl rs rv⟩⟩
      · exact fin.elim
    · exact fin.elim
  · exact fin.elim
/-- d.pop(k), there -/
def rDPopM (K : PySem.W.Frag) (w : World) : V → List V → Hp → VK → Prop := fun x ys H Q => ∃ ads S n a kvs d y r, x = .ref a ∧ RS K w ads S H ∧ ads[n]? = some a ∧ dctW S n = some kvs ∧ RV K ads H d y ∧ clsOk kvs d = true ∧ ys = [y] ∧ valD kvs d = some r ∧
  ∀ v H', RV K ads H r v → Le K ads ads H H' → RS K w ads (S.set n (.dct (delD kvs d))) H' → Q v H'
theorem mt_dpop (hu : X.A.units + 65 < cLine) : MtR X "dict.pop" (rDPopM X.K X.w) := by
  intro pins s σ H x ys v us Q I rx rys h
  obtain ⟨ads, S, n, a, kvs, d, y, r, rfl, rs, ha, e, rd, co, rfl, er, q⟩ := h
  cases rx
  cases rys with
  | @cons _ uk _ _ ry r0 =>
    cases r0
    obtain ⟨rows, q1, q2, q3⟩ := rs.sto n _ a (dctW_eq e) ha
    have hl' : kvs.length ≤ sizeLine → (delD kvs d).length ≤ sizeLine := fun z => Nat.le_trans (delD_len kvs d) z
    rcases clsOk_of co with ⟨c1, c2⟩ | ⟨c1, c2⟩
    · obtain ⟨z, hd, lib, t, dd⟩ := dct_leaf I (.inl q1) q2 q3 c2
      obtain ⟨k, ek⟩ := kcls_leaf c1
      obtain ⟨u', v', e1, rv, ru⟩ := (val_leaf t ek).1 r er
      have his := lk_is (X := X) (P := X.prog) rd ry ek
      have hp : (keyPart uk).isSome = true := by
        rcases keyIs_shape (show keyIs k uk = true from his) with ⟨i, tk, _, z⟩ | ⟨x, tk, _, z⟩ <;> rw [z] <;> rfl
      refine call_meetsIn PySem.F.slot_dict_pop dd.typeIs PySem.F.entry_dict_pop (PySem.F.args_dict_pop_2 _ _) (meets_dict_pop_there (mixKind X.prog X.w) a his [] (.inl rfl) hp) ⟨lib, u', dd, by rw [← Paired.length t]; exact z, e1, fun h' dd' hs => ?_⟩
      obtain ⟨rows', p1, p2⟩ := dw_leaf (t' := s.toks + 1) I q1 (hl' z) hd (del_leaf t ek) dd' hs
      obtain ⟨le, rs'⟩ := rs.putD ha q1 p1 (delD_nodup q3)
      exact ⟨v', _, p2, ru, q v' _ rv le rs'⟩
    · obtain ⟨z, hd, xs, t, dd⟩ := dct_nest I (.inl q1) q2 q3 c2
      obtain ⟨b, k, rfl, ek, hk⟩ := nest_ref c1 rd
      obtain ⟨p, v', e1, rv, ru⟩ := (val_nest t ek).1 r er
      cases ry
      refine call_pop_heap (hsz := by rw [← Paired.length t]; exact z) (.inl rfl) (PySem.F.args_dict_pop_2 _ _) (room9 hu) ⟨nk_is I _ _ _ _ rd rfl ek, hk⟩ hd dd e1 fun h' dd' hs => ?_
      obtain ⟨rows', p1, p2⟩ := dw_nest (t' := s.toks + k.draws) I q1 (hl' z) hd (del_nest t ek) dd' hs
      obtain ⟨le, rs'⟩ := rs.putD ha q1 p1 (delD_nodup q3)
      exact ⟨v', _, p2, ru, q v' _ rv le rs'⟩
def gDPop : D → List D → Sto → Out D
  | .ref n, [k], S => match dctW S n with
    | some kvs => if clsOk kvs k = true then (match valD kvs k with
      | some r => .ok r (S.set n (.dct (delD kvs k)))
      | none => .err) else .err
    | none => .err
  | _, _, _ => .err
theorem gm_dpop {K : PySem.W.Frag} {w : World} : GMt K w (rDPopM K w) gDPop := by
  intro W ads σ S H x v xs us Q rs rx rxs fin
  unfold gDPop at fin
  split at fin
  · rename_i n k
    split at fin
    · rename_i kvs e
      split at fin
      · rename_i co
        split at fin
        · rename_i r er
          cases rx with
          | ref ha =>
            cases rxs with
            | cons ry r0 =>
              cases r0
              exact ⟨ads, S, n, _, kvs, k, _, r, rfl, rs, ha, e, ry, co, rfl, er, fun v H' rv le rs' => fin ads _ H' le rs' (rv.mono le)⟩
        · exact fin.elim
      · exact fin.elim
    · exact fin.elim
  · exact fin.elim
/-! ### len(d), list(d) -/
theorem len_body_raw {prog : Program} {w : World} {A : Around} {E : Value → Shared → Prop} {s : Shared} {d : Addr} {es : Array DictEntry} {ep : Nat} {Q : Value → Shared → Prop} (hd : (d == sysModules) = false) (hm : s.heap.DictRaw d es ep) (hfit : (es.size : Int) < 2 ^ 63)
    (h : Q (.int es.size (s.toks + 1)) { s with toks := s.toks + 1 + 1 }) : wpAny (model prog w) A (Builtin.«len» ⟨[.ref d], []⟩) (fun fin s' => ∃ r, fin = .done (.ret r) ∧ Q r s') E s := by
  unfold Builtin.«len»
  refine wpAny_bind (m := oneArg "len" _) (wpAny_pure ?_)
  refine wpAny_bind (m := callSpecial? (.ref d) (Str.ofString "__len__")) (wpAny_callSpecial?_slot (name := Str.ofString "__len__") hm.typeIs F.slot_dict_len
    (call_meetsIn F.slot_dict_len hm.typeIs F.entry_dict_len (F.args_dict_len_1 _) (meets_dict_len_raw d hd) ⟨es, ep, hm, ?_⟩))
  show wpAny _ _ _ _ _ { s with toks := s.toks + 1 }
  refine wpAny_bind (wpAny_holding (wpAny_pure ?_))
  refine wpAny_bind (wpAny_letGo ?_)
  rw [if_neg (show ¬ ((es.size : Nat) : Int) < 0 by omega)]
  rw [if_neg (show ¬ ((es.size : Nat) : Int) ≥ 2 ^ 63 by omega)]
  exact wpAny_bind (wpAny_mkInt (wpAny_pure ⟨_, rfl, h⟩))
def rDLen (K : PySem.W.Frag) (w : World) : List V → Hp → VK → Prop := fun xs H Q => ∃ ads S n a kvs, xs = [.ref a] ∧ RS K w ads S H ∧ ads[n]? = some a ∧ dctAt S n = some kvs ∧ Q (.int (kvs.length : Nat)) H
theorem call_dlen : CallR X (.builtin "len") (rDLen X.K X.w) := by
  intro pins s σ H xs us Q I r h
  obtain ⟨ads, S, n, a, kvs, rfl, rs, ha, e, q⟩ := h
  cases r with
  | cons rx r0 =>
    cases r0
    cases rx
    obtain ⟨rows, q1, q2, q3⟩ := rd_at rs e ha
    obtain ⟨z, hd, o, es, ep, h1, h2, h3, h4⟩ := dct_at I q1 q2
    have hl : es.size = kvs.length := by
      rw [q2.length, Paired.length h4, Array.length_toList]
    refine Calls.call_function_entry kind_len plain_len entry_len (args_len1 _) (len_body_raw hd ⟨o, h1, h2, h3⟩ (by rw [hl]; rw [sizeLine_eq] at z; omega) ?_)
    rw [hl]
    exact ⟨.int _, H, I.tok _, ⟨_, rfl⟩, q⟩
theorem RKs.keys {K : PySem.W.Frag} {w : World} {ads : List Addr} {H : Hp} : ∀ {kvs : List (D × D)} {rows : List Row}, RKs K w ads H kvs rows → RVs K ads H (kvs.map (·.1)) (rows.map (·.2.1))
  | _, _, .nil => .nil
  | _, _, .cons _ rk _ t => .cons rk (RKs.keys t)
def rDList (K : PySem.W.Frag) (w : World) : List V → Hp → VK → Prop := fun xs H Q => ∃ ads S n a kvs, xs = [.ref a] ∧ RS K w ads S H ∧ ads[n]? = some a ∧ dctAt S n = some kvs ∧ ∀ vs p, RVs K ads H (kvs.map (·.1)) vs → H p = none → Q (.ref p) (upd H p (.lst vs))
theorem call_dlist (hc : X.calm = true) : CallR X (.type "list") (rDList X.K X.w) := by
  intro pins s σ H xs us Q I r h
  obtain ⟨ads, S, n, a, kvs, rfl, rs, ha, e, q⟩ := h
  cases r with
  | cons rx r0 =>
    cases r0
    cases rx
    obtain ⟨rows, q1, q2, q3⟩ := rd_at rs e ha
    obtain ⟨z, hd, o, es, ep, h1, h2, h3, h4⟩ := dct_at I q1 q2
    have hl : es.size = kvs.length := by
      rw [q2.length, Paired.length h4, Array.length_toList]
    refine PySem.W.kdl_call (kdl_raw hd h2 h3) (I.ok.hd hc) h1 (by omega) fun h' tk acc' c' kp e it => ?_
    have rv : Vals (rows.map (·.2.1)) acc'.toList := by
      have hl2 : acc'.toList.length = rows.length := by rw [Array.length_toList, it.1, hl, q2.length]
      have key : ∀ (j : Nat) (v : Value), acc'.toList[j]? = some v → ∃ r, rows[j]? = some r ∧ RelV r.2.1 v := by
        intro j v hj
        obtain ⟨en, hen, hv⟩ := it.2 j v (by rw [← Array.getElem?_toList]; exact hj)
        have hen' : es.toList[j]? = some en := by rw [Array.getElem?_toList]; exact hen
        have : ∀ {rows : List Row} {es : List DictEntry} {j : Nat} {en : DictEntry}, Paired Erw rows es → es[j]? = some en → ∃ r, rows[j]? = some r ∧ Erw r en := by
          intro rows es j en p
          induction p generalizing j with
          | nil => intro h; simp at h
          | cons h t ih =>
            intro hj
            cases j with
            | zero => simp only [List.getElem?_cons_zero, Option.some.injEq] at hj; subst hj; exact ⟨_, rfl, h⟩
            | succ j => simp only [List.getElem?_cons_succ] at hj; obtain ⟨r, r1, r2⟩ := ih hj; exact ⟨r, by simpa using r1, r2⟩
        obtain ⟨r, r1, r2⟩ := this h4 hen'
        exact ⟨r, r1, by rw [hv]; exact r2.2.1⟩
      clear it e
      generalize acc'.toList = ys at hl2 key
      clear h4 q2 q3 q1 q
      induction rows generalizing ys with
      | nil =>
        cases ys with
        | nil => exact .nil
        | cons y ys => simp at hl2
      | cons r rows ih =>
        cases ys with
        | nil => simp at hl2
        | cons y ys =>
          obtain ⟨r', e1, e2⟩ := key 0 y rfl
          simp only [List.getElem?_cons_zero, Option.some.injEq] at e1
          subst e1
          refine .cons e2 (ih ys (by simpa using hl2) fun j v hj => ?_)
          obtain ⟨r', e1, e2⟩ := key (j + 1) v (by simpa using hj)
          exact ⟨r', by simpa using e1, e2⟩
    have hz : (rows.map fun x => x.2.1).length ≤ sizeLine := by rw [List.length_map, ← q2.length]; exact z
    refine ⟨.ref s.heap.objs.size, _, I.laid (t' := tk) (o := .lst (rows.map fun x => x.2.1)) kp (Nat.le_refl _) ?_, rfl, q _ _ (RKs.keys q2) (I.hok.fresh (Nat.le_refl _))⟩
    exact ⟨hz, acc'.toList, c', rv, by rw [Array.toArray_toList]; exact e⟩
def gLenA : List D → Sto → Out D := fun xs S => match xs with
  | [.ref n] => match dctAt S n with
    | some kvs => .ok (.int kvs.length) S
    | none => gLen xs S
  | _ => gLen xs S
theorem gc_lenA : GCall X.K X.w (fun xs H Q => (∃ x n, xs = [x] ∧ LenV X.K x H n ∧ Q (.int n) H) ∨ rDLen X.K X.w xs H Q) gLenA := by
  intro W ads σ S H xs us Q rs rx fin
  unfold gLenA at fin
  split at fin
  · split at fin
    · rename_i kvs e
      cases rx with
      | cons r r0 =>
        cases r0
        cases r with
        | ref ha => exact .inr ⟨ads, S, _, _, kvs, rfl, rs, ha, e, fin ads _ H Le.refl rs (.int _)⟩
    · exact .inl (gc_len W ads σ S H _ us Q rs rx fin)
  · exact .inl (gc_len W ads σ S H _ us Q rs rx fin)
def gListA : List D → Sto → Out D := fun xs S => match xs with
  | [.ref n] => match dctAt S n with
    | some kvs => .ok (.ref S.length) (S ++ [.lst (kvs.map (·.1))])
    | none => gList xs S
  | _ => gList xs S
theorem gc_listA {K : PySem.W.Frag} {w : World} : GCall K w (fun xs H Q => (∃ p ys, xs = [.ref p] ∧ (SqL K H p ys ∨ SqT K H p ys) ∧ ∀ l, H l = none → Q (.ref l) (upd H l (.lst ys))) ∨ rDList K w xs H Q) gListA := by
  intro W ads σ S H xs us Q rs rx fin
  unfold gListA at fin
  split at fin
  · split at fin
    · rename_i kvs e
      cases rx with
      | cons r r0 =>
        cases r0
        cases r with
        | ref ha => exact .inr ⟨ads, S, _, _, kvs, rfl, rs, ha, e, fun vs p rv hp => fin_lst rs rv fin p hp⟩
    · exact .inl (gc_list W ads σ S H _ us Q rs rx fin)
  · exact .inl (gc_list W ads σ S H _ us Q rs rx fin)
/-! ### {} -/
def sDNew : SE := fun _ S => .ok (.ref S.length) (S ++ [.dct []])
theorem dct_empty {P : Program} {w : World} {H : Hp} (h : Heap) (hb : sysModules < h.objs.size) : ObjOk P w H (h.push { cls := .type "dict", data := .dict #[] }) h.objs.size (dctO h.objs.size []) :=
  dctO_ok (Nat.zero_le _) (beq_eq_false_iff_ne.mpr (Ne.symm (Nat.ne_of_lt hb))) (Heap.get?_push_size _ rfl) ⟨rfl, rfl, rfl⟩ rfl .nil
def tDNewX : TE := fun _ H Q => ∀ p, H p = none → Q (.ref p) (upd H p (dctO p []))
theorem pe_dnewX {pos : Pos} : PE X (.Dict [] [] pos) tDNewX := ⟨fun pins s σ H Q I h =>
  wpAny_Dict_empty ⟨.ref s.heap.objs.size, _, I.laid (a := s.heap.objs.size) (o := dctO s.heap.objs.size []) (t' := s.toks) (fun _ _ q => Heap.get?_push_of_some _ q) (Nat.le_refl _) (dct_empty s.heap I.big), rfl, h _ (I.hok.fresh (Nat.le_refl _))⟩⟩
theorem fin_dnew {K : PySem.W.Frag} {w : World} {ads : List Addr} {S : Sto} {H : Hp} (rs : RS K w ads S H) {p : Addr} (hp : H p = none) : RS K w (ads ++ [p]) (S ++ [.dct []]) (upd H p (dctO p [])) :=
  rs.new hp ⟨[], upd_same, .nil, List.nodup_nil⟩
theorem se_dnew {pos : Pos} : PE X (.Dict [] [] pos) (tS X.K X.w W sDNew) := PE.imp pe_dnewX fun σ H Q ⟨ads, ρ, S, rs, re, fin⟩ p hp =>
  fin (ads ++ [p]) _ _ (le_new [p] hp) (fin_dnew rs hp) (.ref (ads_get rs))
end
end SX
end
section
set_option linter.all false
set_option maxRecDepth 100000
set_option maxHeartbeats 1000000
/-! St8: sorted, min, max, isinstance, slices. -/
namespace SX
open PySem PySem.Spec PyProof.Rows L2 PySem.W

/-! ### sorted -/
section
variable {prog : Program} {w : World} {A : Around} {E : Value → Shared → Prop} {s : Shared} {κ : PyProof.Rows.KeyKind}
/-- sorted(x), whatever gathers x's items -/
theorem sorted_gather {x : Value} {G : List Value → Shared → Prop} {Q : Value → Shared → Prop} (hcol : ∀ (E' : Value → Shared → Prop) (Q' : List Value → Shared → Prop), (∀ vs s1, G vs s1 → Q' vs s1) → wpAny (model prog w) A.in1 (collect x) Q' E' s)
    (hgo : ∀ vs s1, G vs s1 → vs.length ≤ sizeLine ∧ ∃ κ, SortsAt prog w A.in1.in1 { s1 with heap := sortingHeap (s1.heap.push (seqObj "list" vs.toArray 0)) s1.heap.objs.size vs } κ vs ∧
      Q (.ref s1.heap.objs.size) { s1 with heap := sortedHeap (s1.heap.push (seqObj "list" vs.toArray 0)) s1.heap.objs.size vs (sortVals κ false vs vs).toArray }) :
    wpAny (model prog w) A (call (.builtin "sorted") [x]) Q E s := by
  refine Calls.call_function_entry kind_sorted plain_sorted entry_sorted (args_sorted1 _) ?_
  unfold Builtin.«sorted»
  refine wpAny_bind (m := checkCount "sorted" 1 1 _) (wpAny_pure ?_)
  refine wpAny_bind (hcol _ _ fun vs s1 g => ?_)
  obtain ⟨hz, κ, S, q⟩ := hgo vs s1 g
  refine wpAny_bind (wpAny_newList ?_ hz)
  have at1 : (s1.heap.push (seqObj "list" vs.toArray 0)).get? s1.heap.objs.size = some (seqObj "list" vs.toArray 0) := Heap.get?_push_size _ rfl
  refine wpAny_bind (wpAny_holding (wpAny_call_entry (s := { s1 with heap := s1.heap.push (seqObj "list" vs.toArray 0) }) slot_list_sort ⟨_, at1, rfl⟩ entry_list_sort ?_ (args_list_sort _)))
  exact list_sort_vals (A := A.in1.in1) (s := { s1 with heap := s1.heap.push (seqObj "list" vs.toArray 0) }) at1 S hz ⟨_, rfl, wpAny_pure ⟨_, rfl, q⟩⟩
def gatherHeap (h : Heap) (vs : List Value) : Heap := (h.push (seqObj "list" #[] 0)).update h.objs.size (Obj.mapSeq (· ++ vs.toArray))
theorem gatherHeap_size (h : Heap) (vs : List Value) : (gatherHeap h vs).objs.size = h.objs.size + 1 := by
  unfold gatherHeap
  rw [Heap.size_update, size_push']
theorem gatherHeap_old {h : Heap} {vs : List Value} {b : Addr} {o : Obj} (e : h.get? b = some o) : (gatherHeap h vs).get? b = some o := by
  unfold gatherHeap
  rw [Heap.get?_update_ne _ _ _ _ (Nat.ne_of_lt (Heap.lt_size e))]
  exact Heap.get?_push_of_some _ e
/-- the items of a tuple, gathered -/
theorem gather_tup {l : Addr} {vs : List Value} {Q : List Value → Shared → Prop} (hl : IsTup s.heap l vs.toArray) (hsz : vs.length ≤ sizeLine) (h : Q vs { s with heap := gatherHeap s.heap vs }) : wpAny (model prog w) A (collect (.ref l)) Q E s := by
  obtain ⟨o, ho, hc, n, hd⟩ := id hl
  unfold collect
  refine wpAny_bind (wpAny_runValue (codeAny_builtin entry_proto_collect' ?_))
  show wpAny _ _ (newList [] >>= fun r => again (.builtin "list.__iadd__" ⟨[r, .ref l], []⟩)) _ _ s
  refine wpAny_bind (wpAny_newList (wpAny_pure ⟨Code.quiet_builtin _ (by decide +kernel), codeAny_builtin entry_list_iadd' ?_⟩))
  show wpAny _ _ (Builtin.List.listExtendWith (.ref s.heap.objs.size) (.ref l) (.ref s.heap.objs.size)) _ _ { s with heap := s.heap.push (seqObj "list" #[] 0) }
  unfold Builtin.List.listExtendWith
  have there : (s.heap.push (seqObj "list" #[] 0)).get? l = some o := Heap.get?_push_of_some _ ho
  refine wpAny_bind (wpAny_typeOf (T := "tuple") ⟨o, there, hc⟩ ?_)
  have isT : (Value.type "tuple" == Value.type "tuple") = true := by rfl
  rw [if_pos (by rw [isT, Bool.or_true])]
  refine wpAny_bind (listItems_at there hd ?_)
  have mine : (s.heap.push (seqObj "list" #[] 0)).get? s.heap.objs.size = some (seqObj "list" #[] 0) := Heap.get?_push_size _ rfl
  refine wpAny_bind (listItems_at (xs := #[]) (n := 0) mine rfl ?_)
  rw [if_neg (by simp)]
  refine wpAny_bind (listUpdate_at (xs := #[]) (n := 0) mine rfl ?_ (Nat.zero_le _) (by simp only [Array.size_append, List.size_toArray, List.length_nil]; omega))
  refine wpAny_pure ?_
  show wpAny (model prog w) A (load s.heap.objs.size >>= fun q => match q.data with
      | .seq xs _ => pure xs.toList
      | _ => unsupported "internal:collect") Q E { s with heap := gatherHeap s.heap vs }
  refine wpAny_bind (wpAny_load (get?_update_seq mine _) ?_)
  show wpAny _ _ (pure ((#[] : Array Value) ++ vs.toArray).toList) Q E _
  have e : ((#[] : Array Value) ++ vs.toArray).toList = vs := by simp
  rw [e]
  exact wpAny_pure h
end
/-- a value as data -/
def encD (S : Sto) (d : D) : PyData := (toPy S 4 d).getD .none
def isTupNE : PyData → Bool
  | .tuple (_ :: _) => true
  | _ => false
def isTN : PyData → Bool
  | .tuple _ => true
  | .none => true
  | _ => false
def sortOk (S : Sto) (ds : List D) : Bool :=
  (ds.all fun d => (toPy S 4 d).isSome && decide ((encD S d).depth ≤ 32)) && (ds.all fun d => ds.all fun e => alike (encD S d) (encD S e)) && ((ds.all fun d => isTupNE (encD S d)) || (ds.all fun d => !isTN (encD S d)))
def srtD (S : Sto) (ds : List D) : List D := ds.mergeSort (dataLe false (encD S))
theorem sortOk_of {S : Sto} {ds : List D} (h : sortOk S ds = true) : (∀ d ∈ ds, toPy S 4 d = some (encD S d) ∧ (encD S d).depth ≤ 32) ∧ AllAlike (ds.map (encD S)) ∧ Sortable (ds.map (encD S)) := by
  unfold sortOk at h
  rw [Bool.and_eq_true, Bool.and_eq_true] at h
  obtain ⟨⟨h1, h2⟩, h3⟩ := h
  rw [List.all_eq_true] at h1 h2
  refine ⟨fun d hd => ?_, ?_, ?_⟩
  · have := h1 d hd
    rw [Bool.and_eq_true] at this
    obtain ⟨p, hp⟩ := Option.isSome_iff_exists.mp this.1
    refine ⟨?_, of_decide_eq_true this.2⟩
    unfold encD
    rw [hp]; rfl
  · intro x hx y hy
    obtain ⟨d, hd, rfl⟩ := List.mem_map.mp hx
    obtain ⟨e, he, rfl⟩ := List.mem_map.mp hy
    have := h2 d hd
    rw [List.all_eq_true] at this
    exact this e he
  · rw [Bool.or_eq_true] at h3
    rcases h3 with h3 | h3
    · refine .inl fun x hx => ?_
      obtain ⟨d, hd, rfl⟩ := List.mem_map.mp hx
      have := List.all_eq_true.mp h3 d hd
      cases e : encD S d with
      | tuple xs =>
        rw [e] at this
        cases xs with
        | nil => simp [isTupNE] at this
        | cons a r => exact ⟨a, r, rfl⟩
      | _ => rw [e] at this; simp [isTupNE] at this
    · refine .inr fun x hx => ?_
      obtain ⟨d, hd, rfl⟩ := List.mem_map.mp hx
      have := List.all_eq_true.mp h3 d hd
      refine ⟨fun e => ?_, fun xs e => ?_⟩ <;> rw [e] at this <;> simp [isTN] at this
section
variable {X : Cx} {pins : List (Addr × Obj)} {σ : L2.St} {H : Hp} {s : Shared} {ads : List Addr} {S : Sto}
/-- a value of the model stands for a datum -/
abbrev Rd1 (K : PySem.W.Frag) (ads : List Addr) (H : Hp) : Value → D → Prop := fun v d => ∃ x, RV K ads H d x ∧ RelV x v
theorem each_of {K : PySem.W.Frag} : ∀ {ds : List D} {xs : List V} {us : List Value}, RVs K ads H ds xs → Vals xs us → EachIs (Rd1 K ads H) us ds
  | _, _, _, .nil, .nil => .nil
  | _, _, _, .cons r rs, .cons q qs => .cons ⟨_, r, q⟩ (each_of rs qs)
theorem of_each {K : PySem.W.Frag} : ∀ {ds : List D} {us : List Value}, EachIs (Rd1 K ads H) us ds → ∃ xs, RVs K ads H ds xs ∧ Vals xs us
  | _, _, .nil => ⟨[], .nil, .nil⟩
  | _, _, .cons ⟨x, r, q⟩ t => by
    obtain ⟨xs, h1, h2⟩ := of_each t
    exact ⟨x :: xs, .cons r h1, .cons q h2⟩
theorem each_reads (I : Inv X pins σ H s) (rs : RS X.K X.w ads S H) : ∀ {ds : List D} {us : List Value}, EachIs (Rd1 X.K ads H) us ds → (∀ d ∈ ds, toPy S 4 d = some (encD S d)) → EachIs (fun v d => ∃ as, Reads s.heap v (encD S d) as) us ds
  | _, _, .nil, _ => .nil
  | _, _, .cons ⟨x, r, q⟩ t, h => .cons (Dp.reads I _ x _ (toPy_dp rs 4 r (h _ List.mem_cons_self)) q) (each_reads I rs t fun d hd => h d (List.mem_cons_of_mem _ hd))
def rSrt (K : PySem.W.Frag) (w : World) : List V → Hp → VK → Prop := fun us H Q => ∃ ads S x ds u, us = [u] ∧ RS K w ads S H ∧ RV K ads H x u ∧ itemsD S x = some ds ∧ sortOk S ds = true ∧ ∀ xs p, RVs K ads H (srtD S ds) xs → H p = none → Q (.ref p) (upd H p (.lst xs))
/-- the items of a list or tuple in the heap -/
theorem items_at (rs : RS X.K X.w ads S H) {x : D} {u : V} {ds : List D} (r : RV X.K ads H x u) (e : itemsD S x = some ds) : ∃ a xs, u = .ref a ∧ RVs X.K ads H ds xs ∧ (SqL X.K H a xs ∨ SqT X.K H a xs) := by
  cases r with
  | tup hs r => cases e; exact ⟨_, _, rfl, r, .inr hs⟩
  | rl hs => cases e; exact ⟨_, _, rfl, RVs.of_ints _, .inl hs.sq⟩
  | @ref n a ha =>
    simp only [itemsD] at e
    split at e
    · rename_i xs h1
      cases e
      obtain ⟨vs, q1, q2⟩ := rs.sto n _ a h1 ha
      exact ⟨_, _, rfl, q2, .inl (SqL.of q1)⟩
    · cases e
  | _ => cases e
theorem call_srt (hu : X.A.units + 65 < cLine) : CallR X (.builtin "sorted") (rSrt X.K X.w) := by
  intro pins s σ H us ws Q I r h
  obtain ⟨ads, S, x, ds, u, rfl, rs, rx, ei, so, q⟩ := h
  obtain ⟨a, xs, rfl, rv, hq⟩ := items_at rs rx ei
  rw [Vals.ref1 r]
  obtain ⟨k1, k2, k3⟩ := sortOk_of so
  have core : ∀ its : List Value, Vals xs its → xs.length ≤ sizeLine → (∀ (E' : Value → Shared → Prop) (Q' : List Value → Shared → Prop), Q' its { s with heap := gatherHeap s.heap its } → wpAny (model X.prog X.w) X.A.in1 (collect (.ref a)) Q' E' s) →
      wpAny (model X.prog X.w) X.A (call (.builtin "sorted") [.ref a]) (EP X pins σ Q) X.xe s := by
    intro its rvs hz hcol
    have hl : its.length ≤ sizeLine := by rw [← rvs.length]; exact hz
    refine sorted_gather (G := fun vs s1 => vs = its ∧ s1 = { s with heap := gatherHeap s.heap its }) (fun E' Q' h' => hcol E' Q' (h' _ _ ⟨rfl, rfl⟩)) ?_
    rintro vs s1 ⟨rfl, rfl⟩
    refine ⟨hl, dataKind (sortingHeap ((gatherHeap s.heap vs).push (seqObj "list" vs.toArray 0)) (gatherHeap s.heap vs).objs.size vs) (ds.map (encD S)), ?_, ?_⟩
    · have keep : ∀ b o, s.heap.get? b = some o → (sortingHeap ((gatherHeap s.heap vs).push (seqObj "list" vs.toArray 0)) (gatherHeap s.heap vs).objs.size vs).get? b = some o := fun b o e => by
        have e1 := gatherHeap_old (vs := vs) e
        exact sortingHeap_old (Nat.ne_of_lt (Heap.lt_size e1)) (Heap.get?_push_of_some _ e1)
      have er : EachIs (fun v d => ∃ as, Reads (sortingHeap ((gatherHeap s.heap vs).push (seqObj "list" vs.toArray 0)) (gatherHeap s.heap vs).objs.size vs) v (encD S d) as) vs ds :=
        (each_reads I rs (each_of rv rvs) fun d hd => (k1 d hd).1).mono fun _ _ z => let ⟨as, r⟩ := z; ⟨as, PyProof.Rows.Reads.keeps keep r⟩
      exact SortsAt.data (each_map (R := fun v d => ∃ as, Reads (sortingHeap ((gatherHeap s.heap vs).push (seqObj "list" vs.toArray 0)) (gatherHeap s.heap vs).objs.size vs) v d as) (encD S) er) k2 k3 fun d hd => by
        obtain ⟨b, hb, rfl⟩ := List.mem_map.mp hd
        have := (k1 b hb).2
        show X.A.units + 1 + 1 + _ < _
        omega
    · have keep : ∀ b o, s.heap.get? b = some o → (sortingHeap ((gatherHeap s.heap vs).push (seqObj "list" vs.toArray 0)) (gatherHeap s.heap vs).objs.size vs).get? b = some o := fun b o e => by
        have e1 := gatherHeap_old (vs := vs) e
        exact sortingHeap_old (Nat.ne_of_lt (Heap.lt_size e1)) (Heap.get?_push_of_some _ e1)
      have er : EachIs (fun v d => ∃ as, Reads (sortingHeap ((gatherHeap s.heap vs).push (seqObj "list" vs.toArray 0)) (gatherHeap s.heap vs).objs.size vs) v (encD S d) as) vs ds :=
        (each_reads I rs (each_of rv rvs) fun d hd => (k1 d hd).1).mono fun _ _ z => let ⟨as, r⟩ := z; ⟨as, PyProof.Rows.Reads.keeps keep r⟩
      have out := sortVals_data (rev := false) (each_of rv rvs) er k2
      obtain ⟨ys, o1, o2⟩ := of_each out
      have at1 : ((gatherHeap s.heap vs).push (seqObj "list" vs.toArray 0)).get? (gatherHeap s.heap vs).objs.size = some (seqObj "list" vs.toArray 0) := Heap.get?_push_size _ rfl
      obtain ⟨c, hc⟩ := sortedHeap_at (vs := vs) (out := (sortVals (dataKind (sortingHeap ((gatherHeap s.heap vs).push (seqObj "list" vs.toArray 0)) (gatherHeap s.heap vs).objs.size vs) (ds.map (encD S))) false vs vs).toArray) at1
      have hlo : ys.length ≤ sizeLine := by
        rw [o2.length, sortVals_length false rfl]; exact hl
      refine ⟨.ref _, upd H (gatherHeap s.heap vs).objs.size (.lst ys), I.laid (t' := s.toks) (fun b o e => ?_) (by rw [gatherHeap_size]; exact Nat.le_succ _) ⟨hlo, _, c, o2, hc⟩, rfl, q ys _ o1 (I.hok.fresh (by rw [gatherHeap_size]; exact Nat.le_succ _))⟩
      have e1 := gatherHeap_old (vs := vs) e
      have lt := Heap.lt_size e1
      rw [sortedHeap_old (Nat.ne_of_lt lt) (by rw [size_push']; exact Nat.lt_succ_of_lt lt)]
      exact Heap.get?_push_of_some _ e1
  rcases hq with hq | hq
  · obtain ⟨its, rvs, pl, hz⟩ := I.list hq
    exact core its rvs hz fun E' Q' h' => collect_list pl.isList h' (by rw [← rvs.length]; exact hz)
  · obtain ⟨its, rvs, tp, hz⟩ := I.tuple hq
    exact core its rvs hz fun E' Q' h' => gather_tup tp (by rw [← rvs.length]; exact hz) h'
def gSorted : List D → Sto → Out D
  | [x], S => match itemsD S x with
    | some ds => if sortOk S ds = true then .ok (.ref S.length) (S ++ [.lst (srtD S ds)]) else .err
    | none => .err
  | _, _ => .err
theorem gc_sorted {K : PySem.W.Frag} {w : World} : GCall K w (rSrt K w) gSorted := by
  intro W ads σ S H xs us Q rs rx fin
  unfold gSorted at fin
  split at fin
  · split at fin
    · rename_i ds e
      split at fin
      · rename_i so
        cases rx with
        | cons r r0 =>
          cases r0
          exact ⟨ads, S, _, ds, _, rfl, rs, r, e, so, fun ys p ry hp => fin_lst rs ry fin p hp⟩
      · exact fin.elim
    · exact fin.elim
  · exact fin.elim
end

/-! ### sorted(set(xs)): tuples of ints, under 64 -/
/-- the ints of a tuple -/
def tupInts : D → Option (List Int)
  | .tup ds => intsD ds
  | _ => none
def tupIntsAll : List D → Option (List (List Int))
  | [] => some []
  | d :: ds => match tupInts d, tupIntsAll ds with
    | some k, some ks => some (k :: ks)
    | _, _ => none
def tupOf (k : List Int) : D := .tup (k.map .int)
theorem tupInts_eq {d : D} {k : List Int} (h : tupInts d = some k) : d = tupOf k := by
  cases d with
  | tup ds => rw [tupOf, ← intsD_eq h]
  | _ => simp [tupInts] at h
theorem tupIntsAll_eq : ∀ {ds : List D} {ks : List (List Int)}, tupIntsAll ds = some ks → ds = ks.map tupOf
  | [], ks, h => by simp [tupIntsAll] at h; subst h; rfl
  | d :: ds, ks, h => by
    simp only [tupIntsAll] at h
    split at h
    · rename_i k ks' e1 e2
      cases h
      rw [List.map_cons, ← tupIntsAll_eq e2, tupInts_eq e1]
    · cases h

/-! ### slices -/
def cutD (xs : List D) (lo hi : Option Int) : List D := (xs.drop (HT.sIx xs.length 0 lo)).take (HT.sIx xs.length xs.length hi - HT.sIx xs.length 0 lo)
theorem RVs.cut {K : PySem.W.Frag} {ads : List Addr} {H : Hp} {ds : List D} {vs : List V} (r : RVs K ads H ds vs) (lo hi : Option Int) : RVs K ads H (cutD ds lo hi) (cutV vs lo hi) := by
  unfold cutD cutV
  rw [r.length]
  exact (r.drop _).take _
def gSl : D → Option Int → Option Int → Sto → Out D
  | .tup ds, lo, hi, S => .ok (.tup (cutD ds lo hi)) S
  | .rl ns, lo, hi, S => .ok (.ref S.length) (S ++ [.lst (cutD (ns.map .int) lo hi)])
  | .ref n, lo, hi, S => match lstAt S n with
    | some xs => .ok (.ref S.length) (S ++ [.lst (cutD xs lo hi)])
    | none => .err
  | _, _, _, _ => .err
/-- a bound of a slice: none, or an int -/
def sPart (f : Option SE) (ρ : Env) (S : Sto) : Out (Option Int) := match f with
  | none => .ok none S
  | some f => (f ρ S).bind fun d S1 => match d with
    | .int i => .ok (some i) S1
    | _ => .err
def sSl (fo : SE) (fl fh : Option SE) : SE := fun ρ S => (fo ρ S).bind fun x S1 => (sPart fl ρ S1).bind fun lo S2 => (sPart fh ρ S2).bind fun hi S3 => gSl x lo hi S3
section
variable {X : Cx} {W : WX} {e : Expr} {lo hi : Option Expr} {fo : SE} {fl fh : Option SE} {pos p2 : Pos}
/-- the reading of a bound -/
def tO (K : PySem.W.Frag) (w : World) (W : WX) (f : Option SE) : TO := fun σ H Q => ∃ ads ρ S, RS K w ads S H ∧ RE K ads ρ σ H ∧ Fn K w W (fun (_ : List Addr) (_ : Hp) (a b : Option Int) => a = b) ads σ H Q (sPart f ρ S)
theorem PO.imp {o : Option Expr} {t t' : TO} (h : PO X o t) (i : ∀ σ H Q, t' σ H Q → t σ H Q) : PO X o t' := ⟨fun pins s σ H Q I q => h.run pins s σ H Q I (i σ H Q q)⟩
theorem so_none : PO X none (tO X.K X.w W none) := PO.imp po_none fun σ H Q ⟨ads, ρ, S, rs, re, fin⟩ => fin ads _ H Le.refl rs rfl
theorem so_some {e : Expr} {f : SE} (h : PE X e (tS X.K X.w W f)) : PO X (some e) (tO X.K X.w W (some f)) :=
  PO.imp (po_some h) fun σ H Q ⟨ads, ρ, S, rs, re, fin⟩ => ⟨ads, ρ, S, rs, re, (Fn.bind fin).mono fun u H1 ⟨x, S1, ads1, le1, rs1, r1, fin1⟩ => by
    cases r1 with
    | int i => exact ⟨i, rfl, fin1 ads1 _ H1 Le.refl rs1 rfl⟩
    | _ => exact fin1.elim⟩
theorem se_slice (he : PE X e (tS X.K X.w W fo)) (hl : PO X lo (tO X.K X.w W fl)) (hh : PO X hi (tO X.K X.w W fh)) : PE X (.Subscript e (.Slice lo hi none p2) pos) (tS X.K X.w W (sSl fo fl fh)) :=
  PE.imp (pe_slice (sl_list.or sl_tupA) he hl hh) fun σ H Q ⟨ads, ρ, S, rs, re, fin⟩ => by
    refine ⟨ads, ρ, S, rs, re, (Fn.bind fin).mono fun u H1 ⟨x, S1, ads1, le1, rs1, r1, fin1⟩ => ?_⟩
    refine ⟨ads1, ρ, S1, rs1, re.mono le1, (Fn.bind fin1).mono fun l H2 ⟨l', S2, ads2, le2, rs2, r2, fin2⟩ => ?_⟩
    subst r2
    refine ⟨ads2, ρ, S2, rs2, (re.mono le1).mono le2, (Fn.bind fin2).mono fun h H3 ⟨h', S3, ads3, le3, rs3, r3, fin3⟩ => ?_⟩
    subst r3
    have rx := (r1.mono le2).mono le3
    cases rx with
    | tup hs r =>
      simp only [gSl] at fin3
      refine .inr ⟨_, _, rfl, hs, fun hw => ?_, fun _ => fin_tup rs3 (r.cut l' h') fin3⟩
      rw [← r.length] at hw
      have ec : ∀ ds : List D, HT.sIx ds.length 0 l' = 0 ∧ HT.sIx ds.length ds.length h' = ds.length → cutD ds l' h' = ds := fun ds hw => by
        unfold cutD
        rw [hw.1, hw.2, List.drop_zero, Nat.sub_zero, List.take_length]
      rw [ec _ hw] at fin3
      exact fin3 ads3 _ H3 Le.refl rs3 (.tup hs r)
    | rl hs =>
      simp only [gSl] at fin3
      exact .inl ⟨_, _, rfl, hs.sq, fin_lst rs3 ((RVs.of_ints _).cut l' h') fin3⟩
    | @ref n a ha =>
      simp only [gSl] at fin3
      split at fin3
      · rename_i xs e
        obtain ⟨vs, q1, q2⟩ := rs3.sto n _ a (lstAt_eq e) ha
        exact .inl ⟨_, _, rfl, SqL.of q1, fin_lst rs3 (q2.cut l' h') fin3⟩
      · exact fin3.elim
    | _ => exact fin3.elim
end

/-! ### isinstance -/
/-- the built-in type of a datum -/
def tyD (S : Sto) : D → Option String
  | .non => some "NoneType"
  | .bl _ => some "bool"
  | .int _ => some "int"
  | .str _ => some "str"
  | .tup _ => some "tuple"
  | .rl _ => some "list"
  | .ref n => match S[n]? with
    | some (.lst _) => some "list"
    | some (.dct _) => some "dict"
    | some (.frz _) => some "dict"
    | _ => none
  | _ => none
/-- a is a b, of built-in types -/
def isB (a b : String) : Option Bool :=
  if (["NoneType", "bool", "int", "str", "tuple", "list", "dict"].contains a && ["bool", "int", "str", "tuple", "list", "dict"].contains b) = true then some (a == b || (a == "bool" && b == "int")) else none
theorem isB_kit {a b : String} {r : Bool} (h : isB a b = some r) : kitB a b = some r := by
  unfold isB at h
  split at h
  · rename_i c
    rw [Bool.and_eq_true, List.contains_iff_mem, List.contains_iff_mem] at c
    obtain ⟨c1, c2⟩ := c
    have e := Option.some.inj h
    subst e
    simp only [List.mem_cons, List.not_mem_nil, or_false] at c1 c2
    rcases c1 with rfl | rfl | rfl | rfl | rfl | rfl | rfl <;> rcases c2 with rfl | rfl | rfl | rfl | rfl | rfl <;> decide +kernel
  · cases h
section
variable {X : Cx} {pins : List (Addr × Obj)} {σ : L2.St} {H : Hp} {s : Shared} {ads : List Addr} {S : Sto}
theorem kit_at (I : Inv X pins σ H s) (rs : RS X.K X.w ads S H) {d : D} {x : V} {u : Value} {T : String} (r : RV X.K ads H d x) (ru : RelV x u) (e : tyD S d = some T) :
    ∃ P : Heap → Prop, PySem.W.KitX X.K u (.type T) P ∧ P s.heap ∧ u ≠ .builtin "__main__.__loader__#opaque" := by
  cases r with
  | non => cases e; cases ru; exact ⟨_, PySem.W.kitx_none, True.intro, fun z => nomatch z⟩
  | bl y => cases e; cases ru; exact ⟨_, PySem.W.kitx_bool, True.intro, fun z => nomatch z⟩
  | int i => cases e; obtain ⟨t, rfl⟩ := ru; exact ⟨_, PySem.W.kitx_int, True.intro, fun z => nomatch z⟩
  | str y => cases e; obtain ⟨t, rfl⟩ := ru; exact ⟨_, PySem.W.kitx_str, True.intro, fun z => nomatch z⟩
  | ty _ => cases e
  | glb _ => cases e
  | rl hs =>
    cases e; cases ru
    obtain ⟨its, _, pl, _⟩ := I.list hs.sq
    obtain ⟨o, _, h1, h2, _⟩ := pl
    exact ⟨_, PySem.W.kitx_list, ⟨o, h1, h2⟩, fun z => nomatch z⟩
  | tup hs _ =>
    cases e; cases ru
    obtain ⟨its, _, ⟨o, h1, h2, _⟩, _⟩ := I.tuple hs
    exact ⟨_, PySem.W.kitx_tuple, ⟨o, h1, h2⟩, fun z => nomatch z⟩
  | @ref n a ha =>
    cases ru
    have isD : ∀ {kvs rows}, Rd H a (dctO a rows) → RKs X.K X.w ads H kvs rows → ∃ P : Heap → Prop, PySem.W.KitX X.K (.ref a) (.type "dict") P ∧ P s.heap ∧ Value.ref a ≠ .builtin "__main__.__loader__#opaque" := fun q1 q2 => by
      obtain ⟨_, _, o, es, ep, h1, h2, _, _⟩ := dct_at I q1 q2
      exact ⟨_, PySem.W.kitx_dict, ⟨o, h1, h2.1⟩, fun z => nomatch z⟩
    simp only [tyD] at e
    split at e
    · rename_i h1
      cases e
      obtain ⟨vs, q1, q2⟩ := rs.sto n _ a h1 ha
      obtain ⟨its, _, pl, _⟩ := I.list (SqL.of q1)
      obtain ⟨o, _, h1, h2, _⟩ := pl
      exact ⟨_, PySem.W.kitx_list, ⟨o, h1, h2⟩, fun z => nomatch z⟩
    · rename_i h1
      cases e
      obtain ⟨rows, q1, q2, _⟩ := rs.sto n _ a h1 ha
      exact isD (.inl q1) q2
    · rename_i h1
      cases e
      obtain ⟨od, rows, q1, q2, _⟩ := rs.sto n _ a h1 ha
      exact isD (.inr ⟨od, q1⟩) q2
    · cases e
def rIsD (K : PySem.W.Frag) (w : World) : List V → Hp → VK → Prop := fun us H Q => ∃ ads S d x T, RS K w ads S H ∧ RV K ads H d x ∧ tyD S d = some T ∧
  ((∃ c b, us = [x, .ty c] ∧ isB T c = some b ∧ Q (.bl b) H) ∨ ∃ tp c1 c2 b1 b2, us = [x, .ref tp] ∧ SqT K H tp [.ty c1, .ty c2] ∧ isB T c1 = some b1 ∧ isB T c2 = some b2 ∧ Q (.bl (b1 || b2)) H)
theorem call_isD : CallR X (.builtin "isinstance") (rIsD X.K X.w) := by
  intro pins s σ H us ws Q I r h
  obtain ⟨ads, S, d, x, T, rs, rd, e, h⟩ := h
  rcases h with ⟨c, b, rfl, eb, q⟩ | ⟨tp, c1, c2, b1, b2, rfl, ht, e1, e2, q⟩
  · obtain ⟨u1, u2, rfl, r1, r2⟩ := vals2 r
    cases (show u2 = Value.type c from r2)
    obtain ⟨P, Z, p, hx⟩ := kit_at I rs rd r1 e
    exact PySem.W.kia_one Z I.kIn p (kit_ty (isB_kit eb)) hx fun tk => ⟨.bl b, H, I.tok tk, rfl, q⟩
  · obtain ⟨u1, u2, rfl, r1, r2⟩ := vals2 r
    cases (show u2 = Value.ref tp from r2)
    obtain ⟨P, Z, p, hx⟩ := kit_at I rs rd r1 e
    obtain ⟨its, rv, ⟨⟨oc, od, dt, sl⟩, h1, h2, n, h3⟩, _⟩ := I.tuple ht
    simp only at h2 h3
    subst h2 h3
    have ei : its = [Value.type c1, Value.type c2] := vals_ty2 rv
    subst ei
    have e3 : PySem.W.kitAny X.K (.type T) [Value.type c1, Value.type c2] = some (b1 || b2) := by
      refine kitAny_cons (kit_ty (isB_kit e1)) (fun z => ?_) fun z => by rw [z]; rfl
      subst z
      rw [Bool.false_or]
      exact kitAny_cons (kit_ty (isB_kit e2)) (fun z => by subst z; exact kitAny_nil) fun z => z
    exact PySem.W.kia_tup Z I.kIn p h1 e3 hx fun tk => ⟨.bl _, H, I.tok tk, rfl, q⟩
/-- isinstance(x, T), isinstance(x, (T, U)) -/
def gIsi : List D → Sto → Out D
  | [d, .ty c], S => match tyD S d with
    | some T => match isB T c with
      | some b => .ok (.bl b) S
      | none => .err
    | none => .err
  | [d, .tup [.ty c1, .ty c2]], S => match tyD S d with
    | some T => match isB T c1, isB T c2 with
      | some b1, some b2 => .ok (.bl (b1 || b2)) S
      | _, _ => .err
    | none => .err
  | _, _ => .err
theorem gc_isi {K : PySem.W.Frag} {w : World} : GCall K w (rIsD K w) gIsi := by
  intro W ads σ S H xs us Q rs rx fin
  unfold gIsi at fin
  split at fin
  · split at fin
    · rename_i T e
      split at fin
      · rename_i b eb
        cases rx with
        | cons r r0 =>
          cases r0 with
          | cons r1 r0 =>
            cases r0
            cases r1
            exact ⟨ads, S, _, _, T, rs, r, e, .inl ⟨_, b, rfl, eb, fin ads _ H Le.refl rs (.bl _)⟩⟩
      · exact fin.elim
    · exact fin.elim
  · split at fin
    · rename_i T e
      split at fin
      · rename_i b1 b2 e1 e2
        cases rx with
        | cons r r0 =>
          cases r0 with
          | cons r1 r0 =>
            cases r0
            cases r1 with
            | tup hs q =>
              cases q with
              | cons q1 q =>
                cases q with
                | cons q2 q =>
                  cases q; cases q1; cases q2
                  exact ⟨ads, S, _, _, T, rs, r, e, .inr ⟨_, _, _, b1, b2, rfl, hs, e1, e2, fin ads _ H Le.refl rs (.bl _)⟩⟩
      · exact fin.elim
    · exact fin.elim
  · exact fin.elim
end
end SX
end
section
set_option linter.all false
set_option maxRecDepth 100000
set_option maxHeartbeats 1000000
/-! St9: comprehensions. -/
namespace SX
open PySem PySem.Spec PyProof.Rows L2

/-! ### one rule for every comprehension with one clause -/
abbrev BodyW := PySem.Env → Addr → Shared → (Shared → Prop) → (Value → Shared → Prop) → Prop
/-- how a comprehension runs: what is done with an item that passes -/
structure CKind (P : Program) (w : World) (A : Around) (c : Expr) (tg iter : Expr) (ifs : List Expr) (bw : BodyW) : Prop where
  cl : clausesOf c = [⟨tg, iter, ifs, 0⟩]
  mono : ∀ {env D s} {Qn Qn' : Shared → Prop} {En : Value → Shared → Prop}, bw env D s Qn (fun _ _ => False) → (∀ s', Qn s' → Qn' s') → bw env D s Qn' En
  loop : ∀ {R : Result → Shared → Prop} {s : Shared} {it : Value} {D : Addr} {env : PySem.Env} (I : Nat → Shared → Prop)
    (turn : ∀ n s, I n s → wpAny (model P w) A (pyNext it) (fun r s1 => match r with
      | none => R (.ok .next) s1
      | some v => wpAny (model P w) A (letOwnedTupleGo tg it v) (fun _ s2 => wpAny (model P w) A (assign tg env v) (fun _ s3 =>
          wpAny (model P w) A (forIn ifs true fun c r => if r = true then do let ok ← isTrue c env (eval c env); pure (ForInStep.yield ok) else pure (ForInStep.yield r)) (fun ok s4 =>
            if ok = true then bw env D s4 (fun s5 => ∃ m, m < n ∧ I m s5) (notedBy (model P w) A env fun e s' => R (.error e) s')
            else ∃ m, m < n ∧ I m s4) (notedBy (model P w) A env fun e s' => R (.error e) s') s3) (notedBy (model P w) A env fun e s' => R (.error e) s') s2) (notedBy (model P w) A env fun e s' => R (.error e) s') s1) (notedBy (model P w) A env fun e s' => R (.error e) s') s)
    (n : Nat) (h : I n s), codeAny (model P w) A (.compLoop c 0 it (.ref D) env) R s
  start : ∀ {R : Result → Shared → Prop} {s : Shared} {it : Value} {D : Addr} {env : PySem.Env}, codeAny (model P w) A (.compLoop c 0 it (.ref D) env) R s →
    wpAny (model P w) A (pyIter it) (fun it' s' => codeAny (model P w) A (.compLoop c 0 it' (.ref D) env) R s') (notedBy (model P w) A env fun x s' => R (.error x) s') s → codeAny (model P w) A (.compStart c 0 it (.ref D) env) R s
abbrev TX := Addr → L2.St → Hp → (Hp → Prop) → Prop
/-- a comprehension: the new object at D, ob D what it is first, ts what an item does -/
def tCm (wi : TI) (g : TG) (tt : TT) (ts : TX) (ob : Addr → HO) (vs : List Nat) : TE := fun σ H Q => wi σ H fun J H1 => ∀ D, H1 D = none → ∃ Wh : Nat → Nat → Hp → Prop, (∃ m, Wh 0 m (upd H1 D (ob D))) ∧ ∀ i m H, Wh i m H →
  (J.stop i H ∧ Q (.ref D) H) ∨ (J.go i H ∧ ∃ Nx : Hp → Prop, (∀ H', Nx H' → ∃ m', m' < m ∧ Wh (i + 1) m' H') ∧ ∀ x H', J.yld i H x H' → g x (wipe σ vs) H' fun σ2 H2 => wipe σ2 vs = wipe σ vs ∧ tt σ2 H2 fun b H3 =>
    if b = true then ts D σ2 H3 Nx else Nx H3)
section
variable {X : Cx} {c tg iter : Expr} {ifs : List Expr} {scope : Scope} {own : List (PySem.Str × Nat)} {bw : BodyW} {wi : TI} {g : TG} {tt : TT} {ts : TX} {ob : Addr → HO} {newAcc : Sem Value} {o0 : Obj} {pos' : Pos}
theorem cm_core {pins : List (Addr × Obj)} {s : Shared} {σ : L2.St} {H : Hp} {Q : VK} {use : Option (Value → Sem Unit)} {Qf : Value → Shared → Prop}
    (ck : CKind X.prog X.w X.A c tg iter ifs bw) (hc : X.calm = true) (hN : X.N.Nodup) (I : Inv X pins σ H s) (hi : PI X tg iter wi) (ok : BlkOk X.N X.env.scope scope own)
    (hnew : ∀ (s : Shared) (E : Value → Shared → Prop) (Q' : Value → Shared → Prop), Q' (.ref s.heap.objs.size) { s with heap := s.heap.push o0 } → wpAny (model X.prog X.w) X.A newAcc Q' E s)
    (hob : ∀ (h : Heap) (H' : Hp), sysModules < h.objs.size → ObjOk X.prog X.w H' (h.push o0) h.objs.size (ob h.objs.size))
    (hg : ∀ (s : Shared) (H : Hp) (C : Addr) (cl : List (PySem.Str × Addr)) (fp : List Addr), PG (X.blk s H scope (compEnvC scope cl C X.env) fp) tg g)
    (ht : ∀ (s : Shared) (H : Hp) (C : Addr) (cl : List (PySem.Str × Addr)) (fp : List Addr), PTs (X.blk s H scope (compEnvC scope cl C X.env) fp) ifs tt)
    (hx : ∀ (s : Shared) (H : Hp) (C : Addr) (cl : List (PySem.Str × Addr)) (fp : List Addr) (pins : List (Addr × Obj)) (s1 : Shared) (σ1 : L2.St) (H1 : Hp) (D : Addr) (Nx : Hp → Prop),
      Inv (X.blk s H scope (compEnvC scope cl C X.env) fp) pins σ1 H1 s1 → ts D σ1 H1 Nx → bw (compEnvC scope cl C X.env) D s1 (fun s' => ∃ H', Inv (X.blk s H scope (compEnvC scope cl C X.env) fp) pins σ1 H' s' ∧ Nx H') fun _ _ => False)
    (hs : ∀ x, foldedSetIterable iter X.env x = pure x) (h : tCm wi g tt ts ob (own.map (·.2)) σ H Q)
    (hend : ∀ D C s' m H', Inv X pins σ H' s' → Q (.ref D) H' → s'.heap.Ns C m → FpOk X pins H' C → compPost (model X.prog X.w) X.A X.xe use Qf (.ref D) C (.ok .next) s') :
    wpAny (model X.prog X.w) X.A (comprehension c scope X.env pos' newAcc false (eval iter X.env) use) Qf X.xe s := by
  have cells : ∀ y ∈ scope.names, y.2 = .free → ∃ q, X.env.cells.lookup y.1 = some q := fun y hy e => (ok.free y hy e).elim (fun k => I.ok.has _ (.inl k)) fun k => I.ok.has _ (.inr k)
  refine wpAny_comprehension_free (use := use) ck.cl hs (closure_ok cells) ok.kind (fun y hy e => by rw [ok.uniq y hy, e]) (thn (hi.run pins s σ H _ I h) fun xv s1 z1 => thn z1 fun itv s2 z2 => ?_)
  obtain ⟨it, fq, tn, J, Hi, eit, Ii, Tn, sti, fqi, q⟩ := z2
  subst eit
  refine hnew _ _ _ (newEnv_comp ?_)
  have fresh : Hi s2.heap.objs.size = none := Ii.hok.fresh (Nat.le_refl _)
  obtain ⟨Wh, ⟨m0, w0⟩, turn⟩ := q _ fresh
  have Ia0 : Inv X pins σ (upd Hi s2.heap.objs.size (ob s2.heap.objs.size)) { s2 with heap := s2.heap.push o0 } :=
    Ii.laid (t' := s2.toks) (fun _ _ e => Heap.get?_push_of_some _ e) (Nat.le_refl _) (hob s2.heap _ Ii.big)
  have old : ∀ b ∈ fq, b < s2.heap.objs.size := fun b hb => let ⟨_, e, _⟩ := Tn.obj _ _ sti b hb; Heap.lt_size e
  generalize hAt : s2.heap.objs.size = P0 at Ia0 w0 turn fresh old
  generalize hHa : upd Hi P0 (ob P0) = Ha at Ia0 w0
  have apart : ∀ b ∈ fq, Ha b = none := fun b hb => by rw [← hHa, upd_ne (Nat.ne_of_lt (old b hb))]; exact (fqi b hb).1
  generalize hsa : ({ s2 with heap := s2.heap.push o0 } : Shared) = sa at Ia0
  have ha : sa.heap = s2.heap.push o0 := by rw [← hsa]
  have foot : ∀ b ∈ fq, FpOk X pins Ha b ∧ b < sa.heap.objs.size := fun b hb =>
    ⟨⟨apart b hb, (fqi b hb).2⟩, by rw [ha, Heap.size_push]; exact Nat.lt_succ_of_lt (by rw [hAt]; exact old b hb)⟩
  have sta : tn 0 sa.heap := Tn.keep _ _ _ sti fun b _ o e => by rw [ha]; exact Heap.get?_push_of_some _ e
  have Ib := block_start Ia0 ok hN foot
  have eg := hg sa Ha sa.heap.objs.size (cellsFrom (sa.heap.objs.size + 1) scope.names (cloFrom X.env.cells scope.names [])) fq
  have et := ht sa Ha sa.heap.objs.size (cellsFrom (sa.heap.objs.size + 1) scope.names (cloFrom X.env.cells scope.names [])) fq
  have ex := hx sa Ha sa.heap.objs.size (cellsFrom (sa.heap.objs.size + 1) scope.names (cloFrom X.env.cells scope.names [])) fq
  have endL : (compEnvC scope (cellsFrom (sa.heap.objs.size + 1) scope.names (cloFrom X.env.cells scope.names [])) sa.heap.objs.size X.env).locals = sa.heap.objs.size := rfl
  show codeAny _ _ (.compStart c 0 (.ref it) (.ref P0) (compEnvC scope (cellsFrom (sa.heap.objs.size + 1) scope.names (cloFrom X.env.cells scope.names [])) sa.heap.objs.size X.env)) (compPost (model X.prog X.w) X.A X.xe use Qf (.ref P0) sa.heap.objs.size) { sa with heap := pushCells (sa.heap.push { cls := .type "dict", data := .dict #[] }) scope.names }
  generalize compEnvC scope (cellsFrom (sa.heap.objs.size + 1) scope.names (cloFrom X.env.cells scope.names [])) sa.heap.objs.size X.env = cv at Ib eg et ex endL ⊢
  generalize hsb : ({ sa with heap := pushCells (sa.heap.push { cls := .type "dict", data := .dict #[] }) scope.names } : Shared) = sb at Ib ⊢
  have stb : tn 0 sb.heap := Tn.keep _ _ _ sta fun b _ o e => by rw [← hsb]; exact pushCells_keeps _ _ _ _ (Heap.get?_push_of_some _ e)
  have still : ∀ {σ' : L2.St} {H' : Hp} {s' : Shared}, Inv (X.blk sa Ha scope cv fq) [] σ' H' s' → (∀ b ∈ fq, H' b = none) → ∀ b ∈ fq, FpOk (X.blk sa Ha scope cv fq) [] H' b := fun I' hn b hb =>
    ⟨hn b hb, (I'.ok.exf b hb).1, I'.ok.exfs b hb, .inl hb, fun x q e => (I'.ok.exf b hb).2 x q e, fun p hp => absurd (show p ∈ ([] : List (Addr × Obj)) ++ [] from hp) (by simp)⟩
  have main : codeAny (model X.prog X.w) X.A (.compLoop c 0 (.ref it) (.ref P0) cv) (compPost (model X.prog X.w) X.A X.xe use Qf (.ref P0) sa.heap.objs.size) sb := by
    refine ck.loop (fun n s' => ∃ i H', Inv (X.blk sa Ha scope cv fq) [] (wipe σ (own.map (·.2))) H' s' ∧ tn i s'.heap ∧ (∀ b ∈ fq, H' b = none) ∧ Wh i n H') ?_ m0 ⟨0, Ha, Ib, stb, apart, w0⟩
    rintro n t0 ⟨i, G0, J0, st0, n0, v0⟩
    rcases turn i n G0 v0 with ⟨stop, qq⟩ | ⟨go, Nx, after, step⟩
    · refine thnF (Tn.done (X.blk sa Ha scope cv fq) rfl rfl rfl hc i [] t0 _ G0 (fun _ _ => False) J0 (still J0 n0) st0 stop) fun r t1 ⟨hr, J1⟩ => ?_
      subst hr
      have Jx : Inv X pins σ G0 t1 := Ia0.call' (ch := fq) J1.os J1.base J1.hok J1.bare fun b hb => let z := (foot b hb).1; ⟨z.2.2.2.1, z.2.1, z.2.2.2.2.1, z.2.2.2.2.2⟩
      have nL : G0 sa.heap.objs.size = none := endL ▸ (show G0 cv.locals = none from J1.free)
      obtain ⟨m, hn, _⟩ := J1.loc
      exact hend P0 sa.heap.objs.size t1 m G0 Jx qq (endL ▸ (show t1.heap.Ns cv.locals m from hn)) (Ia0.fpOk (Nat.le_refl _) nL)
    · refine thnF (Tn.item (X.blk sa Ha scope cv fq) rfl rfl rfl hc i [] t0 _ G0 (fun _ _ => False) J0 (still J0 n0) st0 go) fun r t1 ⟨u, hr, z1⟩ => ?_
      subst hr
      refine thnF z1 fun _ t2 ⟨x, G2, J2, r2, y2, st2, n2⟩ => ?_
      have held := J2.pinned (still J2 n2) (Tn.obj _ _ st2)
      refine thnF (eg.run _ t2 _ G2 x u _ held r2 (step x G2 y2)) fun _ t3 ⟨σ3, G3, J3, hw3, q3⟩ => ?_
      refine thnF (et.run _ t3 σ3 G3 _ J3 q3) fun b t4 ⟨G4, J4, q4⟩ => ?_
      have close : ∀ {s' : Shared} {H' : Hp}, Inv (X.blk sa Ha scope cv fq) ([] ++ pinsAt fq t2.heap) σ3 H' s' → Nx H' → ∃ m, m < n ∧ ∃ i H', Inv (X.blk sa Ha scope cv fq) [] (wipe σ (own.map (·.2))) H' s' ∧ tn i s'.heap ∧ (∀ b ∈ fq, H' b = none) ∧ Wh i m H' := fun {s' H'} I' nx => by
        obtain ⟨m', lt, v'⟩ := after H' nx
        have pinned : ∀ b ∈ fq, ∀ o, t2.heap.get? b = some o → s'.heap.get? b = some o ∧ H' b = none := fun b hb o e =>
          let z := I'.pin (b, o) (List.mem_append_right _ (List.mem_append_right _ (mem_pinsAt hb e))); ⟨z.1, z.2.1⟩
        refine ⟨m', lt, i + 1, H', (I'.unpinned (pins := [])).weak (by rw [← hw3, wipe_length]) (fun j v e => (wipe_some (by rw [← hw3] at e; exact e)).1), Tn.keep _ _ _ st2 fun b hb o e => (pinned b hb o e).1, fun b hb => ?_, v'⟩
        obtain ⟨o, e, _⟩ := Tn.obj _ _ st2 b hb
        exact (pinned b hb o e).2
      cases b with
      | false => simp only [Bool.false_eq_true, if_false] at q4 ⊢; exact close J4 q4
      | true => simp only [if_true] at q4 ⊢; exact ck.mono (ex _ t4 σ3 G4 P0 Nx J4 q4) fun s' ⟨H', I', nx⟩ => close I' nx
  exact ck.start main (Tn.self X.A 0 _ _ _ stb main)
end

/-! ### the three kinds -/
section
variable {P : Program} {w : World} {A : Around} {tg iter : Expr} {ifs : List Expr} {scope : Scope} {pos : Pos}
theorem ck_dict {kx vx : Expr} : CKind P w A (.DictComp kx vx [⟨tg, iter, ifs, 0⟩] scope pos) tg iter ifs
    (fun env D s Qn En => wpAny (model P w) A (eval kx env) (fun kv s1 => wpAny (model P w) A (eval vx env) (fun vv s2 => wpAny (model P w) A (dictSet D kv vv) (fun _ s3 => Qn s3) En s2) En s1) En s) where
  cl := rfl
  mono := fun h hq => thnF h fun _ _ h1 => thnF h1 fun _ _ h2 => thnF h2 fun _ _ h3 => hq _ h3
  loop := fun I turn n h => compLoop_anyD I turn n h
  start := fun h0 h => codeAny_compStart_dict h0 h
theorem ck_set {elt : Expr} : CKind P w A (.SetComp elt [⟨tg, iter, ifs, 0⟩] scope pos) tg iter ifs
    (fun env D s Qn En => wpAny (model P w) A (eval elt env) (fun x s1 => wpAny (model P w) A (call (.builtin "set.add") [.ref D, x]) (fun _ s2 => Qn s2) En s1) En s) where
  cl := rfl
  mono := fun h hq => thnF h fun _ _ h1 => thnF h1 fun _ _ h2 => hq _ h2
  loop := fun I turn n h => PpSet.compLoopS_any I turn n h
  start := fun h0 h => PpSet.codeAny_compStart_set h0 h
end

/-! ### sets of tuples of ints -/
theorem setTO_P {P P' : Program} {w : World} {a : Addr} {L : List (Addr × List Int)} : SetTO P w a L = SetTO P' w a L := congrArg HO.ext (funext fun h => propext ⟨fun z => ⟨z.ex⟩, fun z => ⟨z.ex⟩⟩)
def addK (ks : List (List Int)) (k : List Int) : List (List Int) := if k ∈ ks then ks else ks ++ [k]
def setAt (S : Sto) (n : Nat) : Option (List (List Int)) := match S[n]? with
  | some (.set ks) => some ks
  | _ => none
theorem setAt_eq {S : Sto} {n : Nat} {ks : List (List Int)} (h : setAt S n = some ks) : S[n]? = some (.set ks) := by
  unfold setAt at h
  split at h
  · rename_i e; cases h; exact e
  · cases h
theorem addK_perm {L L' : List (Addr × List Int)} {ks : List (List Int)} {x : Addr} {k : List Int} (p : (L.map (·.2)).Perm ks) (c1 : k ∈ L.map (·.2) → L' = L) (c2 : k ∉ L.map (·.2) → L'.Perm ((x, k) :: L)) : (L'.map (·.2)).Perm (addK ks k) := by
  unfold addK
  by_cases m : k ∈ ks
  · rw [if_pos m, c1 (p.mem_iff.mpr m)]; exact p
  · rw [if_neg m]
    have q := (c2 fun z => m (p.mem_iff.mp z)).map (·.2)
    rw [List.map_cons] at q
    exact q.trans ((List.Perm.cons k p).trans (List.perm_append_singleton k ks).symm)
section
variable {X : Cx} {pins : List (Addr × Obj)} {σ : L2.St} {H : Hp} {s : Shared} {ads : List Addr} {S : Sto} {a : Addr}
/-- the set at a place, whole -/
theorem set_full (I : Inv X pins σ H s) (rs : RS X.K X.w ads S H) {n : Nat} {ks : List (List Int)} (e : setAt S n = some ks) (ha : ads[n]? = some a) :
    ∃ L es ep t, H a = some (SetTO X.prog X.w a L) ∧ (L.map (·.2)).Perm ks ∧ (∀ p ∈ L, SqT X.K H p.1 (p.2.map V.int)) ∧ SetTR X.prog X.w s.heap a L es ep t := by
  obtain ⟨P, L, q1, q2, q3⟩ := rs.sto n _ a (setAt_eq e) ha
  rw [setTO_P (P' := X.prog)] at q1
  have R0 : SetT0 X.prog X.w s.heap a L := (I.hok a _ q1).1
  obtain ⟨es, ep, t, R⟩ := R0.full fun p hp => Inv.isT I (q3 p hp)
  exact ⟨L, es, ep, t, q1, q2, q3, R⟩
theorem tupOf_ref {K : PySem.W.Frag} {k : List Int} {v : V} (r : RV K ads H (tupOf k) v) : ∃ b, v = .ref b ∧ SqT K H b (k.map V.int) := by
  unfold tupOf at r
  cases r with
  | tup hs r => rw [r.ints] at hs; exact ⟨_, rfl, hs⟩
/-- s.add(t) -/
theorem addT_ok {E : Value → Shared → Prop} {Q : Value → Shared → Prop} {n : Nat} {ks : List (List Int)} {k : List Int} {v : V} {u : Value} (hu : X.A.units + 65 < cLine) (I : Inv X pins σ H s) (rs : RS X.K X.w ads S H) (e : setAt S n = some ks) (ha : ads[n]? = some a)
    (r : RV X.K ads H (tupOf k) v) (ru : RelV v u) (hl : ks.length + 1 < 64) (h : ∀ s' H', Inv X pins σ H' s' → Le X.K ads ads H H' → RS X.K X.w ads (S.set n (.set (addK ks k))) H' → Q .none s') :
    wpAny (model X.prog X.w) X.A (call (.builtin "set.add") [.ref a, u]) Q E s := by
  obtain ⟨L, es, ep, t, q1, q2, q3, R⟩ := set_full I rs e ha
  obtain ⟨b, rfl, hb⟩ := tupOf_ref r
  cases ru
  obtain ⟨o, ho, hex, _⟩ := R.ob
  have hx := Inv.isT I hb
  refine wpAny_call_entry F.slot_set_add ⟨o, ho, hex.1⟩ F.entry_set_add ?_ (F.args_set_add_2 _ _)
  unfold Builtin.«set.add» Builtin.Frozenset.oneOther
  simp only [List.isEmpty_nil, bind_assoc]
  unfold Builtin.Frozenset.addrOf setAdd
  refine wpAny_bind (wpAny_pure ?_)
  try dsimp only
  refine wpAny_bind (wpAny_pure ?_)
  try dsimp only
  refine wpAny_bind (wpAny_holding (wpAny_bind (wpAny_pyHash_tuple (by show X.A.units + 1 < cLine; omega) hx ?_)))
  refine add_at (P := X.prog) (w := X.w) (s := { s with toks := s.toks + (k.length + 1) }) R hx (by show X.A.units + 1 < cLine; omega) (by rw [← List.length_map (f := fun p : Addr × List Int => p.2), q2.length_eq]; exact hl) fun c h' L' es' ep' t' sb R' c1 c2 => ?_
  show wpAny _ _ (ret Value.none) _ _ _
  have le : Le X.K ads ads H (upd H a (SetTO X.prog X.w a L')) := le_upd q1 trivial
  have he : ∃ u, h'.get? a = some u := let ⟨o, ho, _⟩ := R'.ob; ⟨o, ho⟩
  refine wpAny_pure ⟨_, rfl, h _ (upd H a (SetTO X.prog X.w a L')) (I.write (e := a) (t' := s.toks + (k.length + 1)) (by rw [q1]; trivial) (.inl rfl) (fun b u hb hu => (sb.2 b hb).trans hu) he (setTO_new R'.t0)) le
    (rs.put ha q1 trivial ⟨X.prog, L', upd_same, addK_perm q2 c1 c2, fun p hp => le.tups _ _ ?_⟩)⟩
  by_cases m : k ∈ L.map (·.2)
  · rw [c1 m] at hp; exact q3 p hp
  · rcases List.mem_cons.mp ((c2 m).mem_iff.mp hp) with z | z
    · rw [z]; exact hb
    · exact q3 p z
/-- set(xs) -/
def dedK : List (List Int) → List (List Int) → List (List Int)
  | acc, [] => acc
  | acc, k :: ks => dedK (addK acc k) ks
theorem addK_mem {acc : List (List Int)} {k x : List Int} : x ∈ addK acc k ↔ x ∈ acc ∨ x = k := by
  unfold addK
  split
  · rename_i h
    exact ⟨.inl, fun z => z.elim id fun e => e ▸ h⟩
  · simp
theorem addK_nodup {acc : List (List Int)} {k : List Int} (h : acc.Nodup) : (addK acc k).Nodup := by
  unfold addK
  split
  · exact h
  · rename_i hn
    exact List.nodup_append.mpr ⟨h, by simp, fun a ha b hb e => hn (by have : b = k := by simpa using hb
                                                                       rw [← this, ← e]; exact ha)⟩
theorem dedK_mem : ∀ {ks acc : List (List Int)} {x : List Int}, x ∈ dedK acc ks ↔ x ∈ acc ∨ x ∈ ks
  | [], acc, x => by simp [dedK]
  | k :: ks, acc, x => by
    rw [dedK, dedK_mem, addK_mem, List.mem_cons, or_assoc]
theorem dedK_nodup : ∀ {ks acc : List (List Int)}, acc.Nodup → (dedK acc ks).Nodup
  | [], _, h => h
  | k :: ks, acc, h => by
    rw [dedK]
    exact dedK_nodup (addK_nodup h)
theorem tups_rows {K : PySem.W.Frag} : ∀ {ks : List (List Int)} {vs : List V}, RVs K ads H (ks.map tupOf) vs → ∃ rows : List (Addr × List Int), vs = rows.map (fun p => V.ref p.1) ∧ rows.map (·.2) = ks ∧ ∀ p ∈ rows, SqT K H p.1 (p.2.map V.int)
  | [], _, r => by cases r; exact ⟨[], rfl, rfl, fun _ h => nomatch h⟩
  | k :: ks, _, r => by
    rw [List.map_cons] at r
    cases r with
    | cons r rs =>
      obtain ⟨b, rfl, hb⟩ := tupOf_ref r
      obtain ⟨rows, e1, e2, e3⟩ := tups_rows rs
      refine ⟨(b, k) :: rows, by rw [e1]; rfl, by rw [List.map_cons, e2], fun p hp => ?_⟩
      rcases List.mem_cons.mp hp with z | z
      · rw [z]; exact hb
      · exact e3 p z
def rSetX (K : PySem.W.Frag) (w : World) : List V → Hp → VK → Prop := fun us H Q => ∃ ads S x ds ks u, us = [u] ∧ RS K w ads S H ∧ RV K ads H x u ∧ (∃ n, x = .ref n ∧ lstAt S n = some ds) ∧ tupIntsAll ds = some ks ∧ ks.length < 64 ∧
  ∀ p H', H p = none → Le K ads (ads ++ [p]) H H' → RS K w (ads ++ [p]) (S ++ [.set (dedK [] ks)]) H' → Q (.ref p) H'
theorem call_setX (hc : X.calm = true) (hu : X.A.units + 65 < cLine) : CallR X (.type "set") (rSetX X.K X.w) := by
  intro pins s σ H us ws Q I r h
  obtain ⟨ads, S, x, ds, ks, u, rfl, rs, rx, ⟨n, rfl, el⟩, ek, hl, q⟩ := h
  rw [tupIntsAll_eq ek] at el
  cases rx with
  | ref ha =>
    obtain ⟨vs, q1, q2⟩ := rs.sto n _ _ (lstAt_eq el) ha
    obtain ⟨rows, e1, e2, e3⟩ := tups_rows q2
    rw [e1] at q1
    rw [Vals.ref1 r]
    obtain ⟨its, rv, pl, hz⟩ := I.list (SqL.of q1)
    have hn : H s.heap.objs.size = none := I.hok.fresh (Nat.le_refl _)
    have hlen : rows.length < 64 := by rw [← List.length_map (f := fun p : Addr × List Int => p.2), e2]; exact hl
    refine call_set_tups (P := X.prog) (w := X.w) rows (I.ok.hd hc) pl.isList (by simpa using refs_of_vals rv) (fun p hp => Inv.isT I (e3 p hp)) hlen (by omega) fun h' tk L es ep t R g k => ?_
    have sub : ∀ p ∈ L, p ∈ rows := fun p hp => List.mem_of_mem_take (g.sub p hp)
    have all : ∀ p ∈ rows, p.2 ∈ L.map (·.2) := fun p hp => g.all p (by rw [List.take_length]; exact hp)
    have pm : (L.map (·.2)).Perm (dedK [] ks) := by
      refine (List.perm_ext_iff_of_nodup R.nd (dedK_nodup List.nodup_nil)).mpr fun z => ?_
      rw [dedK_mem, ← e2]
      constructor
      · intro hz
        obtain ⟨p, hp, e⟩ := List.mem_map.mp hz
        exact .inr (List.mem_map.mpr ⟨p, sub p hp, e⟩)
      · rintro (hz | hz)
        · cases hz
        · obtain ⟨p, hp, e⟩ := List.mem_map.mp hz
          rw [← e]; exact all p hp
    have le : Le X.K ads (ads ++ [s.heap.objs.size]) H (upd H s.heap.objs.size (SetTO X.prog X.w s.heap.objs.size L)) := le_new [_] hn
    exact ⟨.ref s.heap.objs.size, _, I.laid (t' := tk) k (Nat.le_refl _) (setTO_new R.t0), rfl, q _ _ hn le (rs.new hn ⟨X.prog, L, upd_same, pm, fun p hp => le.tups _ _ (e3 p (sub p hp))⟩)⟩
def gSetOf : List D → Sto → Out D
  | [.ref n], S => match lstAt S n with
    | some ds => match tupIntsAll ds with
      | some ks => if ks.length < 64 then .ok (.ref S.length) (S ++ [.set (dedK [] ks)]) else .err
      | none => .err
    | none => .err
  | _, _ => .err
theorem gc_setOf {K : PySem.W.Frag} {w : World} : GCall K w (rSetX K w) gSetOf := by
  intro W ads σ S H xs us Q rs rx fin
  unfold gSetOf at fin
  split at fin
  · split at fin
    · rename_i ds e1
      split at fin
      · rename_i ks e2
        split at fin
        · rename_i hl
          cases rx with
          | cons r r0 =>
            cases r0
            exact ⟨ads, S, _, ds, ks, _, rfl, rs, r, ⟨_, rfl, e1⟩, e2, hl, fun p H' hp le rs' => fin (ads ++ [p]) _ H' le rs' (.ref (ads_get rs))⟩
        · exact fin.elim
      · exact fin.elim
    · exact fin.elim
  · exact fin.elim
end
end SX
end
section
set_option linter.all false
set_option maxRecDepth 100000
set_option maxHeartbeats 1000000
/-! St10: sorted of a set; comprehensions over data; min, max; displays of dicts. -/
namespace SX
open PySem PySem.Spec PyProof.Rows L2 PySem.W

/-! ### the order of tuples of ints -/
theorem toks_ints_inj : ∀ {ns ms : List Int}, keyToksAll (ns.map PyData.int) = keyToksAll (ms.map PyData.int) → ns = ms
  | [], [], _ => rfl
  | [], m :: ms, h => by simp [keyToksAll] at h
  | n :: ns, [], h => by simp [keyToksAll] at h
  | n :: ns, m :: ms, h => by
    simp only [List.map_cons, keyToksAll, keyToks, List.cons_append, List.nil_append, List.cons.injEq, Sum.inl.injEq, true_and] at h
    rw [h.1, toks_ints_inj h.2]
theorem toPy_ints (S : Sto) (n : Nat) : ∀ k : List Int, mapO (toPy S n) (k.map D.int) = some (k.map PyData.int)
  | [] => rfl
  | i :: k => by
    have e : toPy S n (.int i) = some (.int i) := by cases n <;> rfl
    rw [List.map_cons, mapO, e, toPy_ints S n k]
    rfl
theorem toPy_tupOf (S : Sto) (k : List Int) : toPy S 4 (tupOf k) = some (.tuple (k.map .int)) := by
  unfold tupOf
  rw [toPy, toPy_ints]
  rfl
theorem enc_tupOf (S : Sto) (k : List Int) : encD S (tupOf k) = .tuple (k.map .int) := by
  unfold encD
  rw [toPy_tupOf]
  rfl
theorem dataLe_trans {β : Type} (k : β → PyData) (a b c : β) (h1 : dataLe false k a b = true) (h2 : dataLe false k b c = true) : dataLe false k a c = true := (sortLe_total (listOrd itemOrd) false fun b => keyToks (k b)).trans a b c h1 h2
theorem dataLe_tot {β : Type} (k : β → PyData) (a b : β) : (dataLe false k a b || dataLe false k b a) = true := by
  rw [Bool.or_eq_true]
  exact (sortLe_total (listOrd itemOrd) false fun b => keyToks (k b)).total a b
theorem dataLe_anti {β : Type} (k : β → PyData) {a b : β} (h1 : dataLe false k a b = true) (h2 : dataLe false k b a = true) : keyToks (k a) = keyToks (k b) := by
  have e1 : (!(listOrd itemOrd).blt (keyToks (k b)) (keyToks (k a))) = true := h1
  have e2 : (!(listOrd itemOrd).blt (keyToks (k a)) (keyToks (k b))) = true := h2
  exact (listOrd itemOrd).total _ _ (by simpa using e2) (by simpa using e1)
/-- a sorted list of tuples of ints does not depend on the order they come in -/
theorem srt_perm (S : Sto) {ks ks' : List (List Int)} (p : ks.Perm ks') : srtD S (ks.map tupOf) = srtD S (ks'.map tupOf) := by
  unfold srtD
  have p1 : ((ks.map tupOf).mergeSort (dataLe false (encD S))).Perm ((ks'.map tupOf).mergeSort (dataLe false (encD S))) :=
    (List.mergeSort_perm _ _).trans ((p.map tupOf).trans (List.mergeSort_perm _ _).symm)
  refine List.Perm.eq_of_pairwise (le := fun a b => dataLe false (encD S) a b = true) (fun a b ha hb h1 h2 => ?_) (List.pairwise_mergeSort (dataLe_trans _) (dataLe_tot _) _) (List.pairwise_mergeSort (dataLe_trans _) (dataLe_tot _) _) p1
  obtain ⟨k1, _, rfl⟩ := List.mem_map.mp ((List.mergeSort_perm _ _).mem_iff.mp ha)
  obtain ⟨k2, _, rfl⟩ := List.mem_map.mp ((List.mergeSort_perm _ _).mem_iff.mp hb)
  have e := dataLe_anti _ h1 h2
  rw [enc_tupOf, enc_tupOf] at e
  rw [toks_ints_inj (ns := k1) (ms := k2) e]
theorem each_perm {α β : Type} {R : α → β → Prop} {vs vs' : List α} (p : vs'.Perm vs) : ∀ {ds : List β}, EachIs R vs ds → ∃ ds' : List β, ds'.Perm ds ∧ EachIs R vs' ds' := by
  induction p with
  | nil => intro ds h; cases h; exact ⟨[], .nil, .nil⟩
  | cons x _ ih =>
    intro ds h
    cases h with
    | cons r t => obtain ⟨ds', q1, q2⟩ := ih t; exact ⟨_ :: ds', q1.cons _, .cons r q2⟩
  | swap x y l =>
    intro ds h
    cases h with
    | cons r t =>
      cases t with
      | cons r2 t => exact ⟨_, List.Perm.swap _ _ _, .cons r2 (.cons r t)⟩
  | trans _ _ ih1 ih2 =>
    intro ds h
    obtain ⟨d1, q1, q2⟩ := ih2 h
    obtain ⟨d2, q3, q4⟩ := ih1 q2
    exact ⟨d2, q3.trans q1, q4⟩
section
variable {X : Cx} {pins : List (Addr × Obj)} {σ : L2.St} {H : Hp} {s : Shared} {ads : List Addr} {S : Sto}
def rSrtX (K : PySem.W.Frag) (w : World) : List V → Hp → VK → Prop := fun us H Q => ∃ ads S n ks u, us = [u] ∧ RS K w ads S H ∧ RV K ads H (.ref n) u ∧ setAt S n = some ks ∧ sortOk S (ks.map tupOf) = true ∧ ∀ xs p, RVs K ads H (srtD S (ks.map tupOf)) xs → H p = none → Q (.ref p) (upd H p (.lst xs))
theorem call_srtX (hc : X.calm = true) (hu : X.A.units + 65 < cLine) : CallR X (.builtin "sorted") (rSrtX X.K X.w) := by
  intro pins s σ H us ws Q I r h
  obtain ⟨ads, S, n, ks, u, rfl, rs, rx, e, so, q⟩ := h
  cases rx with
  | @ref _ a ha =>
    rw [Vals.ref1 r]
    obtain ⟨L, es, ep, t, q1, q2, q3, R⟩ := set_full I rs e ha
    obtain ⟨o, ho, hex, hd⟩ := R.ob
    have hsz := R.size
    have hfew := R.few
    obtain ⟨k1, k2, k3⟩ := sortOk_of so
    have hes : es.toList.map (·.2) = L.map fun q => Value.ref q.1 := by
      rw [R.rows]; unfold L2.rowsOf; rw [List.map_map] <;> rfl
    have rows : ∀ {L : List (Addr × List Int)}, (∀ p ∈ L, SqT X.K H p.1 (p.2.map V.int)) → EachIs (Rd1 X.K ads H) (L.map fun q => Value.ref q.1) (L.map fun q => tupOf q.2) := by
      intro L
      induction L with
      | nil => intro _; exact .nil
      | cons p L ih => intro h; exact .cons ⟨.ref p.1, .tup (h p List.mem_cons_self) (RVs.of_ints _), rfl⟩ (ih fun q hq => h q (List.mem_cons_of_mem _ hq))
    refine sorted_gather (G := fun vs s1 => (∀ b o, s.heap.get? b = some o → s1.heap.get? b = some o) ∧ s.heap.objs.size ≤ s1.heap.objs.size ∧ s1.gens = s.gens ∧ s1.os = s.os ∧ vs.Perm (L.map fun q => Value.ref q.1))
      (fun E' Q' h' => collect_set (A := X.A.in1) (I.ok.hd hc) ⟨o, ho, hex.1, hd⟩ R.fits (by unfold scanBound; omega) R.tab.ris R.led fun s1 vs k1 hz g1 o1 pm => h' vs s1 ⟨k1, hz, g1, o1, by rw [← hes]; exact pm⟩) ?_
    rintro vs s1 ⟨kp, hz, g1, o1, pm⟩
    obtain ⟨ds, p1, ev⟩ := each_perm pm (rows q3)
    have pk : ds.Perm (ks.map tupOf) := by
      refine p1.trans ?_
      have := q2.map tupOf
      rw [List.map_map] at this
      exact this
    have hl : vs.length ≤ sizeLine := by rw [pm.length_eq, List.length_map, sizeLine_eq]; omega
    have toD : ∃ ks' : List (List Int), ds = ks'.map tupOf ∧ ks'.Perm ks := by
      have all : ∀ ds : List D, (∀ d ∈ ds, ∃ k, d = tupOf k) → ∃ ks' : List (List Int), ds = ks'.map tupOf := by
        intro ds
        induction ds with
        | nil => intro _; exact ⟨[], rfl⟩
        | cons d ds ih =>
          intro h
          obtain ⟨k, e⟩ := h d List.mem_cons_self
          obtain ⟨ks', e2⟩ := ih fun x hx => h x (List.mem_cons_of_mem _ hx)
          exact ⟨k :: ks', by rw [List.map_cons, ← e, ← e2]⟩
      obtain ⟨ks', e⟩ := all ds fun d hd => by
        obtain ⟨k, _, e⟩ := List.mem_map.mp (pk.mem_iff.mp hd)
        exact ⟨k, e.symm⟩
      refine ⟨ks', e, ?_⟩
      have := (pk.map fun d => (tupInts d).getD [])
      rw [e, List.map_map, List.map_map] at this
      have ii : ∀ k : List Int, tupInts (tupOf k) = some k := fun k => by
        unfold tupInts tupOf
        simp only
        induction k with
        | nil => rfl
        | cons i k ih => simp [intsD, ih]
      have id : ∀ l : List (List Int), l.map ((fun d => (tupInts d).getD []) ∘ tupOf) = l := fun l => by
        have : ∀ k : List Int, ((fun d => (tupInts d).getD []) ∘ tupOf) k = k := fun k => by simp [ii]
        rw [List.map_congr_left (fun k _ => this k), List.map_id']
      rw [id, id] at this
      exact this
    obtain ⟨ks', eds, pks⟩ := toD
    have es' : srtD S ds = srtD S (ks.map tupOf) := by rw [eds]; exact srt_perm S pks
    have kk : ∀ d ∈ ds, toPy S 4 d = some (encD S d) ∧ (encD S d).depth ≤ 32 := fun d hd => k1 d (pk.mem_iff.mp hd)
    have al : AllAlike (ds.map (encD S)) := fun x hx y hy => k2 x ((pk.map _).mem_iff.mp hx) y ((pk.map _).mem_iff.mp hy)
    have so' : Sortable (ds.map (encD S)) := k3.elim (fun h => .inl fun x hx => h x ((pk.map _).mem_iff.mp hx)) fun h => .inr fun x hx => h x ((pk.map _).mem_iff.mp hx)
    have keep : ∀ b o, s.heap.get? b = some o → (sortingHeap (s1.heap.push (seqObj "list" vs.toArray 0)) s1.heap.objs.size vs).get? b = some o := fun b o e =>
      sortingHeap_old (Nat.ne_of_lt (Heap.lt_size (kp b o e))) (Heap.get?_push_of_some _ (kp b o e))
    have er : EachIs (fun v d => ∃ as, Reads (sortingHeap (s1.heap.push (seqObj "list" vs.toArray 0)) s1.heap.objs.size vs) v (encD S d) as) vs ds :=
      (each_reads I rs ev fun d hd => (kk d hd).1).mono fun _ _ z => let ⟨as, r⟩ := z; ⟨as, PyProof.Rows.Reads.keeps keep r⟩
    refine ⟨hl, dataKind (sortingHeap (s1.heap.push (seqObj "list" vs.toArray 0)) s1.heap.objs.size vs) (ds.map (encD S)), ?_, ?_⟩
    · exact SortsAt.data (each_map (R := fun v d => ∃ as, Reads (sortingHeap (s1.heap.push (seqObj "list" vs.toArray 0)) s1.heap.objs.size vs) v d as) (encD S) er) al so' fun d hd => by
        obtain ⟨b, hb, rfl⟩ := List.mem_map.mp hd
        have := (kk b hb).2
        show X.A.units + 1 + 1 + _ < _
        omega
    · have out := sortVals_data (rev := false) ev er al
      obtain ⟨ys, o1', o2⟩ := of_each out
      have at1 : (s1.heap.push (seqObj "list" vs.toArray 0)).get? s1.heap.objs.size = some (seqObj "list" vs.toArray 0) := Heap.get?_push_size _ rfl
      obtain ⟨c, hcc⟩ := sortedHeap_at (vs := vs) (out := (sortVals (dataKind (sortingHeap (s1.heap.push (seqObj "list" vs.toArray 0)) s1.heap.objs.size vs) (ds.map (encD S))) false vs vs).toArray) at1
      have hlo : ys.length ≤ sizeLine := by rw [o2.length, sortVals_length false rfl]; exact hl
      have hn : H s1.heap.objs.size = none := I.hok.fresh hz
      have kp2 : ∀ b o, s.heap.get? b = some o → (sortedHeap (s1.heap.push (seqObj "list" vs.toArray 0)) s1.heap.objs.size vs (sortVals (dataKind (sortingHeap (s1.heap.push (seqObj "list" vs.toArray 0)) s1.heap.objs.size vs) (ds.map (encD S))) false vs vs).toArray).get? b = some o := fun b o e => by
        have lt := Heap.lt_size (kp b o e)
        rw [sortedHeap_old (Nat.ne_of_lt lt) (by rw [size_push']; exact Nat.lt_succ_of_lt lt)]
        exact Heap.get?_push_of_some _ (kp b o e)
      generalize sortedHeap (s1.heap.push (seqObj "list" vs.toArray 0)) s1.heap.objs.size vs (sortVals (dataKind (sortingHeap (s1.heap.push (seqObj "list" vs.toArray 0)) s1.heap.objs.size vs) (ds.map (encD S))) false vs vs).toArray = hf at hcc kp2 ⊢
      have J : Inv X pins σ (upd H s1.heap.objs.size (.lst ys)) { s with heap := hf, gens := s1.gens, drawn := s1.drawn, toks := s1.toks } :=
        I.call (ch := []) (Un.laid kp2 hz hn) (I.hok.laid kp2 hz ⟨hlo, _, c, o2, hcc⟩) (by rw [g1]; exact I.bare) (fun _ z => nomatch z)
      have ee : ({ s1 with heap := hf } : Shared) = { s with heap := hf, gens := s1.gens, drawn := s1.drawn, toks := s1.toks } := by
        cases s1; cases s; cases o1; rfl
      rw [ee]
      exact ⟨.ref _, _, J, rfl, q ys _ (by rw [← es']; exact o1') hn⟩
def gSortedA : List D → Sto → Out D := fun xs S => match xs with
  | [.ref n] => match setAt S n with
    | some ks => if sortOk S (ks.map tupOf) = true then .ok (.ref S.length) (S ++ [.lst (srtD S (ks.map tupOf))]) else .err
    | none => gSorted xs S
  | _ => gSorted xs S
theorem gc_sortedA {K : PySem.W.Frag} {w : World} : GCall K w (fun xs H Q => rSrt K w xs H Q ∨ rSrtX K w xs H Q) gSortedA := by
  intro W ads σ S H xs us Q rs rx fin
  unfold gSortedA at fin
  split at fin
  · split at fin
    · rename_i ks e
      split at fin
      · rename_i so
        cases rx with
        | cons r r0 =>
          cases r0
          exact .inr ⟨ads, S, _, ks, _, rfl, rs, r, e, so, fun ys p ry hp => fin_lst rs ry fin p hp⟩
      · exact fin.elim
    · exact .inl (gc_sorted W ads σ S H _ us Q rs rx fin)
  · exact .inl (gc_sorted W ads σ S H _ us Q rs rx fin)
end
end SX
end
section
set_option linter.all false
set_option maxRecDepth 100000
set_option maxHeartbeats 1000000
/-! St11: comprehensions over data. -/
namespace SX
open PySem PySem.Spec PyProof.Rows L2

/-! ### targets that touch known slots only -/
def GGV (K : PySem.W.Frag) (w : World) (ads : List Addr) (H : Hp) (sl : List Nat) (σ : L2.St) (Q : L2.St → Hp → Prop) : Option (Env × Sto) → Prop
  | some (ρ', S') => ∀ ads' σ' H', Le K ads ads' H H' → RS K w ads' S' H' → RE K ads' ρ' σ' H' → σ'.length = σ.length → (∀ i, i ∉ sl → σ'[i]? = σ[i]?) → Q σ' H'
  | none => False
def tGV (K : PySem.W.Frag) (w : World) (sl : List Nat) (g : SG) : TG := fun v σ H Q => ∃ ads ρ S d, RS K w ads S H ∧ RE K ads ρ σ H ∧ RV K ads H d v ∧ GGV K w ads H sl σ Q (g d ρ S)
def tGsV (K : PySem.W.Frag) (w : World) (sl : List Nat) (g : SGs) : TGs := fun vs σ H Q => ∃ ads ρ S ds, RS K w ads S H ∧ RE K ads ρ σ H ∧ RVs K ads H ds vs ∧ GGV K w ads H sl σ Q (g ds ρ S)
section
variable {X : Cx} {pos : Pos}
theorem sgv_name {i : Nat} {x : PySem.Str} (hN : X.N.Nodup) (hi : X.N[i]? = some x) (hx : Loc X.env.scope x) (hf : X.fn x = true ∨ X.env.scope.names.lookup x = some .local := by first | exact .inl rfl | exact .inr rfl | assumption) : PG X (.Name x pos) (tGV X.K X.w [i] (gNm i)) :=
  PG.imp (pg_name hN hi hx hf) fun v σ H Q ⟨ads, ρ, S, d, rs, re, r, h⟩ => h ads _ H Le.refl rs (re.set i r) (by rw [List.length_set]) fun j hj => by
    rw [List.getElem?_set_ne (fun e => hj (by rw [e]; exact List.mem_singleton.mpr rfl))]
theorem sgv_nil : PGs X [] (tGsV X.K X.w [] gNone) := PGs.imp pgs_nil fun vs σ H Q ⟨ads, ρ, S, ds, rs, re, r, h⟩ => by
  cases r with
  | nil => exact ⟨rfl, h ads σ H Le.refl rs re rfl fun _ _ => rfl⟩
  | cons _ _ => exact h.elim
theorem GGV.le {K : PySem.W.Frag} {w : World} {ads ads' : List Addr} {H H' : Hp} {sl sl' : List Nat} {σ σ' : L2.St} {Q : L2.St → Hp → Prop} (le : Le K ads ads' H H') (hl : σ'.length = σ.length) (hs : ∀ i, i ∉ sl → σ'[i]? = σ[i]?) {o : Option (Env × Sto)} (h : GGV K w ads H (sl ++ sl') σ Q o) : GGV K w ads' H' sl' σ' Q o := by
  match o, h with
  | some (ρ, S), h => exact fun a b c l r1 r2 l1 l2 => h a b c (le.trans l) r1 r2 (l1.trans hl) fun i hi => (l2 i fun z => hi (List.mem_append_right _ z)).trans (hs i fun z => hi (List.mem_append_left _ z))
theorem sgv_cons {t : Expr} {ts : List Expr} {g : SG} {gs : SGs} {sl sl' : List Nat} (h1 : PG X t (tGV X.K X.w sl g)) (h2 : PGs X ts (tGsV X.K X.w sl' gs)) (hs : List.map (fun x => x.snd) (assignEach (t :: ts) X.env) = assign t X.env :: List.map (fun x => x.snd) (assignEach ts X.env) := by rfl) : PGs X (t :: ts) (tGsV X.K X.w (sl ++ sl') (gMore g gs)) :=
  PGs.imp (pgs_cons h1 h2 hs) fun vs σ H Q ⟨ads, ρ, S, ds, rs, re, r, h⟩ => by
    cases r with
    | nil => exact h.elim
    | @cons d v ds' vs' r1 r2 =>
      unfold gMore at h
      simp only at h
      split at h
      · rename_i ρ' S' e
        exact ⟨v, vs', rfl, ads, ρ, S, d, rs, re, r1, by rw [e]; exact fun ads' σ' H' le rs' re' hl hs => ⟨ads', ρ', S', ds', rs', re', r2.mono le, h.le le hl hs⟩⟩
      · exact h.elim
theorem sgv_tup {es : List Expr} {k n : Nat} {gs : SGs} {sl : List Nat} (h : PGs X es (tGsV X.K X.w sl gs)) (i : ∀ {t : TGs}, PGs X es t → PG X (.Tuple es k pos) (gTup X.K n t)) : PG X (.Tuple es k pos) (tGV X.K X.w sl (gTp n gs)) :=
  PG.imp (i h) fun v σ H Q ⟨ads, ρ, S, d, rs, re, r, hh⟩ => by
    cases r with
    | tup hs r =>
      unfold gTp at hh
      simp only at hh
      split at hh
      · rename_i hl
        exact ⟨_, _, rfl, hs, by rw [← r.length]; exact hl, ads, ρ, S, _, rs, re, r, hh⟩
      · exact hh.elim
    | _ => exact hh.elim
end

/-! ### the own slots forgotten -/
def wipeE (ρ : Env) : List Nat → Env
  | [] => ρ
  | v :: vs => (wipeE ρ vs).set v none
theorem RE.wipe {K : PySem.W.Frag} {ads : List Addr} {ρ : Env} {σ : L2.St} {H : Hp} (r : RE K ads ρ σ H) : ∀ vs : List Nat, RE K ads (wipeE ρ vs) (L2.wipe σ vs) H
  | [] => r
  | v :: vs => (RE.wipe r vs).unset v
theorem wipe_at (σ : L2.St) : ∀ (vs : List Nat) (i : Nat), (L2.wipe σ vs)[i]? = if i ∈ vs then (if i < σ.length then some none else none) else σ[i]?
  | [], i => by simp [L2.wipe]
  | v :: vs, i => by
    unfold L2.wipe
    by_cases c : v = i
    · subst c
      rw [if_pos List.mem_cons_self]
      by_cases hl : v < σ.length
      · rw [if_pos hl, List.getElem?_set_self (by rw [wipe_length]; exact hl)]
      · rw [if_neg hl, List.getElem?_eq_none (by rw [List.length_set, wipe_length]; omega)]
    · rw [List.getElem?_set_ne c, wipe_at σ vs i]
      by_cases m : i ∈ vs
      · rw [if_pos m, if_pos (List.mem_cons_of_mem _ m)]
      · rw [if_neg m, if_neg (fun z => (List.mem_cons.mp z).elim (fun e => c e.symm) m)]
theorem wipe_back {σ σ2 : L2.St} {vs sl : List Nat} (hl : σ2.length = (L2.wipe σ vs).length) (hs : ∀ i, i ∉ sl → σ2[i]? = (L2.wipe σ vs)[i]?) (hv : ∀ i ∈ sl, i ∈ vs) : L2.wipe σ2 vs = L2.wipe σ vs := by
  rw [wipe_length] at hl
  refine List.ext_getElem? fun i => ?_
  rw [wipe_at, wipe_at]
  by_cases m : i ∈ vs
  · rw [if_pos m, if_pos m, hl]
  · rw [if_neg m, if_neg m, hs i fun z => m (hv i z), wipe_at, if_neg m]

/-! ### the loop -/
/-- on, if nothing was raised -/
@[inline] def Out.on {α β : Type} (o : Out α) (k : α → Sto → Out β) : Out β := match o with
  | .ok a S => k a S
  | _ => .err
def sCmGo (g : SG) (tt : SB) (sx : Nat → Env → Sto → Out Unit) (chk : Sto → Bool) (n : Nat) (ρ0 : Env) : List D → Sto → Out Unit
  | [], S => if chk S = true then .ok () S else .err
  | d :: ds, S => if chk S = true then (match g d ρ0 S with
      | some (ρ1, S1) => (tt ρ1 S1).on fun b S2 => if b = true then (sx n ρ1 S2).on fun _ S3 => sCmGo g tt sx chk n ρ0 ds S3 else sCmGo g tt sx chk n ρ0 ds S2
      | none => .err) else .err
def sCm (it : SI) (g : SG) (tt : SB) (sx : Nat → Env → Sto → Out Unit) (o : SO) (vs : List Nat) : SE := fun ρ S => (it ρ S).bind fun m S1 => (sCmGo g tt sx m.chk S1.length (wipeE ρ vs) m.items (S1 ++ [o])).bind fun _ S2 => .ok (.ref S1.length) S2
/-- what an item does, read -/
def GX (K : PySem.W.Frag) (w : World) (W : WX) (ts : TX) (sx : Nat → Env → Sto → Out Unit) : Prop := ∀ (ads : List Addr) (ρ : Env) (S : Sto) (σ : L2.St) (H : Hp) (p : Addr) (n : Nat) (Nx : Hp → Prop), RS K w ads S H → RE K ads ρ σ H → ads[n]? = some p →
  Fn K w W (fun (_ : List Addr) (_ : Hp) (_ _ : Unit) => True) ads σ H (fun _ H' => Nx H') (sx n ρ S) → ts p σ H Nx
theorem cm_imp {K : PySem.W.Frag} {w : World} {W : WX} {it : SI} {g : SG} {tt : SB} {sx : Nat → Env → Sto → Out Unit} {o : SO} {ob : Addr → HO} {vs sl : List Nat} {ts : TX} (hsl : ∀ i ∈ sl, i ∈ vs) (hob : ∀ (ads : List Addr) (S : Sto) (H : Hp) (p : Addr), RS K w ads S H → H p = none → RS K w (ads ++ [p]) (S ++ [o]) (upd H p (ob p))) (hx : GX K w W ts sx) (σ : L2.St) (H : Hp) (Q : VK) (h : tS K w W (sCm it g tt sx o vs) σ H Q) :
    tCm (tI K w W it) (tGV K w sl g) (tT K w W tt) ts ob vs σ H Q := by
  obtain ⟨ads, ρ, S, rs, re, fin⟩ := h
  refine ⟨ads, ρ, S, rs, re, (Fn.bind fin).mono fun J H1 ⟨m, S1, ads1, le1, rs1, r1, fin1⟩ => ?_⟩
  intro p hp
  have rs2 := hob ads1 S1 H1 p rs1 hp
  have le2 : Le K ads1 (ads1 ++ [p]) H1 (upd H1 p (ob p)) := le_new [p] hp
  have fin2 := Fn.le le2 fin1
  have at2 : (ads1 ++ [p])[S1.length]? = some p := ads_get rs1
  refine ⟨fun i k H' => k = m.items.length - i ∧ i ≤ m.items.length ∧ ∃ ads' S', Le K (ads1 ++ [p]) ads' (upd H1 p (ob p)) H' ∧ RS K w ads' S' H' ∧
    Fn K w W (RV K) ads' σ H' Q ((sCmGo g tt sx m.chk S1.length (wipeE ρ vs) (m.items.drop i) S').bind fun _ S2 => .ok (.ref S1.length) S2), ⟨_, rfl, Nat.zero_le _, _, _, Le.refl, rs2, by rw [List.drop_zero]; exact fin2⟩, ?_⟩
  rintro i k H2 ⟨rfl, hi, ads2, S2, le3, rs3, fin3⟩
  by_cases hlt : i < m.items.length
  · have ed : m.items.drop i = m.items[i] :: m.items.drop (i + 1) := List.drop_eq_getElem_cons hlt
    rw [ed] at fin3
    unfold sCmGo at fin3
    by_cases ck : m.chk S2 = true
    · rw [if_pos ck] at fin3
      obtain ⟨go, yl⟩ := (r1 ads2 S2 H2 i (le2.trans le3) rs3 ck).1 _ (List.getElem?_eq_getElem hlt)
      refine .inr ⟨go, fun H' => i + 1 ≤ m.items.length ∧ ∃ ads' S', Le K (ads1 ++ [p]) ads' (upd H1 p (ob p)) H' ∧ RS K w ads' S' H' ∧
        Fn K w W (RV K) ads' σ H' Q ((sCmGo g tt sx m.chk S1.length (wipeE ρ vs) (m.items.drop (i + 1)) S').bind fun _ S2 => .ok (.ref S1.length) S2), fun H' h' => ⟨_, by omega, rfl, h'⟩, fun x H3 hy => ?_⟩
      obtain ⟨le4, rs4, r4⟩ := yl x H3 hy
      have fin4 := Fn.le le4 fin3
      have re4 : RE K ads2 (wipeE ρ vs) (L2.wipe σ vs) H3 := ((((re.mono le1).mono le2).mono le3).mono le4).wipe vs
      refine ⟨ads2, wipeE ρ vs, S2, m.items[i], rs4, re4, r4, ?_⟩
      split at fin4
      · rename_i ρ5 S5 e5
        rw [e5]
        intro ads5 σ5 H5 le5 rs5 re5 hl5 hs5
        refine ⟨wipe_back hl5 hs5 hsl, ads5, ρ5, S5, rs5, re5, ?_⟩
        have fin5 := Fn.le le5 fin4
        have le05 : Le K (ads1 ++ [p]) ads5 (upd H1 p (ob p)) H5 := (le3.trans le4).trans le5
        cases et : tt ρ5 S5 with
        | err => rw [et] at fin5; exact fin5.elim
        | exc _ _ => rw [et] at fin5; exact fin5.elim
        | ok b S6 =>
          rw [et] at fin5
          intro ads6 b6 H6 le6 rs6 r6
          subst r6
          have fin6 := Fn.le le6 fin5
          have le06 := le05.trans le6
          cases b with
          | false =>
            simp only [Out.on, Bool.false_eq_true, if_false] at fin6 ⊢
            exact ⟨hlt, ads6, S6, le06, rs6, fin6⟩
          | true =>
            simp only [Out.on, if_true] at fin6 ⊢
            refine hx ads6 ρ5 S6 σ5 H6 p S1.length _ rs6 (re5.mono le6) (le06.get at2) ?_
            cases ex : sx S1.length ρ5 S6 with
            | err => rw [ex] at fin6; exact fin6.elim
            | exc _ _ => rw [ex] at fin6; exact fin6.elim
            | ok u S7 =>
              rw [ex] at fin6
              exact fun ads7 _ H7 le7 rs7 _ => ⟨hlt, ads7, S7, le06.trans le7, rs7, Fn.le le7 fin6⟩
      · exact fin4.elim
    · rw [if_neg ck] at fin3
      exact fin3.elim
  · have e : m.items.drop i = [] := List.drop_eq_nil_of_le (by omega)
    rw [e] at fin3
    unfold sCmGo at fin3
    by_cases ck : m.chk S2 = true
    · rw [if_pos ck] at fin3
      exact .inl ⟨(r1 ads2 S2 H2 i (le2.trans le3) rs3 ck).2 (by omega), fin3 ads2 _ H2 Le.refl rs3 (.ref (le3.get at2))⟩
    · rw [if_neg ck] at fin3
      exact fin3.elim

/-! ### what an item does -/
section
variable {X : Cx} {W : WX} {te tk tv : SE}
def sStepL (te : SE) (n : Nat) : Env → Sto → Out Unit := fun ρ S => (te ρ S).bind fun y S1 => match lstAt S1 n with
  | some acc => if acc.length < sizeLine then .ok () (S1.set n (.lst (acc ++ [y]))) else .err
  | none => .err
def sStepD (tk tv : SE) (n : Nat) : Env → Sto → Out Unit := fun ρ S => (tk ρ S).bind fun k S1 => (tv ρ S1).bind fun v S2 => match dctW S2 n with
  | some kvs => if clsOk kvs k = true ∧ kvs.length < sizeLine then .ok () (S2.set n (.dct (putD kvs k v))) else .err
  | none => .err
def sStepS (te : SE) (n : Nat) : Env → Sto → Out Unit := fun ρ S => (te ρ S).bind fun y S1 => match setAt S1 n, tupInts y with
  | some ks, some k => if ks.length + 1 < 64 then .ok () (S1.set n (.set (addK ks k))) else .err
  | _, _ => .err
def xLst (te : TE) : TX := fun p σ H Nx => te σ H fun y H4 => ∃ acc, H4 p = some (.lst acc) ∧ acc.length < sizeLine ∧ Nx (upd H4 p (.lst (acc ++ [y])))
theorem gx_lst : GX X.K X.w W (xLst (tS X.K X.w W te)) (sStepL te) := fun ads ρ S σ H p n Nx rs re hp fin => by
  refine ⟨ads, ρ, S, rs, re, (Fn.bind fin).mono fun u H1 ⟨y, S1, ads1, le1, rs1, r1, fin1⟩ => ?_⟩
  split at fin1
  · rename_i acc e
    split at fin1
    · rename_i hl
      have hp1 := le1.get hp
      obtain ⟨vs, q1, q2⟩ := rs1.sto n _ p (lstAt_eq e) hp1
      have le : Le X.K ads1 ads1 H1 (upd H1 p (.lst (vs ++ [u]))) := le_upd q1 trivial
      exact ⟨vs, q1, by rw [← q2.length]; exact hl, fin1 ads1 () _ le (rs1.put hp1 q1 trivial ⟨_, upd_same, (q2.append (.cons r1 .nil)).mono le⟩) trivial⟩
    · exact fin1.elim
  · exact fin1.elim
/-- d[k] = v, by a comprehension -/
theorem dctSet_ok {pins : List (Addr × Obj)} {σ : L2.St} {H : Hp} {s : Shared} {ads : List Addr} {S : Sto} {A : Around} {E : Value → Shared → Prop} {Q : Unit → Shared → Prop} {n : Nat} {a : Addr} {kvs : List (D × D)} {k r : D} {kv rv : V} {ku ru : Value} (hu : A.units + 65 < cLine) (I : Inv X pins σ H s) (rs : RS X.K X.w ads S H) (ha : ads[n]? = some a)
    (e : dctW S n = some kvs) (rk : RV X.K ads H k kv) (rku : RelV kv ku) (rr : RV X.K ads H r rv) (rru : RelV rv ru) (co : clsOk kvs k = true) (hl : kvs.length < sizeLine)
    (h : ∀ s' H', Inv X pins σ H' s' → Le X.K ads ads H H' → RS X.K X.w ads (S.set n (.dct (putD kvs k r))) H' → Q () s') : wpAny (model X.prog X.w) A (dictSet a ku ru) Q E s := by
  obtain ⟨rows, q1, q2, q3⟩ := rs.sto n _ a (dctW_eq e) ha
  have hl' : (putD kvs k r).length ≤ sizeLine := by have := putD_len kvs k r; omega
  rcases clsOk_of co with ⟨c1, c2⟩ | ⟨c1, c2⟩
  · obtain ⟨z, hd, lib, t, dd⟩ := dct_leaf I (.inl q1) q2 q3 c2
    obtain ⟨k', ek⟩ := kcls_leaf c1
    refine wpAny_dictSet_pairs (hsz := by rw [← Paired.length t]; exact z) (lk_is (X := X) (P := X.prog) rk rku ek) dd fun h' dd' hs => ?_
    obtain ⟨rows', p1, p2⟩ := dw_leaf (t' := s.toks + 1) I q1 hl' hd (put_leaf t ek rr rru) dd' hs
    obtain ⟨le, rs'⟩ := rs.putD ha q1 p1 (putD_nodup q3)
    exact h _ _ p2 le rs'
  · obtain ⟨z, hd, xs, t, dd⟩ := dct_nest I (.inl q1) q2 q3 c2
    obtain ⟨b, k', rfl, ek, hk⟩ := nest_ref c1 rk
    cases rku
    refine wpAny_dictSet_heap (knd := nestedKind X.prog X.w) (hsz := by rw [← Paired.length t]; exact z) (by show A.units + 8 < cLine; omega) ⟨nk_is I _ _ _ _ rk rfl ek, hk⟩ dd fun h' dd' hs => ?_
    obtain ⟨rows', p1, p2⟩ := dw_nest (t' := s.toks + k'.draws) I q1 hl' hd (put_nest t ek rk rr rru) dd' hs
    obtain ⟨le, rs'⟩ := rs.putD ha q1 p1 (putD_nodup q3)
    exact h _ _ p2 le rs'
def xDct (K : PySem.W.Frag) (w : World) (tk tv : TE) : TX := fun p σ H Nx => tk σ H fun y H4 => tv σ H4 fun z H5 => ∃ ads S n kvs k r, RS K w ads S H5 ∧ ads[n]? = some p ∧ dctW S n = some kvs ∧ RV K ads H5 k y ∧ RV K ads H5 r z ∧ clsOk kvs k = true ∧ kvs.length < sizeLine ∧
  ∀ H', Le K ads ads H5 H' → RS K w ads (S.set n (.dct (putD kvs k r))) H' → Nx H'
theorem gx_dct : GX X.K X.w W (xDct X.K X.w (tS X.K X.w W tk) (tS X.K X.w W tv)) (sStepD tk tv) := fun ads ρ S σ H p n Nx rs re hp fin => by
  refine ⟨ads, ρ, S, rs, re, (Fn.bind fin).mono fun u H1 ⟨k, S1, ads1, le1, rs1, r1, fin1⟩ => ?_⟩
  refine ⟨ads1, ρ, S1, rs1, re.mono le1, (Fn.bind fin1).mono fun z H2 ⟨v, S2, ads2, le2, rs2, r2, fin2⟩ => ?_⟩
  split at fin2
  · rename_i kvs e
    split at fin2
    · rename_i c
      exact ⟨ads2, S2, n, kvs, k, v, rs2, le2.get (le1.get hp), e, r1.mono le2, r2, c.1, c.2, fun H' le rs' => fin2 ads2 () H' le rs' trivial⟩
    · exact fin2.elim
  · exact fin2.elim
def xSet (K : PySem.W.Frag) (w : World) (te : TE) : TX := fun p σ H Nx => te σ H fun y H4 => ∃ ads S n ks k, RS K w ads S H4 ∧ ads[n]? = some p ∧ setAt S n = some ks ∧ RV K ads H4 (tupOf k) y ∧ ks.length + 1 < 64 ∧
  ∀ H', Le K ads ads H4 H' → RS K w ads (S.set n (.set (addK ks k))) H' → Nx H'
theorem gx_set : GX X.K X.w W (xSet X.K X.w (tS X.K X.w W te)) (sStepS te) := fun ads ρ S σ H p n Nx rs re hp fin => by
  refine ⟨ads, ρ, S, rs, re, (Fn.bind fin).mono fun u H1 ⟨y, S1, ads1, le1, rs1, r1, fin1⟩ => ?_⟩
  split at fin1
  · rename_i ks k e ek
    split at fin1
    · rename_i hl
      rw [tupInts_eq ek] at r1
      exact ⟨ads1, S1, n, ks, k, rs1, le1.get hp, e, r1, hl, fun H' le rs' => fin1 ads1 () H' le rs' trivial⟩
    · exact fin1.elim
  · exact fin1.elim
end
/-! ### the rules -/
section
variable {X : Cx} {W : WX} {elt kx vx tg iter : Expr} {ifs : List Expr} {scope : Scope} {own : List (PySem.Str × Nat)} {pos : Pos} {it : SI} {g : SG} {tt : SB} {te tk tv : SE} {sl : List Nat}
def sLc (it : SI) (g : SG) (tt : SB) (te : SE) (vs : List Nat) : SE := sCm it g tt (sStepL te) (.lst []) vs
def sDc (it : SI) (g : SG) (tt : SB) (tk tv : SE) (vs : List Nat) : SE := sCm it g tt (sStepD tk tv) (.dct []) vs
def sSc (it : SI) (g : SG) (tt : SB) (te : SE) (vs : List Nat) : SE := sCm it g tt (sStepS te) (.set []) vs
/-- tests of a comprehension -/
def sYes : SB := fun _ S => .ok true S
theorem sp_nil : PTs X [] (tT X.K X.w W sYes) := ⟨fun pins s σ H Q I ⟨ads, ρ, S, rs, re, fin⟩ => pts_nil.run pins s σ H Q I (fin ads true H Le.refl rs rfl)⟩
theorem new_lst {K : PySem.W.Frag} {w : World} (ads : List Addr) (S : Sto) (H : Hp) (p : Addr) (rs : RS K w ads S H) (hp : H p = none) : RS K w (ads ++ [p]) (S ++ [.lst []]) (upd H p (.lst [])) := rs.new hp ⟨[], upd_same, .nil⟩
theorem new_dct {K : PySem.W.Frag} {w : World} (ads : List Addr) (S : Sto) (H : Hp) (p : Addr) (rs : RS K w ads S H) (hp : H p = none) : RS K w (ads ++ [p]) (S ++ [.dct []]) (upd H p (dctO p [])) := fin_dnew rs hp
theorem new_set {K : PySem.W.Frag} {P : Program} {w : World} (ads : List Addr) (S : Sto) (H : Hp) (p : Addr) (rs : RS K w ads S H) (hp : H p = none) : RS K w (ads ++ [p]) (S ++ [.set []]) (upd H p (SetTO P w p [])) := rs.new hp ⟨P, [], upd_same, .nil, fun _ h => nomatch h⟩
abbrev Blk (X : Cx) (scope : Scope) (p : Cx → Prop) : Prop := ∀ (s : Shared) (H : Hp) (C : Addr) (cl : List (PySem.Str × Addr)) (fp : List Addr), p (X.blk s H scope (compEnvC scope cl C X.env) fp)
theorem se_lc (hc : X.calm = true) (hN : X.N.Nodup) (hi : PI X tg iter (tI X.K X.w W it)) (ok : BlkOk X.N X.env.scope scope own) (hsl : ∀ i ∈ sl, i ∈ own.map (·.2)) (hg : Blk X scope fun Y => PG Y tg (tGV Y.K Y.w sl g)) (ht : Blk X scope fun Y => PTs Y ifs (tT Y.K Y.w W tt))
    (he : Blk X scope fun Y => PE Y elt (tS Y.K Y.w W te)) (hs : ∀ x, foldedSetIterable iter X.env x = pure x := by intro _; rfl) : PE X (.ListComp elt [⟨tg, iter, ifs, 0⟩] scope pos) (tS X.K X.w W (sLc it g tt te (own.map (·.2)))) :=
  PE.imp (pe_lc hc hN hi ok hg ht he hs) fun σ H Q h => cm_imp hsl new_lst (gx_lst (X := X)) σ H Q h
theorem se_dc (hu : X.A.units + 65 < cLine) (hc : X.calm = true) (hN : X.N.Nodup) (hi : PI X tg iter (tI X.K X.w W it)) (ok : BlkOk X.N X.env.scope scope own) (hsl : ∀ i ∈ sl, i ∈ own.map (·.2)) (hg : Blk X scope fun Y => PG Y tg (tGV Y.K Y.w sl g)) (ht : Blk X scope fun Y => PTs Y ifs (tT Y.K Y.w W tt))
    (hk : Blk X scope fun Y => PE Y kx (tS Y.K Y.w W tk)) (he : Blk X scope fun Y => PE Y vx (tS Y.K Y.w W tv)) (hs : ∀ x, foldedSetIterable iter X.env x = pure x := by intro _; rfl) : PE X (.DictComp kx vx [⟨tg, iter, ifs, 0⟩] scope pos) (tS X.K X.w W (sDc it g tt tk tv (own.map (·.2)))) := by
  refine ⟨fun pins s σ H Q I h => ?_⟩
  rw [arm_eval_DictComp]
  refine cm_core (ob := fun p => dctO p []) ck_dict hc hN I hi ok (fun s E Q' h' => wpAny_newObj_type h') (fun h' H' hb => dct_empty h' hb) hg ht (fun s1 H1 C cl fp pins2 s2 σ2 H2 p Nx J q => ?_) hs (cm_imp hsl new_dct (gx_dct (X := X)) σ H Q h) fun p C s' m H' J q hn f => ?_
  · refine thn ((hk s1 H1 C cl fp).run _ s2 σ2 H2 _ J q) fun ku s3 ⟨y, H3, J3, ry, q3⟩ => thn ((he s1 H1 C cl fp).run _ s3 σ2 H3 _ J3 q3) fun vu s4 ⟨z, H4, J4, rz, ads, S, n, kvs, k, r, rs, ha, e, rk, rr, co, hl, nx⟩ => ?_
    exact dctSet_ok (X := X.blk s1 H1 scope (compEnvC scope cl C X.env) fp) hu J4 rs ha e rk ry rr rz co hl fun s5 H5 J5 le rs5 => ⟨H5, J5, nx H5 le rs5⟩
  · obtain ⟨f0, f1, f2, f3, f4, f5⟩ := f
    exact ⟨m, hn, fun h'' sb => ⟨.ref p, H', J.turned (t' := s'.toks) (fun b o hb e => (sb.2 b hb).trans e) f0 f1 f3 f4 f5, rfl, q⟩⟩
theorem se_sc (hu : X.A.units + 65 < cLine) (hc : X.calm = true) (hN : X.N.Nodup) (hi : PI X tg iter (tI X.K X.w W it)) (ok : BlkOk X.N X.env.scope scope own) (hsl : ∀ i ∈ sl, i ∈ own.map (·.2)) (hg : Blk X scope fun Y => PG Y tg (tGV Y.K Y.w sl g)) (ht : Blk X scope fun Y => PTs Y ifs (tT Y.K Y.w W tt))
    (he : Blk X scope fun Y => PE Y elt (tS Y.K Y.w W te)) (hs : ∀ x, foldedSetIterable iter X.env x = pure x := by intro _; rfl) : PE X (.SetComp elt [⟨tg, iter, ifs, 0⟩] scope pos) (tS X.K X.w W (sSc it g tt te (own.map (·.2)))) := by
  refine ⟨fun pins s σ H Q I h => ?_⟩
  rw [PpSet.eval_SetComp]
  refine cm_core (ob := fun p => SetTO X.prog X.w p []) (o0 := { cls := .type "set", dict := none, data := .set #[] 0 (.fresh 0 0 (!X.w.params.followText "set-order")) }) ck_set hc hN I hi ok (fun s E Q' h' => PpSet.newSet_ok h') (fun h' H' hb => setTO_new (setTR_fresh (Heap.get?_push_size _ rfl)).t0) hg ht (fun s1 H1 C cl fp pins2 s2 σ2 H2 p Nx J q => ?_) hs (cm_imp hsl (new_set (P := X.prog)) (gx_set (X := X)) σ H Q h) fun p C s' m H' J q hn f => ?_
  · refine thn ((he s1 H1 C cl fp).run _ s2 σ2 H2 _ J q) fun vu s4 ⟨z, H4, J4, rz, ads, S, n, ks, k, rs, ha, e, rk, hl, nx⟩ => ?_
    exact addT_ok (X := X.blk s1 H1 scope (compEnvC scope cl C X.env) fp) hu J4 rs e ha rk rz hl fun s5 H5 J5 le rs5 => ⟨H5, J5, nx H5 le rs5⟩
  · obtain ⟨f0, f1, f2, f3, f4, f5⟩ := f
    exact ⟨m, hn, fun h'' sb => ⟨.ref p, H', J.turned (t' := s'.toks) (fun b o hb e => (sb.2 b hb).trans e) f0 f1 f3 f4 f5, rfl, q⟩⟩
end
end SX
end
section
set_option linter.all false
set_option maxRecDepth 100000
set_option maxHeartbeats 1000000
/-! St12: names that take a comprehension; displays of dicts; type names; min, max of data; own defs and classes. -/
namespace SX
open PySem PySem.Spec PyProof.Rows L2

/-! ### name = a comprehension, on one line -/
section
variable {X : Cx} {W : WX} {elt kx vx tg iter : Expr} {ifs : List Expr} {scope : Scope} {own : List (PySem.Str × Nat)} {pos py spos : Pos} {it : SI} {g : SG} {tt : SB} {te tk tv : SE} {sl : List Nat} {i : Nat} {y : PySem.Str}
theorem ss_setLc (hc : X.calm = true) (hN : X.N.Nodup) (hy : X.N[i]? = some y) (hyl : X.env.scope.names.lookup y = some .local) (hsw : swapsWith (.ListComp elt [⟨tg, iter, ifs, 0⟩] scope pos) (some (.Name y py)) spos.line X.env = pure true) (hi : PI X tg iter (tI X.K X.w W it)) (ok : BlkOk X.N X.env.scope scope own) (hsl : ∀ i ∈ sl, i ∈ own.map (·.2))
    (hg : Blk X scope fun Y => PG Y tg (tGV Y.K Y.w sl g)) (ht : Blk X scope fun Y => PTs Y ifs (tT Y.K Y.w W tt)) (he : Blk X scope fun Y => PE Y elt (tS Y.K Y.w W te)) (hs : ∀ x, foldedSetIterable iter X.env x = pure x := by intro _; rfl) :
    PS X (.Assign [.Name y py] (.ListComp elt [⟨tg, iter, ifs, 0⟩] scope pos) spos) (tSt X.K X.w W (sAsg (gNm i) (sLc it g tt te (own.map (·.2))))) :=
  PS.imp (ps_setLc hc hN hy hyl hsw hi ok hg ht he hs) fun D σ H h => cm_imp hsl new_lst (gx_lst (X := X)) σ H _ (asg_imp (tg := gName i) (fun v σ H Q ⟨ads, ρ, S, d, rs, re, r, h⟩ => h ads _ H Le.refl rs (re.set i r)) D σ H h)
theorem ss_setDc (hu : X.A.units + 65 < cLine) (hc : X.calm = true) (hN : X.N.Nodup) (hy : X.N[i]? = some y) (hyl : X.env.scope.names.lookup y = some .local) (hsw : swapsWith (.DictComp kx vx [⟨tg, iter, ifs, 0⟩] scope pos) (some (.Name y py)) spos.line X.env = pure true) (hi : PI X tg iter (tI X.K X.w W it)) (ok : BlkOk X.N X.env.scope scope own) (hsl : ∀ i ∈ sl, i ∈ own.map (·.2))
    (hg : Blk X scope fun Y => PG Y tg (tGV Y.K Y.w sl g)) (ht : Blk X scope fun Y => PTs Y ifs (tT Y.K Y.w W tt)) (hk : Blk X scope fun Y => PE Y kx (tS Y.K Y.w W tk)) (he : Blk X scope fun Y => PE Y vx (tS Y.K Y.w W tv)) (hs : ∀ x, foldedSetIterable iter X.env x = pure x := by intro _; rfl) :
    PS X (.Assign [.Name y py] (.DictComp kx vx [⟨tg, iter, ifs, 0⟩] scope pos) spos) (tSt X.K X.w W (sAsg (gNm i) (sDc it g tt tk tv (own.map (·.2))))) := by
  refine ⟨fun pins s σ H D I h => ?_⟩
  rw [exec_Assign_Name_used _ _ _ _ hsw]
  refine wpAny_bind (wpAny_standAt (wpAny_bind ?_))
  show wpAny _ X.A (comprehension (.DictComp kx vx [⟨tg, iter, ifs, 0⟩] scope pos) scope X.env (firstIterPos [⟨tg, iter, ifs, 0⟩] pos) newDict false (eval iter X.env) (some (assign (.Name y py) X.env)) >>= fun _ => pure ()) _ _ s
  have h2 : tS X.K X.w W (sDc it g tt tk tv (own.map (·.2))) σ H fun x H1 => gName i x σ H1 D.nx := asg_imp (tg := gName i) (fun v σ H Q ⟨ads, ρ, S, d, rs, re, r, h⟩ => h ads _ H Le.refl rs (re.set i r)) D σ H h
  refine wpAny_bind (thn (cm_core (Qf := fun _ s' => SP X pins D .next s') (ob := fun p => dctO p []) ck_dict hc hN I hi ok (fun s E Q' h' => wpAny_newObj_type h') (fun h' H' hb => dct_empty h' hb) hg ht (fun s1 H1 C cl fp pins2 s2 σ2 H2 p Nx J q => ?_) hs (cm_imp hsl new_dct (gx_dct (X := X)) σ H _ h2) fun p C s' m H' J q hn f => ?_) fun _ s' hq => wpAny_pure (wpAny_pure hq))
  · refine thn ((hk s1 H1 C cl fp).run _ s2 σ2 H2 _ J q) fun ku s3 ⟨y, H3, J3, ry, q3⟩ => thn ((he s1 H1 C cl fp).run _ s3 σ2 H3 _ J3 q3) fun vu s4 ⟨z, H4, J4, rz, ads, S, n, kvs, k, r, rs, ha, e, rk, rr, co, hl, nx⟩ => ?_
    exact dctSet_ok (X := X.blk s1 H1 scope (compEnvC scope cl C X.env) fp) hu J4 rs ha e rk ry rr rz co hl fun s5 H5 J5 le rs5 => ⟨H5, J5, nx H5 le rs5⟩
  · show wpAny _ _ (assign (.Name y py) X.env (.ref p)) _ _ _
    refine wpAny_assign_Name (store_ok2 (v := V.ref p) J hN hy (.inl hyl) rfl (fun t2 J2 ⟨a, sb, ha⟩ => ?_) (.inr hyl))
    obtain ⟨f0, f1, f2, f3, f4, f5⟩ := f
    have ne : C ≠ a := ha.elim (fun z => by rw [z]; exact f1) fun z e => f4 y a z e.symm
    exact ⟨m, hn.sameBut sb ne, fun h3 sb3 => ⟨_, H', J2.turned (t' := t2.toks) (fun b o hb e => (sb3.2 b hb).trans e) f0 f1 f3 f4 f5, q⟩⟩
end

/-! ### {k: v, ..}, keys ints and texts -/
def sPairs : List (SE × SE) → Env → Sto → Out (List (D × D))
  | [], _, S => .ok [] S
  | (k, v) :: r, ρ, S => (k ρ S).bind fun kd S1 => (v ρ S1).bind fun vd S2 => (sPairs r ρ S2).bind fun ps S3 => .ok ((kd, vd) :: ps) S3
def mergeD (kvs : List (D × D)) : List (D × D) → List (D × D)
  | [] => kvs
  | p :: r => mergeD (putD kvs p.1 p.2) r
def sDisp (ps : List (SE × SE)) : SE := fun ρ S => (sPairs ps ρ (S ++ [.dct []])).bind fun kvs S1 => if (kvs.all fun p => decide (kcls p.1 = 1)) = true ∧ kvs.length ≤ 15 ∧ dctW S1 S.length = some [] then .ok (.ref S.length) (S1.set S.length (.dct (mergeD [] kvs))) else .err
inductive RPs (K : PySem.W.Frag) (ads : List Addr) (H : Hp) : List (D × D) → List (V × V) → Prop
  | nil : RPs K ads H [] []
  | cons {k d : D} {kv dv : V} {ds : List (D × D)} {vs : List (V × V)} : RV K ads H k kv → RV K ads H d dv → RPs K ads H ds vs → RPs K ads H ((k, d) :: ds) ((kv, dv) :: vs)
theorem RPs.mono {K : PySem.W.Frag} {ads ads' : List Addr} {H H' : Hp} (le : Le K ads ads' H H') : ∀ {ds : List (D × D)} {vs : List (V × V)}, RPs K ads H ds vs → RPs K ads' H' ds vs
  | _, _, .nil => .nil
  | _, _, .cons r q t => .cons (r.mono le) (q.mono le) (RPs.mono le t)
theorem pairs_imp {K : PySem.W.Frag} {w : World} {W : WX} : ∀ (ps : List (SE × SE)) (ads : List Addr) (ρ : Env) (S : Sto) (σ : L2.St) (H : Hp) (Q : List (V × V) → Hp → Prop), RS K w ads S H → RE K ads ρ σ H → Fn K w W (RPs K) ads σ H Q (sPairs ps ρ S) → tPairs (ps.map fun p => (tS K w W p.1, tS K w W p.2)) σ H Q
  | [], ads, ρ, S, σ, H, Q, rs, re, fin => fin ads [] H Le.refl rs .nil
  | (k, v) :: r, ads, ρ, S, σ, H, Q, rs, re, fin => by
    refine ⟨ads, ρ, S, rs, re, (Fn.bind fin).mono fun ku H1 ⟨kd, S1, ads1, le1, rs1, r1, fin1⟩ => ?_⟩
    refine ⟨ads1, ρ, S1, rs1, re.mono le1, (Fn.bind fin1).mono fun vu H2 ⟨vd, S2, ads2, le2, rs2, r2, fin2⟩ => ?_⟩
    refine pairs_imp r ads2 ρ S2 σ H2 _ rs2 ((re.mono le1).mono le2) ((Fn.bind fin2).mono fun us H3 ⟨ps, S3, ads3, le3, rs3, r3, fin3⟩ => ?_)
    exact fin3 ads3 _ H3 Le.refl rs3 (.cons ((r1.mono le2).mono le3) (r2.mono le3) r3)
section
variable {K : PySem.W.Frag} {ads : List Addr} {H : Hp}
theorem merge_leaf : ∀ {ps : List (D × D)} {rs : List (Key × Value)} {kvs : List (D × D)} {lib : List (Key × Value)}, Paired (TLr K ads H) ps rs → Paired (TLr K ads H) kvs lib → Paired (TLr K ads H) (mergeD kvs ps) (merged lib rs)
  | [], [], _, _, .nil, t => t
  | p :: ps, q :: rs, kvs, lib, .cons h r, t => by
    obtain ⟨e, v, rv, ru⟩ := h
    show Paired (TLr K ads H) (mergeD (putD kvs p.1 p.2) ps) (merged (stored lib q.1 q.2) rs)
    exact merge_leaf r (put_leaf t e rv ru)
theorem merge_len : ∀ (ps kvs : List (D × D)), (mergeD kvs ps).length ≤ kvs.length + ps.length
  | [], kvs => Nat.le_refl _
  | p :: r, kvs => by
    have h1 := merge_len r (putD kvs p.1 p.2)
    have h2 := putD_len kvs p.1 p.2
    show (mergeD (putD kvs p.1 p.2) r).length ≤ _
    rw [List.length_cons]; omega
theorem merge_nodup : ∀ {ps kvs : List (D × D)}, (kvs.map (·.1)).Nodup → ((mergeD kvs ps).map (·.1)).Nodup
  | [], _, h => h
  | p :: ps, kvs, h => by
    show ((mergeD (putD kvs p.1 p.2) ps).map (·.1)).Nodup
    exact merge_nodup (putD_nodup h)
theorem carries_at {X : Cx} : ∀ {ps : List (D × D)} {vs : List (V × V)} {ws : List (Value × Value)}, RPs K ads H ps vs → VV vs ws → (∀ p ∈ ps, kcls p.1 = 1) → ∃ rs, Carries (mixKind X.prog X.w) ws rs ∧ Paired (TLr K ads H) ps rs
  | _, _, _, .nil, r, _ => by cases r; exact ⟨[], True.intro, .nil⟩
  | _, _, _, .cons (k := k) rk rd t, r, hc => by
    cases r with
    | cons b bs =>
      obtain ⟨rs, c, q⟩ := carries_at (X := X) t bs fun p hp => hc p (List.mem_cons_of_mem _ hp)
      obtain ⟨k', e⟩ := kcls_leaf (hc _ List.mem_cons_self)
      exact ⟨(k', _) :: rs, ⟨lk_is (X := X) (P := X.prog) rk b.1 e, rfl, c⟩, .cons ⟨e, _, rd, b.2⟩ q⟩
end
section
variable {X : Cx} {W : WX} {pos : Pos}
theorem se_disp {keys : List (Option Expr)} {values : List Expr} {ps : List (SE × SE)} (h : PPs X pos keys values (ps.map fun p => (tS X.K X.w W p.1, tS X.K X.w W p.2))) (hall : keys.all (·.isSome) = true) (hl : keys.length = values.length) (h0 : keys ≠ [])
    (h15 : keys.length ≤ 15) : PE X (.Dict keys values pos) (tS X.K X.w W (sDisp ps)) := by
  refine ⟨fun pins s σ H Q I ⟨ads, ρ, S, rs, re, fin⟩ => ?_⟩
  have hn := I.hok.fresh (Nat.le_refl s.heap.objs.size)
  have I1 := I.laid (a := s.heap.objs.size) (o := dctO s.heap.objs.size []) (h' := s.heap.push { cls := .type "dict", data := .dict #[] }) (t' := s.toks) (fun _ _ q => Heap.get?_push_of_some _ q) (Nat.le_refl _) (dct_empty s.heap I.big)
  have rs1 := fin_dnew rs hn
  have le1 : Le X.K ads (ads ++ [s.heap.objs.size]) H (upd H s.heap.objs.size (dctO s.heap.objs.size [])) := le_new [_] hn
  have at1 := ads_get rs (p := s.heap.objs.size)
  refine wpAny_Dict_walk (knd := mixKind X.prog X.w) hall hl h0 h15 (thn (h.run pins _ σ _ _ I1 (pairs_imp ps _ ρ _ σ _ _ rs1 (re.mono le1) (Fn.bind (Fn.le le1 fin)))) fun ws s2 ⟨vps, H2, I2, rel, kvs, S2, ads2, le2, rs2, r2, fin2⟩ => ?_)
  split at fin2
  · rename_i c
    obtain ⟨c1, c2, c3⟩ := c
    have c1' : ∀ p ∈ kvs, kcls p.1 = 1 := fun p hp => of_decide_eq_true (List.all_eq_true.mp c1 p hp)
    obtain ⟨lib, cr, tl⟩ := carries_at (X := X) r2 rel c1'
    have at2 := le2.get at1
    obtain ⟨rows, q1, q2, q3⟩ := rs2.sto _ _ _ (dctW_eq c3) at2
    cases q2
    obtain ⟨z, hd, lib0, t0, dd⟩ := dct_leaf (ads := ads2) (kvs := []) I2 (.inl q1) .nil List.nodup_nil (fun _ h => nomatch h)
    cases t0
    refine ⟨lib, cr, dd, fun h' dd' hs => ?_⟩
    have hz : (mergeD [] kvs).length ≤ sizeLine := by
      have := merge_len kvs []
      rw [List.length_nil] at this
      rw [sizeLine_eq]; omega
    obtain ⟨rows', p1, p2⟩ := dw_leaf (t' := s2.toks + ws.length) I2 q1 hz hd (merge_leaf tl .nil) dd' hs
    obtain ⟨le, rs'⟩ := rs2.putD at2 q1 p1 (merge_nodup List.nodup_nil)
    exact ⟨.ref s.heap.objs.size, _, p2, rfl, fin2 ads2 _ _ le rs' (.ref at2)⟩
  · exact fin2.elim
end
end SX
end
section
set_option linter.all false
set_option maxRecDepth 100000
set_option maxHeartbeats 1000000
/-! St13: min, max of data; list(range); own defs and classes. -/
namespace SX
open PySem PySem.Spec PyProof.Rows L2 PySem.W

/-! ### min, max of data without lists -/
mutual
theorem pyT_inj : ∀ (p : PyData) (a b : D), pyT a = some p → pyT b = some p → a = b
  | .none, a, b, ha, hb => by
    have f : ∀ d : D, pyT d = some .none → d = .non := fun d h => by cases d <;> simp [pyT] at h ⊢
    rw [f a ha, f b hb]
  | .bool x, a, b, ha, hb => by
    have f : ∀ d : D, pyT d = some (.bool x) → d = .bl x := fun d h => by cases d <;> simp [pyT] at h ⊢ <;> exact h
    rw [f a ha, f b hb]
  | .int x, a, b, ha, hb => by
    have f : ∀ d : D, pyT d = some (.int x) → d = .int x := fun d h => by cases d <;> simp [pyT] at h ⊢ <;> exact h
    rw [f a ha, f b hb]
  | .str x, a, b, ha, hb => by
    have f : ∀ d : D, pyT d = some (.str x) → d = .str x := fun d h => by cases d <;> simp [pyT] at h ⊢ <;> exact h
    rw [f a ha, f b hb]
  | .tuple ps, a, b, ha, hb => by
    have f : ∀ d : D, pyT d = some (.tuple ps) → ∃ ds, d = .tup ds ∧ pyTs ds = some ps := fun d h => by cases d <;> simp [pyT] at h ⊢ <;> exact h
    obtain ⟨as, rfl, h1⟩ := f a ha
    obtain ⟨bs, rfl, h2⟩ := f b hb
    rw [pyTs_inj ps as bs h1 h2]
  | .list _, a, b, ha, _ => by cases a <;> simp [pyT] at ha
  | .dict _, a, b, ha, _ => by cases a <;> simp [pyT] at ha
theorem pyTs_inj : ∀ (ps : List PyData) (as bs : List D), pyTs as = some ps → pyTs bs = some ps → as = bs
  | [], as, bs, ha, hb => by
    have f : ∀ ds : List D, pyTs ds = some [] → ds = [] := fun ds h => by
      cases ds with
      | nil => rfl
      | cons d ds =>
        simp only [pyTs] at h
        split at h <;> cases h
    rw [f as ha, f bs hb]
  | p :: ps, as, bs, ha, hb => by
    have f : ∀ ds : List D, pyTs ds = some (p :: ps) → ∃ d r, ds = d :: r ∧ pyT d = some p ∧ pyTs r = some ps := fun ds h => by
      cases ds with
      | nil => simp [pyTs] at h
      | cons d ds =>
        simp only [pyTs] at h
        split at h
        · rename_i e1 e2; cases h; exact ⟨d, ds, rfl, e1, e2⟩
        · cases h
    obtain ⟨a, ra, rfl, a1, a2⟩ := f as ha
    obtain ⟨b, rb, rfl, b1, b2⟩ := f bs hb
    rw [pyT_inj p a b a1 b1, pyTs_inj ps ra rb a2 b2]
end
def encT (d : D) : PyData := (pyT d).getD .none
def minDD (x : D) (xs : List D) : D := xs.foldl (fun a y => if PySem.W.dataLt (encT y) (encT a) then y else a) x
def maxDD (x : D) (xs : List D) : D := xs.foldl (fun a y => if PySem.W.dataLt (encT a) (encT y) then y else a) x
theorem minDD_enc : ∀ (xs : List D) (x : D), encT (minDD x xs) = PySem.W.minD (encT x) (xs.map encT)
  | [], x => rfl
  | y :: xs, x => by
    show encT (minDD (if PySem.W.dataLt (encT y) (encT x) then y else x) xs) = PySem.W.minD (if PySem.W.dataLt (encT y) (encT x) then encT y else encT x) (xs.map encT)
    rw [minDD_enc xs]
    congr 1
    split <;> rfl
theorem maxDD_enc : ∀ (xs : List D) (x : D), encT (maxDD x xs) = PySem.W.maxD (encT x) (xs.map encT)
  | [], x => rfl
  | y :: xs, x => by
    show encT (maxDD (if PySem.W.dataLt (encT x) (encT y) then y else x) xs) = PySem.W.maxD (if PySem.W.dataLt (encT x) (encT y) then encT y else encT x) (xs.map encT)
    rw [maxDD_enc xs]
    congr 1
    split <;> rfl
theorem minDD_mem : ∀ (xs : List D) (x : D), minDD x xs ∈ x :: xs
  | [], x => List.mem_cons_self
  | y :: xs, x => by
    have h := minDD_mem xs (if PySem.W.dataLt (encT y) (encT x) then y else x)
    show minDD (if PySem.W.dataLt (encT y) (encT x) then y else x) xs ∈ _
    rcases List.mem_cons.mp h with e | e
    · rw [e]; split
      · exact List.mem_cons_of_mem _ List.mem_cons_self
      · exact List.mem_cons_self
    · exact List.mem_cons_of_mem _ (List.mem_cons_of_mem _ e)
theorem maxDD_mem : ∀ (xs : List D) (x : D), maxDD x xs ∈ x :: xs
  | [], x => List.mem_cons_self
  | y :: xs, x => by
    have h := maxDD_mem xs (if PySem.W.dataLt (encT x) (encT y) then y else x)
    show maxDD (if PySem.W.dataLt (encT x) (encT y) then y else x) xs ∈ _
    rcases List.mem_cons.mp h with e | e
    · rw [e]; split
      · exact List.mem_cons_of_mem _ List.mem_cons_self
      · exact List.mem_cons_self
    · exact List.mem_cons_of_mem _ (List.mem_cons_of_mem _ e)
def mmOk (ds : List D) : Bool := (ds.all fun d => (pyT d).isSome && decide (d ≠ .non) && decide ((encT d).depth ≤ 32)) && (ds.all fun d => ds.all fun e => PySem.W.alike (encT d) (encT e))
theorem mmOk_of {ds : List D} (h : mmOk ds = true) : (∀ d ∈ ds, pyT d = some (encT d) ∧ d ≠ .non ∧ (encT d).depth ≤ 32) ∧ AlikeAll (ds.map encT) := by
  unfold mmOk at h
  rw [Bool.and_eq_true, List.all_eq_true, List.all_eq_true] at h
  have h1 : ∀ d ∈ ds, pyT d = some (encT d) ∧ d ≠ .non ∧ (encT d).depth ≤ 32 := fun d hd => by
    have := h.1 d hd
    rw [Bool.and_eq_true, Bool.and_eq_true] at this
    obtain ⟨p, hp⟩ := Option.isSome_iff_exists.mp this.1.1
    exact ⟨by unfold encT; rw [hp]; rfl, of_decide_eq_true this.1.2, of_decide_eq_true this.2⟩
  refine ⟨h1, fun x hx y hy => ?_, fun x hx e => ?_⟩
  · obtain ⟨d, hd, rfl⟩ := List.mem_map.mp hx
    obtain ⟨e, he, rfl⟩ := List.mem_map.mp hy
    exact List.all_eq_true.mp (h.2 d hd) e he
  · obtain ⟨d, hd, rfl⟩ := List.mem_map.mp hx
    obtain ⟨e1, e2, _⟩ := h1 d hd
    rw [e] at e1
    exact e2 (pyT_inj .none d .non e1 (by simp [pyT]))
theorem depth_all {ds : List D} (h : ∀ d ∈ ds, (encT d).depth ≤ 32) : PyData.depthAll (ds.map encT) ≤ 32 := by
  induction ds with
  | nil => simp [PyData.depthAll]
  | cons d ds ih =>
    rw [List.map_cons, PyData.depthAll]
    exact Nat.max_le.mpr ⟨h d List.mem_cons_self, ih fun x hx => h x (List.mem_cons_of_mem _ hx)⟩
section
variable {X : Cx} {pins : List (Addr × Obj)} {σ : L2.St} {H : Hp} {s : Shared} {ads : List Addr} {S : Sto}
theorem readsT (I : Inv X pins σ H s) : ∀ {ds : List D} {xs : List V} {us : List Value}, RVs X.K ads H ds xs → Vals xs us → (∀ d ∈ ds, pyT d = some (encT d)) → ∃ as, ReadsAll s.heap us (ds.map encT) as
  | ds, xs, us, r, rv, h => by
    have : DpAll X.K H xs (ds.map encT) := by
      have e : pyTs ds = some (ds.map encT) := by
        clear r rv
        induction ds with
        | nil => rfl
        | cons d ds ih => rw [pyTs, h d List.mem_cons_self, ih fun x hx => h x (List.mem_cons_of_mem _ hx)]; rfl
      exact pyTs_dp r e
    exact Dp.readsAll I _ xs us this rv
/-- the item that reads as the data of d is d -/
theorem pick_is (I : Inv X pins σ H s) {ds : List D} {xs : List V} {us : List Value} {i : Nat} {v : Value} {d : D} {bs : List Addr} {h' : Heap} (r : RVs X.K ads H ds xs) (rv : Vals xs us) (h : ∀ d ∈ ds, pyT d = some (encT d)) (hal : ∀ x ∈ ds, ∀ y ∈ ds, PySem.W.alike (encT x) (encT y) = true) (hd : d ∈ ds)
    (hi : us[i]? = some v) (hr : Reads h' v (encT d) bs) (kp : ∀ b o, s.heap.get? b = some o → h'.get? b = some o) : ∃ x, RV X.K ads H d x ∧ RelV x v := by
  have hx : ∃ x, xs[i]? = some x ∧ RelV x v := by
    have hl : i < xs.length := by rw [rv.length]; exact (List.getElem?_eq_some_iff.mp hi).1
    obtain ⟨u, e1, e2⟩ := rv.get (List.getElem?_eq_getElem hl)
    rw [hi] at e1; cases e1
    exact ⟨_, List.getElem?_eq_getElem hl, e2⟩
  obtain ⟨x, e1, e2⟩ := hx
  obtain ⟨d', e3, r'⟩ := r.get' e1
  have hm := List.mem_of_getElem? e3
  obtain ⟨as, rd⟩ := Dp.reads I (encT d') x v (pyT_dp r' (h d' hm)) e2
  have ee := PySem.W.alike_unique _ _ _ _ _ (hal d' hm d hd) (PyProof.Rows.Reads.keeps kp rd) hr
  have : d' = d := pyT_inj (encT d') d' d (h d' hm) (by rw [ee]; exact h d hd)
  rw [← this]
  exact ⟨x, r', e2⟩
def rMM (K : PySem.W.Frag) (w : World) (mm : D → List D → D) : List V → Hp → VK → Prop := fun us H Q => ∃ ads S n d ds u, us = [u] ∧ RS K w ads S H ∧ RV K ads H (.ref n) u ∧ lstAt S n = some (d :: ds) ∧ mmOk (d :: ds) = true ∧ ∀ v, RV K ads H (mm d ds) v → Q v H
theorem mm_core {mm : D → List D → D} {pm : PyData → List PyData → PyData} (he : ∀ xs x, encT (mm x xs) = pm (encT x) (xs.map encT)) (hmem : ∀ xs x, mm x xs ∈ x :: xs) {us : List V} {ws : List Value} {Q : VK} (hu : X.A.units + 65 < cLine) (I : Inv X pins σ H s) (r : Vals us ws) (h : rMM X.K X.w mm us H Q) :
    ∃ (a : Addr) (its : List Value) (x : PyData) (xs : List PyData) (as : List Addr), ws = [.ref a] ∧ s.heap.IsList a its.toArray ∧ ReadsAll s.heap its.toArray.toList (x :: xs) as ∧ AlikeAll (x :: xs) ∧ X.A.units + 1 + PyData.depthAll (x :: xs) < cLine ∧
      ∀ (i : Nat) v h' tk bs, its.toArray[i]? = some v → Reads h' v (pm x xs) bs → (∀ b o, s.heap.get? b = some o → h'.get? b = some o) → EP X pins σ Q v { s with heap := h', toks := tk } := by
  obtain ⟨ads, S, n, d, ds, u, rfl, rs, rx, el, ok, q⟩ := h
  cases rx with
  | @ref _ a ha =>
    obtain ⟨vs, q1, q2⟩ := rs.sto n _ a (lstAt_eq el) ha
    obtain ⟨its, rv, pl, _⟩ := I.list (SqL.of q1)
    obtain ⟨k1, k2⟩ := mmOk_of ok
    obtain ⟨as, ra⟩ := readsT I q2 rv fun x hx => (k1 x hx).1
    refine ⟨a, its, encT d, ds.map encT, as, Vals.ref1 r, pl.isList, by rw [List.map_cons] at ra; simpa using ra, by rw [List.map_cons] at k2; exact k2, ?_, fun i v h' tk bs hi hr kp => ?_⟩
    · have := depth_all fun x hx => (k1 x hx).2.2
      rw [List.map_cons] at this
      omega
    · rw [← he] at hr
      obtain ⟨x, r1, r2⟩ := pick_is I q2 rv (fun x hx => (k1 x hx).1) (fun x hx y hy => k2.1 _ (List.mem_map.mpr ⟨x, hx, rfl⟩) _ (List.mem_map.mpr ⟨y, hy, rfl⟩)) (hmem ds d) (by simpa using hi) hr kp
      exact ⟨x, H, I.kept (t' := tk) kp, r2, q x r1⟩
theorem call_minX (hc : X.calm = true) (hu : X.A.units + 65 < cLine) : CallR X (.builtin "min") (rMM X.K X.w minDD) := by
  intro pins s σ H us ws Q I r h
  obtain ⟨a, its, x, xs, as, e, hl, ra, al, hu', fin⟩ := mm_core minDD_enc minDD_mem hu I r h
  rw [e]
  exact min_list_data (I.ok.hd hc) hl ra al hu' fin
theorem call_maxX (hc : X.calm = true) (hu : X.A.units + 65 < cLine) : CallR X (.builtin "max") (rMM X.K X.w maxDD) := by
  intro pins s σ H us ws Q I r h
  obtain ⟨a, its, x, xs, as, e, hl, ra, al, hu', fin⟩ := mm_core maxDD_enc maxDD_mem hu I r h
  rw [e]
  exact max_list_data (I.ok.hd hc) hl ra al hu' fin
def gMM (mm : D → List D → D) : List D → Sto → Out D
  | [.ref n], S => match lstAt S n with
    | some (d :: ds) => if mmOk (d :: ds) = true then .ok (mm d ds) S else .err
    | _ => .err
  | _, _ => .err
theorem gc_mm {K : PySem.W.Frag} {w : World} {mm : D → List D → D} : GCall K w (rMM K w mm) (gMM mm) := by
  intro W ads σ S H xs us Q rs rx fin
  unfold gMM at fin
  split at fin
  · split at fin
    · rename_i d ds e
      split at fin
      · rename_i ok
        cases rx with
        | cons r r0 =>
          cases r0
          exact ⟨ads, S, _, d, ds, _, rfl, rs, r, e, ok, fun v rv => fin ads _ H Le.refl rs rv⟩
      · exact fin.elim
    · exact fin.elim
  · exact fin.elim
/-- max(xs, default=z) -/
def rMaxDf (K : PySem.W.Frag) (w : World) : List V → List V → Hp → VK → Prop := fun us zs H Q => (rMM K w maxDD us H Q ∧ zs.length = 1) ∨ ∃ ads S n u z, us = [u] ∧ zs = [z] ∧ RS K w ads S H ∧ RV K ads H (.ref n) u ∧ lstAt S n = some [] ∧ Q z H
theorem call_maxDf (hc : X.calm = true) (hu : X.A.units + 65 < cLine) : CallRK X (.builtin "max") [Str.ofString "default"] (rMaxDf X.K X.w) := by
  intro pins s σ H us zs ws yws Q I r rz h
  rcases h with ⟨h, hz⟩ | ⟨ads, S, n, u, z, rfl, rfl, rs, rx, el, q⟩
  · obtain ⟨a, its, x, xs, as, e, hl, ra, al, hu', fin⟩ := mm_core maxDD_enc maxDD_mem hu I r h
    rw [e]
    obtain ⟨y, rfl⟩ : ∃ y, yws = [y] := by
      have := rz.length
      rw [hz] at this
      match yws, this with
      | [y], _ => exact ⟨y, rfl⟩
    exact max_list_default (I.ok.hd hc) hl ra al hu' (fun e => nomatch e) fun y ys i v h' tk bs e hi hr kp => by cases e; exact fin i v h' tk bs hi hr kp
  · cases rx with
    | @ref _ a ha =>
      obtain ⟨vs, q1, q2⟩ := rs.sto n _ a (lstAt_eq el) ha
      cases q2
      obtain ⟨its, rv, pl, _⟩ := I.list (SqL.of q1)
      cases rv
      rw [Vals.ref1 r]
      obtain ⟨y, rfl, ry⟩ := vals1 rz
      exact max_list_default (xs := []) (as := []) (I.ok.hd hc) pl.isList .nil ⟨fun _ h => (nomatch h), fun _ h => (nomatch h)⟩ (by simp [PyData.depthAll]; omega) (fun _ h' tk kp => ⟨z, H, I.kept kp, ry, q⟩) fun y ys i v h' tk bs e => nomatch e
end
end SX
end
section
set_option linter.all false
set_option maxRecDepth 100000
set_option maxHeartbeats 1000000
/-! St14: list(range), type names; own defs and classes. -/
namespace SX
open PySem PySem.Spec PyProof.Rows L2

/-! ### names of types -/
section
variable {X : Cx} {W : WX} {pos : Pos}
theorem se_ty {x : PySem.Str} {T : String} (hg : Gl X x) (hm : X.mg x = none) (hv : bootBuiltins x = some (.type T)) (hn : x ≠ "__name__" := by decide) (hd : (x == ("__debug__" : PySem.Str)) = false := by decide) : PE X (.Name x pos) (tS X.K X.w W (sC (.ty T))) := se_c (pe_bltn (v := .ty T) hg hm hv rfl hn hd) fun _ _ => .ty T

/-! ### list(range(..)) -/
variable {e : Expr} {a b : Expr} {fa fb : SE} {p p2 pos2 : Pos}
def rgD (i j : Int) : List D := (List.range (j - i).toNat).map fun n => .int (i + (n : Nat))
theorem rgD_rv {K : PySem.W.Frag} {ads : List Addr} {H : Hp} (i j : Int) : RVs K ads H (rgD i j) (rgV i j) := by
  unfold rgD rgV
  generalize List.range (j - i).toNat = l
  induction l with
  | nil => exact .nil
  | cons n l ih => exact .cons (.int _) ih
def okRg (i j : Int) : Bool := decide (-(2 ^ 62) ≤ i ∧ i < 2 ^ 62 ∧ -(2 ^ 62) ≤ j ∧ j < 2 ^ 62 ∧ (j - i).toNat ≤ 2 ^ 24)
def sLrg1 (f : SE) : SE := fun ρ S => (f ρ S).bind fun x S1 => match x with
  | .int j => if okRg 0 j = true then .ok (.ref S1.length) (S1 ++ [.lst (rgD 0 j)]) else .err
  | _ => .err
def sLrg2 (f g : SE) : SE := fun ρ S => (f ρ S).bind fun x S1 => (g ρ S1).bind fun y S2 => match x, y with
  | .int i, .int j => if okRg i j = true then .ok (.ref S2.length) (S2 ++ [.lst (rgD i j)]) else .err
  | _, _ => .err
theorem se_lrg1 (hc : X.calm = true) (hg : Gl X "list") (hm : X.mg "list" = none) (hg2 : Gl X "range") (hm2 : X.mg "range" = none) (ha : PE X a (tS X.K X.w W fa)) (na : starEach [a] X.env = (false, eval a X.env) :: starEach [] X.env := by rfl) :
    PE X (.Call (.Name "list" p) [.Call (.Name "range" p2) [a] [] pos2] [] pos) (tS X.K X.w W (sLrg1 fa)) :=
  PE.imp (pe_listRg hc hg hm (prg_1 hg2 hm2 ha na) (by rfl)) fun σ H Q ⟨ads, ρ, S, rs, re, fin⟩ => ⟨ads, ρ, S, rs, re, (Fn.bind fin).mono fun u H1 ⟨x, S1, ads1, le1, rs1, r1, fin1⟩ => by
    cases r1 with
    | int j =>
      simp only at fin1
      split at fin1
      · rename_i ok
        exact ⟨j, rfl, of_decide_eq_true (p := -(2 ^ 62) ≤ (0 : Int) ∧ (0 : Int) < 2 ^ 62 ∧ -(2 ^ 62) ≤ j ∧ j < 2 ^ 62 ∧ (j - 0).toNat ≤ 2 ^ 24) ok, fin_lst rs1 (rgD_rv 0 j) fin1⟩
      · exact fin1.elim
    | _ => exact fin1.elim⟩
theorem se_lrg2 (hc : X.calm = true) (hg : Gl X "list") (hm : X.mg "list" = none) (hg2 : Gl X "range") (hm2 : X.mg "range" = none) (ha : PE X a (tS X.K X.w W fa)) (hb : PE X b (tS X.K X.w W fb)) (na : starEach [a, b] X.env = (false, eval a X.env) :: starEach [b] X.env := by rfl)
    (nb : starEach [b] X.env = (false, eval b X.env) :: starEach [] X.env := by rfl) (hp : (backTo pos2 (starEach [b] X.env)).any (·.1) = false := by rfl) :
    PE X (.Call (.Name "list" p) [.Call (.Name "range" p2) [a, b] [] pos2] [] pos) (tS X.K X.w W (sLrg2 fa fb)) :=
  PE.imp (pe_listRg hc hg hm (prg_2 hg2 hm2 ha hb na nb hp) (by rfl)) fun σ H Q ⟨ads, ρ, S, rs, re, fin⟩ => ⟨ads, ρ, S, rs, re, (Fn.bind fin).mono fun u H1 ⟨x, S1, ads1, le1, rs1, r1, fin1⟩ => ⟨ads1, ρ, S1, rs1, re.mono le1, (Fn.bind fin1).mono fun v H2 ⟨y, S2, ads2, le2, rs2, r2, fin2⟩ => by
    cases r1 with
    | int i =>
      cases r2 with
      | int j =>
        simp only at fin2
        split at fin2
        · rename_i ok
          exact ⟨i, j, rfl, rfl, of_decide_eq_true (p := -(2 ^ 62) ≤ i ∧ i < 2 ^ 62 ∧ -(2 ^ 62) ≤ j ∧ j < 2 ^ 62 ∧ (j - i).toNat ≤ 2 ^ 24) ok, fin_lst rs2 (rgD_rv i j) fin2⟩
        · exact fin2.elim
      | _ => exact fin2.elim
    | _ => exact fin2.elim⟩⟩
/-- max(xs, default=z) -/
def sMaxDf (f g : SE) : SE := fun ρ S => (f ρ S).bind fun x S1 => (g ρ S1).bind fun z S2 => match x with
  | .ref n => match lstAt S2 n with
    | some [] => .ok z S2
    | some (d :: ds) => if mmOk (d :: ds) = true then .ok (maxDD d ds) S2 else .err
    | none => .err
  | _ => .err
theorem se_maxDf {kpos : Pos} (hc : X.calm = true) (hu : X.A.units + 65 < cLine) (hg : Gl X "max") (hm : X.mg "max" = none) (hv : bootBuiltins "max" = some (.builtin "max")) (ha : PE X a (tS X.K X.w W fa)) (hb : PE X b (tS X.K X.w W fb)) (na : starEach [a] X.env = (false, eval a X.env) :: starEach [] X.env := by rfl)
    (he : backTo pos (starEach [a] X.env) = (false, eval a X.env) :: backTo pos (starEach [] X.env) := by rfl) (hpl : (backTo pos (starEach [a] X.env)).any (·.1) = false := by rfl)
    (hall : (backToKw pos (keywordEach [⟨some "default", b, kpos⟩] X.env)).all (·.1.isSome) = true := by rfl) (hnone : (backToKw pos (keywordEach [⟨some "default", b, kpos⟩] X.env)).any (·.1.isNone) = false := by rfl) (hks : (backToKw pos (keywordEach [⟨some "default", b, kpos⟩] X.env)).filterMap (·.1) = [Str.ofString "default"] := by rfl) :
    PE X (.Call (.Name "max" p) [a] [⟨some "default", b, kpos⟩] pos) (tS X.K X.w W (sMaxDf fa fb)) :=
  PE.imp (pe_callBK (call_maxDf hc hu) hg hm hv (pa_cons ha pa_nil na) (pk_cons hb pk_nil) (by decide) (by decide) he hpl hall hnone hks) fun σ H Q ⟨ads, ρ, S, rs, re, fin⟩ => ⟨ads, ρ, S, rs, re, (Fn.bind fin).mono fun u H1 ⟨x, S1, ads1, le1, rs1, r1, fin1⟩ => ⟨ads1, ρ, S1, rs1, re.mono le1, (Fn.bind fin1).mono fun v H2 ⟨y, S2, ads2, le2, rs2, r2, fin2⟩ => by
    split at fin2
    · split at fin2
      · rename_i e
        exact .inr ⟨ads2, S2, _, u, v, rfl, rfl, rs2, r1.mono le2, e, fin2 ads2 _ H2 Le.refl rs2 r2⟩
      · rename_i d ds e
        split at fin2
        · rename_i ok
          exact .inl ⟨⟨ads2, S2, _, d, ds, u, rfl, rs2, r1.mono le2, e, ok, fun v rv => fin2 ads2 _ H2 Le.refl rs2 rv⟩, rfl⟩
        · exact fin2.elim
      · exact fin2.elim
    · exact fin2.elim⟩⟩
end

/-! ### own defs -/
def Out.noX {α : Type} (o : Out α) : Out α := match o with
  | .ok a S => .ok a S
  | _ => .err
def startE (n : Nat) (ds : List D) : Env := ds.map some ++ List.replicate (n - ds.length) none
/-- what a body answers -/
def runB (n : Nat) (f : SS) : List D → Sto → Out D := fun ds S => match f (startE n ds) S with
  | .nx _ S' => .ok .non S'
  | .rt d S' => .ok d S'
  | _ => .err
abbrev WF : WX := fun _ _ _ _ => False
/-- the promise of a def that raises nothing -/
def spF (K : PySem.W.Frag) (w : World) (n : Nat) (F : List D → Sto → Out D) : Sp := fun vs H Q _ => vs.length = n ∧ ∃ ads S ds, RS K w ads S H ∧ RVs K ads H ds vs ∧ Fn K w WF (RV K) ads [] H Q (F ds S)
theorem start_re {K : PySem.W.Frag} {ads : List Addr} {H : Hp} {ds : List D} {vs : List V} (N : List PySem.Str) (r : RVs K ads H ds vs) : RE K ads (startE N.length ds) (L2.start N vs) H := by
  refine ⟨by simp [startE, L2.start, r.length], fun i d h => ?_⟩
  unfold startE at h
  by_cases c : i < ds.length
  · rw [List.getElem?_append_left (by simpa using c), List.getElem?_map] at h
    obtain ⟨e, he, e2⟩ := Option.map_eq_some_iff.mp h
    cases e2
    obtain ⟨v, hv, rv⟩ := r.get he
    refine ⟨v, ?_, rv⟩
    unfold L2.start
    rw [List.getElem?_append_left (by rw [List.length_map, ← r.length]; exact c), List.getElem?_map, hv]
    rfl
  · rw [List.getElem?_append_right (by simpa using Nat.le_of_not_lt c)] at h
    have := List.mem_of_getElem? h
    rw [List.mem_replicate] at this
    exact nomatch this.2
/-- a def of the text, with what it computes -/
structure Df (P : Program) (w : World) (K : PySem.W.Frag) (mg : PySem.Str → Option Value) (base : Heap) (k : Nat) (f : Addr) (ps : List PySem.Str) (F : List D → Sto → Out D) : Prop where
  ex : ∃ fd, FnOk P w K mg base CX0 k f fd ps (spF K w ps.length F) ∧ Binds K fd ps []
  kp : PySem.W.keepIn K (.ref f) = true
section
variable {P : Program} {w : World} {K : PySem.W.Frag} {mg : PySem.Str → Option Value} {base : Heap}
theorem df_of {x qual : PySem.Str} {params : Arguments} {body : List Stmt} {scope : Scope} {f : Addr} {fd : FuncData} {N ps : List PySem.Str} {k : Nat} {b : SS} (F : FunD K x qual params body scope [] [] f fd) (sc : FnScope N ps scope)
    (hb : ∀ (kV doc pm : Value) (an : Option Addr) (cdv ct : Value) (us : List Value), us.length = ps.length → bindArgs (PySem.W.fnOf x qual params body scope .none kV doc pm an cdv ct) ⟨us, []⟩ = pure (ps.zip us))
    (h : ∀ (cdv : Value) (A : Around) (outer : List PySem.Env) (s : Shared) (H : Hp) (E : XK), Room k (A.deeper (envOfC qual scope s.heap.objs.size f cdv)) → PSs (cxOf CX0 P w K mg base N qual scope f cdv A outer s H E).nox body (tSt K w WF b)) :
    Df P w K mg base (k + 1) f ps (runB N.length b) := by
  refine ⟨⟨fd, F.ok sc (fun vs H Q E h => h.1) (fun cdv A outer s H vs Q E hr hsp => ⟨tSt K w WF b, PSs.nox (h cdv A outer s H E hr), ?_⟩), FunD.bindsN F hb⟩, F.kp⟩
  obtain ⟨_, ads, S, ds, rs, r, fin⟩ := hsp
  refine ⟨ads, startE N.length ds, S, rs, start_re N r, ?_⟩
  unfold runB at fin
  split at fin
  · rename_i ρ' S' e
    rw [e]
    exact fun ads' σ' H' le rs' re' => fin ads' _ H' le rs' .non
  · rename_i d S' e
    rw [e]
    exact fun ads' v H' le rs' rv => fin ads' v H' le rs' rv
  · exact fin.elim
end
section
variable {X : Cx} {W : WX} {pos p : Pos} {x : PySem.Str} {e : Expr} {es : List Expr} {gs : SA} {k : Nat} {f C : Addr} {ps : List PySem.Str} {F : List D → Sto → Out D}
/-- x(..), x a def -/
def sCallF (n : Nat) (F : List D → Sto → Out D) (gs : SA) : SE := fun ρ S => (gs ρ S).bind fun xs S1 => if xs.length = n then (F xs S1).noX else .err
theorem callF_imp {K : PySem.W.Frag} {w : World} {n : Nat} (σ : L2.St) (H : Hp) (Q : VK) (h : tS K w W (sCallF n F gs) σ H Q) : tCall (spF K w n F) [] E0 (tA K w W gs) σ H Q := by
  obtain ⟨ads, ρ, S, rs, re, fin⟩ := h
  refine ⟨ads, ρ, S, rs, re, (Fn.bind fin).mono fun us H1 ⟨xs, S1, ads1, le1, rs1, r1, fin1⟩ => ?_⟩
  split at fin1
  · rename_i hl
    refine ⟨by rw [List.append_nil, ← r1.length]; exact hl, ads1, S1, xs, rs1, by rw [List.append_nil]; exact r1, ?_⟩
    cases e : F xs S1 with
    | ok d S2 => rw [e] at fin1; exact fun ads2 v H2 le rs2 rv => fin1 ads2 v H2 le rs2 rv
    | exc _ _ => rw [e] at fin1; exact fin1.elim
    | err => rw [e] at fin1; exact fin1.elim
  · exact fin1.elim
theorem se_call (Df_ : Df X.prog X.w X.K X.mg X.base k f ps F) (hr : Room k X.A) (hg : Gl X x) (hm : X.mg x = some (.ref f)) (ha : PA X (e :: es) (tA X.K X.w W gs)) (hdb : (x == ("__debug__" : PySem.Str)) = false := by decide) (he : starEach (e :: es) X.env = (false, eval e X.env) :: starEach es X.env := by rfl) (hpl : (backTo pos (starEach es X.env)).any (·.1) = false := by rfl) :
    PE X (.Call (.Name x p) (e :: es) [] pos) (tS X.K X.w W (sCallF ps.length F gs)) := by
  obtain ⟨fd, F', b⟩ := Df_.ex
  exact PE.imp (pe_call F' hr hg hm Df_.kp b .nil pass0 ha hdb he hpl) callF_imp
theorem se_call0 (Df_ : Df X.prog X.w X.K X.mg X.base k f ps F) (hr : Room k X.A) (hg : Gl X x) (hm : X.mg x = some (.ref f)) (hdb : (x == ("__debug__" : PySem.Str)) = false := by decide) : PE X (.Call (.Name x p) [] [] pos) (tS X.K X.w W (sCallF ps.length F sNil)) := by
  obtain ⟨fd, F', b⟩ := Df_.ex
  exact PE.imp (pe_call0 F' hr hg hm Df_.kp b .nil pass0 hdb) fun σ H Q ⟨ads, ρ, S, rs, re, fin⟩ => by
    have h2 : Fn X.K X.w W (RV X.K) ads σ H Q (if ([] : List D).length = ps.length then (F [] S).noX else .err) := fin
    split at h2
    · rename_i hl
      refine ⟨hl, ads, S, [], rs, .nil, ?_⟩
      cases e : F [] S with
      | ok d S2 => rw [e] at h2; exact fun ads2 v H2 le rs2 rv => h2 ads2 v H2 le rs2 rv
      | exc _ _ => rw [e] at h2; exact h2.elim
      | err => rw [e] at h2; exact h2.elim
    · exact h2.elim
/-! ### own classes -/
/-- C(..) -/
def sMake (C : Addr) (n : Nat) (F : List D → Sto → Out D) (gs : SA) : SE := fun ρ S => (gs ρ S).bind fun xs S1 => if xs.length + 1 = n then (match F (.ref S1.length :: xs) (S1 ++ [.ins C []]) with
  | .ok .non S2 => .ok (.ref S1.length) S2
  | _ => .err) else .err
theorem se_make (M : Mk X.K C f) (Df_ : Df X.prog X.w X.K X.mg X.base k f ps F) (hr : Room (k + 1) X.A) (hg : Gl X x) (hm : X.mg x = some (.ref C)) (ha : PA X (e :: es) (tA X.K X.w W gs)) (hdb : (x == ("__debug__" : PySem.Str)) = false := by decide) (he : starEach (e :: es) X.env = (false, eval e X.env) :: starEach es X.env := by rfl) (hpl : (backTo pos (starEach es X.env)).any (·.1) = false := by rfl) :
    PE X (.Call (.Name x p) (e :: es) [] pos) (tS X.K X.w W (sMake C ps.length F gs)) := by
  obtain ⟨fd, F', b⟩ := Df_.ex
  refine PE.imp (pe_make M F' hr hg hm b .nil pass0 ha hdb he hpl) fun σ H Q ⟨ads, ρ, S, rs, re, fin⟩ => ⟨ads, ρ, S, rs, re, (Fn.bind fin).mono fun us H1 ⟨xs, S1, ads1, le1, rs1, r1, fin1⟩ => ?_⟩
  intro q dx hq hdx ne
  split at fin1
  · rename_i hl
    have hq2 : upd H1 dx (.own q) q = none := by rw [upd_ne (Ne.symm ne)]; exact hq
    have rs2 := rs1.beside (o := .own q) hdx
    have le2 : Le X.K ads1 ads1 H1 (upd H1 dx (.own q)) := ⟨⟨[], by simp⟩, fun _ _ => tups_new hdx, fun _ _ => rls_new hdx⟩
    have rs3 := rs2.new (o := .ins C dx []) (so := .ins C []) hq2 ⟨dx, [], upd_same, .nil⟩
    have le3 : Le X.K ads1 (ads1 ++ [q]) H1 (upd (upd H1 dx (.own q)) q (.ins C dx [])) := le2.trans (le_new [q] hq2)
    have at3 := ads_get rs1 (p := q)
    refine ⟨by rw [List.append_nil, List.length_cons, ← r1.length]; exact hl, ads1 ++ [q], _, _, rs3, .cons (.ref at3) (by rw [List.append_nil]; exact r1.mono le3), ?_⟩
    have fin3 := Fn.le le3 fin1
    split at fin3
    · rename_i S2 e
      rw [e]
      intro ads4 v H4 le4 rs4 rv
      cases rv
      exact ⟨rfl, fin3 ads4 _ H4 le4 rs4 (.ref (le4.get at3))⟩
    · exact fin3.elim
  · exact fin1.elim
/-- o.f -/
def sFldD (C : Addr) (f : PySem.Str) (fo : SE) : SE := fun ρ S => (fo ρ S).bind fun x S1 => match x with
  | .ref n => match S1[n]? with
    | some (.ins C' fs) => if C' = C then (match fs.lookup f with
      | some d => .ok d S1
      | none => .err) else .err
    | _ => .err
  | _ => .err
theorem RFs.look {K : PySem.W.Frag} {ads : List Addr} {H : Hp} {g : PySem.Str} {d : D} : ∀ {fs : List (PySem.Str × D)} {vs : List (PySem.Str × V)}, RFs K ads H fs vs → fs.lookup g = some d → ∃ v, vs.lookup g = some v ∧ RV K ads H d v
  | _, _, .nil, h => by cases h
  | _, _, .cons (f := f) r rs, h => by
    rw [List.lookup_cons] at h ⊢
    split at h
    · cases h
      exact ⟨_, rfl, r⟩
    · exact RFs.look rs h
def putFD (f : PySem.Str) (v : D) : List (PySem.Str × D) → List (PySem.Str × D)
  | [] => [(f, v)]
  | (g, x) :: r => if g = f then (g, v) :: r else (g, x) :: putFD f v r
theorem RFs.put {K : PySem.W.Frag} {ads : List Addr} {H : Hp} {g : PySem.Str} {d : D} {v : V} (rv : RV K ads H d v) : ∀ {fs : List (PySem.Str × D)} {vs : List (PySem.Str × V)}, RFs K ads H fs vs → RFs K ads H (putFD g d fs) (L2.putF g v vs)
  | _, _, .nil => .cons rv .nil
  | _, _, .cons (f := f) r rs => by
    unfold putFD L2.putF
    by_cases c : f = g
    · rw [if_pos c, if_pos c]; exact .cons rv rs
    · rw [if_neg c, if_neg c]; exact .cons r (RFs.put rv rs)
theorem RFs.length {K : PySem.W.Frag} {ads : List Addr} {H : Hp} : ∀ {fs : List (PySem.Str × D)} {vs : List (PySem.Str × V)}, RFs K ads H fs vs → fs.length = vs.length
  | _, _, .nil => rfl
  | _, _, .cons _ rs => by rw [List.length_cons, List.length_cons, RFs.length rs]
theorem se_fld {o : Expr} {g : PySem.Str} {fo : SE} (cl : Cls X.K C) (na : NoAttr X.K C g) (ho : PE X o (tS X.K X.w W fo)) (hb : attributeBase o g X.env (eval o X.env) = eval o X.env := by rfl) : PE X (.Attribute o g pos) (tS X.K X.w W (sFldD C g fo)) :=
  PE.imp (pe_fld ho hb) fun σ H Q ⟨ads, ρ, S, rs, re, fin⟩ => ⟨ads, ρ, S, rs, re, (Fn.bind fin).mono fun u H1 ⟨x, S1, ads1, le1, rs1, r1, fin1⟩ => by
    split at fin1
    · rename_i n
      split at fin1
      · rename_i C' fs e
        split at fin1
        · rename_i ec
          subst ec
          split at fin1
          · rename_i d el
            cases r1 with
            | ref ha =>
              obtain ⟨dx, vfs, q1, q2⟩ := rs1.sto n _ _ e ha
              obtain ⟨v, e1, rv⟩ := q2.look el
              exact ⟨_, _, dx, vfs, v, rfl, q1, cl, na, e1, fin1 ads1 _ H1 Le.refl rs1 rv⟩
          · exact fin1.elim
        · exact fin1.elim
      · exact fin1.elim
    · exact fin1.elim⟩
/-- o.f = e -/
def sFldS (C : Addr) (g : PySem.Str) (fo fv : SE) : SS := fun ρ S => (fv ρ S).flow ρ fun y S1 => (fo ρ S1).flow ρ fun x S2 => match x with
  | .ref n => match S2[n]? with
    | some (.ins C' fs) => if C' = C ∧ fs.length < 1000 then .nx ρ (S2.set n (.ins C (putFD g y fs))) else .err
    | _ => .err
  | _ => .err
theorem ss_fld {o v : Expr} {g : PySem.Str} {fo fv : SE} {pos' : Pos} (cl : Cls X.K C) (na : NoAttr X.K C g) (ho : PE X o (tS X.K X.w W fo)) (hv : PE X v (tS X.K X.w W fv)) (hs : swapsWith v (some (.Attribute o g pos')) pos.line X.env = pure false := by rfl) : PS X (.Assign [.Attribute o g pos'] v pos) (tSt X.K X.w W (sFldS C g fo fv)) :=
  PS.imp (ps_fld ho hv hs) fun D σ H ⟨ads, ρ, S, rs, re, fin⟩ => by
    refine ⟨ads, ρ, S, rs, re, (Fn.flow re fin).mono fun u H1 ⟨y, S1, ads1, le1, rs1, r1, fin1⟩ => ?_⟩
    refine ⟨ads1, ρ, S1, rs1, re.mono le1, (Fn.flow (re.mono le1) fin1).mono fun z H2 ⟨x, S2, ads2, le2, rs2, r2, fin2⟩ => ?_⟩
    split at fin2
    · rename_i n
      split at fin2
      · rename_i C' fs e
        split at fin2
        · rename_i c
          obtain ⟨ec, hl⟩ := c
          subst ec
          cases r2 with
          | @ref _ a ha =>
            obtain ⟨dx, vfs, q1, q2⟩ := rs2.sto n _ a e ha
            have le : Le X.K ads2 ads2 H2 (upd H2 a (.ins C' dx (L2.putF g u vfs))) := le_upd q1 trivial
            exact ⟨a, C', dx, vfs, rfl, q1, cl, na, by rw [← q2.length]; exact hl, fin2 ads2 _ _ le (rs2.put ha q1 trivial ⟨dx, _, upd_same, ((q2.put (r1.mono le2)).mono le)⟩) (((re.mono le1).mono le2).mono le)⟩
        · exact fin2.elim
      · exact fin2.elim
    · exact fin2.elim
end
end SX
end
section
set_option linter.all false
set_option maxRecDepth 100000
set_option maxHeartbeats 1000000
/-! St15: small things for printed proofs. -/
namespace SX
open PySem PySem.Spec PyProof.Rows L2
theorem hu65 {k : Nat} {A : Around} (r : Room k A) : A.units + 65 < cLine := by
  have := r.un
  omega
theorem hu64 {k : Nat} {A : Around} (r : Room k A) : A.units + 64 < cLine := by
  have := r.un
  omega
theorem rng_nn (i j c : Int) (h : c ≠ 0) : 0 ≤ Builtin.Range.rangeSize i j c := by
  unfold Builtin.Range.rangeSize
  by_cases hc : c > 0
  · rw [if_pos hc]
    split
    · have := Int.ediv_nonneg (a := j - i - 1) (b := c) (by omega) (by omega)
      omega
    · exact Int.le_refl _
  · rw [if_neg hc]
    split
    · have := Int.ediv_nonneg (a := i - j - 1) (b := -c) (by omega) (by omega)
      omega
    · exact Int.le_refl _
/-- a comprehension within a comprehension that reads nothing of the def -/
def ownC (N : List PySem.Str) (scope : Scope) (own : List (PySem.Str × Nat)) : Bool :=
  (match scope.kind with | .function => true | _ => false) && (scope.names.all fun y => decide (scope.names.lookup y.1 = some y.2)) && (own.all fun p => decide (N[p.2]? = some p.1)) &&
    (scope.names.all fun y => match y.2 with
      | .free => false
      | .local => decide (y.1 ∈ own.map (·.1)) || decide (y.1 ∉ N)
      | .cell => decide (y.1 ∈ own.map (·.1)) || decide (y.1 ∉ N)
      | _ => true)
theorem blk_own {N : List PySem.Str} {sc scope : Scope} {own : List (PySem.Str × Nat)} (h : ownC N scope own = true) : BlkOk N sc scope own := by
  unfold ownC at h
  simp only [Bool.and_eq_true, List.all_eq_true, decide_eq_true_eq] at h
  obtain ⟨⟨⟨h1, h2⟩, h3⟩, h4⟩ := h
  refine ⟨?_, h2, h3, fun y hy e => ?_, fun y hy e => ?_⟩
  · split at h1
    · assumption
    · cases h1
  · have := h4 y hy
    rw [e] at this
    cases this
  · have := h4 y hy
    rcases e with e | e <;> rw [e] at this <;> simpa using this
section
variable {X : Cx} {W : WX} {i j l : Nat} {x y z : PySem.Str} {a b c : Expr} {fs : SA} {px py pz pt pos : Pos} {kt k2 pt2}
theorem ss_par2 (hc : X.calm = true) (hN : X.N.Nodup) (hi : X.N[i]? = some x) (hj : X.N[j]? = some y) (hij : i ≠ j) (hx : X.env.scope.names.lookup x = some .local) (hy : X.env.scope.names.lookup y = some .local) (ha : PA X [a, b] (tA X.K X.w W fs))
    (hw : swappedStores [.Tuple [.Name x px, .Name y py] kt pt] (.Tuple [a, b] k2 pt2) X.env = pure (some [x, y])) (hs : swapsWithSole [.Tuple [.Name x px, .Name y py] kt pt] (.Tuple [a, b] k2 pt2) pos.line X.env = pure false := by rfl) :
    PS X (.Assign [.Tuple [.Name x px, .Name y py] kt pt] (.Tuple [a, b] k2 pt2) pos) (tSt X.K X.w W (sPar i j fs)) := ss_par ha fun h => ps_par hc hN hi hj hij hx hy h hw hs
theorem ss_par33 (hc : X.calm = true) (hN : X.N.Nodup) (hi : X.N[i]? = some x) (hj : X.N[j]? = some y) (hl : X.N[l]? = some z) (hij : i ≠ j) (hil : i ≠ l) (hjl : j ≠ l) (hx : X.env.scope.names.lookup x = some .local) (hy : X.env.scope.names.lookup y = some .local) (hz : X.env.scope.names.lookup z = some .local) (ha : PA X [a, b, c] (tA X.K X.w W fs))
    (hw : swappedStores [.Tuple [.Name x px, .Name y py, .Name z pz] kt pt] (.Tuple [a, b, c] k2 pt2) X.env = pure (some [x, y, z])) (hs : swapsWithSole [.Tuple [.Name x px, .Name y py, .Name z pz] kt pt] (.Tuple [a, b, c] k2 pt2) pos.line X.env = pure false := by rfl) :
    PS X (.Assign [.Tuple [.Name x px, .Name y py, .Name z pz] kt pt] (.Tuple [a, b, c] k2 pt2) pos) (tSt X.K X.w W (sPar3 i j l fs)) := ss_par3 ha fun h => ps_par3 hc hN hi hj hl hij hil hjl hx hy hz h hw hs
end
end SX
end
section
set_option linter.all false
set_option maxRecDepth 100000
set_option maxHeartbeats 1000000
/-! St16: the law's own def, over every base; its end. -/
namespace SX
open PySem PySem.Spec PyProof.Rows L2
section
variable {P : Program} {w : World} {K : PySem.W.Frag} {mg : PySem.Str → Option Value} {base : Heap}
theorem fn_of {x qual : PySem.Str} {params : Arguments} {body : List Stmt} {scope : Scope} {f : Addr} {fd : FuncData} {N ps : List PySem.Str} {k : Nat} {b : SS} (F : FunD K x qual params body scope [] [] f fd) (sc : FnScope N ps scope)
    (h : ∀ (cdv : Value) (A : Around) (outer : List PySem.Env) (s : Shared) (H : Hp) (E : XK), Room k (A.deeper (envOfC qual scope s.heap.objs.size f cdv)) → PSs (cxOf CX0 P w K mg base N qual scope f cdv A outer s H E).nox body (tSt K w WF b)) :
    FnOk P w K mg base CX0 (k + 1) f fd ps (spF K w ps.length (runB N.length b)) := by
  refine F.ok sc (fun vs H Q E h => h.1) (fun cdv A outer s H vs Q E hr hsp => ⟨tSt K w WF b, PSs.nox (h cdv A outer s H E hr), ?_⟩)
  obtain ⟨_, ads, S, ds, rs, r, fin⟩ := hsp
  refine ⟨ads, startE N.length ds, S, rs, start_re N r, ?_⟩
  unfold runB at fin
  split at fin
  · rename_i ρ' S' e
    rw [e]
    exact fun ads' σ' H' le rs' re' => fin ads' _ H' le rs' .non
  · rename_i d S' e
    rw [e]
    exact fun ads' v H' le rs' rv => fin ads' v H' le rs' rv
  · exact fin.elim
def OkT : Out D → Prop
  | .ok d _ => d = .bl true
  | _ => False
/-- the law's end: its function answers True at every script -/
theorem law_end {F : List D → Sto → Out D} (h : ∀ xs : List Int, OkT (F [.rl xs] [])) {H : Hp} {a : Addr} {ns : List Int} (hO : Only H) (hS : SqL K H a (ns.map V.int)) : spF K w 1 F [.ref a] H (fun v _ => v = .bl true) fun _ _ _ => False := by
  have hR : RdL K H a (ns.map V.int) := by
    rcases hS with (h1 | h1) | h1
    · rcases hO a with e | ⟨o, xs, e⟩
      · rw [e] at h1; cases h1
      · rw [e] at h1; cases h1
    · exact .inl h1
    · exact .inr h1
  refine ⟨rfl, [], [], [.rl ns], ⟨rfl, List.nodup_nil, fun n o a h => by simp at h⟩, .cons (.rl hR) .nil, ?_⟩
  have := h ns
  cases e : F [.rl ns] [] with
  | ok d S =>
    rw [e] at this
    have this : d = .bl true := this
    subst this
    intro ads' b H' _ _ r
    cases r
    rfl
  | exc _ _ => rw [e] at this; exact this.elim
  | err => rw [e] at this; exact this.elim
end
end SX
end
section
set_option linter.all false
set_option maxRecDepth 100000
set_option maxHeartbeats 1000000
/-! St17: del d[k], list.index. -/
namespace SX
open PySem PySem.Spec PyProof.Rows L2
def rDDelX (K : PySem.W.Frag) (w : World) (x y : V) (H : Hp) (Q : Hp → Prop) : Prop := ∃ ads S n a kvs d, x = .ref a ∧ RS K w ads S H ∧ ads[n]? = some a ∧ dctW S n = some kvs ∧ RV K ads H d y ∧ clsOk kvs d = true ∧ (valD kvs d).isSome = true ∧
  ∀ H', Le K ads ads H H' → RS K w ads (S.set n (.dct (delD kvs d))) H' → Q H'
section
variable {X : Cx} {W : WX} {o i : Expr} {fo fi : SE} {pos tpos : Pos} {td ty : TE}
theorem ps_delX (hu : X.A.units + 65 < cLine) (ho : PE X o td) (hi : PE X i ty) : PS X (.Delete [.Subscript o i tpos] pos) (fun D σ H => td σ H fun x H1 => ty σ H1 fun y H2 => rDDelX X.K X.w x y H2 fun H3 => D.nx σ H3) := by
  refine ⟨fun pins s σ H D I h => ?_⟩
  refine wpAny_Delete (wpAny_deleteEach_cons (wpAny_delete_Subscript (thn (ho.run pins s σ H _ I h) fun u s1 ⟨x, H1, I1, rx, q1⟩ => thn (hi.run pins s1 σ H1 _ I1 q1) fun iv s2 ⟨y, H2, I2, ry, q2⟩ => ?_)))
  obtain ⟨ads, S, n, a, kvs, d, rfl, rs, ha, e, rd, co, er, q⟩ := q2
  obtain rfl : u = Value.ref a := rx
  obtain ⟨rows, q1', q2', q3⟩ := rs.sto n _ a (dctW_eq e) ha
  have hl' : kvs.length ≤ sizeLine → (delD kvs d).length ≤ sizeLine := fun z => Nat.le_trans (delD_len kvs d) z
  obtain ⟨r, er'⟩ := Option.isSome_iff_exists.mp er
  rcases clsOk_of co with ⟨c1, c2⟩ | ⟨c1, c2⟩
  · obtain ⟨z, hd, lib, t, dd⟩ := dct_leaf I2 (.inl q1') q2' q3 c2
    obtain ⟨k, ek⟩ := kcls_leaf c1
    obtain ⟨u', v', e1, rv, ru⟩ := (val_leaf t ek).1 r er'
    have his := lk_is (X := X) (P := X.prog) rd ry ek
    refine wpAny_delItem_slot dd.typeIs (by decide) PySem.F.slot_dict_delitem
      (call_meetsIn PySem.F.slot_dict_delitem dd.typeIs PySem.F.entry_dict_delitem (PySem.F.args_dict_delitem_2 _ _) (meets_dict_delitem_pairs (mixKind X.prog X.w) a his) ⟨lib, dd, by rw [← Paired.length t]; exact z, by rw [e1]; rfl, fun h' dd' hs => ?_⟩)
    obtain ⟨rows', p1, p2⟩ := dw_leaf (t' := s2.toks + 1) I2 q1' (hl' z) hd (del_leaf t ek) dd' hs
    obtain ⟨le, rs'⟩ := rs.putD ha q1' p1 (delD_nodup q3)
    exact wpAny_deleteEach_nil ⟨σ, _, p2, q _ le rs'⟩
  · obtain ⟨z, hd, xs, t, dd⟩ := dct_nest I2 (.inl q1') q2' q3 c2
    obtain ⟨b, k, rfl, ek, hk⟩ := nest_ref c1 rd
    obtain ⟨p, v', e1, rv, ru⟩ := (val_nest t ek).1 r er'
    cases ry
    refine wpAny_delItem_heap (hsz := by rw [← Paired.length t]; exact z) (room9 hu) ⟨nk_is I2 _ _ _ _ rd rfl ek, hk⟩ hd dd e1 fun h' dd' hs => ?_
    obtain ⟨rows', p1, p2⟩ := dw_nest (t' := s2.toks + k.draws) I2 q1' (hl' z) hd (del_nest t ek) dd' hs
    obtain ⟨le, rs'⟩ := rs.putD ha q1' p1 (delD_nodup q3)
    exact wpAny_deleteEach_nil ⟨σ, _, p2, q _ le rs'⟩
/-- del o[i], there -/
def sDel (fo fi : SE) : SS := fun ρ S => (fo ρ S).flow ρ fun x S1 => (fi ρ S1).flow ρ fun y S2 => match x with
  | .ref n => match dctW S2 n with
    | some kvs => if clsOk kvs y = true ∧ (valD kvs y).isSome = true then .nx ρ (S2.set n (.dct (delD kvs y))) else .err
    | none => .err
  | _ => .err
theorem ss_del (hu : X.A.units + 65 < cLine) (ho : PE X o (tS X.K X.w W fo)) (hi : PE X i (tS X.K X.w W fi)) : PS X (.Delete [.Subscript o i tpos] pos) (tSt X.K X.w W (sDel fo fi)) :=
  PS.imp (ps_delX hu ho hi) fun D σ H ⟨ads, ρ, S, rs, re, fin⟩ => by
    refine ⟨ads, ρ, S, rs, re, (Fn.flow re fin).mono fun u H1 ⟨x, S1, ads1, le1, rs1, r1, fin1⟩ => ?_⟩
    refine ⟨ads1, ρ, S1, rs1, re.mono le1, (Fn.flow (re.mono le1) fin1).mono fun z H2 ⟨y, S2, ads2, le2, rs2, r2, fin2⟩ => ?_⟩
    cases x with
    | ref n =>
      simp only at fin2
      split at fin2
      · rename_i kvs e
        split at fin2
        · rename_i c
          have r1' := r1.mono le2
          cases r1' with
          | @ref _ a ha =>
            exact ⟨ads2, S2, n, a, kvs, y, rfl, rs2, ha, e, r2, c.1, c.2, fun H' le rs' => fin2 ads2 _ _ le rs' (((re.mono le1).mono le2).mono le)⟩
        · exact fin2.elim
      · exact fin2.elim
    | _ => exact fin2.elim
end
/-- l.index(x), there -/
def gIndex : D → List D → Sto → Out D
  | .ref n, [y], S => match toPy S 4 (.ref n), toPy S 4 y with
    | some (.list ps), some p => if SeqAt.shaped (.list ps) = true ∧ SeqAt.shaped p = true then (match ps.findIdx? fun z => PyData.eqv z p with
      | some j => .ok (.int (j : Nat)) S
      | none => .err) else .err
    | _, _ => .err
  | _, _, _ => .err
theorem gm_index {K : PySem.W.Frag} {w : World} : GMt K w (rIndexD K) gIndex := by
  intro W ads σ S H x v xs us Q rs rx rxs fin
  unfold gIndex at fin
  split at fin
  · rename_i n y
    split at fin
    · rename_i ps p e1 e2
      split at fin
      · rename_i hs
        split at fin
        · rename_i j ej
          have d1 := toPy_dp rs 4 rx e1
          cases rx with
          | @ref _ a ha =>
            cases rxs with
            | @cons _ yv _ _ ry r0 =>
              cases r0
              obtain ⟨hj, h1, h2⟩ := List.findIdx?_eq_some_iff_getElem.mp ej
              refine ⟨a, yv, p, ps, j, ps[j], rfl, rfl, d1, toPy_dp rs 4 ry e2, hs.1, hs.2, List.getElem?_eq_getElem hj, h1, fun m z' hm hz => ?_, fin ads _ H Le.refl rs (.int _)⟩
              obtain ⟨hm', e⟩ := List.getElem?_eq_some_iff.mp hz
              rw [← e]
              have := h2 m hm
              simpa using this
        · exact fin.elim
      · exact fin.elim
    · exact fin.elim
  · exact fin.elim
end SX
end
section
set_option linter.all false
/-! M1: the mathematics of ties. -/
namespace Tie
abbrev Cell := Int × Int
def bes (c : Cell) : List Cell := [(c.1 - 1, c.2), (c.1, c.2 - 1), (c.1 + 1, c.2), (c.1, c.2 + 1)]
theorem bes_symm {a b : Cell} (h : a ∈ bes b) : b ∈ bes a := by
  obtain ⟨x, y⟩ := a
  obtain ⟨u, v⟩ := b
  simp only [bes, List.mem_cons, Prod.mk.injEq, List.not_mem_nil, or_false, and_true, true_and] at h ⊢
  omega
theorem bes_ne {a : Cell} : a ∉ bes a := by
  obtain ⟨x, y⟩ := a
  simp only [bes, List.mem_cons, Prod.mk.injEq, List.not_mem_nil, or_false, and_true, true_and]
  omega
/-- reached inside B -/
inductive Rch (B : Cell → Prop) : Cell → Cell → Prop
  | refl {a : Cell} : B a → Rch B a a
  | step {a b c : Cell} : Rch B a b → c ∈ bes b → B c → Rch B a c
section
variable {B C : Cell → Prop} {a b c : Cell}
theorem Rch.left (h : Rch B a b) : B a := by
  induction h with
  | refl h => exact h
  | step _ _ _ ih => exact ih
theorem Rch.right (h : Rch B a b) : B b := by
  cases h with
  | refl h => exact h
  | step _ _ h => exact h
theorem Rch.trans (h : Rch B a b) (k : Rch B b c) : Rch B a c := by
  induction k with
  | refl _ => exact h
  | step _ m q ih => exact .step ih m q
theorem Rch.symm (h : Rch B a b) : Rch B b a := by
  induction h with
  | refl h => exact .refl h
  | step r m q ih => exact (Rch.step (.refl q) (bes_symm m) r.right).trans ih
theorem Rch.mono (i : ∀ x, B x → C x) (h : Rch B a b) : Rch C a b := by
  induction h with
  | refl h => exact .refl (i _ h)
  | step _ m q ih => exact .step ih m (i _ q)
/-- what is closed holds all that is reached -/
theorem Rch.closed (h : Rch B a b) (ha : C a) (cl : ∀ x y, C x → y ∈ bes x → B y → C y) : C b := by
  induction h with
  | refl _ => exact ha
  | step _ m q ih => exact cl _ _ ih m q
end
def Conn (B : Cell → Prop) : Prop := (∃ a, B a) ∧ ∀ a b, B a → B b → Rch B a b
theorem Conn.congr {B C : Cell → Prop} (h : Conn B) (e : ∀ x, B x ↔ C x) : Conn C := by
  have : B = C := funext fun x => propext (e x)
  rw [← this]; exact h

/-! ### steps with their papers -/
structure Paper where
  s : Cell
  e : Cell
  u : List Cell
  w : List Cell
abbrev Occ := Cell → Bool
/-- the cells that are read -/
def Paper.reads (p : Paper) (c : Cell) : Prop := c = p.s ∨ c = p.e ∨ c ∈ bes p.s ∨ c ∈ p.u ∨ c ∈ p.w
def Paper.chg (p : Paper) (c : Cell) : Bool := decide (c = p.s ∨ c = p.e)
/-- the other corner of a turn -/
def corners (s e : Cell) : Cell × Cell := ((e.1, s.2), (s.1, e.2))
/-- the support u carries the step from s to e in B -/
def Sup (B : Occ) (s e : Cell) (u : List Cell) : Prop :=
  ((e.1 - s.1).natAbs = 1 ∧ (e.2 - s.2).natAbs = 1 ∧ ((u = [(corners s e).1] ∧ B (corners s e).1 = true ∧ B (corners s e).2 = false) ∨ (u = [(corners s e).2] ∧ B (corners s e).2 = true ∧ B (corners s e).1 = false))) ∨
  (((e.1 - s.1).natAbs = 1 ∧ e.2 = s.2 ∨ e.1 = s.1 ∧ (e.2 - s.2).natAbs = 1) ∧ ∃ g : Int, (g = 1 ∨ g = -1) ∧
    let one : Cell := (s.1 + g * (e.2 - s.2), s.2 + g * (e.1 - s.1)); let two : Cell := (e.1 + g * (e.2 - s.2), e.2 + g * (e.1 - s.1));
    (∀ c, c ∈ u ↔ c = one ∨ c = two) ∧ B one = true ∧ B two = true)
/-- the step can be done, its papers say why -/
structure Good (B : Occ) (p : Paper) : Prop where
  s : B p.s = true
  e : B p.e = false
  sup : Sup B p.s p.e p.u
  wB : ∀ c ∈ p.w, B c = true
  ws : p.s ∉ p.w
  near : ∀ c ∈ bes p.s, B c = true → c ∈ p.w
  one : ∀ a b, a ∈ bes p.s → B a = true → b ∈ bes p.s → B b = true → Rch (fun c => c ∈ p.w) a b
theorem corner_near {s e : Cell} (h1 : (e.1 - s.1).natAbs = 1) (h2 : (e.2 - s.2).natAbs = 1) : (corners s e).1 ∈ bes s ∧ (corners s e).2 ∈ bes s ∧ (corners s e).1 ∈ bes e ∧ (corners s e).2 ∈ bes e := by
  obtain ⟨x, y⟩ := s
  obtain ⟨u, v⟩ := e
  simp only at h1 h2
  have a1 : u - x = 1 ∨ u - x = -1 := by omega
  have a2 : v - y = 1 ∨ v - y = -1 := by omega
  simp only [corners, bes, List.mem_cons, Prod.mk.injEq, List.not_mem_nil, or_false, and_true, true_and]
  refine ⟨?_, ?_, ?_, ?_⟩ <;> rcases a1 with a1 | a1 <;> rcases a2 with a2 | a2 <;> omega
theorem Sup.agree {B C : Occ} {s e : Cell} {u : List Cell} (h : Sup B s e u) (ag : ∀ c, c ∈ bes s ∨ c ∈ u → B c = C c) : Sup C s e u := by
  rcases h with ⟨h1, h2, h⟩ | ⟨hd, g, hg, h⟩
  · obtain ⟨n1, n2, _, _⟩ := corner_near h1 h2
    refine .inl ⟨h1, h2, ?_⟩
    rcases h with ⟨a, b, c⟩ | ⟨a, b, c⟩
    · exact .inl ⟨a, by rw [← ag _ (.inl n1)]; exact b, by rw [← ag _ (.inl n2)]; exact c⟩
    · exact .inr ⟨a, by rw [← ag _ (.inl n2)]; exact b, by rw [← ag _ (.inl n1)]; exact c⟩
  · obtain ⟨h1, h2, h3⟩ := h
    exact .inr ⟨hd, g, hg, h1, by rw [← ag _ (.inr ((h1 _).mpr (.inl rfl)))]; exact h2, by rw [← ag _ (.inr ((h1 _).mpr (.inr rfl)))]; exact h3⟩
/-- a support touches both squares -/
theorem Sup.touch {B : Occ} {s e : Cell} {u : List Cell} (h : Sup B s e u) (hs : B s = true) (he : B e = false) : (∃ c, c ∈ bes s ∧ B c = true) ∧ ∃ c, c ∈ bes e ∧ B c = true ∧ c ≠ s := by
  rcases h with ⟨h1, h2, h⟩ | ⟨hd, g, hg, h⟩
  · obtain ⟨n1, n2, n3, n4⟩ := corner_near h1 h2
    have ne : ∀ c, c ∈ bes s → c ≠ s := fun c hc e => bes_ne (e ▸ hc)
    rcases h with ⟨a, b, c⟩ | ⟨a, b, c⟩
    · exact ⟨⟨_, n1, b⟩, _, n3, b, ne _ n1⟩
    · exact ⟨⟨_, n2, b⟩, _, n4, b, ne _ n2⟩
  · obtain ⟨h1, h2, h3⟩ := h
    refine ⟨⟨_, ?_, h2⟩, _, ?_, h3, ?_⟩
    · obtain ⟨x, y⟩ := s
      obtain ⟨p, q⟩ := e
      simp only [bes, List.mem_cons, Prod.mk.injEq, List.not_mem_nil, or_false, and_true, true_and] at *
      rcases hg with rfl | rfl <;> omega
    · obtain ⟨x, y⟩ := s
      obtain ⟨p, q⟩ := e
      simp only [bes, List.mem_cons, Prod.mk.injEq, List.not_mem_nil, or_false, and_true, true_and] at *
      rcases hg with rfl | rfl <;> omega
    · obtain ⟨x, y⟩ := s
      obtain ⟨p, q⟩ := e
      simp only [ne_eq, Prod.mk.injEq] at *
      rcases hg with rfl | rfl <;> omega
/-- goodness hangs on the read cells only -/
theorem Good.agree {B C : Occ} {p : Paper} (h : Good B p) (ag : ∀ c, p.reads c → B c = C c) : Good C p where
  s := by rw [← ag _ (.inl rfl)]; exact h.s
  e := by rw [← ag _ (.inr (.inl rfl))]; exact h.e
  sup := h.sup.agree fun c hc => ag c (hc.elim (fun z => .inr (.inr (.inl z))) fun z => .inr (.inr (.inr (.inl z))))
  wB := fun c hc => by rw [← ag c (.inr (.inr (.inr (.inr hc))))]; exact h.wB c hc
  ws := h.ws
  near := fun c hc b => h.near c hc (by rw [ag c (.inr (.inr (.inl hc)))]; exact b)
  one := fun a b ha qa hb qb => h.one a b ha (by rw [ag a (.inr (.inr (.inl ha)))]; exact qa) hb (by rw [ag b (.inr (.inr (.inl hb)))]; exact qb)
def tog (B : Occ) (p : Paper) : Occ := fun c => if p.chg c = true then !B c else B c
/-- without s -/
def less (B : Occ) (s : Cell) : Cell → Prop := fun c => B c = true ∧ c ≠ s
theorem Good.free {B : Occ} {p : Paper} (h : Good B p) (cn : Conn fun c => B c = true) : Conn (less B p.s) := by
  have wl : ∀ c, c ∈ p.w → less B p.s c := fun c hc => ⟨h.wB c hc, fun e => h.ws (e ▸ hc)⟩
  have key : ∀ x y, x ≠ p.s → Rch (fun c => B c = true) x y → (y ≠ p.s ∧ Rch (less B p.s) x y) ∨ (y = p.s ∧ ∃ n, n ∈ bes p.s ∧ B n = true ∧ Rch (less B p.s) x n) := by
    intro x y hx r
    induction r with
    | refl hb => exact .inl ⟨hx, .refl ⟨hb, hx⟩⟩
    | @step b c r m q ih =>
      by_cases hc : c = p.s
      · refine .inr ⟨hc, ?_⟩
        rcases ih with ⟨nb, rb⟩ | ⟨eb, _⟩
        · exact ⟨b, by rw [← hc]; exact bes_symm m, rb.right.1, rb⟩
        · rw [hc, eb] at m; exact absurd m bes_ne
      · refine .inl ⟨hc, ?_⟩
        rcases ih with ⟨nb, rb⟩ | ⟨eb, n, hn, bn, rn⟩
        · exact .step rb m ⟨q, hc⟩
        · rw [eb] at m
          exact rn.trans ((h.one n c hn bn m q).mono wl)
  obtain ⟨⟨n, hn, bn⟩, _⟩ := h.sup.touch h.s h.e
  refine ⟨⟨n, bn, fun e => bes_ne (e ▸ hn)⟩, fun x y hx hy => ?_⟩
  rcases key x y hx.2 (cn.2 x y hx.1 hy.1) with ⟨_, r⟩ | ⟨e, _⟩
  · exact r
  · exact absurd e hy.2
theorem chg_iff {p : Paper} {c : Cell} : p.chg c = true ↔ c = p.s ∨ c = p.e := by
  unfold Paper.chg
  exact decide_eq_true_iff
theorem tog_iff {B : Occ} {p : Paper} (h : Good B p) (c : Cell) : tog B p c = true ↔ less B p.s c ∨ c = p.e := by
  unfold tog less
  have ne : p.s ≠ p.e := fun z => by have := h.s; rw [z, h.e] at this; cases this
  by_cases k : p.chg c = true
  · rw [if_pos k]
    rcases chg_iff.mp k with rfl | rfl
    · rw [h.s]
      exact ⟨fun z => (nomatch z), fun z => z.elim (fun q => absurd rfl q.2) fun q => absurd q ne⟩
    · rw [h.e]
      exact ⟨fun _ => .inr rfl, fun _ => rfl⟩
  · rw [if_neg k]
    have k' := fun z => k (chg_iff.mpr z)
    exact ⟨fun z => .inl ⟨z, fun q => k' (.inl q)⟩, fun z => z.elim (fun q => q.1) fun q => absurd (.inr q) k'⟩
/-- a body that loses a square and gains one beside the rest -/
theorem conn_add {R : Cell → Prop} {e n : Cell} (h : Conn R) (hn : R n) (m : n ∈ bes e) : Conn fun c => R c ∨ c = e := by
  have me : e ∈ bes n := bes_symm m
  have up : ∀ a b, Rch R a b → Rch (fun c => R c ∨ c = e) a b := fun a b r => r.mono fun x hx => .inl hx
  have to : ∀ a, R a ∨ a = e → Rch (fun c => R c ∨ c = e) a n := by
    rintro a (ha | rfl)
    · exact up _ _ (h.2 a n ha hn)
    · exact .step (.refl (.inr rfl)) m (.inl hn)
  exact ⟨⟨n, .inl hn⟩, fun a b ha hb => (to a ha).trans (to b hb).symm⟩
theorem Good.next {B : Occ} {p : Paper} (h : Good B p) (cn : Conn fun c => B c = true) : Conn fun c => tog B p c = true := by
  obtain ⟨_, n, hn, bn, ns⟩ := h.sup.touch h.s h.e
  exact (conn_add (h.free cn) ⟨bn, ns⟩ hn).congr fun c => (tog_iff h c).symm
/-- the other way: what was there before is one, too -/
theorem conn_before {B : Occ} {p : Paper} (hs : B p.s = true) (cn : Conn (less B p.s)) (tc : ∃ c, c ∈ bes p.s ∧ B c = true) : Conn fun c => B c = true := by
  obtain ⟨n, hn, bn⟩ := tc
  refine (conn_add cn (n := n) ⟨bn, fun e => bes_ne (e ▸ hn)⟩ hn).congr fun c => ⟨fun z => z.elim (fun q => q.1) fun q => q ▸ hs, fun z => ?_⟩
  by_cases e : c = p.s
  · exact .inr e
  · exact .inl ⟨z, e⟩

/-! ### runs -/
def run (B : Occ) : List Paper → Occ
  | [] => B
  | p :: ps => run (tog B p) ps
def AllGood (B : Occ) : List Paper → Prop
  | [] => True
  | p :: ps => Good B p ∧ AllGood (tog B p) ps
theorem run_at (c : Cell) : ∀ (ps : List Paper) (B : Occ), run B ps c = (B c ^^ decide (ps.countP (fun p => p.chg c) % 2 = 1))
  | [], B => by simp [run]
  | p :: ps, B => by
    rw [run, run_at c ps, List.countP_cons]
    unfold tog
    by_cases k : p.chg c = true
    · rw [if_pos k, if_pos k]
      have : decide ((ps.countP (fun p => p.chg c) + 1) % 2 = 1) = !decide (ps.countP (fun p => p.chg c) % 2 = 1) := by
        by_cases e : ps.countP (fun p => p.chg c) % 2 = 1
        · rw [decide_eq_true e, decide_eq_false (by omega)]; rfl
        · rw [decide_eq_false e, decide_eq_true (by omega)]; rfl
      rw [this]
      cases B c <;> cases decide (ps.countP (fun p => p.chg c) % 2 = 1) <;> rfl
    · rw [if_neg k, if_neg k, Nat.add_zero]
theorem allGood_append : ∀ (ps qs : List Paper) (B : Occ), AllGood B (ps ++ qs) ↔ AllGood B ps ∧ AllGood (run B ps) qs
  | [], qs, B => by simp [AllGood, run]
  | p :: ps, qs, B => by
    rw [List.cons_append]
    show Good B p ∧ AllGood (tog B p) (ps ++ qs) ↔ (Good B p ∧ AllGood (tog B p) ps) ∧ AllGood (run (tog B p) ps) qs
    rw [allGood_append, and_assoc]
theorem run_append : ∀ (ps qs : List Paper) (B : Occ), run B (ps ++ qs) = run (run B ps) qs
  | [], _, _ => rfl
  | _ :: ps, qs, _ => run_append ps qs _
theorem countP_same {q : Nat → Bool} {l m : List Nat} (hl : l.Nodup) (hm : m.Nodup) (h : ∀ i, q i = true → (i ∈ l ↔ i ∈ m)) : l.countP q = m.countP q := by
  rw [List.countP_eq_length_filter, List.countP_eq_length_filter]
  refine ((List.perm_ext_iff_of_nodup (hl.filter _) (hm.filter _)).mpr fun i => ?_).length_eq
  rw [List.mem_filter, List.mem_filter]
  exact ⟨fun ⟨a, b⟩ => ⟨(h i b).mp a, b⟩, fun ⟨a, b⟩ => ⟨(h i b).mpr a, b⟩⟩
/-- two steps whose order is kept -/
def tied (p q : Paper) : Prop := (∃ c, p.chg c = true ∧ q.reads c) ∨ ∃ c, q.chg c = true ∧ p.reads c
/-- ANY ORDER THAT KEEPS THE TIED PAIRS: the steps are good again, and the end is the same -/
theorem reorder {ps : List Paper} {B : Occ} (ag : AllGood B ps) (cn : Conn fun c => B c = true) {order : List Nat} (pm : order.Perm (List.range ps.length)) {f : Nat → Paper} (hf : ∀ i, i < ps.length → ps[i]? = some (f i))
    (keep : ∀ (i j : Nat) (pre post : List Nat), i < j → j < ps.length → tied (f i) (f j) → order = pre ++ j :: post → i ∈ pre) : AllGood B (order.map f) ∧ (Conn fun c => run B (order.map f) c = true) ∧ run B (order.map f) = run B ps := by
  have nd : order.Nodup := pm.nodup_iff.mpr List.nodup_range
  have mem : ∀ i, i ∈ order ↔ i < ps.length := fun i => by rw [pm.mem_iff, List.mem_range]
  have eqs : ps = (List.range ps.length).map f := by
    refine List.ext_getElem? fun i => ?_
    rw [List.getElem?_map]
    by_cases c : i < ps.length
    · rw [hf i c, List.getElem?_range c]; rfl
    · rw [List.getElem?_eq_none (by omega), List.getElem?_eq_none (by rw [List.length_range]; omega)]; rfl
  have goodAt : ∀ j, j < ps.length → Good (run B ((List.range j).map f)) (f j) := fun j hj => by
    have e : ps = ps.take j ++ ps[j] :: ps.drop (j + 1) := by
      rw [List.getElem_cons_drop]; exact (List.take_append_drop j ps).symm
    have a := ag
    rw [e, allGood_append] at a
    have ej : ps[j] = f j := by
      have := hf j hj
      rw [List.getElem?_eq_getElem hj] at this
      exact Option.some.inj this
    have et : ps.take j = (List.range j).map f := by
      have h1 : ps.take j = ((List.range ps.length).map f).take j := congrArg (List.take j) eqs
      rw [h1, ← List.map_take]
      congr 1
      rw [List.take_range, Nat.min_eq_left (by omega)]
    rw [← et, ← ej]
    exact a.2.1
  have step : ∀ (pre : List Nat) (j : Nat) (post : List Nat), order = pre ++ j :: post → Good (run B (pre.map f)) (f j) := by
    intro pre j post e
    have hj : j < ps.length := (mem j).mp (by rw [e]; simp)
    refine (goodAt j hj).agree fun c hc => ?_
    rw [run_at, run_at, List.countP_map, List.countP_map]
    have ndp : pre.Nodup := by
      have := nd
      rw [e] at this
      exact (List.nodup_append.mp this).1
    have jp : j ∉ pre := fun z => by
      have := nd
      rw [e] at this
      exact (List.nodup_append.mp this).2.2 j z j List.mem_cons_self rfl
    have cc : (List.range j).countP ((fun p => p.chg c) ∘ f) = pre.countP ((fun p => p.chg c) ∘ f) := by
      refine countP_same List.nodup_range ndp fun i hi => ?_
      rw [List.mem_range]
      constructor
      · intro lt
        exact keep i j pre post lt hj (.inl ⟨c, hi, hc⟩) e
      · intro hm
        have hil : i < ps.length := (mem i).mp (by rw [e]; exact List.mem_append_left _ hm)
        rcases Nat.lt_trichotomy i j with lt | rfl | gt
        · exact lt
        · exact absurd hm jp
        · obtain ⟨p1, p2, e2⟩ := List.append_of_mem (show i ∈ order by rw [e]; exact List.mem_append_left _ hm)
          have jin := keep j i p1 p2 gt hil (.inr ⟨c, hi, hc⟩) e2
          -- j stands ahead of i, i ahead of j
          exfalso
          obtain ⟨a1, a2, ea⟩ := List.append_of_mem hm
          have q : p1 ++ i :: p2 = (a1 ++ i :: a2) ++ j :: post := by rw [← e2, e, ea]
          rw [List.append_assoc, List.cons_append] at q
          have ndq : (p1 ++ i :: p2).Nodup := by rw [← e2]; exact nd
          have same : p1 = a1 := by
            have inj : ∀ (x y x' y' : List Nat), (x ++ i :: y).Nodup → x ++ i :: y = x' ++ i :: y' → x = x' := by
              intro x
              induction x with
              | nil =>
                intro y x' y' n q
                cases x' with
                | nil => rfl
                | cons b x' =>
                  rw [List.nil_append, List.cons_append] at q
                  injection q with q1 q2
                  rw [q2, List.nil_append] at n
                  exact absurd (List.mem_append_right x' List.mem_cons_self) (List.nodup_cons.mp n).1
              | cons a x ih =>
                intro y x' y' n q
                cases x' with
                | nil =>
                  rw [List.nil_append, List.cons_append] at q
                  injection q with q1 q2
                  rw [List.cons_append, q1] at n
                  exact absurd (List.mem_append_right x List.mem_cons_self) (List.nodup_cons.mp n).1
                | cons b x' =>
                  rw [List.cons_append, List.cons_append] at q
                  injection q with q1 q2
                  rw [List.cons_append] at n
                  rw [q1, ih y x' y' (List.nodup_cons.mp n).2 q2]
            exact inj _ _ _ _ ndq q
          rw [same] at jin
          exact jp (by rw [ea]; exact List.mem_append_left _ jin)
    rw [cc]
  have all : ∀ (pre post : List Nat), order = pre ++ post → (Conn fun c => run B (pre.map f) c = true) → AllGood (run B (pre.map f)) (post.map f) ∧ Conn fun c => run B (order.map f) c = true := by
    intro pre post
    induction post generalizing pre with
    | nil => intro e h; rw [List.append_nil] at e; rw [e]; exact ⟨True.intro, h⟩
    | cons j post ih =>
      intro e h
      have g := step pre j post e
      have e2 : order = (pre ++ [j]) ++ post := by rw [List.append_assoc]; exact e
      have r2 : run B ((pre ++ [j]).map f) = tog (run B (pre.map f)) (f j) := by rw [List.map_append, run_append]; rfl
      obtain ⟨a, b⟩ := ih (pre ++ [j]) e2 (by rw [r2]; exact g.next h)
      rw [r2] at a
      exact ⟨⟨g, a⟩, b⟩
  obtain ⟨a, b⟩ := all [] order rfl cn
  refine ⟨a, b, funext fun c => ?_⟩
  have e3 : run B ps c = run B ((List.range ps.length).map f) c := by rw [← eqs]
  rw [e3, run_at, run_at, List.countP_map, List.countP_map, pm.countP_eq]
end Tie
end
section
set_option linter.all false
set_option maxRecDepth 100000
namespace Lw
open PySem L2 SX
def b__law_draw (ga : PySem.Str → Nat) : SS := sSeq (sAsg (gSb (sVar 0) (sC (.str "count")) gSetIxA) (sOp2 gAdd (sOp2 gIxA (sVar 0) (sC (.str "count"))) (sC (.int 1))))
    (sSeq (sIfS (sAnd (sBool (sOp2 gEq (sOp2 gIxA (sVar 0) (sC (.str "digits"))) (sC (.int 0)))) (sBool (sOp2 gLt (sOp2 gIxA (sVar 0) (sC (.str "at"))) (sCall gLenA (sCons (sOp2 gIxA (sVar 0) (sC (.str "cells"))) (sNil)))))) (sSeq (sAsg (gNm 2) (sOp2 gIxA (sOp2 gIxA (sVar 0) (sC (.str "cells"))) (sOp2 gIxA (sVar 0) (sC (.str "at")))))
    (sSeq (sAsg (gSb (sVar 0) (sC (.str "at")) gSetIxA) (sOp2 gAdd (sOp2 gIxA (sVar 0) (sC (.str "at"))) (sC (.int 1))))
    (sIfS (sBool (sOp2 gGe (sVar 2) (sOp2 gPow (sC (.int 10)) (sC (.int 18))))) (sAsg (gSb (sVar 0) (sC (.str "digits")) gSetIxA) (sOp2 gDif (sVar 2) (sOp2 gPow (sC (.int 10)) (sC (.int 18))))) (sAsg (gSb (sVar 0) (sC (.str "fold")) gSetIxA) (sOp2 gMod (sCall gInt (sCons (sOp2 gAdd (sOp2 gMul (sOp2 gIxA (sVar 0) (sC (.str "fold"))) (sC (.int 69069))) (sVar 2)) (sNil))) (sC (.int 2147483587))))))) (sSkip))
    (sSeq (sIfS (sBool (sOp2 gGt (sOp2 gIxA (sVar 0) (sC (.str "digits"))) (sC (.int 0)))) (sSeq (sAsg (gNm 3) (sOp2 gMod (sCall gInt (sCons (sOp2 gIxA (sVar 0) (sC (.str "digits"))) (sNil))) (sVar 1)))
    (sSeq (sAsg (gSb (sVar 0) (sC (.str "digits")) gSetIxA) (sOp2 gFdiv (sOp2 gIxA (sVar 0) (sC (.str "digits"))) (sVar 1)))
    (sRet (sVar 3)))) (sSkip))
    (sSeq (sAsg (gNm 4) (sOp2 gAdd (sOp2 gAdd (sOp2 gIxA (sVar 0) (sC (.str "fold"))) (sOp2 gMul (sOp2 gIxA (sVar 0) (sC (.str "count"))) (sC (.int 7907)))) (sC (.int 37))))
    (sRet (sOp2 gMod (sOp2 gFdiv (sCall gInt (sCons (sOp2 gMod (sOp2 gPow (sVar 4) (sC (.int 17))) (sC (.int 2305843009213693951))) (sNil))) (sC (.int 128))) (sVar 1))))))
def F__law_draw (ga : PySem.Str → Nat) : List D → Sto → Out D := runB 5 (b__law_draw ga)
def b__law_pen (ga : PySem.Str → Nat) : SS := sSeq (sAsg (gNm 1) (sC (.int 0)))
    (sSeq (sFor (iSeq (sVar 0)) (gNm 2) (sAsg (gNm 1) (sOp2 gMod (sCall gInt (sCons (sOp2 gAdd (sOp2 gMul (sVar 1) (sC (.int 41))) (sVar 2)) (sNil))) (sC (.int 1000000007)))))
    (sRet (sDisp [(sC (.str "cells"), sCall gListA (sCons (sVar 0) (sNil))), (sC (.str "at"), sC (.int 0)), (sC (.str "digits"), sC (.int 0)), (sC (.str "count"), sC (.int 0)), (sC (.str "fold"), sVar 1)])))
def F__law_pen (ga : PySem.Str → Nat) : List D → Sto → Out D := runB 3 (b__law_pen ga)
def b__law_shuffled (ga : PySem.Str → Nat) : SS := sSeq (sPar 2 3 (sCons (sCall gListA (sCons (sVar 1) (sNil))) (sCons (sLst (sNil)) (sNil))))
    (sSeq (sFor (iRg1 (sCons (sCall gLenA (sCons (sVar 1) (sNil))) (sNil))) (gNm 4) (sSeq (sAsg (gNm 5) (sCallF 2 (F__law_draw ga) (sCons (sVar 0) (sCons (sCall gLenA (sCons (sVar 2) (sNil))) (sNil)))))
    (sSeq (sExpr (sMeth gAppend (sVar 3) (sCons (sOp2 gIxA (sVar 2) (sVar 5)) (sNil))))
    (sAsg (gNm 2) (sOp2 gAdd (sSl (sVar 2) none (some (sVar 5))) (sSl (sVar 2) (some (sOp2 gAdd (sVar 5) (sC (.int 1)))) none))))))
    (sRet (sVar 3)))
def F__law_shuffled (ga : PySem.Str → Nat) : List D → Sto → Out D := runB 6 (b__law_shuffled ga)
def b__law_pick (ga : PySem.Str → Nat) : SS := sRet (sOp2 gIxA (sVar 1) (sCallF 2 (F__law_draw ga) (sCons (sVar 0) (sCons (sCall gLenA (sCons (sVar 1) (sNil))) (sNil)))))
def F__law_pick (ga : PySem.Str → Nat) : List D → Sto → Out D := runB 2 (b__law_pick ga)
def b__law_t2_beside (ga : PySem.Str → Nat) : SS := sRet (sLst (sCons (sTup (sCons (sOp2 gDif (sOp2 gIxA (sVar 0) (sC (.int 0))) (sC (.int 1))) (sCons (sOp2 gIxA (sVar 0) (sC (.int 1))) (sNil)))) (sCons (sTup (sCons (sOp2 gIxA (sVar 0) (sC (.int 0))) (sCons (sOp2 gDif (sOp2 gIxA (sVar 0) (sC (.int 1))) (sC (.int 1))) (sNil)))) (sCons (sTup (sCons (sOp2 gAdd (sOp2 gIxA (sVar 0) (sC (.int 0))) (sC (.int 1))) (sCons (sOp2 gIxA (sVar 0) (sC (.int 1))) (sNil)))) (sCons (sTup (sCons (sOp2 gIxA (sVar 0) (sC (.int 0))) (sCons (sOp2 gAdd (sOp2 gIxA (sVar 0) (sC (.int 1))) (sC (.int 1))) (sNil)))) (sNil))))))
def F__law_t2_beside (ga : PySem.Str → Nat) : List D → Sto → Out D := runB 1 (b__law_t2_beside ga)
def b__law_t2_blob (ga : PySem.Str → Nat) : SS := sSeq (sAsg (gTp 3 (gMore (gNm 3) (gMore (gNm 4) (gMore (gNm 5) (gNone))))) (sTup (sCons (sLst (sCons (sTup (sCons (sC (.int 0)) (sCons (sC (.int 0)) (sNil)))) (sNil))) (sCons (sDNew) (sCons (sDNew) (sNil))))))
    (sSeq (sAsg (gSb (sVar 4) (sTup (sCons (sC (.int 0)) (sCons (sC (.int 0)) (sNil)))) gSetIxA) (sC (.bl true)))
    (sSeq (sFor (iRg1 (sCons (sOp2 gDif (sVar 1) (sC (.int 1))) (sNil))) (gNm 6) (sSeq (sFor (iSeq (sCallF 1 (F__law_t2_beside ga) (sCons (sOp2 gIxA (sVar 3) (sOp1 gNeg (sC (.int 1)))) (sNil)))) (gNm 7) (sAsg (gSb (sVar 5) (sVar 7) gSetIxA) (sOp2 gAdd (sDM gDGet (sVar 5) (sCons (sVar 7) (sCons (sC (.int 0)) (sNil)))) (sC (.int 1)))))
    (sSeq (sAsg (gNm 8) (sLc (iSeq (sCall gListA (sCons (sVar 5) (sNil)))) (gNm 7) (sBool (sOp2 gNotInA (sVar 7) (sVar 4))) (sVar 7) [7]))
    (sSeq (sAsg (gNm 9) (sLc (iSeq (sVar 8)) (gNm 7) (sBool (sOp2 gEq (sOp2 gIxA (sVar 5) (sVar 7)) (sC (.int 1)))) (sVar 7) [7]))
    (sSeq (sAsg (gNm 10) (sLc (iSeq (sVar 8)) (gNm 7) (sBool (sOp2 gGt (sOp2 gIxA (sVar 5) (sVar 7)) (sC (.int 1)))) (sVar 7) [7]))
    (sSeq (sIfS (sAnd (sBool (sOp2 gEq (sVar 2) (sC (.int 1)))) (sAnd (sBool (sOp2 gNe (sVar 9) (sLst (sNil)))) (sBool (sOp2 gGt (sCallF 2 (F__law_draw ga) (sCons (sVar 0) (sCons (sC (.int 9)) (sNil)))) (sC (.int 0)))))) (sAsg (gNm 8) (sVar 9)) (sSkip))
    (sSeq (sIfS (sAnd (sBool (sOp2 gEq (sVar 2) (sC (.int 2)))) (sAnd (sBool (sOp2 gNe (sVar 10) (sLst (sNil)))) (sBool (sOp2 gGt (sCallF 2 (F__law_draw ga) (sCons (sVar 0) (sCons (sC (.int 9)) (sNil)))) (sC (.int 0)))))) (sAsg (gNm 8) (sVar 10)) (sSkip))
    (sSeq (sExpr (sMeth gAppend (sVar 3) (sCons (sCallF 2 (F__law_pick ga) (sCons (sVar 0) (sCons (sVar 8) (sNil)))) (sNil))))
    (sAsg (gSb (sVar 4) (sOp2 gIxA (sVar 3) (sOp1 gNeg (sC (.int 1)))) gSetIxA) (sC (.bl true)))))))))))
    (sRet (sVar 3))))
def F__law_t2_blob (ga : PySem.Str → Nat) : List D → Sto → Out D := runB 11 (b__law_t2_blob ga)
def b__law_t2_way (ga : PySem.Str → Nat) : SS := sSeq (sPar3 2 3 4 (sCons (sLst (sCons (sTup (sCons (sC (.int 0)) (sCons (sC (.int 0)) (sNil)))) (sNil))) (sCons (sTup (sCons (sC (.int 0)) (sCons (sC (.int 0)) (sNil)))) (sCons (sLst (sCons (sTup (sCons (sC (.int 1)) (sCons (sC (.int 0)) (sNil)))) (sCons (sTup (sCons (sC (.int 0)) (sCons (sC (.int 1)) (sNil)))) (sCons (sTup (sCons (sOp1 gNeg (sC (.int 1))) (sCons (sC (.int 0)) (sNil)))) (sCons (sTup (sCons (sC (.int 0)) (sCons (sOp1 gNeg (sC (.int 1))) (sNil)))) (sNil)))))) (sNil)))))
    (sSeq (sFor (iRg1 (sCons (sCall gLenA (sCons (sVar 0) (sNil))) (sNil))) (gNm 5) (sSeq (sAsg (gNm 6) (sOp2 gIxA (sVar 4) (sOp2 gMod (sCall gInt (sCons (sOp2 gMul (sVar 1) (sVar 5)) (sNil))) (sC (.int 4)))))
    (sFor (iRg1 (sCons (sOp2 gIxA (sVar 0) (sVar 5)) (sNil))) (gNm 7) (sSeq (sAsg (gNm 3) (sTup (sCons (sOp2 gAdd (sOp2 gIxA (sVar 3) (sC (.int 0))) (sOp2 gIxA (sVar 6) (sC (.int 0)))) (sCons (sOp2 gAdd (sOp2 gIxA (sVar 3) (sC (.int 1))) (sOp2 gIxA (sVar 6) (sC (.int 1)))) (sNil)))))
    (sExpr (sMeth gAppend (sVar 2) (sCons (sVar 3) (sNil))))))))
    (sRet (sVar 2)))
def F__law_t2_way (ga : PySem.Str → Nat) : List D → Sto → Out D := runB 8 (b__law_t2_way ga)
def b__law_t2_cells (ga : PySem.Str → Nat) : SS := sSeq (sPar 2 3 (sCons (sCallF 2 (F__law_draw ga) (sCons (sVar 0) (sCons (sC (.int 9)) (sNil)))) (sCons (sOp2 gAdd (sC (.int 1)) (sCallF 2 (F__law_draw ga) (sCons (sVar 0) (sCons (sVar 1) (sNil))))) (sNil))))
    (sSeq (sIfS (sBool (sOp2 gLt (sVar 2) (sC (.int 5)))) (sRet (sCallF 3 (F__law_t2_blob ga) (sCons (sVar 0) (sCons (sVar 3) (sCons (sOp2 gIxA (sLst (sCons (sC (.int 0)) (sCons (sC (.int 0)) (sCons (sC (.int 1)) (sCons (sC (.int 1)) (sCons (sC (.int 2)) (sNil))))))) (sVar 2)) (sNil)))))) (sSkip))
    (sSeq (sIfS (sBool (sOp2 gEq (sVar 2) (sC (.int 5)))) (sRet (sSl (sCallF 2 (F__law_t2_way ga) (sCons (sLst (sCons (sOp2 gDif (sVar 3) (sC (.int 1))) (sNil))) (sCons (sCallF 2 (F__law_draw ga) (sCons (sVar 0) (sCons (sC (.int 4)) (sNil)))) (sNil)))) none (some (sVar 3)))) (sSkip))
    (sSeq (sIfS (sBool (sOp2 gEq (sVar 2) (sC (.int 6)))) (sSeq (sPar 4 5 (sCons (sOp2 gAdd (sC (.int 2)) (sCallF 2 (F__law_draw ga) (sCons (sVar 0) (sCons (sOp2 gAdd (sC (.int 1)) (sOp2 gFdiv (sVar 1) (sC (.int 6)))) (sNil))))) (sCons (sOp2 gAdd (sC (.int 2)) (sCallF 2 (F__law_draw ga) (sCons (sVar 0) (sCons (sOp2 gAdd (sC (.int 1)) (sOp2 gFdiv (sVar 1) (sC (.int 6)))) (sNil))))) (sNil))))
    (sRet (sSl (sSl (sCallF 2 (F__law_t2_way ga) (sCons (sLst (sCons (sVar 4) (sCons (sVar 5) (sCons (sVar 4) (sCons (sVar 5) (sNil)))))) (sCons (sC (.int 1)) (sNil)))) none (some (sCall gMax2 (sCons (sC (.int 2)) (sCons (sOp2 gDif (sOp2 gMul (sC (.int 2)) (sOp2 gAdd (sVar 4) (sVar 5))) (sCallF 2 (F__law_draw ga) (sCons (sVar 0) (sCons (sC (.int 3)) (sNil))))) (sNil)))))) none (some (sVar 1))))) (sSkip))
    (sSeq (sIfS (sBool (sOp2 gEq (sVar 2) (sC (.int 7)))) (sRet (sSl (sCallF 2 (F__law_t2_way ga) (sCons (sLc (iRg1 (sCons (sVar 1) (sNil))) (gNm 7) (sYes) (sOp2 gMul (sOp2 gFdiv (sOp2 gAdd (sVar 7) (sC (.int 2))) (sC (.int 2))) (sC (.int 2))) [7]) (sCons (sC (.int 1)) (sNil)))) none (some (sVar 3)))) (sSkip))
    (sSeq (sAsg (gNm 6) (sLc (iRg1 (sCons (sOp2 gAdd (sC (.int 1)) (sOp2 gFdiv (sVar 1) (sC (.int 3)))) (sNil))) (gNm 7) (sYes) (sTup (sCons (sVar 7) (sCons (sC (.int 0)) (sNil)))) [7]))
    (sSeq (sFor (iRg3 (sCons (sC (.int 0)) (sCons (sOp2 gAdd (sC (.int 1)) (sOp2 gFdiv (sVar 1) (sC (.int 3)))) (sCons (sC (.int 2)) (sNil))))) (gNm 7) (sAsg (gNm 6) (sOp2 gAdd (sVar 6) (sLc (iRg1 (sCons (sCallF 2 (F__law_draw ga) (sCons (sVar 0) (sCons (sC (.int 4)) (sNil)))) (sNil))) (gNm 8) (sYes) (sTup (sCons (sVar 7) (sCons (sOp2 gAdd (sC (.int 1)) (sVar 8)) (sNil)))) [8]))))
    (sRet (sSl (sVar 6) none (some (sCall gMax2 (sCons (sC (.int 1)) (sCons (sVar 1) (sNil)))))))))))))
def F__law_t2_cells (ga : PySem.Str → Nat) : List D → Sto → Out D := runB 9 (b__law_t2_cells ga)
def b__law_t2_body (ga : PySem.Str → Nat) : SS := sSeq (sPar 2 3 (sCons (sCallF 2 (F__law_pick ga) (sCons (sVar 0) (sCons (sLst (sCons (sC (.int 0)) (sCons (sC (.int 0)) (sCons (sC (.int 1)) (sCons (sOp2 gPow (sC (.int 10)) (sC (.int 15))) (sNil)))))) (sNil)))) (sCons (sCallF 2 (F__law_t2_cells ga) (sCons (sVar 0) (sCons (sVar 1) (sNil)))) (sNil))))
    (sSeq (sPar 4 5 (sCons (sTup (sCons (sOp2 gMul (sOp2 gDif (sCallF 2 (F__law_draw ga) (sCons (sVar 0) (sCons (sC (.int 9)) (sNil)))) (sC (.int 4))) (sVar 2)) (sCons (sOp2 gMul (sOp2 gDif (sCallF 2 (F__law_draw ga) (sCons (sVar 0) (sCons (sC (.int 9)) (sNil)))) (sC (.int 4))) (sVar 2)) (sNil)))) (sCons (sOp2 gEq (sCallF 2 (F__law_draw ga) (sCons (sVar 0) (sCons (sC (.int 2)) (sNil)))) (sC (.int 0))) (sNil))))
    (sSeq (sAsg (gNm 6) (sLst (sNil)))
    (sSeq (sFor (iSeq (sVar 3)) (gTp 2 (gMore (gNm 7) (gMore (gNm 8) (gNone)))) (sExpr (sMeth gAppend (sVar 6) (sCons (sIf (sTru (sVar 5)) (sTup (sCons (sOp2 gAdd (sVar 8) (sOp2 gIxA (sVar 4) (sC (.int 0)))) (sCons (sOp2 gAdd (sVar 7) (sOp2 gIxA (sVar 4) (sC (.int 1)))) (sNil)))) (sTup (sCons (sOp2 gAdd (sVar 7) (sOp2 gIxA (sVar 4) (sC (.int 0)))) (sCons (sOp2 gAdd (sVar 8) (sOp2 gIxA (sVar 4) (sC (.int 1)))) (sNil))))) (sNil)))))
    (sRet (sCall gTuple (sCons (sCall gSortedA (sCons (sCall gSetOf (sCons (sVar 6) (sNil))) (sNil))) (sNil)))))))
def F__law_t2_body (ga : PySem.Str → Nat) : List D → Sto → Out D := runB 9 (b__law_t2_body ga)
def b__law_t2_done (ga : PySem.Str → Nat) : SS := sRet (sCall gTuple (sCons (sCall gSortedA (sCons (sOp2 gAdd (sLc (iSeq (sVar 0)) (gNm 3) (sBool (sOp2 gNe (sVar 3) (sVar 1))) (sVar 3) [3]) (sLst (sCons (sVar 2) (sNil)))) (sNil))) (sNil)))
def F__law_t2_done (ga : PySem.Str → Nat) : List D → Sto → Out D := runB 4 (b__law_t2_done ga)
def b__law_is_whole (ga : PySem.Str → Nat) : SS := sRet (sAndV (sCall gIsi (sCons (sVar 0) (sCons (sC (.ty "int")) (sNil)))) (sNotV (sCall gIsi (sCons (sVar 0) (sCons (sC (.ty "bool")) (sNil))))))
def F__law_is_whole (ga : PySem.Str → Nat) : List D → Sto → Out D := runB 1 (b__law_is_whole ga)
def b__law_t2_is_cell (ga : PySem.Str → Nat) : SS := sRet (sAndV (sCall gIsi (sCons (sVar 0) (sCons (sC (.ty "tuple")) (sNil)))) (sAndV (sOp2 gEq (sCall gLenA (sCons (sVar 0) (sNil))) (sC (.int 2))) (sAndV (sCallF 1 (F__law_is_whole ga) (sCons (sOp2 gIxA (sVar 0) (sC (.int 0))) (sNil))) (sCallF 1 (F__law_is_whole ga) (sCons (sOp2 gIxA (sVar 0) (sC (.int 1))) (sNil))))))
def F__law_t2_is_cell (ga : PySem.Str → Nat) : List D → Sto → Out D := runB 1 (b__law_t2_is_cell ga)
def b__law_t2_parts (ga : PySem.Str → Nat) : SS := sSeq (sPar 1 2 (sCons (sDNew) (sCons (sLst (sNil)) (sNil))))
    (sSeq (sFor (iSeq (sVar 0)) (gNm 3) (sAsg (gSb (sVar 1) (sVar 3) gSetIxA) (sC (.bl true))))
    (sSeq (sFor (iSeq (sCall gSortedA (sCons (sCall gListA (sCons (sVar 1) (sNil))) (sNil)))) (gNm 3) (sIfS (sBool (sOp2 gInA (sVar 3) (sVar 1))) (sSeq (sAsg (gNm 4) (sLst (sCons (sVar 3) (sNil))))
    (sSeq (sExpr (sDM gDPop (sVar 1) (sCons (sVar 3) (sNil))))
    (sSeq (sFor (iRg1 (sCons (sCall gLenA (sCons (sVar 0) (sNil))) (sNil))) (gNm 5) (sSeq (sIfS (sBool (sOp2 gEq (sVar 5) (sCall gLenA (sCons (sVar 4) (sNil))))) (sBreak) (sSkip))
    (sFor (iSeq (sCallF 1 (F__law_t2_beside ga) (sCons (sOp2 gIxA (sVar 4) (sVar 5)) (sNil)))) (gNm 6) (sIfS (sBool (sOp2 gInA (sVar 6) (sVar 1))) (sSeq (sExpr (sDM gDPop (sVar 1) (sCons (sVar 6) (sNil))))
    (sExpr (sMeth gAppend (sVar 4) (sCons (sVar 6) (sNil))))) (sSkip)))))
    (sExpr (sMeth gAppend (sVar 2) (sCons (sCall gTuple (sCons (sCall gSortedA (sCons (sVar 4) (sNil))) (sNil))) (sNil))))))) (sSkip)))
    (sRet (sVar 2))))
def F__law_t2_parts (ga : PySem.Str → Nat) : List D → Sto → Out D := runB 7 (b__law_t2_parts ga)
def b__law_t2_hangs (ga : PySem.Str → Nat) : SS := sRet (sOp2 gEq (sCall gLenA (sCons (sCallF 1 (F__law_t2_parts ga) (sCons (sVar 0) (sNil))) (sNil))) (sC (.int 1)))
def F__law_t2_hangs (ga : PySem.Str → Nat) : List D → Sto → Out D := runB 1 (b__law_t2_hangs ga)
def b__law_t2_free (ga : PySem.Str → Nat) : SS := sRet (sCallF 1 (F__law_t2_hangs ga) (sCons (sLc (iSeq (sVar 0)) (gNm 2) (sBool (sOp2 gNe (sVar 2) (sVar 1))) (sVar 2) [2]) (sNil)))
def F__law_t2_free (ga : PySem.Str → Nat) : List D → Sto → Out D := runB 3 (b__law_t2_free ga)
def b__law_t2_squares (ga : PySem.Str → Nat) : SS := sSeq (sAsg (gNm 1) (sDNew))
    (sSeq (sFor (iSeq (sVar 0)) (gNm 2) (sAsg (gSb (sVar 1) (sVar 2) gSetIxA) (sC (.bl true))))
    (sRet (sVar 1)))
def F__law_t2_squares (ga : PySem.Str → Nat) : List D → Sto → Out D := runB 3 (b__law_t2_squares ga)
def b__law_t2_supports (ga : PySem.Str → Nat) : SS := sSeq (sPar 3 4 (sCons (sOp2 gDif (sOp2 gIxA (sVar 2) (sC (.int 0))) (sOp2 gIxA (sVar 1) (sC (.int 0)))) (sCons (sOp2 gDif (sOp2 gIxA (sVar 2) (sC (.int 1))) (sOp2 gIxA (sVar 1) (sC (.int 1)))) (sNil))))
    (sSeq (sIfS (sOr (sBool (sOp2 gNotInA (sVar 1) (sVar 0))) (sOr (sBool (sOp2 gInA (sVar 2) (sVar 0))) (sBool (sOp2 gNe (sCall gMax2 (sCons (sCall gAbs (sCons (sVar 3) (sNil))) (sCons (sCall gAbs (sCons (sVar 4) (sNil))) (sNil)))) (sC (.int 1)))))) (sRet (sLst (sNil))) (sSkip))
    (sSeq (sAsg (gNm 5) (sLst (sNil)))
    (sSeq (sIfS (sAnd (sBool (sOp2 gNe (sVar 3) (sC (.int 0)))) (sBool (sOp2 gNe (sVar 4) (sC (.int 0))))) (sSeq (sPar 6 7 (sCons (sTup (sCons (sOp2 gIxA (sVar 2) (sC (.int 0))) (sCons (sOp2 gIxA (sVar 1) (sC (.int 1))) (sNil)))) (sCons (sTup (sCons (sOp2 gIxA (sVar 1) (sC (.int 0))) (sCons (sOp2 gIxA (sVar 2) (sC (.int 1))) (sNil)))) (sNil))))
    (sSeq (sIfS (sBool (sOp2 gNe (sOp2 gInA (sVar 6) (sVar 0)) (sOp2 gInA (sVar 7) (sVar 0)))) (sExpr (sMeth gAppend (sVar 5) (sCons (sIf (sBool (sOp2 gInA (sVar 6) (sVar 0))) (sTup (sCons (sVar 6) (sNil))) (sTup (sCons (sVar 7) (sNil)))) (sNil)))) (sSkip))
    (sRet (sVar 5)))) (sSkip))
    (sSeq (sFor (iSeq (sLst (sCons (sC (.int 1)) (sCons (sOp1 gNeg (sC (.int 1))) (sNil))))) (gNm 8) (sSeq (sPar 6 7 (sCons (sTup (sCons (sOp2 gAdd (sOp2 gIxA (sVar 1) (sC (.int 0))) (sOp2 gMul (sVar 8) (sVar 4))) (sCons (sOp2 gAdd (sOp2 gIxA (sVar 1) (sC (.int 1))) (sOp2 gMul (sVar 8) (sVar 3))) (sNil)))) (sCons (sTup (sCons (sOp2 gAdd (sOp2 gIxA (sVar 2) (sC (.int 0))) (sOp2 gMul (sVar 8) (sVar 4))) (sCons (sOp2 gAdd (sOp2 gIxA (sVar 2) (sC (.int 1))) (sOp2 gMul (sVar 8) (sVar 3))) (sNil)))) (sNil))))
    (sIfS (sAnd (sBool (sOp2 gInA (sVar 6) (sVar 0))) (sBool (sOp2 gInA (sVar 7) (sVar 0)))) (sExpr (sMeth gAppend (sVar 5) (sCons (sCall gTuple (sCons (sCall gSortedA (sCons (sLst (sCons (sVar 6) (sCons (sVar 7) (sNil)))) (sNil))) (sNil))) (sNil)))) (sSkip))))
    (sRet (sCall gSortedA (sCons (sVar 5) (sNil))))))))
def F__law_t2_supports (ga : PySem.Str → Nat) : List D → Sto → Out D := runB 9 (b__law_t2_supports ga)
def b__law_t2_kind (ga : PySem.Str → Nat) : SS := sSeq (sIfS (sOr (sBool (sOp2 gEq (sCallF 3 (F__law_t2_supports ga) (sCons (sCallF 1 (F__law_t2_squares ga) (sCons (sVar 0) (sNil))) (sCons (sVar 1) (sCons (sVar 2) (sNil))))) (sLst (sNil)))) (sNot (sTru (sCallF 2 (F__law_t2_free ga) (sCons (sVar 0) (sCons (sVar 1) (sNil))))))) (sRet (sC .non)) (sSkip))
    (sRet (sIf (sOr (sBool (sOp2 gEq (sOp2 gIxA (sVar 1) (sC (.int 0))) (sOp2 gIxA (sVar 2) (sC (.int 0))))) (sBool (sOp2 gEq (sOp2 gIxA (sVar 1) (sC (.int 1))) (sOp2 gIxA (sVar 2) (sC (.int 1)))))) (sC (.str "slide")) (sC (.str "turn"))))
def F__law_t2_kind (ga : PySem.Str → Nat) : List D → Sto → Out D := runB 3 (b__law_t2_kind ga)
def b__law_t2_first_wrong (ga : PySem.Str → Nat) : SS := sSeq (sAsg (gNm 2) (sLst (sCons (sVar 0) (sNil))))
    (sSeq (sFor (iRg1 (sCons (sCall gLenA (sCons (sVar 1) (sNil))) (sNil))) (gNm 3) (sSeq (sAsg (gTp 2 (gMore (gNm 4) (gMore (gNm 5) (gNone)))) (sOp2 gIxA (sVar 1) (sVar 3)))
    (sSeq (sIfS (sOr (sNot (sTru (sCallF 1 (F__law_t2_is_cell ga) (sCons (sVar 4) (sNil))))) (sOr (sNot (sTru (sCallF 1 (F__law_t2_is_cell ga) (sCons (sVar 5) (sNil))))) (sBool (sOp2 gIs (sCallF 3 (F__law_t2_kind ga) (sCons (sOp2 gIxA (sVar 2) (sOp1 gNeg (sC (.int 1)))) (sCons (sVar 4) (sCons (sVar 5) (sNil))))) (sC .non))))) (sRet (sTup (sCons (sVar 3) (sCons (sVar 2) (sNil))))) (sSkip))
    (sExpr (sMeth gAppend (sVar 2) (sCons (sCallF 3 (F__law_t2_done ga) (sCons (sOp2 gIxA (sVar 2) (sOp1 gNeg (sC (.int 1)))) (sCons (sVar 4) (sCons (sVar 5) (sNil))))) (sNil)))))))
    (sRet (sTup (sCons (sC .non) (sCons (sVar 2) (sNil))))))
def F__law_t2_first_wrong (ga : PySem.Str → Nat) : List D → Sto → Out D := runB 6 (b__law_t2_first_wrong ga)
def b__law_t2_witness (ga : PySem.Str → Nat) : SS := sSeq (sAsg (gNm 2) (sCallF 1 (F__law_t2_squares ga) (sCons (sLc (iSeq (sVar 0)) (gNm 8) (sBool (sOp2 gNe (sVar 8) (sVar 1))) (sVar 8) [8]) (sNil))))
    (sSeq (sAsg (gNm 3) (sCall gSortedA (sCons (sLc (iSeq (sCallF 1 (F__law_t2_beside ga) (sCons (sVar 1) (sNil)))) (gNm 8) (sBool (sOp2 gInA (sVar 8) (sVar 2))) (sVar 8) [8]) (sNil))))
    (sSeq (sAsg (gTp 2 (gMore (gNm 4) (gMore (gNm 5) (gNone)))) (sTup (sCons (sDNew) (sCons (sLst (sCons (sOp2 gIxA (sVar 3) (sC (.int 0))) (sNil))) (sNil)))))
    (sSeq (sAsg (gSb (sVar 4) (sOp2 gIxA (sVar 3) (sC (.int 0))) gSetIxA) (sC (.int 0)))
    (sSeq (sFor (iRg1 (sCons (sCall gLenA (sCons (sVar 2) (sNil))) (sNil))) (gNm 6) (sSeq (sAsg (gNm 7) (sLst (sNil)))
    (sSeq (sFor (iSeq (sVar 5)) (gNm 8) (sFor (iSeq (sCallF 1 (F__law_t2_beside ga) (sCons (sVar 8) (sNil)))) (gNm 9) (sIfS (sAnd (sBool (sOp2 gInA (sVar 9) (sVar 2))) (sBool (sOp2 gNotInA (sVar 9) (sVar 4)))) (sSeq (sAsg (gSb (sVar 4) (sVar 9) gSetIxA) (sOp2 gAdd (sVar 6) (sC (.int 1))))
    (sExpr (sMeth gAppend (sVar 7) (sCons (sVar 9) (sNil))))) (sSkip))))
    (sAsg (gNm 5) (sVar 7)))))
    (sSeq (sAsg (gNm 10) (sDNew))
    (sSeq (sFor (iSeq (sVar 3)) (gNm 8) (sSeq (sAsg (gNm 11) (sVar 8))
    (sFor (iRg1 (sCons (sOp2 gAdd (sOp2 gIxA (sVar 4) (sVar 8)) (sC (.int 1))) (sNil))) (gNm 6) (sSeq (sAsg (gSb (sVar 10) (sVar 11) gSetIxA) (sC (.bl true)))
    (sSeq (sAsg (gNm 12) (sLc (iSeq (sCallF 1 (F__law_t2_beside ga) (sCons (sVar 11) (sNil)))) (gNm 9) (sBool (sOp2 gEq (sDM gDGet (sVar 4) (sCons (sVar 9) (sNil))) (sOp2 gDif (sOp2 gIxA (sVar 4) (sVar 11)) (sC (.int 1))))) (sVar 9) [9]))
    (sIfS (sBool (sOp2 gNe (sVar 12) (sLst (sNil)))) (sAsg (gNm 11) (sCall (gMM minDD) (sCons (sVar 12) (sNil)))) (sSkip)))))))
    (sRet (sCall gTuple (sCons (sCall gSortedA (sCons (sCall gListA (sCons (sVar 10) (sNil))) (sNil))) (sNil))))))))))
def F__law_t2_witness (ga : PySem.Str → Nat) : List D → Sto → Out D := runB 13 (b__law_t2_witness ga)
def b__law_t2_papers (ga : PySem.Str → Nat) : SS := sSeq (sPar 2 3 (sCons (sLst (sNil)) (sCons (sVar 0) (sNil))))
    (sSeq (sFor (iSeq (sVar 1)) (gTp 2 (gMore (gNm 4) (gMore (gNm 5) (gNone)))) (sSeq (sAsg (gNm 6) (sOp2 gIxA (sCallF 3 (F__law_t2_supports ga) (sCons (sCallF 1 (F__law_t2_squares ga) (sCons (sVar 3) (sNil))) (sCons (sVar 4) (sCons (sVar 5) (sNil))))) (sC (.int 0))))
    (sSeq (sExpr (sMeth gAppend (sVar 2) (sCons (sTup (sCons (sVar 4) (sCons (sVar 5) (sCons (sVar 6) (sCons (sCallF 2 (F__law_t2_witness ga) (sCons (sVar 3) (sCons (sVar 4) (sNil)))) (sNil)))))) (sNil))))
    (sAsg (gNm 3) (sCallF 3 (F__law_t2_done ga) (sCons (sVar 3) (sCons (sVar 4) (sCons (sVar 5) (sNil)))))))))
    (sRet (sVar 2)))
def F__law_t2_papers (ga : PySem.Str → Nat) : List D → Sto → Out D := runB 7 (b__law_t2_papers ga)
def b__law_t2_around (ga : PySem.Str → Nat) : SS := sSeq (sAsg (gNm 1) (sLst (sNil)))
    (sSeq (sFor (iSeq (sLst (sCons (sOp1 gNeg (sC (.int 1))) (sCons (sC (.int 0)) (sCons (sC (.int 1)) (sNil)))))) (gNm 2) (sAsg (gNm 1) (sOp2 gAdd (sVar 1) (sLc (iSeq (sLst (sCons (sOp1 gNeg (sC (.int 1))) (sCons (sC (.int 0)) (sCons (sC (.int 1)) (sNil)))))) (gNm 3) (sBool (sOp2 gNe (sTup (sCons (sVar 2) (sCons (sVar 3) (sNil)))) (sTup (sCons (sC (.int 0)) (sCons (sC (.int 0)) (sNil)))))) (sTup (sCons (sOp2 gAdd (sOp2 gIxA (sVar 0) (sC (.int 0))) (sVar 2)) (sCons (sOp2 gAdd (sOp2 gIxA (sVar 0) (sC (.int 1))) (sVar 3)) (sNil)))) [3]))))
    (sRet (sVar 1)))
def F__law_t2_around (ga : PySem.Str → Nat) : List D → Sto → Out D := runB 4 (b__law_t2_around ga)
def b__law_t2_moves (ga : PySem.Str → Nat) : SS := sSeq (sAsg (gTp 2 (gMore (gNm 1) (gMore (gNm 2) (gNone)))) (sTup (sCons (sCallF 1 (F__law_t2_squares ga) (sCons (sVar 0) (sNil))) (sCons (sLst (sNil)) (sNil)))))
    (sSeq (sFor (iSeq (sVar 0)) (gNm 3) (sSeq (sAsg (gNm 4) (sLc (iSeq (sCallF 1 (F__law_t2_around ga) (sCons (sVar 3) (sNil)))) (gNm 5) (sBool (sOp2 gNe (sCallF 3 (F__law_t2_supports ga) (sCons (sVar 1) (sCons (sVar 3) (sCons (sVar 5) (sNil))))) (sLst (sNil)))) (sVar 5) [5]))
    (sIfS (sAnd (sBool (sOp2 gNe (sVar 4) (sLst (sNil)))) (sTru (sCallF 2 (F__law_t2_free ga) (sCons (sVar 0) (sCons (sVar 3) (sNil)))))) (sAsg (gNm 2) (sOp2 gAdd (sVar 2) (sLc (iSeq (sVar 4)) (gNm 5) (sYes) (sTup (sCons (sVar 3) (sCons (sVar 5) (sNil)))) [5]))) (sSkip))))
    (sRet (sCall gSortedA (sCons (sVar 2) (sNil)))))
def F__law_t2_moves (ga : PySem.Str → Nat) : List D → Sto → Out D := runB 6 (b__law_t2_moves ga)
def b__law_t2_plan (ga : PySem.Str → Nat) : SS := sSeq (sAsg (gTp 2 (gMore (gNm 3) (gMore (gNm 4) (gNone)))) (sTup (sCons (sLst (sNil)) (sCons (sLst (sCons (sVar 1) (sNil))) (sNil)))))
    (sSeq (sFor (iRg1 (sCons (sVar 2) (sNil))) (gNm 5) (sSeq (sAsg (gNm 6) (sCallF 1 (F__law_t2_moves ga) (sCons (sOp2 gIxA (sVar 4) (sOp1 gNeg (sC (.int 1)))) (sNil))))
    (sSeq (sIfS (sBool (sOp2 gEq (sVar 6) (sLst (sNil)))) (sBreak) (sSkip))
    (sSeq (sAsg (gNm 7) (sLc (iSeq (sVar 6)) (gNm 8) (sAnd (sBool (sOp2 gNe (sVar 3) (sLst (sNil)))) (sAnd (sBool (sOp2 gEq (sOp2 gIxA (sVar 8) (sC (.int 0))) (sOp2 gIxA (sOp2 gIxA (sVar 3) (sOp1 gNeg (sC (.int 1)))) (sC (.int 1))))) (sBool (sOp2 gNe (sOp2 gIxA (sVar 8) (sC (.int 1))) (sOp2 gIxA (sOp2 gIxA (sVar 3) (sOp1 gNeg (sC (.int 1)))) (sC (.int 0))))))) (sVar 8) [8]))
    (sSeq (sIfS (sAnd (sBool (sOp2 gNe (sVar 7) (sLst (sNil)))) (sBool (sOp2 gGt (sCallF 2 (F__law_draw ga) (sCons (sVar 0) (sCons (sC (.int 3)) (sNil)))) (sC (.int 0))))) (sAsg (gNm 6) (sVar 7)) (sSkip))
    (sSeq (sExpr (sMeth gAppend (sVar 3) (sCons (sCallF 2 (F__law_pick ga) (sCons (sVar 0) (sCons (sVar 6) (sNil)))) (sNil))))
    (sExpr (sMeth gAppend (sVar 4) (sCons (sCallF 3 (F__law_t2_done ga) (sCons (sOp2 gIxA (sVar 4) (sOp1 gNeg (sC (.int 1)))) (sCons (sOp2 gIxA (sOp2 gIxA (sVar 3) (sOp1 gNeg (sC (.int 1)))) (sC (.int 0))) (sCons (sOp2 gIxA (sOp2 gIxA (sVar 3) (sOp1 gNeg (sC (.int 1)))) (sC (.int 1))) (sNil))))) (sNil))))))))))
    (sRet (sTup (sCons (sVar 3) (sCons (sVar 4) (sNil))))))
def F__law_t2_plan (ga : PySem.Str → Nat) : List D → Sto → Out D := runB 9 (b__law_t2_plan ga)
def b_Step___init__ (ga : PySem.Str → Nat) : SS := sSeq (sFldS (ga "Step") "start" (sVar 0) (sVar 1))
    (sSeq (sFldS (ga "Step") "end" (sVar 0) (sVar 2))
    (sSeq (sFldS (ga "Step") "support" (sVar 0) (sVar 3))
    (sFldS (ga "Step") "witness" (sVar 0) (sVar 4))))
def F_Step___init__ (ga : PySem.Str → Nat) : List D → Sto → Out D := runB 5 (b_Step___init__ ga)
def b__law_t2_steps (ga : PySem.Str → Nat) : SS := sRet (sLc (iSeq (sVar 0)) (gNm 1) (sYes) (sMake (ga "Step") 5 (F_Step___init__ ga) (sCons (sOp2 gIxA (sVar 1) (sC (.int 0))) (sCons (sOp2 gIxA (sVar 1) (sC (.int 1))) (sCons (sOp2 gIxA (sVar 1) (sC (.int 2))) (sCons (sOp2 gIxA (sVar 1) (sC (.int 3))) (sNil)))))) [1])
def F__law_t2_steps (ga : PySem.Str → Nat) : List D → Sto → Out D := runB 2 (b__law_t2_steps ga)
def b__law_t2_reads (ga : PySem.Str → Nat) : SS := sSeq (sAsg (gTp 4 (gMore (gNm 1) (gMore (gNm 2) (gMore (gNm 3) (gMore (gNm 4) (gNone)))))) (sVar 0))
    (sRet (sCall gSortedA (sCons (sCall gSetOf (sCons (sOp2 gAdd (sOp2 gAdd (sOp2 gAdd (sLst (sCons (sVar 1) (sCons (sVar 2) (sNil)))) (sCallF 1 (F__law_t2_beside ga) (sCons (sVar 1) (sNil)))) (sCall gListA (sCons (sVar 3) (sNil)))) (sCall gListA (sCons (sVar 4) (sNil)))) (sNil))) (sNil))))
def F__law_t2_reads (ga : PySem.Str → Nat) : List D → Sto → Out D := runB 5 (b__law_t2_reads ga)
def b__law_t2_tied (ga : PySem.Str → Nat) : SS := sSeq (sPar 2 3 (sCons (sCallF 1 (F__law_t2_reads ga) (sCons (sVar 0) (sNil))) (sCons (sCallF 1 (F__law_t2_reads ga) (sCons (sVar 1) (sNil))) (sNil))))
    (sSeq (sIfS (sOr (sBool (sOp2 gInA (sOp2 gIxA (sVar 0) (sC (.int 0))) (sVar 3))) (sBool (sOp2 gInA (sOp2 gIxA (sVar 0) (sC (.int 1))) (sVar 3)))) (sRet (sC (.bl true))) (sSkip))
    (sRet (sOrV (sOp2 gInA (sOp2 gIxA (sVar 1) (sC (.int 0))) (sVar 2)) (sOp2 gInA (sOp2 gIxA (sVar 1) (sC (.int 1))) (sVar 2)))))
def F__law_t2_tied (ga : PySem.Str → Nat) : List D → Sto → Out D := runB 4 (b__law_t2_tied ga)
def b__law_t2_ties (ga : PySem.Str → Nat) : SS := sSeq (sAsg (gNm 1) (sLst (sNil)))
    (sSeq (sFor (iRg1 (sCons (sCall gLenA (sCons (sVar 0) (sNil))) (sNil))) (gNm 2) (sAsg (gNm 1) (sOp2 gAdd (sVar 1) (sLc (iRg2 (sCons (sOp2 gAdd (sVar 2) (sC (.int 1))) (sCons (sCall gLenA (sCons (sVar 0) (sNil))) (sNil)))) (gNm 3) (sTru (sCallF 2 (F__law_t2_tied ga) (sCons (sOp2 gIxA (sVar 0) (sVar 2)) (sCons (sOp2 gIxA (sVar 0) (sVar 3)) (sNil))))) (sTup (sCons (sVar 2) (sCons (sVar 3) (sNil)))) [3]))))
    (sRet (sVar 1)))
def F__law_t2_ties (ga : PySem.Str → Nat) : List D → Sto → Out D := runB 4 (b__law_t2_ties ga)
def b_is_list (ga : PySem.Str → Nat) : SS := sRet (sCall gIsi (sCons (sVar 0) (sCons (sTup (sCons (sC (.ty "list")) (sCons (sC (.ty "tuple")) (sNil)))) (sNil))))
def F_is_list (ga : PySem.Str → Nat) : List D → Sto → Out D := runB 1 (b_is_list ga)
def b_is_whole (ga : PySem.Str → Nat) : SS := sRet (sAndV (sCall gIsi (sCons (sVar 0) (sCons (sC (.ty "int")) (sNil)))) (sNotV (sCall gIsi (sCons (sVar 0) (sCons (sC (.ty "bool")) (sNil))))))
def F_is_whole (ga : PySem.Str → Nat) : List D → Sto → Out D := runB 1 (b_is_whole ga)
def b_changes (ga : PySem.Str → Nat) : SS := sRet (sOrV (sOp2 gInA (sFldD (ga "Step") "start" (sVar 0)) (sVar 1)) (sOp2 gInA (sFldD (ga "Step") "end" (sVar 0)) (sVar 1)))
def F_changes (ga : PySem.Str → Nat) : List D → Sto → Out D := runB 2 (b_changes ga)
def b_is_cell (ga : PySem.Str → Nat) : SS := sRet (sAndV (sCall gIsi (sCons (sVar 0) (sCons (sC (.ty "tuple")) (sNil)))) (sAndV (sOp2 gEq (sCall gLenA (sCons (sVar 0) (sNil))) (sC (.int 2))) (sAndV (sCallF 1 (F_is_whole ga) (sCons (sOp2 gIxA (sVar 0) (sC (.int 0))) (sNil))) (sCallF 1 (F_is_whole ga) (sCons (sOp2 gIxA (sVar 0) (sC (.int 1))) (sNil))))))
def F_is_cell (ga : PySem.Str → Nat) : List D → Sto → Out D := runB 1 (b_is_cell ga)
def b_check_cell (ga : PySem.Str → Nat) : SS := sIfS (sNot (sTru (sCallF 1 (F_is_cell ga) (sCons (sVar 0) (sNil))))) (sNever) (sSkip)
def F_check_cell (ga : PySem.Str → Nat) : List D → Sto → Out D := runB 1 (b_check_cell ga)
def b_beside (ga : PySem.Str → Nat) : SS := sSeq (sExpr (sCallF 1 (F_check_cell ga) (sCons (sVar 0) (sNil))))
    (sSeq (sAsg (gTp 2 (gMore (gNm 1) (gMore (gNm 2) (gNone)))) (sVar 0))
    (sRet (sTup (sCons (sTup (sCons (sOp2 gDif (sVar 1) (sC (.int 1))) (sCons (sVar 2) (sNil)))) (sCons (sTup (sCons (sVar 1) (sCons (sOp2 gDif (sVar 2) (sC (.int 1))) (sNil)))) (sCons (sTup (sCons (sOp2 gAdd (sVar 1) (sC (.int 1))) (sCons (sVar 2) (sNil)))) (sCons (sTup (sCons (sVar 1) (sCons (sOp2 gAdd (sVar 2) (sC (.int 1))) (sNil)))) (sNil))))))))
def F_beside (ga : PySem.Str → Nat) : List D → Sto → Out D := runB 3 (b_beside ga)
def b_reads_of (ga : PySem.Str → Nat) : SS := sSeq (sAsg (gNm 1) (sOp2 gAdd (sOp2 gAdd (sOp2 gAdd (sTup (sCons (sFldD (ga "Step") "start" (sVar 0)) (sCons (sFldD (ga "Step") "end" (sVar 0)) (sNil)))) (sCallF 1 (F_beside ga) (sCons (sFldD (ga "Step") "start" (sVar 0)) (sNil)))) (sFldD (ga "Step") "support" (sVar 0))) (sFldD (ga "Step") "witness" (sVar 0))))
    (sRet (sCall gTuple (sCons (sCall gSortedA (sCons (sSc (iSeq (sVar 1)) (gNm 2) (sYes) (sVar 2) [2]) (sNil))) (sNil))))
def F_reads_of (ga : PySem.Str → Nat) : List D → Sto → Out D := runB 3 (b_reads_of ga)
def b_ties_of (ga : PySem.Str → Nat) : SS := sSeq (sAsg (gNm 1) (sLc (iSeq (sVar 0)) (gNm 6) (sYes) (sDc (iSeq (sCallF 1 (F_reads_of ga) (sCons (sVar 6) (sNil)))) (gNm 7) (sYes) (sVar 7) (sC (.bl true)) [7]) [6]))
    (sSeq (sAsg (gNm 2) (sLst (sNil)))
    (sSeq (sFor (iEnm (sCons (sVar 0) (sNil))) (gTp 2 (gMore (gNm 3) (gMore (gNm 4) (gNone)))) (sFor (iRg1 (sCons (sVar 3) (sNil))) (gNm 5) (sIfS (sOr (sTru (sCallF 2 (F_changes ga) (sCons (sOp2 gIxA (sVar 0) (sVar 5)) (sCons (sOp2 gIxA (sVar 1) (sVar 3)) (sNil))))) (sTru (sCallF 2 (F_changes ga) (sCons (sVar 4) (sCons (sOp2 gIxA (sVar 1) (sVar 5)) (sNil)))))) (sExpr (sMeth gAppend (sVar 2) (sCons (sTup (sCons (sVar 5) (sCons (sVar 3) (sNil)))) (sNil)))) (sSkip))))
    (sRet (sCall gTuple (sCons (sCall gSortedA (sCons (sVar 2) (sNil))) (sNil))))))
def F_ties_of (ga : PySem.Str → Nat) : List D → Sto → Out D := runB 8 (b_ties_of ga)
def b_first_broken (ga : PySem.Str → Nat) : SS := sSeq (sIfS (sOr (sNot (sTru (sCallF 1 (F_is_list ga) (sCons (sVar 1) (sNil))))) (sNot (sTru (sCall gAll (sCons (sLc (iSeq (sVar 1)) (gNm 5) (sYes) (sCallF 1 (F_is_whole ga) (sCons (sVar 5) (sNil))) [5]) (sNil)))))) (sNever) (sSkip))
    (sSeq (sIfS (sBool (sOp2 gNe (sCall gSortedA (sCons (sVar 1) (sNil))) (sLrg1 (sCall gLenA (sCons (sVar 0) (sNil)))))) (sNever) (sSkip))
    (sSeq (sAsg (gNm 2) (sDc (iEnm (sCons (sVar 1) (sNil))) (gTp 2 (gMore (gNm 6) (gMore (gNm 5) (gNone)))) (sYes) (sVar 5) (sVar 6) [6, 5]))
    (sSeq (sFor (iSeq (sCallF 1 (F_ties_of ga) (sCons (sVar 0) (sNil)))) (gTp 2 (gMore (gNm 3) (gMore (gNm 4) (gNone)))) (sIfS (sBool (sOp2 gLt (sOp2 gIxA (sVar 2) (sVar 4)) (sOp2 gIxA (sVar 2) (sVar 3)))) (sRet (sTup (sCons (sVar 3) (sCons (sVar 4) (sNil))))) (sSkip)))
    (sRet (sC .non)))))
def F_first_broken (ga : PySem.Str → Nat) : List D → Sto → Out D := runB 7 (b_first_broken ga)
def b_waits_of (ga : PySem.Str → Nat) : SS := sSeq (sAsg (gNm 1) (sLc (iSeq (sVar 0)) (gNm 4) (sYes) (sLst (sNil)) [4]))
    (sSeq (sFor (iSeq (sCallF 1 (F_ties_of ga) (sCons (sVar 0) (sNil)))) (gTp 2 (gMore (gNm 2) (gMore (gNm 3) (gNone)))) (sExpr (sMeth gAppend (sOp2 gIxA (sVar 1) (sVar 3)) (sCons (sVar 2) (sNil)))))
    (sRet (sVar 1)))
def F_waits_of (ga : PySem.Str → Nat) : List D → Sto → Out D := runB 5 (b_waits_of ga)
def b_rounds_of (ga : PySem.Str → Nat) : SS := sSeq (sAsg (gTp 2 (gMore (gNm 1) (gMore (gNm 2) (gNone)))) (sTup (sCons (sLst (sNil)) (sCons (sLst (sNil)) (sNil)))))
    (sSeq (sFor (iEnm (sCons (sCallF 1 (F_waits_of ga) (sCons (sVar 0) (sNil))) (sNil))) (gTp 2 (gMore (gNm 3) (gMore (gNm 4) (gNone)))) (sSeq (sAsg (gNm 5) (sMaxDf (sLc (iSeq (sVar 4)) (gNm 6) (sYes) (sOp2 gAdd (sOp2 gIxA (sVar 1) (sVar 6)) (sC (.int 1))) [6]) (sC (.int 0))))
    (sSeq (sExpr (sMeth gAppend (sVar 1) (sCons (sVar 5) (sNil))))
    (sSeq (sIfS (sBool (sOp2 gEq (sVar 5) (sCall gLenA (sCons (sVar 2) (sNil))))) (sExpr (sMeth gAppend (sVar 2) (sCons (sLst (sNil)) (sNil)))) (sSkip))
    (sExpr (sMeth gAppend (sOp2 gIxA (sVar 2) (sVar 5)) (sCons (sVar 3) (sNil))))))))
    (sRet (sCall gTuple (sCons (sLc (iSeq (sVar 2)) (gNm 6) (sYes) (sCall gTuple (sCons (sVar 6) (sNil))) [6]) (sNil)))))
def F_rounds_of (ga : PySem.Str → Nat) : List D → Sto → Out D := runB 7 (b_rounds_of ga)
def b_law (ga : PySem.Str → Nat) : SS := sSeq (sAsg (gNm 1) (sCallF 1 (F__law_pen ga) (sCons (sVar 0) (sNil))))
    (sSeq (sAsg (gNm 2) (sCallF 2 (F__law_t2_body ga) (sCons (sVar 1) (sCons (sC (.int 18)) (sNil)))))
    (sSeq (sAsg (gTp 2 (gMore (gNm 3) (gMore (gNm 4) (gNone)))) (sCallF 3 (F__law_t2_plan ga) (sCons (sVar 1) (sCons (sVar 2) (sCons (sCallF 2 (F__law_draw ga) (sCons (sVar 1) (sCons (sC (.int 17)) (sNil)))) (sNil))))))
    (sSeq (sAsg (gNm 5) (sCallF 2 (F__law_t2_papers ga) (sCons (sVar 2) (sCons (sVar 3) (sNil)))))
    (sSeq (sPar 6 7 (sCons (sCallF 1 (F__law_t2_steps ga) (sCons (sVar 5) (sNil))) (sCons (sCallF 1 (F__law_t2_ties ga) (sCons (sVar 5) (sNil))) (sNil))))
    (sSeq (sAsg (gTp 2 (gMore (gNm 8) (gMore (gNm 9) (gNone)))) (sTup (sCons (sCallF 1 (F_rounds_of ga) (sCons (sVar 6) (sNil))) (sCons (sDNew) (sNil)))))
    (sSeq (sIfS (sOr (sNot (sTru (sCall gIsi (sCons (sVar 8) (sCons (sC (.ty "tuple")) (sNil)))))) (sBool (sOp2 gNe (sCallF 1 (F_rounds_of ga) (sCons (sLst (sNil)) (sNil))) (sTup (sNil))))) (sRet (sC (.bl false))) (sSkip))
    (sSeq (sFor (iRg1 (sCons (sCall gLenA (sCons (sVar 8) (sNil))) (sNil))) (gNm 10) (sSeq (sIfS (sOr (sNot (sTru (sCall gIsi (sCons (sOp2 gIxA (sVar 8) (sVar 10)) (sCons (sC (.ty "tuple")) (sNil)))))) (sOr (sBool (sOp2 gEq (sOp2 gIxA (sVar 8) (sVar 10)) (sTup (sNil)))) (sBool (sOp2 gNe (sCall gListA (sCons (sOp2 gIxA (sVar 8) (sVar 10)) (sNil))) (sCall gSortedA (sCons (sOp2 gIxA (sVar 8) (sVar 10)) (sNil))))))) (sRet (sC (.bl false))) (sSkip))
    (sFor (iSeq (sOp2 gIxA (sVar 8) (sVar 10))) (gNm 11) (sSeq (sIfS (sBool (sOp2 gInA (sVar 11) (sVar 9))) (sRet (sC (.bl false))) (sSkip))
    (sAsg (gSb (sVar 9) (sVar 11) gSetIxA) (sVar 10))))))
    (sSeq (sIfS (sBool (sOp2 gNe (sCall gSortedA (sCons (sCall gListA (sCons (sVar 9) (sNil))) (sNil))) (sLrg1 (sCall gLenA (sCons (sVar 5) (sNil)))))) (sRet (sC (.bl false))) (sSkip))
    (sSeq (sFor (iRg1 (sCons (sCall gLenA (sCons (sVar 5) (sNil))) (sNil))) (gNm 11) (sSeq (sAsg (gNm 12) (sLc (iSeq (sVar 7)) (gTp 2 (gMore (gNm 17) (gMore (gNm 18) (gNone)))) (sBool (sOp2 gEq (sVar 18) (sVar 11))) (sOp2 gIxA (sVar 9) (sVar 17)) [17, 18]))
    (sIfS (sBool (sOp2 gNe (sOp2 gAdd (sCall (gMM maxDD) (sCons (sOp2 gAdd (sLst (sCons (sOp1 gNeg (sC (.int 1))) (sNil))) (sVar 12)) (sNil))) (sC (.int 1))) (sOp2 gIxA (sVar 9) (sVar 11)))) (sRet (sC (.bl false))) (sSkip))))
    (sSeq (sAsg (gNm 13) (sLst (sNil)))
    (sSeq (sFor (iSeq (sVar 8)) (gNm 14) (sAsg (gNm 13) (sOp2 gAdd (sVar 13) (sCallF 2 (F__law_shuffled ga) (sCons (sVar 1) (sCons (sCall gListA (sCons (sVar 14) (sNil))) (sNil)))))))
    (sSeq (sIfS (sBool (sOp2 gIsNot (sCallF 2 (F_first_broken ga) (sCons (sVar 6) (sCons (sVar 13) (sNil)))) (sC .non))) (sRet (sC (.bl false))) (sSkip))
    (sSeq (sAsg (gTp 2 (gMore (gNm 15) (gMore (gNm 16) (gNone)))) (sCallF 2 (F__law_t2_first_wrong ga) (sCons (sVar 2) (sCons (sLc (iSeq (sVar 13)) (gNm 11) (sYes) (sOp2 gIxA (sVar 3) (sVar 11)) [11]) (sNil)))))
    (sRet (sAndV (sOp2 gIs (sVar 15) (sC .non)) (sOp2 gEq (sOp2 gIxA (sVar 16) (sOp1 gNeg (sC (.int 1)))) (sOp2 gIxA (sVar 4) (sOp1 gNeg (sC (.int 1))))))))))))))))))))
def F_law (ga : PySem.Str → Nat) : List D → Sto → Out D := runB 19 (b_law ga)
end Lw
end
section
set_option linter.all false
set_option maxRecDepth 100000
set_option maxHeartbeats 1000000
namespace Lw
open PySem PySem.Spec PyProof.Rows L2 SX
def top (i : Nat) : Stmt := PySem.Challenge.pw_slideinto_k48_whole_rounds.main.body.getD i (.Pass ⟨0, 0, 0, 0⟩)
def topM (i j : Nat) : Stmt := match top i with
  | .ClassDef _ _ _ b _ _ _ _ _ _ _ => b.getD j (.Pass ⟨0, 0, 0, 0⟩)
  | _ => .Pass ⟨0, 0, 0, 0⟩
def d_is_whole : He.DefD := ⟨("is_whole", none), "is_whole", "is_whole", defArgs (top 4), defBody (top 4), defScope (top 4), [], []⟩
def d_is_list : He.DefD := ⟨("is_list", none), "is_list", "is_list", defArgs (top 5), defBody (top 5), defScope (top 5), [], []⟩
def d_is_cell : He.DefD := ⟨("is_cell", none), "is_cell", "is_cell", defArgs (top 6), defBody (top 6), defScope (top 6), [], []⟩
def d_check_cell : He.DefD := ⟨("check_cell", none), "check_cell", "check_cell", defArgs (top 8), defBody (top 8), defScope (top 8), [], []⟩
def d_beside : He.DefD := ⟨("beside", none), "beside", "beside", defArgs (top 9), defBody (top 9), defScope (top 9), [], []⟩
def d_Step___init__ : He.DefD := ⟨("Step", some "__init__"), "__init__", "Step.__init__", defArgs (topM 11 0), defBody (topM 11 0), defScope (topM 11 0), [], []⟩
def d_reads_of : He.DefD := ⟨("reads_of", none), "reads_of", "reads_of", defArgs (top 12), defBody (top 12), defScope (top 12), [], []⟩
def d_changes : He.DefD := ⟨("changes", none), "changes", "changes", defArgs (top 13), defBody (top 13), defScope (top 13), [], []⟩
def d_ties_of : He.DefD := ⟨("ties_of", none), "ties_of", "ties_of", defArgs (top 14), defBody (top 14), defScope (top 14), [], []⟩
def d_waits_of : He.DefD := ⟨("waits_of", none), "waits_of", "waits_of", defArgs (top 15), defBody (top 15), defScope (top 15), [], []⟩
def d_first_broken : He.DefD := ⟨("first_broken", none), "first_broken", "first_broken", defArgs (top 16), defBody (top 16), defScope (top 16), [], []⟩
def d_rounds_of : He.DefD := ⟨("rounds_of", none), "rounds_of", "rounds_of", defArgs (top 17), defBody (top 17), defScope (top 17), [], []⟩
def d__law_pen : He.DefD := ⟨("_law_pen", none), "_law_pen", "_law_pen", defArgs (top 19), defBody (top 19), defScope (top 19), [], []⟩
def d__law_draw : He.DefD := ⟨("_law_draw", none), "_law_draw", "_law_draw", defArgs (top 20), defBody (top 20), defScope (top 20), [], []⟩
def d__law_pick : He.DefD := ⟨("_law_pick", none), "_law_pick", "_law_pick", defArgs (top 21), defBody (top 21), defScope (top 21), [], []⟩
def d__law_is_whole : He.DefD := ⟨("_law_is_whole", none), "_law_is_whole", "_law_is_whole", defArgs (top 22), defBody (top 22), defScope (top 22), [], []⟩
def d__law_shuffled : He.DefD := ⟨("_law_shuffled", none), "_law_shuffled", "_law_shuffled", defArgs (top 23), defBody (top 23), defScope (top 23), [], []⟩
def d__law_t2_beside : He.DefD := ⟨("_law_t2_beside", none), "_law_t2_beside", "_law_t2_beside", defArgs (top 24), defBody (top 24), defScope (top 24), [], []⟩
def d__law_t2_parts : He.DefD := ⟨("_law_t2_parts", none), "_law_t2_parts", "_law_t2_parts", defArgs (top 25), defBody (top 25), defScope (top 25), [], []⟩
def d__law_t2_is_cell : He.DefD := ⟨("_law_t2_is_cell", none), "_law_t2_is_cell", "_law_t2_is_cell", defArgs (top 26), defBody (top 26), defScope (top 26), [], []⟩
def d__law_t2_blob : He.DefD := ⟨("_law_t2_blob", none), "_law_t2_blob", "_law_t2_blob", defArgs (top 27), defBody (top 27), defScope (top 27), [], []⟩
def d__law_t2_way : He.DefD := ⟨("_law_t2_way", none), "_law_t2_way", "_law_t2_way", defArgs (top 28), defBody (top 28), defScope (top 28), [], []⟩
def d__law_t2_cells : He.DefD := ⟨("_law_t2_cells", none), "_law_t2_cells", "_law_t2_cells", defArgs (top 29), defBody (top 29), defScope (top 29), [], []⟩
def d__law_t2_body : He.DefD := ⟨("_law_t2_body", none), "_law_t2_body", "_law_t2_body", defArgs (top 30), defBody (top 30), defScope (top 30), [], []⟩
def d__law_t2_squares : He.DefD := ⟨("_law_t2_squares", none), "_law_t2_squares", "_law_t2_squares", defArgs (top 31), defBody (top 31), defScope (top 31), [], []⟩
def d__law_t2_hangs : He.DefD := ⟨("_law_t2_hangs", none), "_law_t2_hangs", "_law_t2_hangs", defArgs (top 32), defBody (top 32), defScope (top 32), [], []⟩
def d__law_t2_free : He.DefD := ⟨("_law_t2_free", none), "_law_t2_free", "_law_t2_free", defArgs (top 33), defBody (top 33), defScope (top 33), [], []⟩
def d__law_t2_supports : He.DefD := ⟨("_law_t2_supports", none), "_law_t2_supports", "_law_t2_supports", defArgs (top 34), defBody (top 34), defScope (top 34), [], []⟩
def d__law_t2_kind : He.DefD := ⟨("_law_t2_kind", none), "_law_t2_kind", "_law_t2_kind", defArgs (top 35), defBody (top 35), defScope (top 35), [], []⟩
def d__law_t2_around : He.DefD := ⟨("_law_t2_around", none), "_law_t2_around", "_law_t2_around", defArgs (top 36), defBody (top 36), defScope (top 36), [], []⟩
def d__law_t2_moves : He.DefD := ⟨("_law_t2_moves", none), "_law_t2_moves", "_law_t2_moves", defArgs (top 37), defBody (top 37), defScope (top 37), [], []⟩
def d__law_t2_done : He.DefD := ⟨("_law_t2_done", none), "_law_t2_done", "_law_t2_done", defArgs (top 38), defBody (top 38), defScope (top 38), [], []⟩
def d__law_t2_plan : He.DefD := ⟨("_law_t2_plan", none), "_law_t2_plan", "_law_t2_plan", defArgs (top 39), defBody (top 39), defScope (top 39), [], []⟩
def d__law_t2_first_wrong : He.DefD := ⟨("_law_t2_first_wrong", none), "_law_t2_first_wrong", "_law_t2_first_wrong", defArgs (top 40), defBody (top 40), defScope (top 40), [], []⟩
def d__law_t2_witness : He.DefD := ⟨("_law_t2_witness", none), "_law_t2_witness", "_law_t2_witness", defArgs (top 41), defBody (top 41), defScope (top 41), [], []⟩
def d__law_t2_papers : He.DefD := ⟨("_law_t2_papers", none), "_law_t2_papers", "_law_t2_papers", defArgs (top 42), defBody (top 42), defScope (top 42), [], []⟩
def d__law_t2_reads : He.DefD := ⟨("_law_t2_reads", none), "_law_t2_reads", "_law_t2_reads", defArgs (top 43), defBody (top 43), defScope (top 43), [], []⟩
def d__law_t2_tied : He.DefD := ⟨("_law_t2_tied", none), "_law_t2_tied", "_law_t2_tied", defArgs (top 44), defBody (top 44), defScope (top 44), [], []⟩
def d__law_t2_ties : He.DefD := ⟨("_law_t2_ties", none), "_law_t2_ties", "_law_t2_ties", defArgs (top 45), defBody (top 45), defScope (top 45), [], []⟩
def d__law_t2_steps : He.DefD := ⟨("_law_t2_steps", none), "_law_t2_steps", "_law_t2_steps", defArgs (top 46), defBody (top 46), defScope (top 46), [], []⟩
def d_law : He.DefD := ⟨("law", none), "law", "law", defArgs (top 47), defBody (top 47), defScope (top 47), [], []⟩
def fn : List He.DefD := [d_is_whole, d_is_list, d_is_cell, d_check_cell, d_beside, d_Step___init__, d_reads_of, d_changes, d_ties_of, d_waits_of, d_first_broken, d_rounds_of, d__law_pen, d__law_draw, d__law_pick, d__law_is_whole, d__law_shuffled, d__law_t2_beside, d__law_t2_parts, d__law_t2_is_cell, d__law_t2_blob, d__law_t2_way, d__law_t2_cells, d__law_t2_body, d__law_t2_squares, d__law_t2_hangs, d__law_t2_free, d__law_t2_supports, d__law_t2_kind, d__law_t2_around, d__law_t2_moves, d__law_t2_done, d__law_t2_plan, d__law_t2_first_wrong, d__law_t2_witness, d__law_t2_papers, d__law_t2_reads, d__law_t2_tied, d__law_t2_ties, d__law_t2_steps, d_law]
def fa : List He.Fa := [.glo "SlideError", .glo "BadNumber", .glo "BadCell", .glo "is_whole", .glo "is_list", .glo "is_cell", .glo "check_cell", .glo "beside", .glo "Step", .glo "reads_of", .glo "changes", .glo "ties_of", .glo "waits_of", .glo "first_broken", .glo "rounds_of", .glo "_law_pen", .glo "_law_draw", .glo "_law_pick", .glo "_law_is_whole", .glo "_law_shuffled", .glo "_law_t2_beside", .glo "_law_t2_parts", .glo "_law_t2_is_cell", .glo "_law_t2_blob", .glo "_law_t2_way", .glo "_law_t2_cells", .glo "_law_t2_body", .glo "_law_t2_squares", .glo "_law_t2_hangs", .glo "_law_t2_free", .glo "_law_t2_supports", .glo "_law_t2_kind", .glo "_law_t2_around", .glo "_law_t2_moves", .glo "_law_t2_done", .glo "_law_t2_plan", .glo "_law_t2_first_wrong", .glo "_law_t2_witness", .glo "_law_t2_papers", .glo "_law_t2_reads", .glo "_law_t2_tied", .glo "_law_t2_ties", .glo "_law_t2_steps", .glo "law", .free "ValueError", .free "abs", .free "all", .free "bool", .free "enumerate", .free "int", .free "isinstance", .free "len", .free "list", .free "max", .free "min", .free "range", .free "set", .free "sorted", .free "tuple", .cls "Step", .mkr "Step", .noat "Step" "start", .noat "Step" "end", .noat "Step" "support", .noat "Step" "witness"]
structure Tp (K : PySem.W.Frag) (mg : PySem.Str → Option Value) : Prop where
  d : ∀ (i : Nat) (d : He.DefD), fn[i]? = some d → ∃ fd, FunD K d.name d.qual d.params d.body d.scope (d.dvs K) (d.kws K) (He.fAd K d.at_) fd
  fa : ∀ (i : Nat) (f : He.Fa), fa[i]? = some f → f.ok K = true
  g : ∀ x : PySem.Str, (He.Fa.glo x).ok K = true → mg x = some (.ref (He.ga K x))
  f : ∀ x : PySem.Str, (He.Fa.free x).ok K = true → mg x = none
variable {P : Program} {w : World} {K : PySem.W.Frag} {mg : PySem.Str → Option Value} {base : Heap}
def N__law_draw : List PySem.Str := ["_law_pen_here", "_law_many", "_law_cell", "_law_digit", "_law_blend"]
theorem sc__law_draw : FnScope N__law_draw ["_law_pen_here", "_law_many"] (defScope (top 20)) := ⟨rfl, rfl, rfl, by decide +kernel, rfl, by decide +kernel, by decide +kernel⟩
theorem ok__law_draw (T : Tp K mg) : Df P w K mg base 1 (He.fAd K ("_law_draw", none)) ["_law_pen_here", "_law_many"] (F__law_draw (He.ga K)) := by
  obtain ⟨fd, F⟩ := T.d 13 d__law_draw rfl
  refine df_of (N := N__law_draw) (ps := ["_law_pen_here", "_law_many"]) (b := b__law_draw (He.ga K)) F sc__law_draw (fun _ _ _ _ _ _ us hl => match us, hl with | [_, _], _ => rfl) fun cdv A outer s H E hr => ?_
  have hu := hu65 hr
  have h64 := hu64 hr
  unfold b__law_draw
  exact (ss_cons (ss_asg (se_add (se_ixA hu (se_var rfl (.inl rfl)) se_str) se_int) (sg_sub WF (se_var rfl (.inl rfl)) se_str gs_setA (fun ho hi => pg_sub ho hi (PSet.or set_list (set_dct hu)))))
    (ss_cons (ss_if (PW.pt (sw_and (st_eq h64 (se_ixA hu (se_var rfl (.inl rfl)) se_str) se_int) (pw_and1 (st_lt (se_ixA hu (se_var rfl (.inl rfl)) se_str) (PE.imp (pe_callB ((call_len).or call_dlen) rfl (T.f _ (T.fa 51 _ rfl)) PySem.boot_len (sa_cons (se_ixA hu (se_var rfl (.inl rfl)) se_str) sa_nil)) (cb_imp gc_lenA)))))) (ss_cons (ss_set sc__law_draw.nd rfl (.inl rfl) (se_ixA hu (se_ixA hu (se_var rfl (.inl rfl)) se_str) (se_ixA hu (se_var rfl (.inl rfl)) se_str)))
    (ss_cons (ss_asg (se_add (se_ixA hu (se_var rfl (.inl rfl)) se_str) se_int) (sg_sub WF (se_var rfl (.inl rfl)) se_str gs_setA (fun ho hi => pg_sub ho hi (PSet.or set_list (set_dct hu)))))
    (ss_one (ss_if (st_ge (se_var rfl (.inl rfl)) (se_pow se_int se_int)) (ss_one (ss_asg (se_sub (se_var rfl (.inl rfl)) (se_pow se_int se_int)) (sg_sub WF (se_var rfl (.inl rfl)) se_str gs_setA (fun ho hi => pg_sub ho hi (PSet.or set_list (set_dct hu)))))) (ss_one (ss_asg (se_mod (PE.imp (pe_callTy call_int1 rfl (T.f _ (T.fa 49 _ rfl)) PyProof.Rows.boot_int (sa_cons (se_add (se_mulI (se_ixA hu (se_var rfl (.inl rfl)) se_str) se_int) (se_var rfl (.inl rfl))) sa_nil)) (cb_imp gc_int)) se_int) (sg_sub WF (se_var rfl (.inl rfl)) se_str gs_setA (fun ho hi => pg_sub ho hi (PSet.or set_list (set_dct hu)))))))))) ss_nil)
    (ss_cons (ss_if (st_gt (se_ixA hu (se_var rfl (.inl rfl)) se_str) se_int) (ss_cons (ss_set sc__law_draw.nd rfl (.inl rfl) (se_mod (PE.imp (pe_callTy call_int1 rfl (T.f _ (T.fa 49 _ rfl)) PyProof.Rows.boot_int (sa_cons (se_ixA hu (se_var rfl (.inl rfl)) se_str) sa_nil)) (cb_imp gc_int)) (se_var rfl (.inl rfl))))
    (ss_cons (ss_asg (se_fdiv (se_ixA hu (se_var rfl (.inl rfl)) se_str) (se_var rfl (.inl rfl))) (sg_sub WF (se_var rfl (.inl rfl)) se_str gs_setA (fun ho hi => pg_sub ho hi (PSet.or set_list (set_dct hu)))))
    (ss_one (ss_ret (se_var rfl (.inl rfl)))))) ss_nil)
    (ss_cons (ss_set sc__law_draw.nd rfl (.inl rfl) (se_add (se_add (se_ixA hu (se_var rfl (.inl rfl)) se_str) (se_mulI (se_ixA hu (se_var rfl (.inl rfl)) se_str) se_int)) se_int))
    (ss_one (ss_ret (se_mod (se_fdiv (PE.imp (pe_callTy call_int1 rfl (T.f _ (T.fa 49 _ rfl)) PyProof.Rows.boot_int (sa_cons (se_mod (se_pow (se_var rfl (.inl rfl)) se_int) se_int) sa_nil)) (cb_imp gc_int)) se_int) (se_var rfl (.inl rfl)))))))))
def N__law_pen : List PySem.Str := ["_law_script", "_law_fold", "_law_cell"]
theorem sc__law_pen : FnScope N__law_pen ["_law_script"] (defScope (top 19)) := ⟨rfl, rfl, rfl, by decide +kernel, rfl, by decide +kernel, by decide +kernel⟩
theorem ok__law_pen (T : Tp K mg) : Df P w K mg base 1 (He.fAd K ("_law_pen", none)) ["_law_script"] (F__law_pen (He.ga K)) := by
  obtain ⟨fd, F⟩ := T.d 12 d__law_pen rfl
  refine df_of (N := N__law_pen) (ps := ["_law_script"]) (b := b__law_pen (He.ga K)) F sc__law_pen (fun _ _ _ _ _ _ us hl => match us, hl with | [_], _ => rfl) fun cdv A outer s H E hr => ?_
  have hu := hu65 hr
  have h64 := hu64 hr
  unfold b__law_pen
  exact (ss_cons (ss_set sc__law_pen.nd rfl (.inl rfl) se_int)
    (ss_cons (ss_for PassesOwn.never rfl (si_seq (se_var rfl (.inl rfl))) (sg_name sc__law_pen.nd rfl (.inl rfl)) (ss_one (ss_set sc__law_pen.nd rfl (.inl rfl) (se_mod (PE.imp (pe_callTy call_int1 rfl (T.f _ (T.fa 49 _ rfl)) PyProof.Rows.boot_int (sa_cons (se_add (se_mulI (se_var rfl (.inl rfl)) se_int) (se_var rfl (.inl rfl))) sa_nil)) (cb_imp gc_int)) se_int))))
    (ss_one (ss_ret (se_disp (ps := [(sC (.str "cells"), sCall gListA (sCons (sVar 0) (sNil))), (sC (.str "at"), sC (.int 0)), (sC (.str "digits"), sC (.int 0)), (sC (.str "count"), sC (.int 0)), (sC (.str "fold"), sVar 1)]) (pps_cons se_str (PE.imp (pe_callTy (call_list_of.or (call_dlist rfl)) rfl (T.f _ (T.fa 52 _ rfl)) PyProof.Rows.boot_list (sa_cons (se_var rfl (.inl rfl)) sa_nil)) (cb_imp gc_listA)) (pps_cons se_str se_int (pps_cons se_str se_int (pps_cons se_str se_int (pps_cons se_str (se_var rfl (.inl rfl)) pps_nil))))) rfl rfl (by simp) (by decide))))))
def N__law_shuffled : List PySem.Str := ["_law_pen_here", "_law_some", "_law_left", "_law_found", "_law_lap", "_law_k"]
theorem sc__law_shuffled : FnScope N__law_shuffled ["_law_pen_here", "_law_some"] (defScope (top 23)) := ⟨rfl, rfl, rfl, by decide +kernel, rfl, by decide +kernel, by decide +kernel⟩
theorem ok__law_shuffled (T : Tp K mg) : Df P w K mg base 2 (He.fAd K ("_law_shuffled", none)) ["_law_pen_here", "_law_some"] (F__law_shuffled (He.ga K)) := by
  obtain ⟨fd, F⟩ := T.d 16 d__law_shuffled rfl
  refine df_of (N := N__law_shuffled) (ps := ["_law_pen_here", "_law_some"]) (b := b__law_shuffled (He.ga K)) F sc__law_shuffled (fun _ _ _ _ _ _ us hl => match us, hl with | [_, _], _ => rfl) fun cdv A outer s H E hr => ?_
  have hu := hu65 hr
  have h64 := hu64 hr
  unfold b__law_shuffled
  exact (ss_cons (ss_par2 rfl sc__law_shuffled.nd rfl rfl (by decide) rfl rfl (sa_cons (PE.imp (pe_callTy (call_list_of.or (call_dlist rfl)) rfl (T.f _ (T.fa 52 _ rfl)) PyProof.Rows.boot_list (sa_cons (se_var rfl (.inl rfl)) sa_nil)) (cb_imp gc_listA)) (sa_cons (se_lst sa_nil) sa_nil)) rfl)
    (ss_cons (ss_for PassesOwn.never rfl (PI.imp (pi_range1 rfl (T.f _ (T.fa 55 _ rfl)) (sa_cons (PE.imp (pe_callB ((call_len).or call_dlen) rfl (T.f _ (T.fa 51 _ rfl)) PySem.boot_len (sa_cons (se_var rfl (.inl rfl)) sa_nil)) (cb_imp gc_lenA)) sa_nil)) rg1_imp) (sg_name sc__law_shuffled.nd rfl (.inl rfl)) (ss_cons (ss_set sc__law_shuffled.nd rfl (.inl rfl) (se_call (ok__law_draw T) (hr.mono (by decide)) rfl (T.g _ (T.fa 16 _ rfl)) (sa_cons (se_var rfl (.inl rfl)) (sa_cons (PE.imp (pe_callB ((call_len).or call_dlen) rfl (T.f _ (T.fa 51 _ rfl)) PySem.boot_len (sa_cons (se_var rfl (.inl rfl)) sa_nil)) (cb_imp gc_lenA)) sa_nil))))
    (ss_cons (ss_expr (PE.imp (pe_bm PySem.F.plainAttrs_list PySem.F.slot_list_append PySem.F.type_list_append mt_append (se_var rfl (.inl rfl)) (sa_cons (se_ixA hu (se_var rfl (.inl rfl)) (se_var rfl (.inl rfl))) sa_nil)) (bm_imp gm_append)))
    (ss_one (ss_set sc__law_shuffled.nd rfl (.inl rfl) (se_add (se_slice (se_var rfl (.inl rfl)) so_none (so_some (se_var rfl (.inl rfl)))) (se_slice (se_var rfl (.inl rfl)) (so_some (se_add (se_var rfl (.inl rfl)) se_int)) so_none)))))))
    (ss_one (ss_ret (se_var rfl (.inl rfl))))))
def N__law_pick : List PySem.Str := ["_law_pen_here", "_law_some"]
theorem sc__law_pick : FnScope N__law_pick ["_law_pen_here", "_law_some"] (defScope (top 21)) := ⟨rfl, rfl, rfl, by decide +kernel, rfl, by decide +kernel, by decide +kernel⟩
theorem ok__law_pick (T : Tp K mg) : Df P w K mg base 2 (He.fAd K ("_law_pick", none)) ["_law_pen_here", "_law_some"] (F__law_pick (He.ga K)) := by
  obtain ⟨fd, F⟩ := T.d 14 d__law_pick rfl
  refine df_of (N := N__law_pick) (ps := ["_law_pen_here", "_law_some"]) (b := b__law_pick (He.ga K)) F sc__law_pick (fun _ _ _ _ _ _ us hl => match us, hl with | [_, _], _ => rfl) fun cdv A outer s H E hr => ?_
  have hu := hu65 hr
  have h64 := hu64 hr
  unfold b__law_pick
  exact (ss_one (ss_ret (se_ixA hu (se_var rfl (.inl rfl)) (se_call (ok__law_draw T) (hr.mono (by decide)) rfl (T.g _ (T.fa 16 _ rfl)) (sa_cons (se_var rfl (.inl rfl)) (sa_cons (PE.imp (pe_callB ((call_len).or call_dlen) rfl (T.f _ (T.fa 51 _ rfl)) PySem.boot_len (sa_cons (se_var rfl (.inl rfl)) sa_nil)) (cb_imp gc_lenA)) sa_nil))))))
def N__law_t2_beside : List PySem.Str := ["_law_cell"]
theorem sc__law_t2_beside : FnScope N__law_t2_beside ["_law_cell"] (defScope (top 24)) := ⟨rfl, rfl, rfl, by decide +kernel, rfl, by decide +kernel, by decide +kernel⟩
theorem ok__law_t2_beside (T : Tp K mg) : Df P w K mg base 1 (He.fAd K ("_law_t2_beside", none)) ["_law_cell"] (F__law_t2_beside (He.ga K)) := by
  obtain ⟨fd, F⟩ := T.d 17 d__law_t2_beside rfl
  refine df_of (N := N__law_t2_beside) (ps := ["_law_cell"]) (b := b__law_t2_beside (He.ga K)) F sc__law_t2_beside (fun _ _ _ _ _ _ us hl => match us, hl with | [_], _ => rfl) fun cdv A outer s H E hr => ?_
  have hu := hu65 hr
  have h64 := hu64 hr
  unfold b__law_t2_beside
  exact (ss_one (ss_ret (se_lst (sa_cons (se_tup (sa_cons (se_sub (se_ixA hu (se_var rfl (.inl rfl)) se_int) se_int) (sa_cons (se_ixA hu (se_var rfl (.inl rfl)) se_int) sa_nil))) (sa_cons (se_tup (sa_cons (se_ixA hu (se_var rfl (.inl rfl)) se_int) (sa_cons (se_sub (se_ixA hu (se_var rfl (.inl rfl)) se_int) se_int) sa_nil))) (sa_cons (se_tup (sa_cons (se_add (se_ixA hu (se_var rfl (.inl rfl)) se_int) se_int) (sa_cons (se_ixA hu (se_var rfl (.inl rfl)) se_int) sa_nil))) (sa_cons (se_tup (sa_cons (se_ixA hu (se_var rfl (.inl rfl)) se_int) (sa_cons (se_add (se_ixA hu (se_var rfl (.inl rfl)) se_int) se_int) sa_nil))) sa_nil)))))))
def N__law_t2_blob : List PySem.Str := ["_law_pen_here", "_law_many", "_law_taste", "_law_cells", "_law_known", "_law_counts", "_law_lap", "_law_one", "_law_free", "_law_thin", "_law_thick"]
theorem sc__law_t2_blob : FnScope N__law_t2_blob ["_law_pen_here", "_law_many", "_law_taste"] (defScope (top 27)) := ⟨rfl, rfl, rfl, by decide +kernel, rfl, by decide +kernel, by decide +kernel⟩
theorem ok__law_t2_blob (T : Tp K mg) : Df P w K mg base 3 (He.fAd K ("_law_t2_blob", none)) ["_law_pen_here", "_law_many", "_law_taste"] (F__law_t2_blob (He.ga K)) := by
  obtain ⟨fd, F⟩ := T.d 20 d__law_t2_blob rfl
  refine df_of (N := N__law_t2_blob) (ps := ["_law_pen_here", "_law_many", "_law_taste"]) (b := b__law_t2_blob (He.ga K)) F sc__law_t2_blob (fun _ _ _ _ _ _ us hl => match us, hl with | [_, _, _], _ => rfl) fun cdv A outer s H E hr => ?_
  have hu := hu65 hr
  have h64 := hu64 hr
  unfold b__law_t2_blob
  exact (ss_cons (ss_asg (se_tup (sa_cons (se_lst (sa_cons (se_tup (sa_cons se_int (sa_cons se_int sa_nil))) sa_nil)) (sa_cons se_dnew (sa_cons se_dnew sa_nil)))) (sg_tup rfl (sg_cons (sg_name sc__law_t2_blob.nd rfl (.inl rfl)) (sg_cons (sg_name sc__law_t2_blob.nd rfl (.inr rfl)) (sg_cons (sg_name sc__law_t2_blob.nd rfl (.inr rfl)) sg_nil))) (fun h => pg_tup rfl h)))
    (ss_cons (ss_asg se_bl (sg_sub WF (se_var rfl (.inr (.inl rfl))) (se_tup (sa_cons se_int (sa_cons se_int sa_nil))) gs_setA (fun ho hi => pg_sub ho hi (PSet.or set_list (set_dct hu)))))
    (ss_cons (ss_for PassesOwn.never rfl (PI.imp (pi_range1 rfl (T.f _ (T.fa 55 _ rfl)) (sa_cons (se_sub (se_var rfl (.inl rfl)) se_int) sa_nil)) rg1_imp) (sg_name sc__law_t2_blob.nd rfl (.inl rfl)) (ss_cons (ss_for PassesOwn.never rfl (si_seq (se_call (ok__law_t2_beside T) (hr.mono (by decide)) rfl (T.g _ (T.fa 20 _ rfl)) (sa_cons (se_ixA hu (se_var rfl (.inl rfl)) (se_neg se_int)) sa_nil))) (sg_name sc__law_t2_blob.nd rfl (.inl rfl)) (ss_one (ss_asg (se_add (PE.imp (pe_dm PySem.F.slot_dict_get PySem.F.type_dict_get (mt_dget hu) (se_var rfl (.inr (.inl rfl))) (sa_cons (se_var rfl (.inl rfl)) (sa_cons se_int sa_nil))) (dm_imp gm_dget)) se_int) (sg_sub WF (se_var rfl (.inr (.inl rfl))) (se_var rfl (.inl rfl)) gs_setA (fun ho hi => pg_sub ho hi (PSet.or set_list (set_dct hu)))))))
    (ss_cons (ss_setLc (own := [("_law_one", 7)]) rfl sc__law_t2_blob.nd rfl rfl rfl (si_seq (PE.imp (pe_callTy (call_list_of.or (call_dlist rfl)) rfl (T.f _ (T.fa 52 _ rfl)) PyProof.Rows.boot_list (sa_cons (se_var rfl (.inr (.inl rfl))) sa_nil)) (cb_imp gc_listA))) (blkOk_by (N := N__law_t2_blob) (sc := defScope (top 27)) (by decide +kernel)) (by decide) (fun _ _ _ _ _ => (sgv_name sc__law_t2_blob.nd rfl (.inl rfl))) (fun _ _ _ _ _ => (pts_one (st_notInA hu (se_var rfl (.inl rfl)) (se_var rfl (by first | exact .inr (.inl rfl) | exact .inl rfl | exact .inr (.inr rfl)))))) (fun _ _ _ _ _ => (se_var rfl (.inl rfl))))
    (ss_cons (ss_setLc (own := [("_law_one", 7)]) rfl sc__law_t2_blob.nd rfl rfl rfl (si_seq (se_var rfl (.inl rfl))) (blkOk_by (N := N__law_t2_blob) (sc := defScope (top 27)) (by decide +kernel)) (by decide) (fun _ _ _ _ _ => (sgv_name sc__law_t2_blob.nd rfl (.inl rfl))) (fun _ _ _ _ _ => (pts_one (st_eq h64 (se_ixA hu (se_var rfl (by first | exact .inr (.inl rfl) | exact .inl rfl | exact .inr (.inr rfl))) (se_var rfl (.inl rfl))) se_int))) (fun _ _ _ _ _ => (se_var rfl (.inl rfl))))
    (ss_cons (ss_setLc (own := [("_law_one", 7)]) rfl sc__law_t2_blob.nd rfl rfl rfl (si_seq (se_var rfl (.inl rfl))) (blkOk_by (N := N__law_t2_blob) (sc := defScope (top 27)) (by decide +kernel)) (by decide) (fun _ _ _ _ _ => (sgv_name sc__law_t2_blob.nd rfl (.inl rfl))) (fun _ _ _ _ _ => (pts_one (st_gt (se_ixA hu (se_var rfl (by first | exact .inr (.inl rfl) | exact .inl rfl | exact .inr (.inr rfl))) (se_var rfl (.inl rfl))) se_int))) (fun _ _ _ _ _ => (se_var rfl (.inl rfl))))
    (ss_cons (ss_if (PW.pt (sw_and (st_eq h64 (se_var rfl (.inl rfl)) se_int) (sw_and (st_ne h64 (se_var rfl (.inl rfl)) (se_lst sa_nil)) (pw_and1 (st_gt (se_call (ok__law_draw T) (hr.mono (by decide)) rfl (T.g _ (T.fa 16 _ rfl)) (sa_cons (se_var rfl (.inl rfl)) (sa_cons se_int sa_nil))) se_int))))) (ss_one (ss_set sc__law_t2_blob.nd rfl (.inl rfl) (se_var rfl (.inl rfl)))) ss_nil)
    (ss_cons (ss_if (PW.pt (sw_and (st_eq h64 (se_var rfl (.inl rfl)) se_int) (sw_and (st_ne h64 (se_var rfl (.inl rfl)) (se_lst sa_nil)) (pw_and1 (st_gt (se_call (ok__law_draw T) (hr.mono (by decide)) rfl (T.g _ (T.fa 16 _ rfl)) (sa_cons (se_var rfl (.inl rfl)) (sa_cons se_int sa_nil))) se_int))))) (ss_one (ss_set sc__law_t2_blob.nd rfl (.inl rfl) (se_var rfl (.inl rfl)))) ss_nil)
    (ss_cons (ss_expr (PE.imp (pe_bm PySem.F.plainAttrs_list PySem.F.slot_list_append PySem.F.type_list_append mt_append (se_var rfl (.inl rfl)) (sa_cons (se_call (ok__law_pick T) (hr.mono (by decide)) rfl (T.g _ (T.fa 17 _ rfl)) (sa_cons (se_var rfl (.inl rfl)) (sa_cons (se_var rfl (.inl rfl)) sa_nil))) sa_nil)) (bm_imp gm_append)))
    (ss_one (ss_asg se_bl (sg_sub WF (se_var rfl (.inr (.inl rfl))) (se_ixA hu (se_var rfl (.inl rfl)) (se_neg se_int)) gs_setA (fun ho hi => pg_sub ho hi (PSet.or set_list (set_dct hu))))))))))))))
    (ss_one (ss_ret (se_var rfl (.inl rfl)))))))
def N__law_t2_way : List PySem.Str := ["_law_steps", "_law_turns", "_law_cells", "_law_at", "_law_ahead", "_law_k", "_law_by", "_law_lap"]
theorem sc__law_t2_way : FnScope N__law_t2_way ["_law_steps", "_law_turns"] (defScope (top 28)) := ⟨rfl, rfl, rfl, by decide +kernel, rfl, by decide +kernel, by decide +kernel⟩
theorem ok__law_t2_way (T : Tp K mg) : Df P w K mg base 1 (He.fAd K ("_law_t2_way", none)) ["_law_steps", "_law_turns"] (F__law_t2_way (He.ga K)) := by
  obtain ⟨fd, F⟩ := T.d 21 d__law_t2_way rfl
  refine df_of (N := N__law_t2_way) (ps := ["_law_steps", "_law_turns"]) (b := b__law_t2_way (He.ga K)) F sc__law_t2_way (fun _ _ _ _ _ _ us hl => match us, hl with | [_, _], _ => rfl) fun cdv A outer s H E hr => ?_
  have hu := hu65 hr
  have h64 := hu64 hr
  unfold b__law_t2_way
  exact (ss_cons (ss_par33 rfl sc__law_t2_way.nd rfl rfl rfl (by decide) (by decide) (by decide) rfl rfl rfl (sa_cons (se_lst (sa_cons (se_tup (sa_cons se_int (sa_cons se_int sa_nil))) sa_nil)) (sa_cons (se_tup (sa_cons se_int (sa_cons se_int sa_nil))) (sa_cons (se_lst (sa_cons (se_tup (sa_cons se_int (sa_cons se_int sa_nil))) (sa_cons (se_tup (sa_cons se_int (sa_cons se_int sa_nil))) (sa_cons (se_tup (sa_cons (se_neg se_int) (sa_cons se_int sa_nil))) (sa_cons (se_tup (sa_cons se_int (sa_cons (se_neg se_int) sa_nil))) sa_nil))))) sa_nil))) rfl)
    (ss_cons (ss_for PassesOwn.never rfl (PI.imp (pi_range1 rfl (T.f _ (T.fa 55 _ rfl)) (sa_cons (PE.imp (pe_callB ((call_len).or call_dlen) rfl (T.f _ (T.fa 51 _ rfl)) PySem.boot_len (sa_cons (se_var rfl (.inl rfl)) sa_nil)) (cb_imp gc_lenA)) sa_nil)) rg1_imp) (sg_name sc__law_t2_way.nd rfl (.inl rfl)) (ss_cons (ss_set sc__law_t2_way.nd rfl (.inl rfl) (se_ixA hu (se_var rfl (.inl rfl)) (se_mod (PE.imp (pe_callTy call_int1 rfl (T.f _ (T.fa 49 _ rfl)) PyProof.Rows.boot_int (sa_cons (se_mulI (se_var rfl (.inl rfl)) (se_var rfl (.inl rfl))) sa_nil)) (cb_imp gc_int)) se_int)))
    (ss_one (ss_for PassesOwn.never rfl (PI.imp (pi_range1 rfl (T.f _ (T.fa 55 _ rfl)) (sa_cons (se_ixA hu (se_var rfl (.inl rfl)) (se_var rfl (.inl rfl))) sa_nil)) rg1_imp) (sg_name sc__law_t2_way.nd rfl (.inl rfl)) (ss_cons (ss_set sc__law_t2_way.nd rfl (.inl rfl) (se_tup (sa_cons (se_add (se_ixA hu (se_var rfl (.inl rfl)) se_int) (se_ixA hu (se_var rfl (.inl rfl)) se_int)) (sa_cons (se_add (se_ixA hu (se_var rfl (.inl rfl)) se_int) (se_ixA hu (se_var rfl (.inl rfl)) se_int)) sa_nil))))
    (ss_one (ss_expr (PE.imp (pe_bm PySem.F.plainAttrs_list PySem.F.slot_list_append PySem.F.type_list_append mt_append (se_var rfl (.inl rfl)) (sa_cons (se_var rfl (.inl rfl)) sa_nil)) (bm_imp gm_append)))))))))
    (ss_one (ss_ret (se_var rfl (.inl rfl))))))
def N__law_t2_cells : List PySem.Str := ["_law_pen_here", "_law_most", "_law_way", "_law_many", "_law_wide", "_law_tall", "_law_comb", "_law_k", "_law_up"]
theorem sc__law_t2_cells : FnScope N__law_t2_cells ["_law_pen_here", "_law_most"] (defScope (top 29)) := ⟨rfl, rfl, rfl, by decide +kernel, rfl, by decide +kernel, by decide +kernel⟩
theorem ok__law_t2_cells (T : Tp K mg) : Df P w K mg base 4 (He.fAd K ("_law_t2_cells", none)) ["_law_pen_here", "_law_most"] (F__law_t2_cells (He.ga K)) := by
  obtain ⟨fd, F⟩ := T.d 22 d__law_t2_cells rfl
  refine df_of (N := N__law_t2_cells) (ps := ["_law_pen_here", "_law_most"]) (b := b__law_t2_cells (He.ga K)) F sc__law_t2_cells (fun _ _ _ _ _ _ us hl => match us, hl with | [_, _], _ => rfl) fun cdv A outer s H E hr => ?_
  have hu := hu65 hr
  have h64 := hu64 hr
  unfold b__law_t2_cells
  exact (ss_cons (ss_par2 rfl sc__law_t2_cells.nd rfl rfl (by decide) rfl rfl (sa_cons (se_call (ok__law_draw T) (hr.mono (by decide)) rfl (T.g _ (T.fa 16 _ rfl)) (sa_cons (se_var rfl (.inl rfl)) (sa_cons se_int sa_nil))) (sa_cons (se_add se_int (se_call (ok__law_draw T) (hr.mono (by decide)) rfl (T.g _ (T.fa 16 _ rfl)) (sa_cons (se_var rfl (.inl rfl)) (sa_cons (se_var rfl (.inl rfl)) sa_nil)))) sa_nil)) rfl)
    (ss_cons (ss_if (st_lt (se_var rfl (.inl rfl)) se_int) (ss_one (ss_ret (se_call (ok__law_t2_blob T) (hr.mono (by decide)) rfl (T.g _ (T.fa 23 _ rfl)) (sa_cons (se_var rfl (.inl rfl)) (sa_cons (se_var rfl (.inl rfl)) (sa_cons (se_ixA hu (se_lst (sa_cons se_int (sa_cons se_int (sa_cons se_int (sa_cons se_int (sa_cons se_int sa_nil)))))) (se_var rfl (.inl rfl))) sa_nil)))))) ss_nil)
    (ss_cons (ss_if (st_eq h64 (se_var rfl (.inl rfl)) se_int) (ss_one (ss_ret (se_slice (se_call (ok__law_t2_way T) (hr.mono (by decide)) rfl (T.g _ (T.fa 24 _ rfl)) (sa_cons (se_lst (sa_cons (se_sub (se_var rfl (.inl rfl)) se_int) sa_nil)) (sa_cons (se_call (ok__law_draw T) (hr.mono (by decide)) rfl (T.g _ (T.fa 16 _ rfl)) (sa_cons (se_var rfl (.inl rfl)) (sa_cons se_int sa_nil))) sa_nil))) so_none (so_some (se_var rfl (.inl rfl)))))) ss_nil)
    (ss_cons (ss_if (st_eq h64 (se_var rfl (.inl rfl)) se_int) (ss_cons (ss_par2 rfl sc__law_t2_cells.nd rfl rfl (by decide) rfl rfl (sa_cons (se_add se_int (se_call (ok__law_draw T) (hr.mono (by decide)) rfl (T.g _ (T.fa 16 _ rfl)) (sa_cons (se_var rfl (.inl rfl)) (sa_cons (se_add se_int (se_fdiv (se_var rfl (.inl rfl)) se_int)) sa_nil)))) (sa_cons (se_add se_int (se_call (ok__law_draw T) (hr.mono (by decide)) rfl (T.g _ (T.fa 16 _ rfl)) (sa_cons (se_var rfl (.inl rfl)) (sa_cons (se_add se_int (se_fdiv (se_var rfl (.inl rfl)) se_int)) sa_nil)))) sa_nil)) rfl)
    (ss_one (ss_ret (se_slice (se_slice (se_call (ok__law_t2_way T) (hr.mono (by decide)) rfl (T.g _ (T.fa 24 _ rfl)) (sa_cons (se_lst (sa_cons (se_var rfl (.inl rfl)) (sa_cons (se_var rfl (.inl rfl)) (sa_cons (se_var rfl (.inl rfl)) (sa_cons (se_var rfl (.inl rfl)) sa_nil))))) (sa_cons se_int sa_nil))) so_none (so_some (PE.imp (pe_callB (call_max2 rfl) rfl (T.f _ (T.fa 53 _ rfl)) PyProof.Rows.boot_max (sa_cons se_int (sa_cons (se_sub (se_mulI se_int (se_add (se_var rfl (.inl rfl)) (se_var rfl (.inl rfl)))) (se_call (ok__law_draw T) (hr.mono (by decide)) rfl (T.g _ (T.fa 16 _ rfl)) (sa_cons (se_var rfl (.inl rfl)) (sa_cons se_int sa_nil)))) sa_nil))) (cb_imp gc_max2)))) so_none (so_some (se_var rfl (.inl rfl))))))) ss_nil)
    (ss_cons (ss_if (st_eq h64 (se_var rfl (.inl rfl)) se_int) (ss_one (ss_ret (se_slice (se_call (ok__law_t2_way T) (hr.mono (by decide)) rfl (T.g _ (T.fa 24 _ rfl)) (sa_cons (se_lc (own := [("_law_k", 7)]) rfl sc__law_t2_cells.nd (PI.imp (pi_range1 rfl (T.f _ (T.fa 55 _ rfl)) (sa_cons (se_var rfl (.inl rfl)) sa_nil)) rg1_imp) (blkOk_by (N := N__law_t2_cells) (sc := defScope (top 29)) (by decide +kernel)) (by decide) (fun _ _ _ _ _ => (sgv_name sc__law_t2_cells.nd rfl (.inl rfl))) (fun _ _ _ _ _ => sp_nil) (fun _ _ _ _ _ => (se_mulI (se_fdiv (se_add (se_var rfl (.inl rfl)) se_int) se_int) se_int))) (sa_cons se_int sa_nil))) so_none (so_some (se_var rfl (.inl rfl)))))) ss_nil)
    (ss_cons (ss_setLc (own := [("_law_k", 7)]) rfl sc__law_t2_cells.nd rfl rfl rfl (PI.imp (pi_range1 rfl (T.f _ (T.fa 55 _ rfl)) (sa_cons (se_add se_int (se_fdiv (se_var rfl (.inl rfl)) se_int)) sa_nil)) rg1_imp) (blkOk_by (N := N__law_t2_cells) (sc := defScope (top 29)) (by decide +kernel)) (by decide) (fun _ _ _ _ _ => (sgv_name sc__law_t2_cells.nd rfl (.inl rfl))) (fun _ _ _ _ _ => sp_nil) (fun _ _ _ _ _ => (se_tup (sa_cons (se_var rfl (.inl rfl)) (sa_cons se_int sa_nil)))))
    (ss_cons (ss_for PassesOwn.never rfl (PI.imp (pi_range3 rfl (T.f _ (T.fa 55 _ rfl)) (sa_cons se_int (sa_cons (se_add se_int (se_fdiv (se_var rfl (.inl rfl)) se_int)) (sa_cons se_int sa_nil)))) (rg3_imp rng_nn)) (sg_name sc__law_t2_cells.nd rfl (.inr rfl)) (ss_one (ss_set sc__law_t2_cells.nd rfl (.inl rfl) (se_add (se_var rfl (.inl rfl)) (se_lc (own := [("_law_up", 8)]) rfl sc__law_t2_cells.nd (PI.imp (pi_range1 rfl (T.f _ (T.fa 55 _ rfl)) (sa_cons (se_call (ok__law_draw T) (hr.mono (by decide)) rfl (T.g _ (T.fa 16 _ rfl)) (sa_cons (se_var rfl (.inl rfl)) (sa_cons se_int sa_nil))) sa_nil)) rg1_imp) (blkOk_by (N := N__law_t2_cells) (sc := defScope (top 29)) (by decide +kernel)) (by decide) (fun _ _ _ _ _ => (sgv_name sc__law_t2_cells.nd rfl (.inl rfl))) (fun _ _ _ _ _ => sp_nil) (fun _ _ _ _ _ => (se_tup (sa_cons (se_var rfl (by first | exact .inr (.inl rfl) | exact .inl rfl | exact .inr (.inr rfl))) (sa_cons (se_add se_int (se_var rfl (.inl rfl))) sa_nil)))))))))
    (ss_one (ss_ret (se_slice (se_var rfl (.inl rfl)) so_none (so_some (PE.imp (pe_callB (call_max2 rfl) rfl (T.f _ (T.fa 53 _ rfl)) PyProof.Rows.boot_max (sa_cons se_int (sa_cons (se_var rfl (.inl rfl)) sa_nil))) (cb_imp gc_max2)))))))))))))
def N__law_t2_body : List PySem.Str := ["_law_pen_here", "_law_most", "_law_far", "_law_cells", "_law_by", "_law_is_turned", "_law_found", "_law_column", "_law_row"]
theorem sc__law_t2_body : FnScope N__law_t2_body ["_law_pen_here", "_law_most"] (defScope (top 30)) := ⟨rfl, rfl, rfl, by decide +kernel, rfl, by decide +kernel, by decide +kernel⟩
theorem ok__law_t2_body (T : Tp K mg) : Df P w K mg base 5 (He.fAd K ("_law_t2_body", none)) ["_law_pen_here", "_law_most"] (F__law_t2_body (He.ga K)) := by
  obtain ⟨fd, F⟩ := T.d 23 d__law_t2_body rfl
  refine df_of (N := N__law_t2_body) (ps := ["_law_pen_here", "_law_most"]) (b := b__law_t2_body (He.ga K)) F sc__law_t2_body (fun _ _ _ _ _ _ us hl => match us, hl with | [_, _], _ => rfl) fun cdv A outer s H E hr => ?_
  have hu := hu65 hr
  have h64 := hu64 hr
  unfold b__law_t2_body
  exact (ss_cons (ss_par2 rfl sc__law_t2_body.nd rfl rfl (by decide) rfl rfl (sa_cons (se_call (ok__law_pick T) (hr.mono (by decide)) rfl (T.g _ (T.fa 17 _ rfl)) (sa_cons (se_var rfl (.inl rfl)) (sa_cons (se_lst (sa_cons se_int (sa_cons se_int (sa_cons se_int (sa_cons (se_pow se_int se_int) sa_nil))))) sa_nil))) (sa_cons (se_call (ok__law_t2_cells T) (hr.mono (by decide)) rfl (T.g _ (T.fa 25 _ rfl)) (sa_cons (se_var rfl (.inl rfl)) (sa_cons (se_var rfl (.inl rfl)) sa_nil))) sa_nil)) rfl)
    (ss_cons (ss_par2 rfl sc__law_t2_body.nd rfl rfl (by decide) rfl rfl (sa_cons (se_tup (sa_cons (se_mulI (se_sub (se_call (ok__law_draw T) (hr.mono (by decide)) rfl (T.g _ (T.fa 16 _ rfl)) (sa_cons (se_var rfl (.inl rfl)) (sa_cons se_int sa_nil))) se_int) (se_var rfl (.inl rfl))) (sa_cons (se_mulI (se_sub (se_call (ok__law_draw T) (hr.mono (by decide)) rfl (T.g _ (T.fa 16 _ rfl)) (sa_cons (se_var rfl (.inl rfl)) (sa_cons se_int sa_nil))) se_int) (se_var rfl (.inl rfl))) sa_nil))) (sa_cons (se_eq h64 (se_call (ok__law_draw T) (hr.mono (by decide)) rfl (T.g _ (T.fa 16 _ rfl)) (sa_cons (se_var rfl (.inl rfl)) (sa_cons se_int sa_nil))) se_int) sa_nil)) rfl)
    (ss_cons (ss_set sc__law_t2_body.nd rfl (.inl rfl) (se_lst sa_nil))
    (ss_cons (ss_for PassesOwn.never rfl (si_seq (se_var rfl (.inl rfl))) (sg_tup rfl (sg_cons (sg_name sc__law_t2_body.nd rfl (.inl rfl)) (sg_cons (sg_name sc__law_t2_body.nd rfl (.inl rfl)) sg_nil)) (fun h => pg_tup rfl h)) (ss_one (ss_expr (PE.imp (pe_bm PySem.F.plainAttrs_list PySem.F.slot_list_append PySem.F.type_list_append mt_append (se_var rfl (.inl rfl)) (sa_cons (se_if (st_truth (se_var rfl (.inl rfl))) (se_tup (sa_cons (se_add (se_var rfl (.inl rfl)) (se_ixA hu (se_var rfl (.inl rfl)) se_int)) (sa_cons (se_add (se_var rfl (.inl rfl)) (se_ixA hu (se_var rfl (.inl rfl)) se_int)) sa_nil))) (se_tup (sa_cons (se_add (se_var rfl (.inl rfl)) (se_ixA hu (se_var rfl (.inl rfl)) se_int)) (sa_cons (se_add (se_var rfl (.inl rfl)) (se_ixA hu (se_var rfl (.inl rfl)) se_int)) sa_nil)))) sa_nil)) (bm_imp gm_append)))))
    (ss_one (ss_ret (PE.imp (pe_callTy call_tuple_of rfl (T.f _ (T.fa 58 _ rfl)) PyProof.Rows.boot_tuple (sa_cons (PE.imp (pe_callB ((call_srt hu).or (call_srtX rfl hu)) rfl (T.f _ (T.fa 57 _ rfl)) PyProof.Rows.boot_sorted (sa_cons (PE.imp (pe_callTy (call_setX rfl hu) rfl (T.f _ (T.fa 56 _ rfl)) PyProof.Rows.boot_set (sa_cons (se_var rfl (.inl rfl)) sa_nil)) (cb_imp gc_setOf)) sa_nil)) (cb_imp gc_sortedA)) sa_nil)) (cb_imp gc_tuple))))))))
def N__law_t2_done : List PySem.Str := ["_law_body", "_law_start", "_law_end", "_law_cell"]
theorem sc__law_t2_done : FnScope N__law_t2_done ["_law_body", "_law_start", "_law_end"] (defScope (top 38)) := ⟨rfl, rfl, rfl, by decide +kernel, rfl, by decide +kernel, by decide +kernel⟩
theorem ok__law_t2_done (T : Tp K mg) : Df P w K mg base 1 (He.fAd K ("_law_t2_done", none)) ["_law_body", "_law_start", "_law_end"] (F__law_t2_done (He.ga K)) := by
  obtain ⟨fd, F⟩ := T.d 31 d__law_t2_done rfl
  refine df_of (N := N__law_t2_done) (ps := ["_law_body", "_law_start", "_law_end"]) (b := b__law_t2_done (He.ga K)) F sc__law_t2_done (fun _ _ _ _ _ _ us hl => match us, hl with | [_, _, _], _ => rfl) fun cdv A outer s H E hr => ?_
  have hu := hu65 hr
  have h64 := hu64 hr
  unfold b__law_t2_done
  exact (ss_one (ss_ret (PE.imp (pe_callTy call_tuple_of rfl (T.f _ (T.fa 58 _ rfl)) PyProof.Rows.boot_tuple (sa_cons (PE.imp (pe_callB ((call_srt hu).or (call_srtX rfl hu)) rfl (T.f _ (T.fa 57 _ rfl)) PyProof.Rows.boot_sorted (sa_cons (se_add (se_lc (own := [("_law_cell", 3)]) rfl sc__law_t2_done.nd (si_seq (se_var rfl (.inl rfl))) (blkOk_by (N := N__law_t2_done) (sc := defScope (top 38)) (by decide +kernel)) (by decide) (fun _ _ _ _ _ => (sgv_name sc__law_t2_done.nd rfl (.inl rfl))) (fun _ _ _ _ _ => (pts_one (st_ne h64 (se_var rfl (.inl rfl)) (se_var rfl (by first | exact .inr (.inl rfl) | exact .inl rfl | exact .inr (.inr rfl)))))) (fun _ _ _ _ _ => (se_var rfl (.inl rfl)))) (se_lst (sa_cons (se_var rfl (.inl rfl)) sa_nil))) sa_nil)) (cb_imp gc_sortedA)) sa_nil)) (cb_imp gc_tuple))))
def N__law_is_whole : List PySem.Str := ["_law_value"]
theorem sc__law_is_whole : FnScope N__law_is_whole ["_law_value"] (defScope (top 22)) := ⟨rfl, rfl, rfl, by decide +kernel, rfl, by decide +kernel, by decide +kernel⟩
theorem ok__law_is_whole (T : Tp K mg) : Df P w K mg base 1 (He.fAd K ("_law_is_whole", none)) ["_law_value"] (F__law_is_whole (He.ga K)) := by
  obtain ⟨fd, F⟩ := T.d 15 d__law_is_whole rfl
  refine df_of (N := N__law_is_whole) (ps := ["_law_value"]) (b := b__law_is_whole (He.ga K)) F sc__law_is_whole (fun _ _ _ _ _ _ us hl => match us, hl with | [_], _ => rfl) fun cdv A outer s H E hr => ?_
  have hu := hu65 hr
  have h64 := hu64 hr
  unfold b__law_is_whole
  exact (ss_one (ss_ret (se_and (PE.imp (pe_callB call_isD rfl (T.f _ (T.fa 50 _ rfl)) PyProof.Rows.boot_isinstance (sa_cons (se_var rfl (.inl rfl)) (sa_cons (se_ty rfl (T.f _ (T.fa 49 _ rfl)) (by decide +kernel)) sa_nil))) (cb_imp gc_isi)) (pe_one (se_not (PE.imp (pe_callB call_isD rfl (T.f _ (T.fa 50 _ rfl)) PyProof.Rows.boot_isinstance (sa_cons (se_var rfl (.inl rfl)) (sa_cons (se_ty rfl (T.f _ (T.fa 47 _ rfl)) (by decide +kernel)) sa_nil))) (cb_imp gc_isi)))))))
def N__law_t2_is_cell : List PySem.Str := ["_law_one"]
theorem sc__law_t2_is_cell : FnScope N__law_t2_is_cell ["_law_one"] (defScope (top 26)) := ⟨rfl, rfl, rfl, by decide +kernel, rfl, by decide +kernel, by decide +kernel⟩
theorem ok__law_t2_is_cell (T : Tp K mg) : Df P w K mg base 2 (He.fAd K ("_law_t2_is_cell", none)) ["_law_one"] (F__law_t2_is_cell (He.ga K)) := by
  obtain ⟨fd, F⟩ := T.d 19 d__law_t2_is_cell rfl
  refine df_of (N := N__law_t2_is_cell) (ps := ["_law_one"]) (b := b__law_t2_is_cell (He.ga K)) F sc__law_t2_is_cell (fun _ _ _ _ _ _ us hl => match us, hl with | [_], _ => rfl) fun cdv A outer s H E hr => ?_
  have hu := hu65 hr
  have h64 := hu64 hr
  unfold b__law_t2_is_cell
  exact (ss_one (ss_ret (se_and (PE.imp (pe_callB call_isD rfl (T.f _ (T.fa 50 _ rfl)) PyProof.Rows.boot_isinstance (sa_cons (se_var rfl (.inl rfl)) (sa_cons (se_ty rfl (T.f _ (T.fa 58 _ rfl)) (by decide +kernel)) sa_nil))) (cb_imp gc_isi)) (se_and (se_eq h64 (PE.imp (pe_callB ((call_len).or call_dlen) rfl (T.f _ (T.fa 51 _ rfl)) PySem.boot_len (sa_cons (se_var rfl (.inl rfl)) sa_nil)) (cb_imp gc_lenA)) se_int) (se_and (se_call (ok__law_is_whole T) (hr.mono (by decide)) rfl (T.g _ (T.fa 18 _ rfl)) (sa_cons (se_ixA hu (se_var rfl (.inl rfl)) se_int) sa_nil)) (pe_one (se_call (ok__law_is_whole T) (hr.mono (by decide)) rfl (T.g _ (T.fa 18 _ rfl)) (sa_cons (se_ixA hu (se_var rfl (.inl rfl)) se_int) sa_nil))))))))
def N__law_t2_parts : List PySem.Str := ["_law_cells", "_law_left", "_law_found", "_law_cell", "_law_part", "_law_lap", "_law_one"]
theorem sc__law_t2_parts : FnScope N__law_t2_parts ["_law_cells"] (defScope (top 25)) := ⟨rfl, rfl, rfl, by decide +kernel, rfl, by decide +kernel, by decide +kernel⟩
theorem ok__law_t2_parts (T : Tp K mg) : Df P w K mg base 2 (He.fAd K ("_law_t2_parts", none)) ["_law_cells"] (F__law_t2_parts (He.ga K)) := by
  obtain ⟨fd, F⟩ := T.d 18 d__law_t2_parts rfl
  refine df_of (N := N__law_t2_parts) (ps := ["_law_cells"]) (b := b__law_t2_parts (He.ga K)) F sc__law_t2_parts (fun _ _ _ _ _ _ us hl => match us, hl with | [_], _ => rfl) fun cdv A outer s H E hr => ?_
  have hu := hu65 hr
  have h64 := hu64 hr
  unfold b__law_t2_parts
  exact (ss_cons (ss_par2 rfl sc__law_t2_parts.nd rfl rfl (by decide) rfl rfl (sa_cons se_dnew (sa_cons (se_lst sa_nil) sa_nil)) rfl)
    (ss_cons (ss_for PassesOwn.never rfl (si_seq (se_var rfl (.inl rfl))) (sg_name sc__law_t2_parts.nd rfl (.inl rfl)) (ss_one (ss_asg se_bl (sg_sub WF (se_var rfl (.inl rfl)) (se_var rfl (.inl rfl)) gs_setA (fun ho hi => pg_sub ho hi (PSet.or set_list (set_dct hu)))))))
    (ss_cons (ss_for PassesOwn.never rfl (si_seq (PE.imp (pe_callB ((call_srt hu).or (call_srtX rfl hu)) rfl (T.f _ (T.fa 57 _ rfl)) PyProof.Rows.boot_sorted (sa_cons (PE.imp (pe_callTy (call_list_of.or (call_dlist rfl)) rfl (T.f _ (T.fa 52 _ rfl)) PyProof.Rows.boot_list (sa_cons (se_var rfl (.inl rfl)) sa_nil)) (cb_imp gc_listA)) sa_nil)) (cb_imp gc_sortedA))) (sg_name sc__law_t2_parts.nd rfl (.inl rfl)) (ss_one (ss_if (st_inA hu (se_var rfl (.inl rfl)) (se_var rfl (.inl rfl))) (ss_cons (ss_set sc__law_t2_parts.nd rfl (.inl rfl) (se_lst (sa_cons (se_var rfl (.inl rfl)) sa_nil)))
    (ss_cons (ss_expr (PE.imp (pe_dm PySem.F.slot_dict_pop PySem.F.type_dict_pop (mt_dpop hu) (se_var rfl (.inl rfl)) (sa_cons (se_var rfl (.inl rfl)) sa_nil)) (dm_imp gm_dpop)))
    (ss_cons (ss_for PassesOwn.never rfl (PI.imp (pi_range1 rfl (T.f _ (T.fa 55 _ rfl)) (sa_cons (PE.imp (pe_callB ((call_len).or call_dlen) rfl (T.f _ (T.fa 51 _ rfl)) PySem.boot_len (sa_cons (se_var rfl (.inl rfl)) sa_nil)) (cb_imp gc_lenA)) sa_nil)) rg1_imp) (sg_name sc__law_t2_parts.nd rfl (.inl rfl)) (ss_cons (ss_if (st_eq h64 (se_var rfl (.inl rfl)) (PE.imp (pe_callB ((call_len).or call_dlen) rfl (T.f _ (T.fa 51 _ rfl)) PySem.boot_len (sa_cons (se_var rfl (.inl rfl)) sa_nil)) (cb_imp gc_lenA))) (ss_one ss_break) ss_nil)
    (ss_one (ss_for PassesOwn.never rfl (si_seq (se_call (ok__law_t2_beside T) (hr.mono (by decide)) rfl (T.g _ (T.fa 20 _ rfl)) (sa_cons (se_ixA hu (se_var rfl (.inl rfl)) (se_var rfl (.inl rfl))) sa_nil))) (sg_name sc__law_t2_parts.nd rfl (.inl rfl)) (ss_one (ss_if (st_inA hu (se_var rfl (.inl rfl)) (se_var rfl (.inl rfl))) (ss_cons (ss_expr (PE.imp (pe_dm PySem.F.slot_dict_pop PySem.F.type_dict_pop (mt_dpop hu) (se_var rfl (.inl rfl)) (sa_cons (se_var rfl (.inl rfl)) sa_nil)) (dm_imp gm_dpop)))
    (ss_one (ss_expr (PE.imp (pe_bm PySem.F.plainAttrs_list PySem.F.slot_list_append PySem.F.type_list_append mt_append (se_var rfl (.inl rfl)) (sa_cons (se_var rfl (.inl rfl)) sa_nil)) (bm_imp gm_append))))) ss_nil))))))
    (ss_one (ss_expr (PE.imp (pe_bm PySem.F.plainAttrs_list PySem.F.slot_list_append PySem.F.type_list_append mt_append (se_var rfl (.inl rfl)) (sa_cons (PE.imp (pe_callTy call_tuple_of rfl (T.f _ (T.fa 58 _ rfl)) PyProof.Rows.boot_tuple (sa_cons (PE.imp (pe_callB ((call_srt hu).or (call_srtX rfl hu)) rfl (T.f _ (T.fa 57 _ rfl)) PyProof.Rows.boot_sorted (sa_cons (se_var rfl (.inl rfl)) sa_nil)) (cb_imp gc_sortedA)) sa_nil)) (cb_imp gc_tuple)) sa_nil)) (bm_imp gm_append))))))) ss_nil)))
    (ss_one (ss_ret (se_var rfl (.inl rfl)))))))
def N__law_t2_hangs : List PySem.Str := ["_law_cells"]
theorem sc__law_t2_hangs : FnScope N__law_t2_hangs ["_law_cells"] (defScope (top 32)) := ⟨rfl, rfl, rfl, by decide +kernel, rfl, by decide +kernel, by decide +kernel⟩
theorem ok__law_t2_hangs (T : Tp K mg) : Df P w K mg base 3 (He.fAd K ("_law_t2_hangs", none)) ["_law_cells"] (F__law_t2_hangs (He.ga K)) := by
  obtain ⟨fd, F⟩ := T.d 25 d__law_t2_hangs rfl
  refine df_of (N := N__law_t2_hangs) (ps := ["_law_cells"]) (b := b__law_t2_hangs (He.ga K)) F sc__law_t2_hangs (fun _ _ _ _ _ _ us hl => match us, hl with | [_], _ => rfl) fun cdv A outer s H E hr => ?_
  have hu := hu65 hr
  have h64 := hu64 hr
  unfold b__law_t2_hangs
  exact (ss_one (ss_ret (se_eq h64 (PE.imp (pe_callB ((call_len).or call_dlen) rfl (T.f _ (T.fa 51 _ rfl)) PySem.boot_len (sa_cons (se_call (ok__law_t2_parts T) (hr.mono (by decide)) rfl (T.g _ (T.fa 21 _ rfl)) (sa_cons (se_var rfl (.inl rfl)) sa_nil)) sa_nil)) (cb_imp gc_lenA)) se_int)))
def N__law_t2_free : List PySem.Str := ["_law_body", "_law_cell", "_law_one"]
theorem sc__law_t2_free : FnScope N__law_t2_free ["_law_body", "_law_cell"] (defScope (top 33)) := ⟨rfl, rfl, rfl, by decide +kernel, rfl, by decide +kernel, by decide +kernel⟩
theorem ok__law_t2_free (T : Tp K mg) : Df P w K mg base 4 (He.fAd K ("_law_t2_free", none)) ["_law_body", "_law_cell"] (F__law_t2_free (He.ga K)) := by
  obtain ⟨fd, F⟩ := T.d 26 d__law_t2_free rfl
  refine df_of (N := N__law_t2_free) (ps := ["_law_body", "_law_cell"]) (b := b__law_t2_free (He.ga K)) F sc__law_t2_free (fun _ _ _ _ _ _ us hl => match us, hl with | [_, _], _ => rfl) fun cdv A outer s H E hr => ?_
  have hu := hu65 hr
  have h64 := hu64 hr
  unfold b__law_t2_free
  exact (ss_one (ss_ret (se_call (ok__law_t2_hangs T) (hr.mono (by decide)) rfl (T.g _ (T.fa 28 _ rfl)) (sa_cons (se_lc (own := [("_law_one", 2)]) rfl sc__law_t2_free.nd (si_seq (se_var rfl (.inl rfl))) (blkOk_by (N := N__law_t2_free) (sc := defScope (top 33)) (by decide +kernel)) (by decide) (fun _ _ _ _ _ => (sgv_name sc__law_t2_free.nd rfl (.inl rfl))) (fun _ _ _ _ _ => (pts_one (st_ne h64 (se_var rfl (.inl rfl)) (se_var rfl (by first | exact .inr (.inl rfl) | exact .inl rfl | exact .inr (.inr rfl)))))) (fun _ _ _ _ _ => (se_var rfl (.inl rfl)))) sa_nil))))
def N__law_t2_squares : List PySem.Str := ["_law_body", "_law_found", "_law_cell"]
theorem sc__law_t2_squares : FnScope N__law_t2_squares ["_law_body"] (defScope (top 31)) := ⟨rfl, rfl, rfl, by decide +kernel, rfl, by decide +kernel, by decide +kernel⟩
theorem ok__law_t2_squares (T : Tp K mg) : Df P w K mg base 1 (He.fAd K ("_law_t2_squares", none)) ["_law_body"] (F__law_t2_squares (He.ga K)) := by
  obtain ⟨fd, F⟩ := T.d 24 d__law_t2_squares rfl
  refine df_of (N := N__law_t2_squares) (ps := ["_law_body"]) (b := b__law_t2_squares (He.ga K)) F sc__law_t2_squares (fun _ _ _ _ _ _ us hl => match us, hl with | [_], _ => rfl) fun cdv A outer s H E hr => ?_
  have hu := hu65 hr
  have h64 := hu64 hr
  unfold b__law_t2_squares
  exact (ss_cons (ss_set sc__law_t2_squares.nd rfl (.inl rfl) se_dnew)
    (ss_cons (ss_for PassesOwn.never rfl (si_seq (se_var rfl (.inl rfl))) (sg_name sc__law_t2_squares.nd rfl (.inl rfl)) (ss_one (ss_asg se_bl (sg_sub WF (se_var rfl (.inl rfl)) (se_var rfl (.inl rfl)) gs_setA (fun ho hi => pg_sub ho hi (PSet.or set_list (set_dct hu)))))))
    (ss_one (ss_ret (se_var rfl (.inl rfl))))))
def N__law_t2_supports : List PySem.Str := ["_law_squares", "_law_start", "_law_end", "_law_across", "_law_up", "_law_found", "_law_one", "_law_two", "_law_sign"]
theorem sc__law_t2_supports : FnScope N__law_t2_supports ["_law_squares", "_law_start", "_law_end"] (defScope (top 34)) := ⟨rfl, rfl, rfl, by decide +kernel, rfl, by decide +kernel, by decide +kernel⟩
theorem ok__law_t2_supports (T : Tp K mg) : Df P w K mg base 1 (He.fAd K ("_law_t2_supports", none)) ["_law_squares", "_law_start", "_law_end"] (F__law_t2_supports (He.ga K)) := by
  obtain ⟨fd, F⟩ := T.d 27 d__law_t2_supports rfl
  refine df_of (N := N__law_t2_supports) (ps := ["_law_squares", "_law_start", "_law_end"]) (b := b__law_t2_supports (He.ga K)) F sc__law_t2_supports (fun _ _ _ _ _ _ us hl => match us, hl with | [_, _, _], _ => rfl) fun cdv A outer s H E hr => ?_
  have hu := hu65 hr
  have h64 := hu64 hr
  unfold b__law_t2_supports
  exact (ss_cons (ss_par2 rfl sc__law_t2_supports.nd rfl rfl (by decide) rfl rfl (sa_cons (se_sub (se_ixA hu (se_var rfl (.inl rfl)) se_int) (se_ixA hu (se_var rfl (.inl rfl)) se_int)) (sa_cons (se_sub (se_ixA hu (se_var rfl (.inl rfl)) se_int) (se_ixA hu (se_var rfl (.inl rfl)) se_int)) sa_nil)) rfl)
    (ss_cons (ss_if (PW.pt (sw_or (st_notInA hu (se_var rfl (.inl rfl)) (se_var rfl (.inl rfl))) (sw_or (st_inA hu (se_var rfl (.inl rfl)) (se_var rfl (.inl rfl))) (pw_or1 (st_ne h64 (PE.imp (pe_callB (call_max2 rfl) rfl (T.f _ (T.fa 53 _ rfl)) PyProof.Rows.boot_max (sa_cons (PE.imp (pe_callB call_abs rfl (T.f _ (T.fa 45 _ rfl)) PyProof.Rows.boot_abs (sa_cons (se_var rfl (.inl rfl)) sa_nil)) (cb_imp gc_abs)) (sa_cons (PE.imp (pe_callB call_abs rfl (T.f _ (T.fa 45 _ rfl)) PyProof.Rows.boot_abs (sa_cons (se_var rfl (.inl rfl)) sa_nil)) (cb_imp gc_abs)) sa_nil))) (cb_imp gc_max2)) se_int))))) (ss_one (ss_ret (se_lst sa_nil))) ss_nil)
    (ss_cons (ss_set sc__law_t2_supports.nd rfl (.inl rfl) (se_lst sa_nil))
    (ss_cons (ss_if (PW.pt (sw_and (st_ne h64 (se_var rfl (.inl rfl)) se_int) (pw_and1 (st_ne h64 (se_var rfl (.inl rfl)) se_int)))) (ss_cons (ss_par2 rfl sc__law_t2_supports.nd rfl rfl (by decide) rfl rfl (sa_cons (se_tup (sa_cons (se_ixA hu (se_var rfl (.inl rfl)) se_int) (sa_cons (se_ixA hu (se_var rfl (.inl rfl)) se_int) sa_nil))) (sa_cons (se_tup (sa_cons (se_ixA hu (se_var rfl (.inl rfl)) se_int) (sa_cons (se_ixA hu (se_var rfl (.inl rfl)) se_int) sa_nil))) sa_nil)) rfl)
    (ss_cons (ss_if (st_ne h64 (se_inA hu (se_var rfl (.inl rfl)) (se_var rfl (.inl rfl))) (se_inA hu (se_var rfl (.inl rfl)) (se_var rfl (.inl rfl)))) (ss_one (ss_expr (PE.imp (pe_bm PySem.F.plainAttrs_list PySem.F.slot_list_append PySem.F.type_list_append mt_append (se_var rfl (.inl rfl)) (sa_cons (se_if (st_inA hu (se_var rfl (.inl rfl)) (se_var rfl (.inl rfl))) (se_tup (sa_cons (se_var rfl (.inl rfl)) sa_nil)) (se_tup (sa_cons (se_var rfl (.inl rfl)) sa_nil))) sa_nil)) (bm_imp gm_append)))) ss_nil)
    (ss_one (ss_ret (se_var rfl (.inl rfl)))))) ss_nil)
    (ss_cons (ss_for PassesOwn.never rfl (si_seq (se_lst (sa_cons se_int (sa_cons (se_neg se_int) sa_nil)))) (sg_name sc__law_t2_supports.nd rfl (.inl rfl)) (ss_cons (ss_par2 rfl sc__law_t2_supports.nd rfl rfl (by decide) rfl rfl (sa_cons (se_tup (sa_cons (se_add (se_ixA hu (se_var rfl (.inl rfl)) se_int) (se_mulI (se_var rfl (.inl rfl)) (se_var rfl (.inl rfl)))) (sa_cons (se_add (se_ixA hu (se_var rfl (.inl rfl)) se_int) (se_mulI (se_var rfl (.inl rfl)) (se_var rfl (.inl rfl)))) sa_nil))) (sa_cons (se_tup (sa_cons (se_add (se_ixA hu (se_var rfl (.inl rfl)) se_int) (se_mulI (se_var rfl (.inl rfl)) (se_var rfl (.inl rfl)))) (sa_cons (se_add (se_ixA hu (se_var rfl (.inl rfl)) se_int) (se_mulI (se_var rfl (.inl rfl)) (se_var rfl (.inl rfl)))) sa_nil))) sa_nil)) rfl)
    (ss_one (ss_if (PW.pt (sw_and (st_inA hu (se_var rfl (.inl rfl)) (se_var rfl (.inl rfl))) (pw_and1 (st_inA hu (se_var rfl (.inl rfl)) (se_var rfl (.inl rfl)))))) (ss_one (ss_expr (PE.imp (pe_bm PySem.F.plainAttrs_list PySem.F.slot_list_append PySem.F.type_list_append mt_append (se_var rfl (.inl rfl)) (sa_cons (PE.imp (pe_callTy call_tuple_of rfl (T.f _ (T.fa 58 _ rfl)) PyProof.Rows.boot_tuple (sa_cons (PE.imp (pe_callB ((call_srt hu).or (call_srtX rfl hu)) rfl (T.f _ (T.fa 57 _ rfl)) PyProof.Rows.boot_sorted (sa_cons (se_lst (sa_cons (se_var rfl (.inl rfl)) (sa_cons (se_var rfl (.inl rfl)) sa_nil))) sa_nil)) (cb_imp gc_sortedA)) sa_nil)) (cb_imp gc_tuple)) sa_nil)) (bm_imp gm_append)))) ss_nil))))
    (ss_one (ss_ret (PE.imp (pe_callB ((call_srt hu).or (call_srtX rfl hu)) rfl (T.f _ (T.fa 57 _ rfl)) PyProof.Rows.boot_sorted (sa_cons (se_var rfl (.inl rfl)) sa_nil)) (cb_imp gc_sortedA)))))))))
def N__law_t2_kind : List PySem.Str := ["_law_body", "_law_start", "_law_end"]
theorem sc__law_t2_kind : FnScope N__law_t2_kind ["_law_body", "_law_start", "_law_end"] (defScope (top 35)) := ⟨rfl, rfl, rfl, by decide +kernel, rfl, by decide +kernel, by decide +kernel⟩
theorem ok__law_t2_kind (T : Tp K mg) : Df P w K mg base 5 (He.fAd K ("_law_t2_kind", none)) ["_law_body", "_law_start", "_law_end"] (F__law_t2_kind (He.ga K)) := by
  obtain ⟨fd, F⟩ := T.d 28 d__law_t2_kind rfl
  refine df_of (N := N__law_t2_kind) (ps := ["_law_body", "_law_start", "_law_end"]) (b := b__law_t2_kind (He.ga K)) F sc__law_t2_kind (fun _ _ _ _ _ _ us hl => match us, hl with | [_, _, _], _ => rfl) fun cdv A outer s H E hr => ?_
  have hu := hu65 hr
  have h64 := hu64 hr
  unfold b__law_t2_kind
  exact (ss_cons (ss_if (PW.pt (sw_or (st_eq h64 (se_call (ok__law_t2_supports T) (hr.mono (by decide)) rfl (T.g _ (T.fa 30 _ rfl)) (sa_cons (se_call (ok__law_t2_squares T) (hr.mono (by decide)) rfl (T.g _ (T.fa 27 _ rfl)) (sa_cons (se_var rfl (.inl rfl)) sa_nil)) (sa_cons (se_var rfl (.inl rfl)) (sa_cons (se_var rfl (.inl rfl)) sa_nil)))) (se_lst sa_nil)) (pw_or1 (st_not (st_truth (se_call (ok__law_t2_free T) (hr.mono (by decide)) rfl (T.g _ (T.fa 29 _ rfl)) (sa_cons (se_var rfl (.inl rfl)) (sa_cons (se_var rfl (.inl rfl)) sa_nil)))))))) (ss_one (ss_ret se_non)) ss_nil)
    (ss_one (ss_ret (se_if (PW.pt (sw_or (st_eq h64 (se_ixA hu (se_var rfl (.inl rfl)) se_int) (se_ixA hu (se_var rfl (.inl rfl)) se_int)) (pw_or1 (st_eq h64 (se_ixA hu (se_var rfl (.inl rfl)) se_int) (se_ixA hu (se_var rfl (.inl rfl)) se_int))))) se_str se_str))))
def N__law_t2_first_wrong : List PySem.Str := ["_law_body", "_law_plan", "_law_bodies", "_law_at", "_law_start", "_law_end"]
theorem sc__law_t2_first_wrong : FnScope N__law_t2_first_wrong ["_law_body", "_law_plan"] (defScope (top 40)) := ⟨rfl, rfl, rfl, by decide +kernel, rfl, by decide +kernel, by decide +kernel⟩
theorem ok__law_t2_first_wrong (T : Tp K mg) : Df P w K mg base 6 (He.fAd K ("_law_t2_first_wrong", none)) ["_law_body", "_law_plan"] (F__law_t2_first_wrong (He.ga K)) := by
  obtain ⟨fd, F⟩ := T.d 33 d__law_t2_first_wrong rfl
  refine df_of (N := N__law_t2_first_wrong) (ps := ["_law_body", "_law_plan"]) (b := b__law_t2_first_wrong (He.ga K)) F sc__law_t2_first_wrong (fun _ _ _ _ _ _ us hl => match us, hl with | [_, _], _ => rfl) fun cdv A outer s H E hr => ?_
  have hu := hu65 hr
  have h64 := hu64 hr
  unfold b__law_t2_first_wrong
  exact (ss_cons (ss_set sc__law_t2_first_wrong.nd rfl (.inl rfl) (se_lst (sa_cons (se_var rfl (.inl rfl)) sa_nil)))
    (ss_cons (ss_for PassesOwn.never rfl (PI.imp (pi_range1 rfl (T.f _ (T.fa 55 _ rfl)) (sa_cons (PE.imp (pe_callB ((call_len).or call_dlen) rfl (T.f _ (T.fa 51 _ rfl)) PySem.boot_len (sa_cons (se_var rfl (.inl rfl)) sa_nil)) (cb_imp gc_lenA)) sa_nil)) rg1_imp) (sg_name sc__law_t2_first_wrong.nd rfl (.inl rfl)) (ss_cons (ss_asg (se_ixA hu (se_var rfl (.inl rfl)) (se_var rfl (.inl rfl))) (sg_tup rfl (sg_cons (sg_name sc__law_t2_first_wrong.nd rfl (.inl rfl)) (sg_cons (sg_name sc__law_t2_first_wrong.nd rfl (.inl rfl)) sg_nil)) (fun h => pg_tup rfl h)))
    (ss_cons (ss_if (PW.pt (sw_or (st_not (st_truth (se_call (ok__law_t2_is_cell T) (hr.mono (by decide)) rfl (T.g _ (T.fa 22 _ rfl)) (sa_cons (se_var rfl (.inl rfl)) sa_nil)))) (sw_or (st_not (st_truth (se_call (ok__law_t2_is_cell T) (hr.mono (by decide)) rfl (T.g _ (T.fa 22 _ rfl)) (sa_cons (se_var rfl (.inl rfl)) sa_nil)))) (pw_or1 (st_is (se_call (ok__law_t2_kind T) (hr.mono (by decide)) rfl (T.g _ (T.fa 31 _ rfl)) (sa_cons (se_ixA hu (se_var rfl (.inl rfl)) (se_neg se_int)) (sa_cons (se_var rfl (.inl rfl)) (sa_cons (se_var rfl (.inl rfl)) sa_nil)))) se_non))))) (ss_one (ss_ret (se_tup (sa_cons (se_var rfl (.inl rfl)) (sa_cons (se_var rfl (.inl rfl)) sa_nil))))) ss_nil)
    (ss_one (ss_expr (PE.imp (pe_bm PySem.F.plainAttrs_list PySem.F.slot_list_append PySem.F.type_list_append mt_append (se_var rfl (.inl rfl)) (sa_cons (se_call (ok__law_t2_done T) (hr.mono (by decide)) rfl (T.g _ (T.fa 34 _ rfl)) (sa_cons (se_ixA hu (se_var rfl (.inl rfl)) (se_neg se_int)) (sa_cons (se_var rfl (.inl rfl)) (sa_cons (se_var rfl (.inl rfl)) sa_nil)))) sa_nil)) (bm_imp gm_append)))))))
    (ss_one (ss_ret (se_tup (sa_cons se_non (sa_cons (se_var rfl (.inl rfl)) sa_nil)))))))
def N__law_t2_witness : List PySem.Str := ["_law_body", "_law_start", "_law_rest", "_law_near", "_law_far", "_law_line", "_law_lap", "_law_later", "_law_cell", "_law_one", "_law_found", "_law_here", "_law_nearer"]
theorem sc__law_t2_witness : FnScope N__law_t2_witness ["_law_body", "_law_start"] (defScope (top 41)) := ⟨rfl, rfl, rfl, by decide +kernel, rfl, by decide +kernel, by decide +kernel⟩
theorem ok__law_t2_witness (T : Tp K mg) : Df P w K mg base 2 (He.fAd K ("_law_t2_witness", none)) ["_law_body", "_law_start"] (F__law_t2_witness (He.ga K)) := by
  obtain ⟨fd, F⟩ := T.d 34 d__law_t2_witness rfl
  refine df_of (N := N__law_t2_witness) (ps := ["_law_body", "_law_start"]) (b := b__law_t2_witness (He.ga K)) F sc__law_t2_witness (fun _ _ _ _ _ _ us hl => match us, hl with | [_, _], _ => rfl) fun cdv A outer s H E hr => ?_
  have hu := hu65 hr
  have h64 := hu64 hr
  unfold b__law_t2_witness
  exact (ss_cons (ss_set sc__law_t2_witness.nd rfl (.inr rfl) (se_call (ok__law_t2_squares T) (hr.mono (by decide)) rfl (T.g _ (T.fa 27 _ rfl)) (sa_cons (se_lc (own := [("_law_cell", 8)]) rfl sc__law_t2_witness.nd (si_seq (se_var rfl (.inl rfl))) (blkOk_by (N := N__law_t2_witness) (sc := defScope (top 41)) (by decide +kernel)) (by decide) (fun _ _ _ _ _ => (sgv_name sc__law_t2_witness.nd rfl (.inl rfl))) (fun _ _ _ _ _ => (pts_one (st_ne h64 (se_var rfl (.inl rfl)) (se_var rfl (by first | exact .inr (.inl rfl) | exact .inl rfl | exact .inr (.inr rfl)))))) (fun _ _ _ _ _ => (se_var rfl (.inl rfl)))) sa_nil)))
    (ss_cons (ss_set sc__law_t2_witness.nd rfl (.inl rfl) (PE.imp (pe_callB ((call_srt hu).or (call_srtX rfl hu)) rfl (T.f _ (T.fa 57 _ rfl)) PyProof.Rows.boot_sorted (sa_cons (se_lc (own := [("_law_cell", 8)]) rfl sc__law_t2_witness.nd (si_seq (se_call (ok__law_t2_beside T) (hr.mono (by decide)) rfl (T.g _ (T.fa 20 _ rfl)) (sa_cons (se_var rfl (.inr (.inl rfl))) sa_nil))) (blkOk_by (N := N__law_t2_witness) (sc := defScope (top 41)) (by decide +kernel)) (by decide) (fun _ _ _ _ _ => (sgv_name sc__law_t2_witness.nd rfl (.inl rfl))) (fun _ _ _ _ _ => (pts_one (st_inA hu (se_var rfl (.inl rfl)) (se_var rfl (by first | exact .inr (.inl rfl) | exact .inl rfl | exact .inr (.inr rfl)))))) (fun _ _ _ _ _ => (se_var rfl (.inl rfl)))) sa_nil)) (cb_imp gc_sortedA)))
    (ss_cons (ss_asg (se_tup (sa_cons se_dnew (sa_cons (se_lst (sa_cons (se_ixA hu (se_var rfl (.inl rfl)) se_int) sa_nil)) sa_nil))) (sg_tup rfl (sg_cons (sg_name sc__law_t2_witness.nd rfl (.inr rfl)) (sg_cons (sg_name sc__law_t2_witness.nd rfl (.inl rfl)) sg_nil)) (fun h => pg_tup rfl h)))
    (ss_cons (ss_asg se_int (sg_sub WF (se_var rfl (.inr (.inl rfl))) (se_ixA hu (se_var rfl (.inl rfl)) se_int) gs_setA (fun ho hi => pg_sub ho hi (PSet.or set_list (set_dct hu)))))
    (ss_cons (ss_for PassesOwn.never rfl (PI.imp (pi_range1 rfl (T.f _ (T.fa 55 _ rfl)) (sa_cons (PE.imp (pe_callB ((call_len).or call_dlen) rfl (T.f _ (T.fa 51 _ rfl)) PySem.boot_len (sa_cons (se_var rfl (.inr (.inl rfl))) sa_nil)) (cb_imp gc_lenA)) sa_nil)) rg1_imp) (sg_name sc__law_t2_witness.nd rfl (.inl rfl)) (ss_cons (ss_set sc__law_t2_witness.nd rfl (.inl rfl) (se_lst sa_nil))
    (ss_cons (ss_for PassesOwn.never rfl (si_seq (se_var rfl (.inl rfl))) (sg_name sc__law_t2_witness.nd rfl (.inl rfl)) (ss_one (ss_for PassesOwn.never rfl (si_seq (se_call (ok__law_t2_beside T) (hr.mono (by decide)) rfl (T.g _ (T.fa 20 _ rfl)) (sa_cons (se_var rfl (.inl rfl)) sa_nil))) (sg_name sc__law_t2_witness.nd rfl (.inl rfl)) (ss_one (ss_if (PW.pt (sw_and (st_inA hu (se_var rfl (.inl rfl)) (se_var rfl (.inr (.inl rfl)))) (pw_and1 (st_notInA hu (se_var rfl (.inl rfl)) (se_var rfl (.inr (.inl rfl))))))) (ss_cons (ss_asg (se_add (se_var rfl (.inl rfl)) se_int) (sg_sub WF (se_var rfl (.inr (.inl rfl))) (se_var rfl (.inl rfl)) gs_setA (fun ho hi => pg_sub ho hi (PSet.or set_list (set_dct hu)))))
    (ss_one (ss_expr (PE.imp (pe_bm PySem.F.plainAttrs_list PySem.F.slot_list_append PySem.F.type_list_append mt_append (se_var rfl (.inl rfl)) (sa_cons (se_var rfl (.inl rfl)) sa_nil)) (bm_imp gm_append))))) ss_nil)))))
    (ss_one (ss_set sc__law_t2_witness.nd rfl (.inl rfl) (se_var rfl (.inl rfl)))))))
    (ss_cons (ss_set sc__law_t2_witness.nd rfl (.inl rfl) se_dnew)
    (ss_cons (ss_for PassesOwn.never rfl (si_seq (se_var rfl (.inl rfl))) (sg_name sc__law_t2_witness.nd rfl (.inl rfl)) (ss_cons (ss_set sc__law_t2_witness.nd rfl (.inr rfl) (se_var rfl (.inl rfl)))
    (ss_one (ss_for PassesOwn.never rfl (PI.imp (pi_range1 rfl (T.f _ (T.fa 55 _ rfl)) (sa_cons (se_add (se_ixA hu (se_var rfl (.inr (.inl rfl))) (se_var rfl (.inl rfl))) se_int) sa_nil)) rg1_imp) (sg_name sc__law_t2_witness.nd rfl (.inl rfl)) (ss_cons (ss_asg se_bl (sg_sub WF (se_var rfl (.inl rfl)) (se_var rfl (.inr (.inl rfl))) gs_setA (fun ho hi => pg_sub ho hi (PSet.or set_list (set_dct hu)))))
    (ss_cons (ss_setLc (own := [("_law_one", 9)]) rfl sc__law_t2_witness.nd rfl rfl rfl (si_seq (se_call (ok__law_t2_beside T) (hr.mono (by decide)) rfl (T.g _ (T.fa 20 _ rfl)) (sa_cons (se_var rfl (.inr (.inl rfl))) sa_nil))) (blkOk_by (N := N__law_t2_witness) (sc := defScope (top 41)) (by decide +kernel)) (by decide) (fun _ _ _ _ _ => (sgv_name sc__law_t2_witness.nd rfl (.inl rfl))) (fun _ _ _ _ _ => (pts_one (st_eq h64 (PE.imp (pe_dm PySem.F.slot_dict_get PySem.F.type_dict_get (mt_dget hu) (se_var rfl (by first | exact .inr (.inl rfl) | exact .inl rfl | exact .inr (.inr rfl))) (sa_cons (se_var rfl (.inl rfl)) sa_nil)) (dm_imp gm_dget)) (se_sub (se_ixA hu (se_var rfl (by first | exact .inr (.inl rfl) | exact .inl rfl | exact .inr (.inr rfl))) (se_var rfl (by first | exact .inr (.inl rfl) | exact .inl rfl | exact .inr (.inr rfl)))) se_int)))) (fun _ _ _ _ _ => (se_var rfl (.inl rfl))))
    (ss_one (ss_if (st_ne h64 (se_var rfl (.inl rfl)) (se_lst sa_nil)) (ss_one (ss_set sc__law_t2_witness.nd rfl (.inr rfl) (PE.imp (pe_callB (call_minX rfl hu) rfl (T.f _ (T.fa 54 _ rfl)) PyProof.Rows.boot_min (sa_cons (se_var rfl (.inl rfl)) sa_nil)) (cb_imp gc_mm)))) ss_nil))))))))
    (ss_one (ss_ret (PE.imp (pe_callTy call_tuple_of rfl (T.f _ (T.fa 58 _ rfl)) PyProof.Rows.boot_tuple (sa_cons (PE.imp (pe_callB ((call_srt hu).or (call_srtX rfl hu)) rfl (T.f _ (T.fa 57 _ rfl)) PyProof.Rows.boot_sorted (sa_cons (PE.imp (pe_callTy (call_list_of.or (call_dlist rfl)) rfl (T.f _ (T.fa 52 _ rfl)) PyProof.Rows.boot_list (sa_cons (se_var rfl (.inl rfl)) sa_nil)) (cb_imp gc_listA)) sa_nil)) (cb_imp gc_sortedA)) sa_nil)) (cb_imp gc_tuple)))))))))))
def N__law_t2_papers : List PySem.Str := ["_law_body", "_law_plan", "_law_found", "_law_here", "_law_start", "_law_end", "_law_support"]
theorem sc__law_t2_papers : FnScope N__law_t2_papers ["_law_body", "_law_plan"] (defScope (top 42)) := ⟨rfl, rfl, rfl, by decide +kernel, rfl, by decide +kernel, by decide +kernel⟩
theorem ok__law_t2_papers (T : Tp K mg) : Df P w K mg base 3 (He.fAd K ("_law_t2_papers", none)) ["_law_body", "_law_plan"] (F__law_t2_papers (He.ga K)) := by
  obtain ⟨fd, F⟩ := T.d 35 d__law_t2_papers rfl
  refine df_of (N := N__law_t2_papers) (ps := ["_law_body", "_law_plan"]) (b := b__law_t2_papers (He.ga K)) F sc__law_t2_papers (fun _ _ _ _ _ _ us hl => match us, hl with | [_, _], _ => rfl) fun cdv A outer s H E hr => ?_
  have hu := hu65 hr
  have h64 := hu64 hr
  unfold b__law_t2_papers
  exact (ss_cons (ss_par2 rfl sc__law_t2_papers.nd rfl rfl (by decide) rfl rfl (sa_cons (se_lst sa_nil) (sa_cons (se_var rfl (.inl rfl)) sa_nil)) rfl)
    (ss_cons (ss_for PassesOwn.never rfl (si_seq (se_var rfl (.inl rfl))) (sg_tup rfl (sg_cons (sg_name sc__law_t2_papers.nd rfl (.inl rfl)) (sg_cons (sg_name sc__law_t2_papers.nd rfl (.inl rfl)) sg_nil)) (fun h => pg_tup rfl h)) (ss_cons (ss_set sc__law_t2_papers.nd rfl (.inl rfl) (se_ixA hu (se_call (ok__law_t2_supports T) (hr.mono (by decide)) rfl (T.g _ (T.fa 30 _ rfl)) (sa_cons (se_call (ok__law_t2_squares T) (hr.mono (by decide)) rfl (T.g _ (T.fa 27 _ rfl)) (sa_cons (se_var rfl (.inl rfl)) sa_nil)) (sa_cons (se_var rfl (.inl rfl)) (sa_cons (se_var rfl (.inl rfl)) sa_nil)))) se_int))
    (ss_cons (ss_expr (PE.imp (pe_bm PySem.F.plainAttrs_list PySem.F.slot_list_append PySem.F.type_list_append mt_append (se_var rfl (.inl rfl)) (sa_cons (se_tup (sa_cons (se_var rfl (.inl rfl)) (sa_cons (se_var rfl (.inl rfl)) (sa_cons (se_var rfl (.inl rfl)) (sa_cons (se_call (ok__law_t2_witness T) (hr.mono (by decide)) rfl (T.g _ (T.fa 37 _ rfl)) (sa_cons (se_var rfl (.inl rfl)) (sa_cons (se_var rfl (.inl rfl)) sa_nil))) sa_nil))))) sa_nil)) (bm_imp gm_append)))
    (ss_one (ss_set sc__law_t2_papers.nd rfl (.inl rfl) (se_call (ok__law_t2_done T) (hr.mono (by decide)) rfl (T.g _ (T.fa 34 _ rfl)) (sa_cons (se_var rfl (.inl rfl)) (sa_cons (se_var rfl (.inl rfl)) (sa_cons (se_var rfl (.inl rfl)) sa_nil)))))))))
    (ss_one (ss_ret (se_var rfl (.inl rfl))))))
def N__law_t2_around : List PySem.Str := ["_law_cell", "_law_found", "_law_across", "_law_up"]
theorem sc__law_t2_around : FnScope N__law_t2_around ["_law_cell"] (defScope (top 36)) := ⟨rfl, rfl, rfl, by decide +kernel, rfl, by decide +kernel, by decide +kernel⟩
theorem ok__law_t2_around (T : Tp K mg) : Df P w K mg base 1 (He.fAd K ("_law_t2_around", none)) ["_law_cell"] (F__law_t2_around (He.ga K)) := by
  obtain ⟨fd, F⟩ := T.d 29 d__law_t2_around rfl
  refine df_of (N := N__law_t2_around) (ps := ["_law_cell"]) (b := b__law_t2_around (He.ga K)) F sc__law_t2_around (fun _ _ _ _ _ _ us hl => match us, hl with | [_], _ => rfl) fun cdv A outer s H E hr => ?_
  have hu := hu65 hr
  have h64 := hu64 hr
  unfold b__law_t2_around
  exact (ss_cons (ss_set sc__law_t2_around.nd rfl (.inl rfl) (se_lst sa_nil))
    (ss_cons (ss_for PassesOwn.never rfl (si_seq (se_lst (sa_cons (se_neg se_int) (sa_cons se_int (sa_cons se_int sa_nil))))) (sg_name sc__law_t2_around.nd rfl (.inr rfl)) (ss_one (ss_set sc__law_t2_around.nd rfl (.inl rfl) (se_add (se_var rfl (.inl rfl)) (se_lc (own := [("_law_up", 3)]) rfl sc__law_t2_around.nd (si_seq (se_lst (sa_cons (se_neg se_int) (sa_cons se_int (sa_cons se_int sa_nil))))) (blkOk_by (N := N__law_t2_around) (sc := defScope (top 36)) (by decide +kernel)) (by decide) (fun _ _ _ _ _ => (sgv_name sc__law_t2_around.nd rfl (.inl rfl))) (fun _ _ _ _ _ => (pts_one (st_ne h64 (se_tup (sa_cons (se_var rfl (by first | exact .inr (.inl rfl) | exact .inl rfl | exact .inr (.inr rfl))) (sa_cons (se_var rfl (.inl rfl)) sa_nil))) (se_tup (sa_cons se_int (sa_cons se_int sa_nil)))))) (fun _ _ _ _ _ => (se_tup (sa_cons (se_add (se_ixA hu (se_var rfl (by first | exact .inr (.inl rfl) | exact .inl rfl | exact .inr (.inr rfl))) se_int) (se_var rfl (by first | exact .inr (.inl rfl) | exact .inl rfl | exact .inr (.inr rfl)))) (sa_cons (se_add (se_ixA hu (se_var rfl (by first | exact .inr (.inl rfl) | exact .inl rfl | exact .inr (.inr rfl))) se_int) (se_var rfl (.inl rfl))) sa_nil)))))))))
    (ss_one (ss_ret (se_var rfl (.inl rfl))))))
def N__law_t2_moves : List PySem.Str := ["_law_body", "_law_squares", "_law_found", "_law_start", "_law_ends", "_law_end"]
theorem sc__law_t2_moves : FnScope N__law_t2_moves ["_law_body"] (defScope (top 37)) := ⟨rfl, rfl, rfl, by decide +kernel, rfl, by decide +kernel, by decide +kernel⟩
theorem ok__law_t2_moves (T : Tp K mg) : Df P w K mg base 5 (He.fAd K ("_law_t2_moves", none)) ["_law_body"] (F__law_t2_moves (He.ga K)) := by
  obtain ⟨fd, F⟩ := T.d 30 d__law_t2_moves rfl
  refine df_of (N := N__law_t2_moves) (ps := ["_law_body"]) (b := b__law_t2_moves (He.ga K)) F sc__law_t2_moves (fun _ _ _ _ _ _ us hl => match us, hl with | [_], _ => rfl) fun cdv A outer s H E hr => ?_
  have hu := hu65 hr
  have h64 := hu64 hr
  unfold b__law_t2_moves
  exact (ss_cons (ss_asg (se_tup (sa_cons (se_call (ok__law_t2_squares T) (hr.mono (by decide)) rfl (T.g _ (T.fa 27 _ rfl)) (sa_cons (se_var rfl (.inl rfl)) sa_nil)) (sa_cons (se_lst sa_nil) sa_nil))) (sg_tup rfl (sg_cons (sg_name sc__law_t2_moves.nd rfl (.inr rfl)) (sg_cons (sg_name sc__law_t2_moves.nd rfl (.inl rfl)) sg_nil)) (fun h => pg_tup rfl h)))
    (ss_cons (ss_for PassesOwn.never rfl (si_seq (se_var rfl (.inl rfl))) (sg_name sc__law_t2_moves.nd rfl (.inr rfl)) (ss_cons (ss_setLc (own := [("_law_end", 5)]) rfl sc__law_t2_moves.nd rfl rfl rfl (si_seq (se_call (ok__law_t2_around T) (hr.mono (by decide)) rfl (T.g _ (T.fa 32 _ rfl)) (sa_cons (se_var rfl (.inr (.inl rfl))) sa_nil))) (blkOk_by (N := N__law_t2_moves) (sc := defScope (top 37)) (by decide +kernel)) (by decide) (fun _ _ _ _ _ => (sgv_name sc__law_t2_moves.nd rfl (.inl rfl))) (fun _ _ _ _ _ => (pts_one (st_ne h64 (se_call (ok__law_t2_supports T) (hr.mono (by decide)) rfl (T.g _ (T.fa 30 _ rfl)) (sa_cons (se_var rfl (by first | exact .inr (.inl rfl) | exact .inl rfl | exact .inr (.inr rfl))) (sa_cons (se_var rfl (by first | exact .inr (.inl rfl) | exact .inl rfl | exact .inr (.inr rfl))) (sa_cons (se_var rfl (.inl rfl)) sa_nil)))) (se_lst sa_nil)))) (fun _ _ _ _ _ => (se_var rfl (.inl rfl))))
    (ss_one (ss_if (PW.pt (sw_and (st_ne h64 (se_var rfl (.inl rfl)) (se_lst sa_nil)) (pw_and1 (st_truth (se_call (ok__law_t2_free T) (hr.mono (by decide)) rfl (T.g _ (T.fa 29 _ rfl)) (sa_cons (se_var rfl (.inl rfl)) (sa_cons (se_var rfl (.inr (.inl rfl))) sa_nil))))))) (ss_one (ss_set sc__law_t2_moves.nd rfl (.inl rfl) (se_add (se_var rfl (.inl rfl)) (se_lc (own := [("_law_end", 5)]) rfl sc__law_t2_moves.nd (si_seq (se_var rfl (.inl rfl))) (blkOk_by (N := N__law_t2_moves) (sc := defScope (top 37)) (by decide +kernel)) (by decide) (fun _ _ _ _ _ => (sgv_name sc__law_t2_moves.nd rfl (.inl rfl))) (fun _ _ _ _ _ => sp_nil) (fun _ _ _ _ _ => (se_tup (sa_cons (se_var rfl (by first | exact .inr (.inl rfl) | exact .inl rfl | exact .inr (.inr rfl))) (sa_cons (se_var rfl (.inl rfl)) sa_nil)))))))) ss_nil))))
    (ss_one (ss_ret (PE.imp (pe_callB ((call_srt hu).or (call_srtX rfl hu)) rfl (T.f _ (T.fa 57 _ rfl)) PyProof.Rows.boot_sorted (sa_cons (se_var rfl (.inl rfl)) sa_nil)) (cb_imp gc_sortedA))))))
def N__law_t2_plan : List PySem.Str := ["_law_pen_here", "_law_body", "_law_many", "_law_plan", "_law_bodies", "_law_lap", "_law_moves", "_law_same", "_law_move"]
theorem sc__law_t2_plan : FnScope N__law_t2_plan ["_law_pen_here", "_law_body", "_law_many"] (defScope (top 39)) := ⟨rfl, rfl, rfl, by decide +kernel, rfl, by decide +kernel, by decide +kernel⟩
theorem ok__law_t2_plan (T : Tp K mg) : Df P w K mg base 6 (He.fAd K ("_law_t2_plan", none)) ["_law_pen_here", "_law_body", "_law_many"] (F__law_t2_plan (He.ga K)) := by
  obtain ⟨fd, F⟩ := T.d 32 d__law_t2_plan rfl
  refine df_of (N := N__law_t2_plan) (ps := ["_law_pen_here", "_law_body", "_law_many"]) (b := b__law_t2_plan (He.ga K)) F sc__law_t2_plan (fun _ _ _ _ _ _ us hl => match us, hl with | [_, _, _], _ => rfl) fun cdv A outer s H E hr => ?_
  have hu := hu65 hr
  have h64 := hu64 hr
  unfold b__law_t2_plan
  exact (ss_cons (ss_asg (se_tup (sa_cons (se_lst sa_nil) (sa_cons (se_lst (sa_cons (se_var rfl (.inl rfl)) sa_nil)) sa_nil))) (sg_tup rfl (sg_cons (sg_name sc__law_t2_plan.nd rfl (.inr rfl)) (sg_cons (sg_name sc__law_t2_plan.nd rfl (.inl rfl)) sg_nil)) (fun h => pg_tup rfl h)))
    (ss_cons (ss_for PassesOwn.never rfl (PI.imp (pi_range1 rfl (T.f _ (T.fa 55 _ rfl)) (sa_cons (se_var rfl (.inl rfl)) sa_nil)) rg1_imp) (sg_name sc__law_t2_plan.nd rfl (.inl rfl)) (ss_cons (ss_set sc__law_t2_plan.nd rfl (.inl rfl) (se_call (ok__law_t2_moves T) (hr.mono (by decide)) rfl (T.g _ (T.fa 33 _ rfl)) (sa_cons (se_ixA hu (se_var rfl (.inl rfl)) (se_neg se_int)) sa_nil)))
    (ss_cons (ss_if (st_eq h64 (se_var rfl (.inl rfl)) (se_lst sa_nil)) (ss_one ss_break) ss_nil)
    (ss_cons (ss_setLc (own := [("_law_move", 8)]) rfl sc__law_t2_plan.nd rfl rfl rfl (si_seq (se_var rfl (.inl rfl))) (blkOk_by (N := N__law_t2_plan) (sc := defScope (top 39)) (by decide +kernel)) (by decide) (fun _ _ _ _ _ => (sgv_name sc__law_t2_plan.nd rfl (.inl rfl))) (fun _ _ _ _ _ => (pts_one (PW.pt (sw_and (st_ne h64 (se_var rfl (by first | exact .inr (.inl rfl) | exact .inl rfl | exact .inr (.inr rfl))) (se_lst sa_nil)) (sw_and (st_eq h64 (se_ixA hu (se_var rfl (.inl rfl)) se_int) (se_ixA hu (se_ixA hu (se_var rfl (by first | exact .inr (.inl rfl) | exact .inl rfl | exact .inr (.inr rfl))) (se_neg se_int)) se_int)) (pw_and1 (st_ne h64 (se_ixA hu (se_var rfl (.inl rfl)) se_int) (se_ixA hu (se_ixA hu (se_var rfl (by first | exact .inr (.inl rfl) | exact .inl rfl | exact .inr (.inr rfl))) (se_neg se_int)) se_int)))))))) (fun _ _ _ _ _ => (se_var rfl (.inl rfl))))
    (ss_cons (ss_if (PW.pt (sw_and (st_ne h64 (se_var rfl (.inl rfl)) (se_lst sa_nil)) (pw_and1 (st_gt (se_call (ok__law_draw T) (hr.mono (by decide)) rfl (T.g _ (T.fa 16 _ rfl)) (sa_cons (se_var rfl (.inl rfl)) (sa_cons se_int sa_nil))) se_int)))) (ss_one (ss_set sc__law_t2_plan.nd rfl (.inl rfl) (se_var rfl (.inl rfl)))) ss_nil)
    (ss_cons (ss_expr (PE.imp (pe_bm PySem.F.plainAttrs_list PySem.F.slot_list_append PySem.F.type_list_append mt_append (se_var rfl (.inr (.inl rfl))) (sa_cons (se_call (ok__law_pick T) (hr.mono (by decide)) rfl (T.g _ (T.fa 17 _ rfl)) (sa_cons (se_var rfl (.inl rfl)) (sa_cons (se_var rfl (.inl rfl)) sa_nil))) sa_nil)) (bm_imp gm_append)))
    (ss_one (ss_expr (PE.imp (pe_bm PySem.F.plainAttrs_list PySem.F.slot_list_append PySem.F.type_list_append mt_append (se_var rfl (.inl rfl)) (sa_cons (se_call (ok__law_t2_done T) (hr.mono (by decide)) rfl (T.g _ (T.fa 34 _ rfl)) (sa_cons (se_ixA hu (se_var rfl (.inl rfl)) (se_neg se_int)) (sa_cons (se_ixA hu (se_ixA hu (se_var rfl (.inr (.inl rfl))) (se_neg se_int)) se_int) (sa_cons (se_ixA hu (se_ixA hu (se_var rfl (.inr (.inl rfl))) (se_neg se_int)) se_int) sa_nil)))) sa_nil)) (bm_imp gm_append))))))))))
    (ss_one (ss_ret (se_tup (sa_cons (se_var rfl (.inr (.inl rfl))) (sa_cons (se_var rfl (.inl rfl)) sa_nil)))))))
def N_Step___init__ : List PySem.Str := ["self", "start", "end", "support", "witness"]
theorem sc_Step___init__ : FnScope N_Step___init__ ["self", "start", "end", "support", "witness"] (defScope (topM 11 0)) := ⟨rfl, rfl, rfl, by decide +kernel, rfl, by decide +kernel, by decide +kernel⟩
theorem ok_Step___init__ (T : Tp K mg) : Df P w K mg base 1 (He.fAd K ("Step", some "__init__")) ["self", "start", "end", "support", "witness"] (F_Step___init__ (He.ga K)) := by
  obtain ⟨fd, F⟩ := T.d 5 d_Step___init__ rfl
  refine df_of (N := N_Step___init__) (ps := ["self", "start", "end", "support", "witness"]) (b := b_Step___init__ (He.ga K)) F sc_Step___init__ (fun _ _ _ _ _ _ us hl => match us, hl with | [_, _, _, _, _], _ => rfl) fun cdv A outer s H E hr => ?_
  have hu := hu65 hr
  have h64 := hu64 hr
  unfold b_Step___init__
  exact (ss_cons (ss_fld (He.cls_ok (T.fa 59 _ rfl)) (He.noat_ok (T.fa 61 _ rfl)) (se_var rfl (.inl rfl)) (se_var rfl (.inl rfl)))
    (ss_cons (ss_fld (He.cls_ok (T.fa 59 _ rfl)) (He.noat_ok (T.fa 62 _ rfl)) (se_var rfl (.inl rfl)) (se_var rfl (.inl rfl)))
    (ss_cons (ss_fld (He.cls_ok (T.fa 59 _ rfl)) (He.noat_ok (T.fa 63 _ rfl)) (se_var rfl (.inl rfl)) (se_var rfl (.inl rfl)))
    (ss_one (ss_fld (He.cls_ok (T.fa 59 _ rfl)) (He.noat_ok (T.fa 64 _ rfl)) (se_var rfl (.inl rfl)) (se_var rfl (.inl rfl)))))))
def N__law_t2_steps : List PySem.Str := ["_law_papers", "_law_paper"]
theorem sc__law_t2_steps : FnScope N__law_t2_steps ["_law_papers"] (defScope (top 46)) := ⟨rfl, rfl, rfl, by decide +kernel, rfl, by decide +kernel, by decide +kernel⟩
theorem ok__law_t2_steps (T : Tp K mg) : Df P w K mg base 3 (He.fAd K ("_law_t2_steps", none)) ["_law_papers"] (F__law_t2_steps (He.ga K)) := by
  obtain ⟨fd, F⟩ := T.d 39 d__law_t2_steps rfl
  refine df_of (N := N__law_t2_steps) (ps := ["_law_papers"]) (b := b__law_t2_steps (He.ga K)) F sc__law_t2_steps (fun _ _ _ _ _ _ us hl => match us, hl with | [_], _ => rfl) fun cdv A outer s H E hr => ?_
  have hu := hu65 hr
  have h64 := hu64 hr
  unfold b__law_t2_steps
  exact (ss_one (ss_ret (se_lc (own := [("_law_paper", 1)]) rfl sc__law_t2_steps.nd (si_seq (se_var rfl (.inl rfl))) (blkOk_by (N := N__law_t2_steps) (sc := defScope (top 46)) (by decide +kernel)) (by decide) (fun _ _ _ _ _ => (sgv_name sc__law_t2_steps.nd rfl (.inl rfl))) (fun _ _ _ _ _ => sp_nil) (fun _ _ _ _ _ => (se_make (He.mkr_ok (T.fa 60 _ rfl)) (ok_Step___init__ T) (hr.mono (by decide)) rfl (T.g _ (T.fa 8 _ rfl)) (sa_cons (se_ixA hu (se_var rfl (.inl rfl)) se_int) (sa_cons (se_ixA hu (se_var rfl (.inl rfl)) se_int) (sa_cons (se_ixA hu (se_var rfl (.inl rfl)) se_int) (sa_cons (se_ixA hu (se_var rfl (.inl rfl)) se_int) sa_nil)))))))))
def N__law_t2_reads : List PySem.Str := ["_law_paper", "_law_start", "_law_end", "_law_support", "_law_witness"]
theorem sc__law_t2_reads : FnScope N__law_t2_reads ["_law_paper"] (defScope (top 43)) := ⟨rfl, rfl, rfl, by decide +kernel, rfl, by decide +kernel, by decide +kernel⟩
theorem ok__law_t2_reads (T : Tp K mg) : Df P w K mg base 2 (He.fAd K ("_law_t2_reads", none)) ["_law_paper"] (F__law_t2_reads (He.ga K)) := by
  obtain ⟨fd, F⟩ := T.d 36 d__law_t2_reads rfl
  refine df_of (N := N__law_t2_reads) (ps := ["_law_paper"]) (b := b__law_t2_reads (He.ga K)) F sc__law_t2_reads (fun _ _ _ _ _ _ us hl => match us, hl with | [_], _ => rfl) fun cdv A outer s H E hr => ?_
  have hu := hu65 hr
  have h64 := hu64 hr
  unfold b__law_t2_reads
  exact (ss_cons (ss_asg (se_var rfl (.inl rfl)) (sg_tup rfl (sg_cons (sg_name sc__law_t2_reads.nd rfl (.inl rfl)) (sg_cons (sg_name sc__law_t2_reads.nd rfl (.inl rfl)) (sg_cons (sg_name sc__law_t2_reads.nd rfl (.inl rfl)) (sg_cons (sg_name sc__law_t2_reads.nd rfl (.inl rfl)) sg_nil)))) (fun h => pg_tup rfl h)))
    (ss_one (ss_ret (PE.imp (pe_callB ((call_srt hu).or (call_srtX rfl hu)) rfl (T.f _ (T.fa 57 _ rfl)) PyProof.Rows.boot_sorted (sa_cons (PE.imp (pe_callTy (call_setX rfl hu) rfl (T.f _ (T.fa 56 _ rfl)) PyProof.Rows.boot_set (sa_cons (se_add (se_add (se_add (se_lst (sa_cons (se_var rfl (.inl rfl)) (sa_cons (se_var rfl (.inl rfl)) sa_nil))) (se_call (ok__law_t2_beside T) (hr.mono (by decide)) rfl (T.g _ (T.fa 20 _ rfl)) (sa_cons (se_var rfl (.inl rfl)) sa_nil))) (PE.imp (pe_callTy (call_list_of.or (call_dlist rfl)) rfl (T.f _ (T.fa 52 _ rfl)) PyProof.Rows.boot_list (sa_cons (se_var rfl (.inl rfl)) sa_nil)) (cb_imp gc_listA))) (PE.imp (pe_callTy (call_list_of.or (call_dlist rfl)) rfl (T.f _ (T.fa 52 _ rfl)) PyProof.Rows.boot_list (sa_cons (se_var rfl (.inl rfl)) sa_nil)) (cb_imp gc_listA))) sa_nil)) (cb_imp gc_setOf)) sa_nil)) (cb_imp gc_sortedA)))))
def N__law_t2_tied : List PySem.Str := ["_law_one", "_law_two", "_law_first", "_law_second"]
theorem sc__law_t2_tied : FnScope N__law_t2_tied ["_law_one", "_law_two"] (defScope (top 44)) := ⟨rfl, rfl, rfl, by decide +kernel, rfl, by decide +kernel, by decide +kernel⟩
theorem ok__law_t2_tied (T : Tp K mg) : Df P w K mg base 3 (He.fAd K ("_law_t2_tied", none)) ["_law_one", "_law_two"] (F__law_t2_tied (He.ga K)) := by
  obtain ⟨fd, F⟩ := T.d 37 d__law_t2_tied rfl
  refine df_of (N := N__law_t2_tied) (ps := ["_law_one", "_law_two"]) (b := b__law_t2_tied (He.ga K)) F sc__law_t2_tied (fun _ _ _ _ _ _ us hl => match us, hl with | [_, _], _ => rfl) fun cdv A outer s H E hr => ?_
  have hu := hu65 hr
  have h64 := hu64 hr
  unfold b__law_t2_tied
  exact (ss_cons (ss_par2 rfl sc__law_t2_tied.nd rfl rfl (by decide) rfl rfl (sa_cons (se_call (ok__law_t2_reads T) (hr.mono (by decide)) rfl (T.g _ (T.fa 39 _ rfl)) (sa_cons (se_var rfl (.inl rfl)) sa_nil)) (sa_cons (se_call (ok__law_t2_reads T) (hr.mono (by decide)) rfl (T.g _ (T.fa 39 _ rfl)) (sa_cons (se_var rfl (.inl rfl)) sa_nil)) sa_nil)) rfl)
    (ss_cons (ss_if (PW.pt (sw_or (st_inA hu (se_ixA hu (se_var rfl (.inl rfl)) se_int) (se_var rfl (.inl rfl))) (pw_or1 (st_inA hu (se_ixA hu (se_var rfl (.inl rfl)) se_int) (se_var rfl (.inl rfl)))))) (ss_one (ss_ret se_bl)) ss_nil)
    (ss_one (ss_ret (se_or (se_inA hu (se_ixA hu (se_var rfl (.inl rfl)) se_int) (se_var rfl (.inl rfl))) (pe_one (se_inA hu (se_ixA hu (se_var rfl (.inl rfl)) se_int) (se_var rfl (.inl rfl)))))))))
def N__law_t2_ties : List PySem.Str := ["_law_papers", "_law_found", "_law_i", "_law_j"]
theorem sc__law_t2_ties : FnScope N__law_t2_ties ["_law_papers"] (defScope (top 45)) := ⟨rfl, rfl, rfl, by decide +kernel, rfl, by decide +kernel, by decide +kernel⟩
theorem ok__law_t2_ties (T : Tp K mg) : Df P w K mg base 4 (He.fAd K ("_law_t2_ties", none)) ["_law_papers"] (F__law_t2_ties (He.ga K)) := by
  obtain ⟨fd, F⟩ := T.d 38 d__law_t2_ties rfl
  refine df_of (N := N__law_t2_ties) (ps := ["_law_papers"]) (b := b__law_t2_ties (He.ga K)) F sc__law_t2_ties (fun _ _ _ _ _ _ us hl => match us, hl with | [_], _ => rfl) fun cdv A outer s H E hr => ?_
  have hu := hu65 hr
  have h64 := hu64 hr
  unfold b__law_t2_ties
  exact (ss_cons (ss_set sc__law_t2_ties.nd rfl (.inl rfl) (se_lst sa_nil))
    (ss_cons (ss_for PassesOwn.never rfl (PI.imp (pi_range1 rfl (T.f _ (T.fa 55 _ rfl)) (sa_cons (PE.imp (pe_callB ((call_len).or call_dlen) rfl (T.f _ (T.fa 51 _ rfl)) PySem.boot_len (sa_cons (se_var rfl (.inr (.inl rfl))) sa_nil)) (cb_imp gc_lenA)) sa_nil)) rg1_imp) (sg_name sc__law_t2_ties.nd rfl (.inr rfl)) (ss_one (ss_set sc__law_t2_ties.nd rfl (.inl rfl) (se_add (se_var rfl (.inl rfl)) (se_lc (own := [("_law_j", 3)]) rfl sc__law_t2_ties.nd (PI.imp (pi_range2 rfl (T.f _ (T.fa 55 _ rfl)) (sa_cons (se_add (se_var rfl (.inr (.inl rfl))) se_int) (sa_cons (PE.imp (pe_callB ((call_len).or call_dlen) rfl (T.f _ (T.fa 51 _ rfl)) PySem.boot_len (sa_cons (se_var rfl (.inr (.inl rfl))) sa_nil)) (cb_imp gc_lenA)) sa_nil))) rg2_imp) (blkOk_by (N := N__law_t2_ties) (sc := defScope (top 45)) (by decide +kernel)) (by decide) (fun _ _ _ _ _ => (sgv_name sc__law_t2_ties.nd rfl (.inl rfl))) (fun _ _ _ _ _ => (pts_one (st_truth (se_call (ok__law_t2_tied T) (hr.mono (by decide)) rfl (T.g _ (T.fa 40 _ rfl)) (sa_cons (se_ixA hu (se_var rfl (by first | exact .inr (.inl rfl) | exact .inl rfl | exact .inr (.inr rfl))) (se_var rfl (by first | exact .inr (.inl rfl) | exact .inl rfl | exact .inr (.inr rfl)))) (sa_cons (se_ixA hu (se_var rfl (by first | exact .inr (.inl rfl) | exact .inl rfl | exact .inr (.inr rfl))) (se_var rfl (.inl rfl))) sa_nil)))))) (fun _ _ _ _ _ => (se_tup (sa_cons (se_var rfl (by first | exact .inr (.inl rfl) | exact .inl rfl | exact .inr (.inr rfl))) (sa_cons (se_var rfl (.inl rfl)) sa_nil)))))))))
    (ss_one (ss_ret (se_var rfl (.inl rfl))))))
def N_is_list : List PySem.Str := ["value"]
theorem sc_is_list : FnScope N_is_list ["value"] (defScope (top 5)) := ⟨rfl, rfl, rfl, by decide +kernel, rfl, by decide +kernel, by decide +kernel⟩
theorem ok_is_list (T : Tp K mg) : Df P w K mg base 1 (He.fAd K ("is_list", none)) ["value"] (F_is_list (He.ga K)) := by
  obtain ⟨fd, F⟩ := T.d 1 d_is_list rfl
  refine df_of (N := N_is_list) (ps := ["value"]) (b := b_is_list (He.ga K)) F sc_is_list (fun _ _ _ _ _ _ us hl => match us, hl with | [_], _ => rfl) fun cdv A outer s H E hr => ?_
  have hu := hu65 hr
  have h64 := hu64 hr
  unfold b_is_list
  exact (ss_one (ss_ret (PE.imp (pe_callB call_isD rfl (T.f _ (T.fa 50 _ rfl)) PyProof.Rows.boot_isinstance (sa_cons (se_var rfl (.inl rfl)) (sa_cons (se_tup (sa_cons (se_ty rfl (T.f _ (T.fa 52 _ rfl)) (by decide +kernel)) (sa_cons (se_ty rfl (T.f _ (T.fa 58 _ rfl)) (by decide +kernel)) sa_nil))) sa_nil))) (cb_imp gc_isi))))
def N_is_whole : List PySem.Str := ["value"]
theorem sc_is_whole : FnScope N_is_whole ["value"] (defScope (top 4)) := ⟨rfl, rfl, rfl, by decide +kernel, rfl, by decide +kernel, by decide +kernel⟩
theorem ok_is_whole (T : Tp K mg) : Df P w K mg base 1 (He.fAd K ("is_whole", none)) ["value"] (F_is_whole (He.ga K)) := by
  obtain ⟨fd, F⟩ := T.d 0 d_is_whole rfl
  refine df_of (N := N_is_whole) (ps := ["value"]) (b := b_is_whole (He.ga K)) F sc_is_whole (fun _ _ _ _ _ _ us hl => match us, hl with | [_], _ => rfl) fun cdv A outer s H E hr => ?_
  have hu := hu65 hr
  have h64 := hu64 hr
  unfold b_is_whole
  exact (ss_one (ss_ret (se_and (PE.imp (pe_callB call_isD rfl (T.f _ (T.fa 50 _ rfl)) PyProof.Rows.boot_isinstance (sa_cons (se_var rfl (.inl rfl)) (sa_cons (se_ty rfl (T.f _ (T.fa 49 _ rfl)) (by decide +kernel)) sa_nil))) (cb_imp gc_isi)) (pe_one (se_not (PE.imp (pe_callB call_isD rfl (T.f _ (T.fa 50 _ rfl)) PyProof.Rows.boot_isinstance (sa_cons (se_var rfl (.inl rfl)) (sa_cons (se_ty rfl (T.f _ (T.fa 47 _ rfl)) (by decide +kernel)) sa_nil))) (cb_imp gc_isi)))))))
def N_changes : List PySem.Str := ["one", "reads"]
theorem sc_changes : FnScope N_changes ["one", "reads"] (defScope (top 13)) := ⟨rfl, rfl, rfl, by decide +kernel, rfl, by decide +kernel, by decide +kernel⟩
theorem ok_changes (T : Tp K mg) : Df P w K mg base 1 (He.fAd K ("changes", none)) ["one", "reads"] (F_changes (He.ga K)) := by
  obtain ⟨fd, F⟩ := T.d 7 d_changes rfl
  refine df_of (N := N_changes) (ps := ["one", "reads"]) (b := b_changes (He.ga K)) F sc_changes (fun _ _ _ _ _ _ us hl => match us, hl with | [_, _], _ => rfl) fun cdv A outer s H E hr => ?_
  have hu := hu65 hr
  have h64 := hu64 hr
  unfold b_changes
  exact (ss_one (ss_ret (se_or (se_inA hu (se_fld (He.cls_ok (T.fa 59 _ rfl)) (He.noat_ok (T.fa 61 _ rfl)) (se_var rfl (.inl rfl))) (se_var rfl (.inl rfl))) (pe_one (se_inA hu (se_fld (He.cls_ok (T.fa 59 _ rfl)) (He.noat_ok (T.fa 62 _ rfl)) (se_var rfl (.inl rfl))) (se_var rfl (.inl rfl)))))))
def N_is_cell : List PySem.Str := ["value"]
theorem sc_is_cell : FnScope N_is_cell ["value"] (defScope (top 6)) := ⟨rfl, rfl, rfl, by decide +kernel, rfl, by decide +kernel, by decide +kernel⟩
theorem ok_is_cell (T : Tp K mg) : Df P w K mg base 2 (He.fAd K ("is_cell", none)) ["value"] (F_is_cell (He.ga K)) := by
  obtain ⟨fd, F⟩ := T.d 2 d_is_cell rfl
  refine df_of (N := N_is_cell) (ps := ["value"]) (b := b_is_cell (He.ga K)) F sc_is_cell (fun _ _ _ _ _ _ us hl => match us, hl with | [_], _ => rfl) fun cdv A outer s H E hr => ?_
  have hu := hu65 hr
  have h64 := hu64 hr
  unfold b_is_cell
  exact (ss_one (ss_ret (se_and (PE.imp (pe_callB call_isD rfl (T.f _ (T.fa 50 _ rfl)) PyProof.Rows.boot_isinstance (sa_cons (se_var rfl (.inl rfl)) (sa_cons (se_ty rfl (T.f _ (T.fa 58 _ rfl)) (by decide +kernel)) sa_nil))) (cb_imp gc_isi)) (se_and (se_eq h64 (PE.imp (pe_callB ((call_len).or call_dlen) rfl (T.f _ (T.fa 51 _ rfl)) PySem.boot_len (sa_cons (se_var rfl (.inl rfl)) sa_nil)) (cb_imp gc_lenA)) se_int) (se_and (se_call (ok_is_whole T) (hr.mono (by decide)) rfl (T.g _ (T.fa 3 _ rfl)) (sa_cons (se_ixA hu (se_var rfl (.inl rfl)) se_int) sa_nil)) (pe_one (se_call (ok_is_whole T) (hr.mono (by decide)) rfl (T.g _ (T.fa 3 _ rfl)) (sa_cons (se_ixA hu (se_var rfl (.inl rfl)) se_int) sa_nil))))))))
def N_check_cell : List PySem.Str := ["value"]
theorem sc_check_cell : FnScope N_check_cell ["value"] (defScope (top 8)) := ⟨rfl, rfl, rfl, by decide +kernel, rfl, by decide +kernel, by decide +kernel⟩
theorem ok_check_cell (T : Tp K mg) : Df P w K mg base 3 (He.fAd K ("check_cell", none)) ["value"] (F_check_cell (He.ga K)) := by
  obtain ⟨fd, F⟩ := T.d 3 d_check_cell rfl
  refine df_of (N := N_check_cell) (ps := ["value"]) (b := b_check_cell (He.ga K)) F sc_check_cell (fun _ _ _ _ _ _ us hl => match us, hl with | [_], _ => rfl) fun cdv A outer s H E hr => ?_
  have hu := hu65 hr
  have h64 := hu64 hr
  unfold b_check_cell
  exact (ss_one (ss_if (st_not (st_truth (se_call (ok_is_cell T) (hr.mono (by decide)) rfl (T.g _ (T.fa 5 _ rfl)) (sa_cons (se_var rfl (.inl rfl)) sa_nil)))) (ss_one ss_never) ss_nil))
def N_beside : List PySem.Str := ["cell", "column", "row"]
theorem sc_beside : FnScope N_beside ["cell"] (defScope (top 9)) := ⟨rfl, rfl, rfl, by decide +kernel, rfl, by decide +kernel, by decide +kernel⟩
theorem ok_beside (T : Tp K mg) : Df P w K mg base 4 (He.fAd K ("beside", none)) ["cell"] (F_beside (He.ga K)) := by
  obtain ⟨fd, F⟩ := T.d 4 d_beside rfl
  refine df_of (N := N_beside) (ps := ["cell"]) (b := b_beside (He.ga K)) F sc_beside (fun _ _ _ _ _ _ us hl => match us, hl with | [_], _ => rfl) fun cdv A outer s H E hr => ?_
  have hu := hu65 hr
  have h64 := hu64 hr
  unfold b_beside
  exact (ss_cons (ss_expr (se_call (ok_check_cell T) (hr.mono (by decide)) rfl (T.g _ (T.fa 6 _ rfl)) (sa_cons (se_var rfl (.inl rfl)) sa_nil)))
    (ss_cons (ss_asg (se_var rfl (.inl rfl)) (sg_tup rfl (sg_cons (sg_name sc_beside.nd rfl (.inl rfl)) (sg_cons (sg_name sc_beside.nd rfl (.inl rfl)) sg_nil)) (fun h => pg_tup rfl h)))
    (ss_one (ss_ret (se_tup (sa_cons (se_tup (sa_cons (se_sub (se_var rfl (.inl rfl)) se_int) (sa_cons (se_var rfl (.inl rfl)) sa_nil))) (sa_cons (se_tup (sa_cons (se_var rfl (.inl rfl)) (sa_cons (se_sub (se_var rfl (.inl rfl)) se_int) sa_nil))) (sa_cons (se_tup (sa_cons (se_add (se_var rfl (.inl rfl)) se_int) (sa_cons (se_var rfl (.inl rfl)) sa_nil))) (sa_cons (se_tup (sa_cons (se_var rfl (.inl rfl)) (sa_cons (se_add (se_var rfl (.inl rfl)) se_int) sa_nil))) sa_nil)))))))))
def N_reads_of : List PySem.Str := ["step", "cells", "cell"]
theorem sc_reads_of : FnScope N_reads_of ["step"] (defScope (top 12)) := ⟨rfl, rfl, rfl, by decide +kernel, rfl, by decide +kernel, by decide +kernel⟩
theorem ok_reads_of (T : Tp K mg) : Df P w K mg base 5 (He.fAd K ("reads_of", none)) ["step"] (F_reads_of (He.ga K)) := by
  obtain ⟨fd, F⟩ := T.d 6 d_reads_of rfl
  refine df_of (N := N_reads_of) (ps := ["step"]) (b := b_reads_of (He.ga K)) F sc_reads_of (fun _ _ _ _ _ _ us hl => match us, hl with | [_], _ => rfl) fun cdv A outer s H E hr => ?_
  have hu := hu65 hr
  have h64 := hu64 hr
  unfold b_reads_of
  exact (ss_cons (ss_set sc_reads_of.nd rfl (.inl rfl) (se_add (se_add (se_add (se_tup (sa_cons (se_fld (He.cls_ok (T.fa 59 _ rfl)) (He.noat_ok (T.fa 61 _ rfl)) (se_var rfl (.inl rfl))) (sa_cons (se_fld (He.cls_ok (T.fa 59 _ rfl)) (He.noat_ok (T.fa 62 _ rfl)) (se_var rfl (.inl rfl))) sa_nil))) (se_call (ok_beside T) (hr.mono (by decide)) rfl (T.g _ (T.fa 7 _ rfl)) (sa_cons (se_fld (He.cls_ok (T.fa 59 _ rfl)) (He.noat_ok (T.fa 61 _ rfl)) (se_var rfl (.inl rfl))) sa_nil))) (se_fld (He.cls_ok (T.fa 59 _ rfl)) (He.noat_ok (T.fa 63 _ rfl)) (se_var rfl (.inl rfl)))) (se_fld (He.cls_ok (T.fa 59 _ rfl)) (He.noat_ok (T.fa 64 _ rfl)) (se_var rfl (.inl rfl)))))
    (ss_one (ss_ret (PE.imp (pe_callTy call_tuple_of rfl (T.f _ (T.fa 58 _ rfl)) PyProof.Rows.boot_tuple (sa_cons (PE.imp (pe_callB ((call_srt hu).or (call_srtX rfl hu)) rfl (T.f _ (T.fa 57 _ rfl)) PyProof.Rows.boot_sorted (sa_cons (se_sc (own := [("cell", 2)]) hu rfl sc_reads_of.nd (si_seq (se_var rfl (.inl rfl))) (blkOk_by (N := N_reads_of) (sc := defScope (top 12)) (by decide +kernel)) (by decide) (fun _ _ _ _ _ => (sgv_name sc_reads_of.nd rfl (.inl rfl))) (fun _ _ _ _ _ => sp_nil) (fun _ _ _ _ _ => (se_var rfl (.inl rfl)))) sa_nil)) (cb_imp gc_sortedA)) sa_nil)) (cb_imp gc_tuple)))))
def N_ties_of : List PySem.Str := ["steps", "reads", "found", "j", "two", "i", "step", "cell"]
theorem sc_ties_of : FnScope N_ties_of ["steps"] (defScope (top 14)) := ⟨rfl, rfl, rfl, by decide +kernel, rfl, by decide +kernel, by decide +kernel⟩
theorem ok_ties_of (T : Tp K mg) : Df P w K mg base 6 (He.fAd K ("ties_of", none)) ["steps"] (F_ties_of (He.ga K)) := by
  obtain ⟨fd, F⟩ := T.d 8 d_ties_of rfl
  refine df_of (N := N_ties_of) (ps := ["steps"]) (b := b_ties_of (He.ga K)) F sc_ties_of (fun _ _ _ _ _ _ us hl => match us, hl with | [_], _ => rfl) fun cdv A outer s H E hr => ?_
  have hu := hu65 hr
  have h64 := hu64 hr
  unfold b_ties_of
  exact (ss_cons (ss_setLc (own := [("step", 6)]) rfl sc_ties_of.nd rfl rfl rfl (si_seq (se_var rfl (.inl rfl))) (blkOk_by (N := N_ties_of) (sc := defScope (top 14)) (by decide +kernel)) (by decide) (fun _ _ _ _ _ => (sgv_name sc_ties_of.nd rfl (.inl rfl))) (fun _ _ _ _ _ => sp_nil) (fun _ _ _ _ _ => (se_dc (own := [("cell", 7)]) hu rfl sc_ties_of.nd (si_seq (se_call (ok_reads_of T) (hr.mono (by decide)) rfl (T.g _ (T.fa 9 _ rfl)) (sa_cons (se_var rfl (.inl rfl)) sa_nil))) (blkOk_by (N := N_ties_of) (by kernel_rfl)) (by decide) (fun _ _ _ _ _ => (sgv_name sc_ties_of.nd rfl (.inl rfl))) (fun _ _ _ _ _ => sp_nil) (fun _ _ _ _ _ => (se_var rfl (.inl rfl))) (fun _ _ _ _ _ => se_bl))))
    (ss_cons (ss_set sc_ties_of.nd rfl (.inl rfl) (se_lst sa_nil))
    (ss_cons (ss_for PassesOwn.never rfl (PI.imp (pi_enum rfl (T.f _ (T.fa 48 _ rfl)) (sa_cons (se_var rfl (.inl rfl)) sa_nil)) enm_imp) (sg_tup rfl (sg_cons (sg_name sc_ties_of.nd rfl (.inl rfl)) (sg_cons (sg_name sc_ties_of.nd rfl (.inl rfl)) sg_nil)) (fun h => pg_tup rfl h)) (ss_one (ss_for PassesOwn.never rfl (PI.imp (pi_range1 rfl (T.f _ (T.fa 55 _ rfl)) (sa_cons (se_var rfl (.inl rfl)) sa_nil)) rg1_imp) (sg_name sc_ties_of.nd rfl (.inl rfl)) (ss_one (ss_if (PW.pt (sw_or (st_truth (se_call (ok_changes T) (hr.mono (by decide)) rfl (T.g _ (T.fa 10 _ rfl)) (sa_cons (se_ixA hu (se_var rfl (.inl rfl)) (se_var rfl (.inl rfl))) (sa_cons (se_ixA hu (se_var rfl (.inl rfl)) (se_var rfl (.inl rfl))) sa_nil)))) (pw_or1 (st_truth (se_call (ok_changes T) (hr.mono (by decide)) rfl (T.g _ (T.fa 10 _ rfl)) (sa_cons (se_var rfl (.inl rfl)) (sa_cons (se_ixA hu (se_var rfl (.inl rfl)) (se_var rfl (.inl rfl))) sa_nil))))))) (ss_one (ss_expr (PE.imp (pe_bm PySem.F.plainAttrs_list PySem.F.slot_list_append PySem.F.type_list_append mt_append (se_var rfl (.inl rfl)) (sa_cons (se_tup (sa_cons (se_var rfl (.inl rfl)) (sa_cons (se_var rfl (.inl rfl)) sa_nil))) sa_nil)) (bm_imp gm_append)))) ss_nil)))))
    (ss_one (ss_ret (PE.imp (pe_callTy call_tuple_of rfl (T.f _ (T.fa 58 _ rfl)) PyProof.Rows.boot_tuple (sa_cons (PE.imp (pe_callB ((call_srt hu).or (call_srtX rfl hu)) rfl (T.f _ (T.fa 57 _ rfl)) PyProof.Rows.boot_sorted (sa_cons (se_var rfl (.inl rfl)) sa_nil)) (cb_imp gc_sortedA)) sa_nil)) (cb_imp gc_tuple)))))))
def N_first_broken : List PySem.Str := ["steps", "order", "places", "i", "j", "index", "place"]
theorem sc_first_broken : FnScope N_first_broken ["steps", "order"] (defScope (top 16)) := ⟨rfl, rfl, rfl, by decide +kernel, rfl, by decide +kernel, by decide +kernel⟩
theorem ok_first_broken (T : Tp K mg) : Df P w K mg base 7 (He.fAd K ("first_broken", none)) ["steps", "order"] (F_first_broken (He.ga K)) := by
  obtain ⟨fd, F⟩ := T.d 10 d_first_broken rfl
  refine df_of (N := N_first_broken) (ps := ["steps", "order"]) (b := b_first_broken (He.ga K)) F sc_first_broken (fun _ _ _ _ _ _ us hl => match us, hl with | [_, _], _ => rfl) fun cdv A outer s H E hr => ?_
  have hu := hu65 hr
  have h64 := hu64 hr
  unfold b_first_broken
  exact (ss_cons (ss_if (PW.pt (sw_or (st_not (st_truth (se_call (ok_is_list T) (hr.mono (by decide)) rfl (T.g _ (T.fa 4 _ rfl)) (sa_cons (se_var rfl (.inl rfl)) sa_nil)))) (pw_or1 (st_not (st_truth (PE.imp (pe_callB (cr_all rfl) rfl (T.f _ (T.fa 46 _ rfl)) PyProof.Rows.boot_all (sa_cons (se_lc (own := [("index", 5)]) rfl sc_first_broken.nd (si_seq (se_var rfl (.inl rfl))) (blkOk_by (N := N_first_broken) (sc := defScope (top 16)) (by decide +kernel)) (by decide) (fun _ _ _ _ _ => (sgv_name sc_first_broken.nd rfl (.inl rfl))) (fun _ _ _ _ _ => sp_nil) (fun _ _ _ _ _ => (se_call (ok_is_whole T) (hr.mono (by decide)) rfl (T.g _ (T.fa 3 _ rfl)) (sa_cons (se_var rfl (.inl rfl)) sa_nil)))) sa_nil)) (cb_imp gc_all))))))) (ss_one ss_never) ss_nil)
    (ss_cons (ss_if (st_ne h64 (PE.imp (pe_callB ((call_srt hu).or (call_srtX rfl hu)) rfl (T.f _ (T.fa 57 _ rfl)) PyProof.Rows.boot_sorted (sa_cons (se_var rfl (.inl rfl)) sa_nil)) (cb_imp gc_sortedA)) (se_lrg1 rfl rfl (T.f _ (T.fa 52 _ rfl)) rfl (T.f _ (T.fa 55 _ rfl)) (PE.imp (pe_callB ((call_len).or call_dlen) rfl (T.f _ (T.fa 51 _ rfl)) PySem.boot_len (sa_cons (se_var rfl (.inl rfl)) sa_nil)) (cb_imp gc_lenA)))) (ss_one ss_never) ss_nil)
    (ss_cons (ss_setDc (own := [("place", 6), ("index", 5)]) hu rfl sc_first_broken.nd rfl rfl rfl (PI.imp (pi_enum rfl (T.f _ (T.fa 48 _ rfl)) (sa_cons (se_var rfl (.inl rfl)) sa_nil)) enm_imp) (blkOk_by (N := N_first_broken) (sc := defScope (top 16)) (by decide +kernel)) (by decide) (fun _ _ _ _ _ => (sgv_tup (sgv_cons (sgv_name sc_first_broken.nd rfl (.inl rfl)) (sgv_cons (sgv_name sc_first_broken.nd rfl (.inl rfl)) sgv_nil)) (fun h => pg_tup rfl h))) (fun _ _ _ _ _ => sp_nil) (fun _ _ _ _ _ => (se_var rfl (.inl rfl))) (fun _ _ _ _ _ => (se_var rfl (.inl rfl))))
    (ss_cons (ss_for PassesOwn.never rfl (si_seq (se_call (ok_ties_of T) (hr.mono (by decide)) rfl (T.g _ (T.fa 11 _ rfl)) (sa_cons (se_var rfl (.inl rfl)) sa_nil))) (sg_tup rfl (sg_cons (sg_name sc_first_broken.nd rfl (.inl rfl)) (sg_cons (sg_name sc_first_broken.nd rfl (.inl rfl)) sg_nil)) (fun h => pg_tup rfl h)) (ss_one (ss_if (st_lt (se_ixA hu (se_var rfl (.inl rfl)) (se_var rfl (.inl rfl))) (se_ixA hu (se_var rfl (.inl rfl)) (se_var rfl (.inl rfl)))) (ss_one (ss_ret (se_tup (sa_cons (se_var rfl (.inl rfl)) (sa_cons (se_var rfl (.inl rfl)) sa_nil))))) ss_nil)))
    (ss_one (ss_ret se_non))))))
def N_waits_of : List PySem.Str := ["steps", "found", "i", "j", "step"]
theorem sc_waits_of : FnScope N_waits_of ["steps"] (defScope (top 15)) := ⟨rfl, rfl, rfl, by decide +kernel, rfl, by decide +kernel, by decide +kernel⟩
theorem ok_waits_of (T : Tp K mg) : Df P w K mg base 7 (He.fAd K ("waits_of", none)) ["steps"] (F_waits_of (He.ga K)) := by
  obtain ⟨fd, F⟩ := T.d 9 d_waits_of rfl
  refine df_of (N := N_waits_of) (ps := ["steps"]) (b := b_waits_of (He.ga K)) F sc_waits_of (fun _ _ _ _ _ _ us hl => match us, hl with | [_], _ => rfl) fun cdv A outer s H E hr => ?_
  have hu := hu65 hr
  have h64 := hu64 hr
  unfold b_waits_of
  exact (ss_cons (ss_setLc (own := [("step", 4)]) rfl sc_waits_of.nd rfl rfl rfl (si_seq (se_var rfl (.inl rfl))) (blkOk_by (N := N_waits_of) (sc := defScope (top 15)) (by decide +kernel)) (by decide) (fun _ _ _ _ _ => (sgv_name sc_waits_of.nd rfl (.inl rfl))) (fun _ _ _ _ _ => sp_nil) (fun _ _ _ _ _ => (se_lst sa_nil)))
    (ss_cons (ss_for PassesOwn.never rfl (si_seq (se_call (ok_ties_of T) (hr.mono (by decide)) rfl (T.g _ (T.fa 11 _ rfl)) (sa_cons (se_var rfl (.inl rfl)) sa_nil))) (sg_tup rfl (sg_cons (sg_name sc_waits_of.nd rfl (.inl rfl)) (sg_cons (sg_name sc_waits_of.nd rfl (.inl rfl)) sg_nil)) (fun h => pg_tup rfl h)) (ss_one (ss_expr (PE.imp (pe_bm PySem.F.plainAttrs_list PySem.F.slot_list_append PySem.F.type_list_append mt_append (se_ixA hu (se_var rfl (.inl rfl)) (se_var rfl (.inl rfl))) (sa_cons (se_var rfl (.inl rfl)) sa_nil)) (bm_imp gm_append)))))
    (ss_one (ss_ret (se_var rfl (.inl rfl))))))
def N_rounds_of : List PySem.Str := ["steps", "numbers", "rounds", "index", "waits", "number", "one"]
theorem sc_rounds_of : FnScope N_rounds_of ["steps"] (defScope (top 17)) := ⟨rfl, rfl, rfl, by decide +kernel, rfl, by decide +kernel, by decide +kernel⟩
theorem ok_rounds_of (T : Tp K mg) : Df P w K mg base 8 (He.fAd K ("rounds_of", none)) ["steps"] (F_rounds_of (He.ga K)) := by
  obtain ⟨fd, F⟩ := T.d 11 d_rounds_of rfl
  refine df_of (N := N_rounds_of) (ps := ["steps"]) (b := b_rounds_of (He.ga K)) F sc_rounds_of (fun _ _ _ _ _ _ us hl => match us, hl with | [_], _ => rfl) fun cdv A outer s H E hr => ?_
  have hu := hu65 hr
  have h64 := hu64 hr
  unfold b_rounds_of
  exact (ss_cons (ss_asg (se_tup (sa_cons (se_lst sa_nil) (sa_cons (se_lst sa_nil) sa_nil))) (sg_tup rfl (sg_cons (sg_name sc_rounds_of.nd rfl (.inr rfl)) (sg_cons (sg_name sc_rounds_of.nd rfl (.inl rfl)) sg_nil)) (fun h => pg_tup rfl h)))
    (ss_cons (ss_for PassesOwn.never rfl (PI.imp (pi_enum rfl (T.f _ (T.fa 48 _ rfl)) (sa_cons (se_call (ok_waits_of T) (hr.mono (by decide)) rfl (T.g _ (T.fa 12 _ rfl)) (sa_cons (se_var rfl (.inl rfl)) sa_nil)) sa_nil)) enm_imp) (sg_tup rfl (sg_cons (sg_name sc_rounds_of.nd rfl (.inl rfl)) (sg_cons (sg_name sc_rounds_of.nd rfl (.inl rfl)) sg_nil)) (fun h => pg_tup rfl h)) (ss_cons (ss_set sc_rounds_of.nd rfl (.inl rfl) (se_maxDf rfl hu rfl (T.f _ (T.fa 53 _ rfl)) PyProof.Rows.boot_max (se_lc (own := [("one", 6)]) rfl sc_rounds_of.nd (si_seq (se_var rfl (.inl rfl))) (blkOk_by (N := N_rounds_of) (sc := defScope (top 17)) (by decide +kernel)) (by decide) (fun _ _ _ _ _ => (sgv_name sc_rounds_of.nd rfl (.inl rfl))) (fun _ _ _ _ _ => sp_nil) (fun _ _ _ _ _ => (se_add (se_ixA hu (se_var rfl (by first | exact .inr (.inl rfl) | exact .inl rfl | exact .inr (.inr rfl))) (se_var rfl (.inl rfl))) se_int))) se_int))
    (ss_cons (ss_expr (PE.imp (pe_bm PySem.F.plainAttrs_list PySem.F.slot_list_append PySem.F.type_list_append mt_append (se_var rfl (.inr (.inl rfl))) (sa_cons (se_var rfl (.inl rfl)) sa_nil)) (bm_imp gm_append)))
    (ss_cons (ss_if (st_eq h64 (se_var rfl (.inl rfl)) (PE.imp (pe_callB ((call_len).or call_dlen) rfl (T.f _ (T.fa 51 _ rfl)) PySem.boot_len (sa_cons (se_var rfl (.inl rfl)) sa_nil)) (cb_imp gc_lenA))) (ss_one (ss_expr (PE.imp (pe_bm PySem.F.plainAttrs_list PySem.F.slot_list_append PySem.F.type_list_append mt_append (se_var rfl (.inl rfl)) (sa_cons (se_lst sa_nil) sa_nil)) (bm_imp gm_append)))) ss_nil)
    (ss_one (ss_expr (PE.imp (pe_bm PySem.F.plainAttrs_list PySem.F.slot_list_append PySem.F.type_list_append mt_append (se_ixA hu (se_var rfl (.inl rfl)) (se_var rfl (.inl rfl))) (sa_cons (se_var rfl (.inl rfl)) sa_nil)) (bm_imp gm_append))))))))
    (ss_one (ss_ret (PE.imp (pe_callTy call_tuple_of rfl (T.f _ (T.fa 58 _ rfl)) PyProof.Rows.boot_tuple (sa_cons (se_lc (own := [("one", 6)]) rfl sc_rounds_of.nd (si_seq (se_var rfl (.inl rfl))) (blkOk_by (N := N_rounds_of) (sc := defScope (top 17)) (by decide +kernel)) (by decide) (fun _ _ _ _ _ => (sgv_name sc_rounds_of.nd rfl (.inl rfl))) (fun _ _ _ _ _ => sp_nil) (fun _ _ _ _ _ => (PE.imp (pe_callTy call_tuple_of rfl (T.f _ (T.fa 58 _ rfl)) PyProof.Rows.boot_tuple (sa_cons (se_var rfl (.inl rfl)) sa_nil)) (cb_imp gc_tuple)))) sa_nil)) (cb_imp gc_tuple))))))
def N_law : List PySem.Str := ["_law_script", "_law_pen_here", "_law_body", "_law_plan", "_law_bodies", "_law_papers", "_law_steps", "_law_ties", "_law_rounds", "_law_numbers", "_law_k", "_law_index", "_law_ahead", "_law_order", "_law_one", "_law_wrong", "_law_along", "_law_i", "_law_j"]
theorem sc_law : FnScope N_law ["_law_script"] (defScope (top 47)) := ⟨rfl, rfl, rfl, by decide +kernel, rfl, by decide +kernel, by decide +kernel⟩
theorem fn_law (T : Tp K mg) {fd : FuncData} (F : FunD K d_law.name d_law.qual d_law.params d_law.body d_law.scope (d_law.dvs K) (d_law.kws K) (He.fAd K d_law.at_) fd) : FnOk P w K mg base CX0 9 (He.fAd K d_law.at_) fd ["_law_script"] (spF K w 1 (F_law (He.ga K))) := by
  refine fn_of (N := N_law) (ps := ["_law_script"]) (b := b_law (He.ga K)) F sc_law fun cdv A outer s H E hr => ?_
  have hu := hu65 hr
  have h64 := hu64 hr
  unfold b_law
  exact (ss_cons (ss_set sc_law.nd rfl (.inl rfl) (se_call (ok__law_pen T) (hr.mono (by decide)) rfl (T.g _ (T.fa 15 _ rfl)) (sa_cons (se_var rfl (.inl rfl)) sa_nil)))
    (ss_cons (ss_set sc_law.nd rfl (.inl rfl) (se_call (ok__law_t2_body T) (hr.mono (by decide)) rfl (T.g _ (T.fa 26 _ rfl)) (sa_cons (se_var rfl (.inl rfl)) (sa_cons se_int sa_nil))))
    (ss_cons (ss_asg (se_call (ok__law_t2_plan T) (hr.mono (by decide)) rfl (T.g _ (T.fa 35 _ rfl)) (sa_cons (se_var rfl (.inl rfl)) (sa_cons (se_var rfl (.inl rfl)) (sa_cons (se_call (ok__law_draw T) (hr.mono (by decide)) rfl (T.g _ (T.fa 16 _ rfl)) (sa_cons (se_var rfl (.inl rfl)) (sa_cons se_int sa_nil))) sa_nil)))) (sg_tup rfl (sg_cons (sg_name sc_law.nd rfl (.inr rfl)) (sg_cons (sg_name sc_law.nd rfl (.inl rfl)) sg_nil)) (fun h => pg_tup rfl h)))
    (ss_cons (ss_set sc_law.nd rfl (.inl rfl) (se_call (ok__law_t2_papers T) (hr.mono (by decide)) rfl (T.g _ (T.fa 38 _ rfl)) (sa_cons (se_var rfl (.inl rfl)) (sa_cons (se_var rfl (.inr (.inl rfl))) sa_nil))))
    (ss_cons (ss_par2 rfl sc_law.nd rfl rfl (by decide) rfl rfl (sa_cons (se_call (ok__law_t2_steps T) (hr.mono (by decide)) rfl (T.g _ (T.fa 42 _ rfl)) (sa_cons (se_var rfl (.inl rfl)) sa_nil)) (sa_cons (se_call (ok__law_t2_ties T) (hr.mono (by decide)) rfl (T.g _ (T.fa 41 _ rfl)) (sa_cons (se_var rfl (.inl rfl)) sa_nil)) sa_nil)) rfl)
    (ss_cons (ss_asg (se_tup (sa_cons (se_call (ok_rounds_of T) (hr.mono (by decide)) rfl (T.g _ (T.fa 14 _ rfl)) (sa_cons (se_var rfl (.inl rfl)) sa_nil)) (sa_cons se_dnew sa_nil))) (sg_tup rfl (sg_cons (sg_name sc_law.nd rfl (.inl rfl)) (sg_cons (sg_name sc_law.nd rfl (.inr rfl)) sg_nil)) (fun h => pg_tup rfl h)))
    (ss_cons (ss_if (PW.pt (sw_or (st_not (st_truth (PE.imp (pe_callB call_isD rfl (T.f _ (T.fa 50 _ rfl)) PyProof.Rows.boot_isinstance (sa_cons (se_var rfl (.inl rfl)) (sa_cons (se_ty rfl (T.f _ (T.fa 58 _ rfl)) (by decide +kernel)) sa_nil))) (cb_imp gc_isi)))) (pw_or1 (st_ne h64 (se_call (ok_rounds_of T) (hr.mono (by decide)) rfl (T.g _ (T.fa 14 _ rfl)) (sa_cons (se_lst sa_nil) sa_nil)) (se_tup sa_nil))))) (ss_one (ss_ret se_bl)) ss_nil)
    (ss_cons (ss_for PassesOwn.never rfl (PI.imp (pi_range1 rfl (T.f _ (T.fa 55 _ rfl)) (sa_cons (PE.imp (pe_callB ((call_len).or call_dlen) rfl (T.f _ (T.fa 51 _ rfl)) PySem.boot_len (sa_cons (se_var rfl (.inl rfl)) sa_nil)) (cb_imp gc_lenA)) sa_nil)) rg1_imp) (sg_name sc_law.nd rfl (.inl rfl)) (ss_cons (ss_if (PW.pt (sw_or (st_not (st_truth (PE.imp (pe_callB call_isD rfl (T.f _ (T.fa 50 _ rfl)) PyProof.Rows.boot_isinstance (sa_cons (se_ixA hu (se_var rfl (.inl rfl)) (se_var rfl (.inl rfl))) (sa_cons (se_ty rfl (T.f _ (T.fa 58 _ rfl)) (by decide +kernel)) sa_nil))) (cb_imp gc_isi)))) (sw_or (st_eq h64 (se_ixA hu (se_var rfl (.inl rfl)) (se_var rfl (.inl rfl))) (se_tup sa_nil)) (pw_or1 (st_ne h64 (PE.imp (pe_callTy (call_list_of.or (call_dlist rfl)) rfl (T.f _ (T.fa 52 _ rfl)) PyProof.Rows.boot_list (sa_cons (se_ixA hu (se_var rfl (.inl rfl)) (se_var rfl (.inl rfl))) sa_nil)) (cb_imp gc_listA)) (PE.imp (pe_callB ((call_srt hu).or (call_srtX rfl hu)) rfl (T.f _ (T.fa 57 _ rfl)) PyProof.Rows.boot_sorted (sa_cons (se_ixA hu (se_var rfl (.inl rfl)) (se_var rfl (.inl rfl))) sa_nil)) (cb_imp gc_sortedA))))))) (ss_one (ss_ret se_bl)) ss_nil)
    (ss_one (ss_for PassesOwn.never rfl (si_seq (se_ixA hu (se_var rfl (.inl rfl)) (se_var rfl (.inl rfl)))) (sg_name sc_law.nd rfl (.inr rfl)) (ss_cons (ss_if (st_inA hu (se_var rfl (.inr (.inl rfl))) (se_var rfl (.inr (.inl rfl)))) (ss_one (ss_ret se_bl)) ss_nil)
    (ss_one (ss_asg (se_var rfl (.inl rfl)) (sg_sub WF (se_var rfl (.inr (.inl rfl))) (se_var rfl (.inr (.inl rfl))) gs_setA (fun ho hi => pg_sub ho hi (PSet.or set_list (set_dct hu)))))))))))
    (ss_cons (ss_if (st_ne h64 (PE.imp (pe_callB ((call_srt hu).or (call_srtX rfl hu)) rfl (T.f _ (T.fa 57 _ rfl)) PyProof.Rows.boot_sorted (sa_cons (PE.imp (pe_callTy (call_list_of.or (call_dlist rfl)) rfl (T.f _ (T.fa 52 _ rfl)) PyProof.Rows.boot_list (sa_cons (se_var rfl (.inr (.inl rfl))) sa_nil)) (cb_imp gc_listA)) sa_nil)) (cb_imp gc_sortedA)) (se_lrg1 rfl rfl (T.f _ (T.fa 52 _ rfl)) rfl (T.f _ (T.fa 55 _ rfl)) (PE.imp (pe_callB ((call_len).or call_dlen) rfl (T.f _ (T.fa 51 _ rfl)) PySem.boot_len (sa_cons (se_var rfl (.inl rfl)) sa_nil)) (cb_imp gc_lenA)))) (ss_one (ss_ret se_bl)) ss_nil)
    (ss_cons (ss_for PassesOwn.never rfl (PI.imp (pi_range1 rfl (T.f _ (T.fa 55 _ rfl)) (sa_cons (PE.imp (pe_callB ((call_len).or call_dlen) rfl (T.f _ (T.fa 51 _ rfl)) PySem.boot_len (sa_cons (se_var rfl (.inl rfl)) sa_nil)) (cb_imp gc_lenA)) sa_nil)) rg1_imp) (sg_name sc_law.nd rfl (.inr rfl)) (ss_cons (ss_setLc (own := [("_law_i", 17), ("_law_j", 18)]) rfl sc_law.nd rfl rfl rfl (si_seq (se_var rfl (.inl rfl))) (blkOk_by (N := N_law) (sc := defScope (top 47)) (by decide +kernel)) (by decide) (fun _ _ _ _ _ => (sgv_tup (sgv_cons (sgv_name sc_law.nd rfl (.inl rfl)) (sgv_cons (sgv_name sc_law.nd rfl (.inl rfl)) sgv_nil)) (fun h => pg_tup rfl h))) (fun _ _ _ _ _ => (pts_one (st_eq h64 (se_var rfl (.inl rfl)) (se_var rfl (by first | exact .inr (.inl rfl) | exact .inl rfl | exact .inr (.inr rfl)))))) (fun _ _ _ _ _ => (se_ixA hu (se_var rfl (by first | exact .inr (.inl rfl) | exact .inl rfl | exact .inr (.inr rfl))) (se_var rfl (.inl rfl)))))
    (ss_one (ss_if (st_ne h64 (se_add (PE.imp (pe_callB (call_maxX rfl hu) rfl (T.f _ (T.fa 53 _ rfl)) PyProof.Rows.boot_max (sa_cons (se_add (se_lst (sa_cons (se_neg se_int) sa_nil)) (se_var rfl (.inl rfl))) sa_nil)) (cb_imp gc_mm)) se_int) (se_ixA hu (se_var rfl (.inr (.inl rfl))) (se_var rfl (.inr (.inl rfl))))) (ss_one (ss_ret se_bl)) ss_nil))))
    (ss_cons (ss_set sc_law.nd rfl (.inl rfl) (se_lst sa_nil))
    (ss_cons (ss_for PassesOwn.never rfl (si_seq (se_var rfl (.inl rfl))) (sg_name sc_law.nd rfl (.inl rfl)) (ss_one (ss_set sc_law.nd rfl (.inl rfl) (se_add (se_var rfl (.inl rfl)) (se_call (ok__law_shuffled T) (hr.mono (by decide)) rfl (T.g _ (T.fa 19 _ rfl)) (sa_cons (se_var rfl (.inl rfl)) (sa_cons (PE.imp (pe_callTy (call_list_of.or (call_dlist rfl)) rfl (T.f _ (T.fa 52 _ rfl)) PyProof.Rows.boot_list (sa_cons (se_var rfl (.inl rfl)) sa_nil)) (cb_imp gc_listA)) sa_nil)))))))
    (ss_cons (ss_if (st_isNot (se_call (ok_first_broken T) (hr.mono (by decide)) rfl (T.g _ (T.fa 13 _ rfl)) (sa_cons (se_var rfl (.inl rfl)) (sa_cons (se_var rfl (.inl rfl)) sa_nil))) se_non) (ss_one (ss_ret se_bl)) ss_nil)
    (ss_cons (ss_asg (se_call (ok__law_t2_first_wrong T) (hr.mono (by decide)) rfl (T.g _ (T.fa 36 _ rfl)) (sa_cons (se_var rfl (.inl rfl)) (sa_cons (se_lc (own := [("_law_index", 11)]) rfl sc_law.nd (si_seq (se_var rfl (.inl rfl))) (blkOk_by (N := N_law) (sc := defScope (top 47)) (by decide +kernel)) (by decide) (fun _ _ _ _ _ => (sgv_name sc_law.nd rfl (.inl rfl))) (fun _ _ _ _ _ => sp_nil) (fun _ _ _ _ _ => (se_ixA hu (se_var rfl (by first | exact .inr (.inl rfl) | exact .inl rfl | exact .inr (.inr rfl))) (se_var rfl (.inl rfl))))) sa_nil))) (sg_tup rfl (sg_cons (sg_name sc_law.nd rfl (.inl rfl)) (sg_cons (sg_name sc_law.nd rfl (.inl rfl)) sg_nil)) (fun h => pg_tup rfl h)))
    (ss_one (ss_ret (se_and (se_is (se_var rfl (.inl rfl)) se_non) (pe_one (se_eq h64 (se_ixA hu (se_var rfl (.inl rfl)) (se_neg se_int)) (se_ixA hu (se_var rfl (.inl rfl)) (se_neg se_int)))))))))))))))))))))
end Lw
end
section
set_option linter.all false
set_option maxRecDepth 100000
set_option maxHeartbeats 1000000
/-! V1: what the functions of the layer answer: conditions ahead. -/
namespace SX
open PySem L2
def Ok {α : Type} (o : Out α) (P : α → Sto → Prop) : Prop := match o with
  | .ok a S => P a S
  | _ => False
def Wp (fl : Flow) (N : Env → Sto → Prop) (R : D → Sto → Prop) (B C : Env → Sto → Prop) : Prop := match fl with
  | .nx ρ S => N ρ S
  | .rt d S => R d S
  | .bk ρ S => B ρ S
  | .ct ρ S => C ρ S
  | _ => False
section
variable {α β : Type} {o : Out α} {k : α → Sto → Out β} {P Q : α → Sto → Prop} {P' : β → Sto → Prop} {N N' B B' C C' : Env → Sto → Prop} {R R' : D → Sto → Prop} {ρ : Env} {S : Sto} {fl : Flow}
theorem Ok.imp (h : Ok o P) (i : ∀ a S, P a S → Q a S) : Ok o Q := by
  cases o with
  | ok a S => exact i _ _ h
  | _ => exact h
theorem Ok.ex (h : Ok o P) : ∃ a S, o = .ok a S ∧ P a S := by
  cases o with
  | ok a S => exact ⟨a, S, rfl, h⟩
  | _ => exact h.elim
theorem ok_ok {a : α} : Ok (.ok a S) P = P a S := rfl
theorem ok_bind : Ok (o.bind k) P' = Ok o fun a S => Ok (k a S) P' := by cases o <;> rfl
theorem ok_on : Ok (o.on k) P' = Ok o fun a S => Ok (k a S) P' := by cases o <;> rfl
theorem ok_noX : Ok o.noX P = Ok o P := by cases o <;> rfl
theorem ok_ite {c : Prop} [Decidable c] {a b : Out α} : Ok (if c then a else b) P = if c then Ok a P else Ok b P := by split <;> rfl
theorem Wp.imp (h : Wp fl N R B C) (hN : ∀ ρ S, N ρ S → N' ρ S) (hR : ∀ d S, R d S → R' d S) (hB : ∀ ρ S, B ρ S → B' ρ S) (hC : ∀ ρ S, C ρ S → C' ρ S) : Wp fl N' R' B' C' := by
  cases fl with
  | nx ρ S => exact hN _ _ h
  | rt d S => exact hR _ _ h
  | bk ρ S => exact hB _ _ h
  | ct ρ S => exact hC _ _ h
  | exc _ _ _ => exact h
  | err => exact h
theorem wp_flow {kf : α → Sto → Flow} : Wp (o.flow ρ kf) N R B C = Ok o fun a S => Wp (kf a S) N R B C := by cases o <;> rfl
theorem wp_seq {f g : SS} : Wp (sSeq f g ρ S) N R B C = Wp (f ρ S) (fun ρ S => Wp (g ρ S) N R B C) R B C := by
  unfold sSeq
  cases f ρ S <;> rfl
theorem wp_cut {f g : SS} (I : Env → Sto → Prop) (h1 : Wp (f ρ S) I R B C) (h2 : ∀ ρ S, I ρ S → Wp (g ρ S) N R B C) : Wp (sSeq f g ρ S) N R B C := by
  rw [wp_seq]
  exact h1.imp h2 (fun _ _ z => z) (fun _ _ z => z) fun _ _ z => z
theorem wp_skip : Wp (sSkip ρ S) N R B C = N ρ S := rfl
theorem wp_break : Wp (sBreak ρ S) N R B C = B ρ S := rfl
theorem wp_cont : Wp (sCont ρ S) N R B C = C ρ S := rfl
theorem wp_ret {f : SE} : Wp (sRet f ρ S) N R B C = Ok (f ρ S) R := by unfold sRet; rw [wp_flow]; rfl
theorem wp_retN : Wp (sRetN ρ S) N R B C = R .non S := rfl
theorem wp_expr {f : SE} : Wp (sExpr f ρ S) N R B C = Ok (f ρ S) fun _ S1 => N ρ S1 := by unfold sExpr; rw [wp_flow]; rfl
theorem wp_asg {g : SG} {f : SE} : Wp (sAsg g f ρ S) N R B C = Ok (f ρ S) fun d S1 => match g d ρ S1 with
    | some (ρ', S') => N ρ' S'
    | none => False := by
  unfold sAsg
  rw [wp_flow]
  congr 1
  funext d S1
  split <;> rename_i h <;> (try rw [h]) <;> rfl
theorem wp_asgN {i : Nat} {f : SE} : Wp (sAsg (gNm i) f ρ S) N R B C = Ok (f ρ S) fun d S1 => N (ρ.set i (some d)) S1 := by rw [wp_asg]; rfl
theorem wp_if {c : SB} {f g : SS} : Wp (sIfS c f g ρ S) N R B C = Ok (c ρ S) fun b S1 => if b = true then Wp (f ρ S1) N R B C else Wp (g ρ S1) N R B C := by
  unfold sIfS
  rw [wp_flow]
  congr 1
  funext b S1
  split <;> rfl
theorem wp_par {i j : Nat} {f : SA} : Wp (sPar i j f ρ S) N R B C = Ok (f ρ S) fun ds S1 => match ds with
    | [d, e] => N ((ρ.set i (some d)).set j (some e)) S1
    | _ => False := by
  unfold sPar
  rw [wp_flow]
  congr 1
  funext ds S1
  rcases ds with _ | ⟨a, _ | ⟨b, _ | ⟨c, r⟩⟩⟩ <;> rfl
theorem wp_par3 {i j l : Nat} {f : SA} : Wp (sPar3 i j l f ρ S) N R B C = Ok (f ρ S) fun ds S1 => match ds with
    | [d, e, u] => N (((ρ.set i (some d)).set j (some e)).set l (some u)) S1
    | _ => False := by
  unfold sPar3
  rw [wp_flow]
  congr 1
  funext ds S1
  rcases ds with _ | ⟨a, _ | ⟨b, _ | ⟨c, _ | ⟨d, r⟩⟩⟩⟩ <;> rfl
theorem wp_for {it : SI} {g : SG} {b : SS} : Wp (sFor it g b ρ S) N R B C = Ok (it ρ S) fun m S1 => Wp (sForGo g b m.chk m.items ρ S1) N R B C := by unfold sFor; rw [wp_flow]
theorem wp_never : Wp (sNever ρ S) N R B C = False := rfl
/-! expressions -/
theorem ok_var {i : Nat} {d : D} {P : D → Sto → Prop} (h : ρ[i]? = some (some d)) : Ok (sVar i ρ S) P = P d S := by unfold sVar; rw [h]; rfl
theorem ok_c {d : D} {P : D → Sto → Prop} : Ok (sC d ρ S) P = P d S := rfl
theorem ok_op2 {g : D → D → Sto → Out D} {fa fb : SE} {P : D → Sto → Prop} : Ok (sOp2 g fa fb ρ S) P = Ok (fa ρ S) fun x S1 => Ok (fb ρ S1) fun y S2 => Ok (g x y S2) P := by
  unfold sOp2
  rw [ok_bind]
  congr 1
  funext x S1
  rw [ok_bind]
theorem ok_op1 {g : D → Sto → Out D} {fa : SE} {P : D → Sto → Prop} : Ok (sOp1 g fa ρ S) P = Ok (fa ρ S) fun x S1 => Ok (g x S1) P := by unfold sOp1; rw [ok_bind]
theorem ok_bool {f : SE} {P : Bool → Sto → Prop} : Ok (sBool f ρ S) P = Ok (f ρ S) fun x S1 => match x with
    | .bl b => P b S1
    | _ => False := by
  unfold sBool
  rw [ok_bind]
  congr 1
  funext x S1
  cases x <;> rfl
theorem ok_tru {f : SE} {P : Bool → Sto → Prop} : Ok (sTru f ρ S) P = Ok (f ρ S) fun x S1 => match truD S1 x with
    | some b => P b S1
    | none => False := by
  unfold sTru
  rw [ok_bind]
  congr 1
  funext x S1
  split <;> rename_i h <;> (try simp only [h]) <;> rfl
theorem ok_and {f g : SB} {P : Bool → Sto → Prop} : Ok (sAnd f g ρ S) P = Ok (f ρ S) fun b S1 => if b = true then Ok (g ρ S1) P else P false S1 := by
  unfold sAnd
  rw [ok_bind]
  congr 1
  funext x S1
  split <;> rfl
theorem ok_or {f g : SB} {P : Bool → Sto → Prop} : Ok (sOr f g ρ S) P = Ok (f ρ S) fun b S1 => if b = true then P true S1 else Ok (g ρ S1) P := by
  unfold sOr
  rw [ok_bind]
  congr 1
  funext x S1
  split <;> rfl
theorem ok_not {f : SB} {P : Bool → Sto → Prop} : Ok (sNot f ρ S) P = Ok (f ρ S) fun b S1 => P (!b) S1 := by unfold sNot; rw [ok_bind]; rfl
theorem ok_andV {f g : SE} {P : D → Sto → Prop} : Ok (sAndV f g ρ S) P = Ok (f ρ S) fun x S1 => match x with
    | .bl true => Ok (g ρ S1) P
    | .bl false => P (.bl false) S1
    | _ => False := by
  unfold sAndV
  rw [ok_bind]
  congr 1
  funext x S1
  cases x <;> try rfl
  rename_i b
  cases b <;> rfl
theorem ok_orV {f g : SE} {P : D → Sto → Prop} : Ok (sOrV f g ρ S) P = Ok (f ρ S) fun x S1 => match x with
    | .bl true => P (.bl true) S1
    | .bl false => Ok (g ρ S1) P
    | _ => False := by
  unfold sOrV
  rw [ok_bind]
  congr 1
  funext x S1
  cases x <;> try rfl
  rename_i b
  cases b <;> rfl
theorem ok_notV {f : SE} {P : D → Sto → Prop} : Ok (sNotV f ρ S) P = Ok (f ρ S) fun x S1 => match x with
    | .bl b => P (.bl (!b)) S1
    | _ => False := by
  unfold sNotV
  rw [ok_bind]
  congr 1
  funext x S1
  cases x <;> rfl
theorem ok_if {c : SB} {f g : SE} {P : D → Sto → Prop} : Ok (sIf c f g ρ S) P = Ok (c ρ S) fun b S1 => if b = true then Ok (f ρ S1) P else Ok (g ρ S1) P := by
  unfold sIf
  rw [ok_bind]
  congr 1
  funext x S1
  split <;> rfl
theorem ok_nil {P : List D → Sto → Prop} : Ok (sNil ρ S) P = P [] S := rfl
theorem ok_cons {f : SE} {g : SA} {P : List D → Sto → Prop} : Ok (sCons f g ρ S) P = Ok (f ρ S) fun x S1 => Ok (g ρ S1) fun xs S2 => P (x :: xs) S2 := by
  unfold sCons
  rw [ok_bind]
  congr 1
  funext x S1
  rw [ok_bind]
  rfl
theorem ok_tup {g : SA} {P : D → Sto → Prop} : Ok (sTup g ρ S) P = Ok (g ρ S) fun xs S1 => xs.length ≤ sizeLine ∧ P (.tup xs) S1 := by
  unfold sTup
  rw [ok_bind]
  congr 1
  funext xs S1
  by_cases h : xs.length ≤ sizeLine
  · rw [if_pos h]; exact propext ⟨fun z => ⟨h, z⟩, fun z => z.2⟩
  · rw [if_neg h]; exact propext ⟨fun z => z.elim, fun z => h z.1⟩
theorem ok_lst {g : SA} {P : D → Sto → Prop} : Ok (sLst g ρ S) P = Ok (g ρ S) fun xs S1 => xs.length ≤ sizeLine ∧ P (.ref S1.length) (S1 ++ [.lst xs]) := by
  unfold sLst
  rw [ok_bind]
  congr 1
  funext xs S1
  by_cases h : xs.length ≤ sizeLine
  · rw [if_pos h]; exact propext ⟨fun z => ⟨h, z⟩, fun z => z.2⟩
  · rw [if_neg h]; exact propext ⟨fun z => z.elim, fun z => h z.1⟩
theorem ok_call {g : List D → Sto → Out D} {gs : SA} {P : D → Sto → Prop} : Ok (sCall g gs ρ S) P = Ok (gs ρ S) fun xs S1 => Ok (g xs S1) P := by unfold sCall; rw [ok_bind]
theorem ok_callF {n : Nat} {F : List D → Sto → Out D} {gs : SA} {P : D → Sto → Prop} : Ok (sCallF n F gs ρ S) P = Ok (gs ρ S) fun xs S1 => xs.length = n ∧ Ok (F xs S1) P := by
  unfold sCallF
  rw [ok_bind]
  congr 1
  funext xs S1
  by_cases h : xs.length = n
  · rw [if_pos h, ok_noX]; exact propext ⟨fun z => ⟨h, z⟩, fun z => z.2⟩
  · rw [if_neg h]; exact propext ⟨fun z => z.elim, fun z => h z.1⟩
theorem ok_meth {g : D → List D → Sto → Out D} {fo : SE} {gs : SA} {P : D → Sto → Prop} : Ok (sMeth g fo gs ρ S) P = Ok (fo ρ S) fun x S1 => ∃ n xs, x = .ref n ∧ lstAt S1 n = some xs ∧ Ok (gs ρ S1) fun ys S2 => Ok (g x ys S2) P := by
  unfold sMeth
  rw [ok_bind]
  congr 1
  funext x S1
  cases x with
  | ref n =>
    simp only
    cases e : lstAt S1 n with
    | some xs => simp only [ok_bind]; exact propext ⟨fun z => ⟨n, xs, rfl, e, z⟩, fun ⟨m, ys, e1, e2, z⟩ => by cases e1; exact z⟩
    | none => exact propext ⟨fun z => z.elim, fun ⟨m, ys, e1, e2, z⟩ => by cases e1; rw [e] at e2; cases e2⟩
  | _ => exact propext ⟨fun z => z.elim, fun ⟨m, ys, e1, e2, z⟩ => by cases e1⟩
theorem ok_dm {g : D → List D → Sto → Out D} {fo : SE} {gs : SA} {P : D → Sto → Prop} : Ok (sDM g fo gs ρ S) P = Ok (fo ρ S) fun x S1 => ∃ n xs, x = .ref n ∧ dctAt S1 n = some xs ∧ Ok (gs ρ S1) fun ys S2 => Ok (g x ys S2) P := by
  unfold sDM
  rw [ok_bind]
  congr 1
  funext x S1
  cases x with
  | ref n =>
    simp only
    cases e : dctAt S1 n with
    | some xs => simp only [ok_bind]; exact propext ⟨fun z => ⟨n, xs, rfl, e, z⟩, fun ⟨m, ys, e1, e2, z⟩ => by cases e1; exact z⟩
    | none => exact propext ⟨fun z => z.elim, fun ⟨m, ys, e1, e2, z⟩ => by cases e1; rw [e] at e2; cases e2⟩
  | _ => exact propext ⟨fun z => z.elim, fun ⟨m, ys, e1, e2, z⟩ => by cases e1⟩
theorem ok_dnew {P : D → Sto → Prop} : Ok (sDNew ρ S) P = P (.ref S.length) (S ++ [.dct []]) := rfl
theorem ok_sl {fo : SE} {fl fh : Option SE} {P : D → Sto → Prop} : Ok (sSl fo fl fh ρ S) P = Ok (fo ρ S) fun x S1 => Ok (sPart fl ρ S1) fun lo S2 => Ok (sPart fh ρ S2) fun hi S3 => Ok (gSl x lo hi S3) P := by
  unfold sSl
  rw [ok_bind]
  congr 1; funext x S1
  rw [ok_bind]
  congr 1; funext y S2
  rw [ok_bind]
theorem ok_partN {P : Option Int → Sto → Prop} : Ok (sPart none ρ S) P = P none S := rfl
theorem ok_partS {f : SE} {P : Option Int → Sto → Prop} : Ok (sPart (some f) ρ S) P = Ok (f ρ S) fun d S1 => match d with
    | .int i => P (some i) S1
    | _ => False := by
  unfold sPart
  simp only
  rw [ok_bind]
  congr 1; funext d S1
  cases d <;> rfl
theorem ok_seqI {f : SE} {P : Itm → Sto → Prop} : Ok (iSeq f ρ S) P = Ok (f ρ S) fun x S1 => match itmOf S1 x with
    | some m => P m S1
    | none => False := by
  unfold iSeq
  rw [ok_bind]
  congr 1; funext x S1
  split <;> rename_i h <;> (try simp only [h]) <;> rfl
theorem ok_fldD {C : Nat} {f : PySem.Str} {fo : SE} {P : D → Sto → Prop} : Ok (sFldD C f fo ρ S) P = Ok (fo ρ S) fun x S1 => ∃ n fs d, x = .ref n ∧ S1[n]? = some (.ins C fs) ∧ fs.lookup f = some d ∧ P d S1 := by
  unfold sFldD
  rw [ok_bind]
  congr 1; funext x S1
  cases x with
  | ref n =>
    simp only
    cases e : S1[n]? with
    | none => exact propext ⟨fun z => z.elim, fun ⟨m, fs, d, e1, e2, _⟩ => by cases e1; rw [e] at e2; cases e2⟩
    | some o =>
      cases o with
      | ins C' fs =>
        simp only
        by_cases c : C' = C
        · rw [if_pos c]
          cases e3 : fs.lookup f with
          | none => exact propext ⟨fun z => z.elim, fun ⟨m, fs, d, e1, e2, e4, _⟩ => by cases e1; rw [e] at e2; cases e2; rw [e3] at e4; cases e4⟩
          | some d => exact propext ⟨fun z => ⟨n, fs, d, rfl, by rw [e, c], e3, z⟩, fun ⟨m, fs, d, e1, e2, e4, z⟩ => by cases e1; rw [e] at e2; cases e2; rw [e3] at e4; cases e4; exact z⟩
        · rw [if_neg c]
          exact propext ⟨fun z => z.elim, fun ⟨m, fs, d, e1, e2, _⟩ => by cases e1; rw [e] at e2; cases e2; exact c rfl⟩
      | _ => exact propext ⟨fun z => z.elim, fun ⟨m, fs, d, e1, e2, _⟩ => by cases e1; rw [e] at e2; cases e2⟩
  | _ => exact propext ⟨fun z => z.elim, fun ⟨m, fs, d, e1, _⟩ => by cases e1⟩
/-! defs -/
theorem ok_runB {n : Nat} {f : SS} {ds : List D} {P : D → Sto → Prop} (h : Wp (f (startE n ds) S) (fun _ S => P .non S) P (fun _ _ => False) fun _ _ => False) : Ok (runB n f ds S) P := by
  unfold runB
  cases e : f (startE n ds) S with
  | nx ρ S => rw [e] at h; exact h
  | rt d S => rw [e] at h; exact h
  | bk _ _ => rw [e] at h; exact h.elim
  | ct _ _ => rw [e] at h; exact h.elim
  | exc _ _ _ => rw [e] at h; exact h.elim
  | err => rw [e] at h; exact h.elim
/-! walks -/
theorem wp_forGo {g : SG} {b : SS} {chk : Sto → Bool} (I : List D → Env → Sto → Prop) (hc : ∀ ds ρ S, I ds ρ S → chk S = true) (done : ∀ ρ S, I [] ρ S → N ρ S)
    (step : ∀ d ds ρ S, I (d :: ds) ρ S → ∃ ρ1 S1, g d ρ S = some (ρ1, S1) ∧ Wp (b ρ1 S1) (I ds) R N (I ds)) : ∀ (ds : List D) (ρ : Env) (S : Sto), I ds ρ S → Wp (sForGo g b chk ds ρ S) N R B C
  | [], ρ, S, h => by
    unfold sForGo
    rw [if_pos (hc _ _ _ h)]
    exact done _ _ h
  | d :: ds, ρ, S, h => by
    unfold sForGo
    rw [if_pos (hc _ _ _ h)]
    obtain ⟨ρ1, S1, e, w⟩ := step d ds ρ S h
    rw [e]
    simp only
    cases e2 : b ρ1 S1 with
    | nx ρ' S' => rw [e2] at w; exact wp_forGo I hc done step ds ρ' S' w
    | ct ρ' S' => rw [e2] at w; exact wp_forGo I hc done step ds ρ' S' w
    | bk ρ' S' => rw [e2] at w; exact w
    | rt d S' => rw [e2] at w; exact w
    | exc _ _ _ => rw [e2] at w; exact w.elim
    | err => rw [e2] at w; exact w.elim
/-- comprehensions -/
theorem ok_cm {it : SI} {g : SG} {tt : SB} {sx : Nat → Env → Sto → Out Unit} {o : SO} {vs : List Nat} {P : D → Sto → Prop} : Ok (sCm it g tt sx o vs ρ S) P = Ok (it ρ S) fun m S1 => Ok (sCmGo g tt sx m.chk S1.length (wipeE ρ vs) m.items (S1 ++ [o])) fun _ S2 => P (.ref S1.length) S2 := by
  unfold sCm
  rw [ok_bind]
  congr 1; funext m S1
  rw [ok_bind]
  rfl
theorem ok_cmGo {g : SG} {tt : SB} {sx : Nat → Env → Sto → Out Unit} {chk : Sto → Bool} {n : Nat} {ρ0 : Env} {P : Unit → Sto → Prop} (I : List D → Sto → Prop) (hc : ∀ ds S, I ds S → chk S = true) (done : ∀ S, I [] S → P () S)
    (step : ∀ d ds S, I (d :: ds) S → ∃ ρ1 S1, g d ρ0 S = some (ρ1, S1) ∧ Ok (tt ρ1 S1) fun b S2 => if b = true then Ok (sx n ρ1 S2) fun _ S3 => I ds S3 else I ds S2) : ∀ (ds : List D) (S : Sto), I ds S → Ok (sCmGo g tt sx chk n ρ0 ds S) P
  | [], S, h => by
    unfold sCmGo
    rw [if_pos (hc _ _ h)]
    exact done _ h
  | d :: ds, S, h => by
    unfold sCmGo
    rw [if_pos (hc _ _ h)]
    obtain ⟨ρ1, S1, e, w⟩ := step d ds S h
    rw [e]
    simp only
    rw [ok_on]
    refine w.imp fun b S2 z => ?_
    cases b with
    | true =>
      simp only [if_true] at z ⊢
      rw [ok_on]
      exact z.imp fun _ S3 z3 => ok_cmGo I hc done step ds S3 z3
    | false => simp only [Bool.false_eq_true, if_false] at z ⊢; exact ok_cmGo I hc done step ds S2 z
theorem ok_stepL {te : SE} {n : Nat} {P : Unit → Sto → Prop} : Ok (sStepL te n ρ S) P = Ok (te ρ S) fun y S1 => ∃ acc, lstAt S1 n = some acc ∧ acc.length < sizeLine ∧ P () (S1.set n (.lst (acc ++ [y]))) := by
  unfold sStepL
  rw [ok_bind]
  congr 1; funext y S1
  cases e : lstAt S1 n with
  | none => exact propext ⟨fun z => z.elim, fun ⟨_, z, _⟩ => nomatch z⟩
  | some acc =>
    simp only
    by_cases h : acc.length < sizeLine
    · rw [if_pos h]; exact propext ⟨fun z => ⟨acc, rfl, h, z⟩, fun ⟨a, e1, _, z⟩ => by cases e1; exact z⟩
    · rw [if_neg h]; exact propext ⟨fun z => z.elim, fun ⟨a, e1, hl, z⟩ => by cases e1; exact h hl⟩
theorem ok_stepD {tk tv : SE} {n : Nat} {P : Unit → Sto → Prop} : Ok (sStepD tk tv n ρ S) P = Ok (tk ρ S) fun k S1 => Ok (tv ρ S1) fun v S2 => ∃ kvs, dctW S2 n = some kvs ∧ clsOk kvs k = true ∧ kvs.length < sizeLine ∧ P () (S2.set n (.dct (putD kvs k v))) := by
  unfold sStepD
  rw [ok_bind]
  congr 1; funext k S1
  rw [ok_bind]
  congr 1; funext v S2
  cases e : dctW S2 n with
  | none => exact propext ⟨fun z => z.elim, fun ⟨_, z, _⟩ => nomatch z⟩
  | some kvs =>
    simp only
    by_cases h : clsOk kvs k = true ∧ kvs.length < sizeLine
    · rw [if_pos h]; exact propext ⟨fun z => ⟨kvs, rfl, h.1, h.2, z⟩, fun ⟨a, e1, _, _, z⟩ => by cases e1; exact z⟩
    · rw [if_neg h]; exact propext ⟨fun z => z.elim, fun ⟨a, e1, h1, h2, z⟩ => by cases e1; exact h ⟨h1, h2⟩⟩
theorem ok_stepS {te : SE} {n : Nat} {P : Unit → Sto → Prop} : Ok (sStepS te n ρ S) P = Ok (te ρ S) fun y S1 => ∃ ks k, setAt S1 n = some ks ∧ tupInts y = some k ∧ ks.length + 1 < 64 ∧ P () (S1.set n (.set (addK ks k))) := by
  unfold sStepS
  rw [ok_bind]
  congr 1; funext y S1
  cases e : setAt S1 n with
  | none => exact propext ⟨fun z => z.elim, fun ⟨_, _, z, _⟩ => nomatch z⟩
  | some ks =>
    cases e2 : tupInts y with
    | none => exact propext ⟨fun z => z.elim, fun ⟨_, _, _, z, _⟩ => nomatch z⟩
    | some k =>
      simp only
      by_cases h : ks.length + 1 < 64
      · rw [if_pos h]; exact propext ⟨fun z => ⟨ks, k, rfl, rfl, h, z⟩, fun ⟨a, b, e1, e3, _, z⟩ => by cases e1; cases e3; exact z⟩
      · rw [if_neg h]; exact propext ⟨fun z => z.elim, fun ⟨a, b, e1, e3, hl, z⟩ => by cases e1; cases e3; exact h hl⟩
end

/-! ### the store -/
/-- what was there is there, but at the place p -/
structure Grow (p : Option Nat) (S S' : Sto) : Prop where
  len : S.length ≤ S'.length
  at_ : ∀ n, n < S.length → some n ≠ p → S'[n]? = S[n]?
section
variable {p : Option Nat} {S S1 S2 : Sto} {n : Nat}
theorem Grow.refl : Grow p S S := ⟨Nat.le_refl _, fun _ _ _ => rfl⟩
theorem Grow.trans (a : Grow p S S1) (b : Grow p S1 S2) : Grow p S S2 := ⟨Nat.le_trans a.len b.len, fun n h k => (b.at_ n (Nat.lt_of_lt_of_le h a.len) k).trans (a.at_ n h k)⟩
theorem Grow.any (a : Grow none S S1) : Grow p S S1 := ⟨a.len, fun n h _ => a.at_ n h (fun z => nomatch z)⟩
theorem Grow.app (T : Sto) : Grow p S (S ++ T) := ⟨by simp, fun n h _ => List.getElem?_append_left h⟩
theorem Grow.set (a : Grow p S S1) {o : SO} (h : S.length ≤ n ∨ p = some n) : Grow p S (S1.set n o) := ⟨by rw [List.length_set]; exact a.len, fun m hm k => by
  rw [List.getElem?_set_ne]
  · exact a.at_ m hm k
  · rintro rfl
    rcases h with h | h
    · omega
    · exact k h.symm⟩
theorem Grow.lst (a : Grow p S S1) {xs : List D} (h : lstAt S n = some xs) (k : some n ≠ p) : lstAt S1 n = some xs := by
  have e := lstAt_eq h
  have := a.at_ n (List.getElem?_eq_some_iff.mp e).1 k
  unfold lstAt
  rw [this, e]
theorem Grow.dct (a : Grow p S S1) {xs : List (D × D)} (h : dctW S n = some xs) (k : some n ≠ p) : dctW S1 n = some xs := by
  have e := dctW_eq h
  have := a.at_ n (List.getElem?_eq_some_iff.mp e).1 k
  unfold dctW
  rw [this, e]
theorem lst_lt {xs : List D} (h : lstAt S n = some xs) : n < S.length := (List.getElem?_eq_some_iff.mp (lstAt_eq h)).1
theorem dct_lt {xs : List (D × D)} (h : dctW S n = some xs) : n < S.length := (List.getElem?_eq_some_iff.mp (dctW_eq h)).1
theorem lst_new {xs : List D} : lstAt (S ++ [.lst xs]) S.length = some xs := by
  unfold lstAt
  rw [List.getElem?_append_right (Nat.le_refl _), Nat.sub_self]
  rfl
theorem dct_new {xs : List (D × D)} : dctW (S ++ [.dct xs]) S.length = some xs := by
  unfold dctW
  rw [List.getElem?_append_right (Nat.le_refl _), Nat.sub_self]
  rfl
theorem lst_set {xs : List D} (h : n < S.length) : lstAt (S.set n (.lst xs)) n = some xs := by
  unfold lstAt
  rw [List.getElem?_set_self h]
theorem dct_set {xs : List (D × D)} (h : n < S.length) : dctW (S.set n (.dct xs)) n = some xs := by
  unfold dctW
  rw [List.getElem?_set_self h]
theorem lst_set_ne {m : Nat} {o : SO} (h : m ≠ n) : lstAt (S.set m o) n = lstAt S n := by
  unfold lstAt
  rw [List.getElem?_set_ne h]
theorem dct_set_ne {m : Nat} {o : SO} (h : m ≠ n) : dctW (S.set m o) n = dctW S n := by
  unfold dctW
  rw [List.getElem?_set_ne h]
theorem lst_ne_dct {m : Nat} {xs : List D} {ys : List (D × D)} (h : lstAt S n = some xs) (k : dctW S m = some ys) : n ≠ m := fun e => by
  subst e
  have a := lstAt_eq h
  rw [dctW_eq k] at a
  cases a
theorem lst_noD {xs : List D} (h : lstAt S n = some xs) : dctAt S n = none ∧ dctW S n = none ∧ setAt S n = none := by
  unfold dctAt dctW setAt
  rw [lstAt_eq h]
  exact ⟨rfl, rfl, rfl⟩
theorem dct_noL {xs : List (D × D)} (h : dctW S n = some xs) : lstAt S n = none ∧ setAt S n = none := by
  unfold lstAt setAt
  rw [dctW_eq h]
  exact ⟨rfl, rfl⟩
end
end SX
end
section
set_option linter.all false
set_option maxRecDepth 100000
set_option maxHeartbeats 1000000
/-! V2: plain data compared and sorted; cells; dicts of cells. -/
namespace SX
open PySem L2 Tie

/-! ### plain data: None, ints, tuples of these -/
inductive Pl : Nat → D → Prop
  | int {n : Nat} (i : Int) : Pl n (.int i)
  | non {n : Nat} : Pl n .non
  | tup {n : Nat} {ds : List D} : (∀ d ∈ ds, Pl n d) → Pl (n + 1) (.tup ds)
mutual
theorem Pl.py : ∀ {d : D} {n : Nat}, Pl n d → ∃ p, pyT d = some p ∧ p.canLay0 = true ∧ p.depth ≤ n ∧ ∀ (S : Sto) (m : Nat), toPy S m d = some p
  | .int i, n, _ => ⟨.int i, rfl, rfl, Nat.zero_le _, fun S m => by cases m <;> rfl⟩
  | .non, n, _ => ⟨.none, rfl, rfl, Nat.zero_le _, fun S m => by cases m <;> rfl⟩
  | .tup ds, n + 1, h => by
    obtain ⟨ps, h1, h2, h3, h4⟩ := Pl.pys (ds := ds) (n := n) (by cases h with | tup h => exact h)
    refine ⟨.tuple ps, by simp only [pyT, h1, Option.map_some], by simpa [PyData.canLay0] using h2, by simpa [PyData.depth] using h3, fun S m => ?_⟩
    cases m with
    | zero => simp only [toPy, pyT, h1, Option.map_some]
    | succ m => simp only [toPy, h4 S m, Option.map_some]
  | .tup ds, 0, h => by cases h
  | .bl _, _, h => by cases h
  | .str _, _, h => by cases h
  | .ty _, _, h => by cases h
  | .glb _, _, h => by cases h
  | .rl _, _, h => by cases h
  | .ref _, _, h => by cases h
theorem Pl.pys : ∀ {ds : List D} {n : Nat}, (∀ d ∈ ds, Pl n d) → ∃ ps, pyTs ds = some ps ∧ PyData.canLayAll0 ps = true ∧ PyData.depthAll ps ≤ n ∧ ∀ (S : Sto) (m : Nat), mapO (toPy S m) ds = some ps
  | [], n, _ => ⟨[], rfl, rfl, Nat.zero_le _, fun _ _ => rfl⟩
  | d :: ds, n, h => by
    obtain ⟨p, a1, a2, a3, a4⟩ := Pl.py (h d List.mem_cons_self)
    obtain ⟨ps, b1, b2, b3, b4⟩ := Pl.pys (ds := ds) fun x hx => h x (List.mem_cons_of_mem _ hx)
    refine ⟨p :: ps, by simp only [pyTs, a1, b1], by simp [PyData.canLayAll0, a2, b2], by simp only [PyData.depthAll]; exact Nat.max_le.mpr ⟨a3, b3⟩, fun S m => by simp only [mapO, a4, b4]⟩
end
mutual
theorem Pl.eqv : ∀ {d e : D} {n m : Nat} {p q : PyData}, Pl n d → Pl m e → pyT d = some p → pyT e = some q → PyData.eqv p q = decide (d = e)
  | .int i, e, n, m, p, q, _, he, h1, h2 => by
    simp [pyT] at h1; subst h1
    cases he with
    | int j =>
      simp [pyT] at h2; subst h2
      by_cases c : i = j <;> simp [PyData.eqv, c]
    | non => simp [pyT] at h2; subst h2; simp [PyData.eqv]
    | tup _ =>
      simp only [pyT, Option.map_eq_some_iff] at h2
      obtain ⟨ps, _, h2⟩ := h2
      subst h2; simp [PyData.eqv]
  | .non, e, n, m, p, q, _, he, h1, h2 => by
    simp [pyT] at h1; subst h1
    cases he with
    | int j => simp [pyT] at h2; subst h2; simp [PyData.eqv]
    | non => simp [pyT] at h2; subst h2; simp [PyData.eqv]
    | tup _ =>
      simp only [pyT, Option.map_eq_some_iff] at h2
      obtain ⟨ps, _, h2⟩ := h2
      subst h2; simp [PyData.eqv]
  | .tup ds, e, n, m, p, q, hd, he, h1, h2 => by
    simp only [pyT, Option.map_eq_some_iff] at h1
    obtain ⟨ps, h1, rfl⟩ := h1
    cases e with
    | tup es =>
      simp only [pyT, Option.map_eq_some_iff] at h2
      obtain ⟨qs, h2, rfl⟩ := h2
      cases hd with
      | tup hd =>
        cases he with
        | tup he =>
          have := Pl.eqvs hd he h1 h2
          simp only [PyData.eqv, this]
          by_cases c : ds = es <;> simp [c]
    | int i => simp [pyT] at h2; subst h2; simp [PyData.eqv]
    | non => simp [pyT] at h2; subst h2; simp [PyData.eqv]
    | _ => cases he
  | .bl _, _, _, _, _, _, h, _, _, _ => by cases h
  | .str _, _, _, _, _, _, h, _, _, _ => by cases h
  | .ty _, _, _, _, _, _, h, _, _, _ => by cases h
  | .glb _, _, _, _, _, _, h, _, _, _ => by cases h
  | .rl _, _, _, _, _, _, h, _, _, _ => by cases h
  | .ref _, _, _, _, _, _, h, _, _, _ => by cases h
theorem Pl.eqvs : ∀ {ds es : List D} {n m : Nat} {ps qs : List PyData}, (∀ d ∈ ds, Pl n d) → (∀ e ∈ es, Pl m e) → pyTs ds = some ps → pyTs es = some qs → PyData.eqvAll ps qs = decide (ds = es)
  | [], [], _, _, ps, qs, _, _, h1, h2 => by simp [pyTs] at h1 h2; subst h1 h2; rfl
  | [], e :: es, _, _, ps, qs, _, _, h1, h2 => by
    simp [pyTs] at h1; subst h1
    simp only [pyTs] at h2
    split at h2
    · cases h2; simp [PyData.eqvAll]
    · cases h2
  | d :: ds, [], _, _, ps, qs, _, _, h1, h2 => by
    simp [pyTs] at h2; subst h2
    simp only [pyTs] at h1
    split at h1
    · cases h1; simp [PyData.eqvAll]
    · cases h1
  | d :: ds, e :: es, _, _, ps, qs, hd, he, h1, h2 => by
    simp only [pyTs] at h1 h2
    split at h1
    · rename_i a1 a2
      cases h1
      split at h2
      · rename_i b1 b2
        cases h2
        have x := Pl.eqv (hd d List.mem_cons_self) (he e List.mem_cons_self) a1 b1
        have y := Pl.eqvs (fun z hz => hd z (List.mem_cons_of_mem _ hz)) (fun z hz => he z (List.mem_cons_of_mem _ hz)) a2 b2
        simp only [PyData.eqvAll, x, y]
        by_cases c1 : d = e <;> by_cases c2 : ds = es <;> simp [c1, c2]
      · cases h2
    · cases h1
end
theorem Pl.mono {n m : Nat} (h : n ≤ m) : ∀ {d : D}, Pl n d → Pl m d := by
  intro d p
  induction p generalizing m with
  | int i => exact .int i
  | non => exact .non
  | @tup n ds _ ih =>
    cases m with
    | zero => omega
    | succ m => exact .tup fun d hd => ih d hd (by omega)
section
variable {S : Sto} {d e : D} {n m : Nat}
theorem shaped_pl {p : PyData} (h1 : p.canLay0 = true) (h2 : p.depth ≤ 60) : SeqAt.shaped p = true := by
  unfold SeqAt.shaped
  rw [h1, decide_eq_true (by omega)]
  rfl
theorem eqDD_pl (hd : Pl n d) (he : Pl m e) (hn : n ≤ 60) (hm : m ≤ 60) : eqDD S d e = some (decide (d = e)) := by
  obtain ⟨p, a1, a2, a3, a4⟩ := hd.py
  obtain ⟨q, b1, b2, b3, b4⟩ := he.py
  unfold eqDD
  rw [a4, b4]
  simp only
  rw [if_pos ⟨shaped_pl a2 (by omega), shaped_pl b2 (by omega)⟩, Pl.eqv hd he a1 b1]
theorem gEq_pl (hd : Pl n d) (he : Pl m e) (hn : n ≤ 60) (hm : m ≤ 60) : gEq d e S = .ok (.bl (decide (d = e))) S := by unfold gEq; rw [eqDD_pl hd he hn hm]
theorem gNe_pl (hd : Pl n d) (he : Pl m e) (hn : n ≤ 60) (hm : m ≤ 60) : gNe d e S = .ok (.bl (!decide (d = e))) S := by unfold gNe; rw [eqDD_pl hd he hn hm]
theorem gNe_bl {a b : Bool} : gNe (.bl a) (.bl b) S = .ok (.bl (a != b)) S := by
  unfold gNe eqDD
  simp only [toPy, pyT]
  rw [if_pos ⟨shaped_pl (p := .bool a) rfl (Nat.zero_le _), shaped_pl (p := .bool b) rfl (Nat.zero_le _)⟩]
  cases a <;> cases b <;> rfl
theorem toPy_lst {xs : List D} {k : Nat} (h : lstAt S k = some xs) (hx : ∀ x ∈ xs, Pl n x) : ∃ ps, toPy S 4 (.ref k) = some (.list ps) ∧ pyTs xs = some ps ∧ PyData.canLayAll0 ps = true ∧ PyData.depthAll ps ≤ n := by
  obtain ⟨ps, h1, h2, h3, h4⟩ := Pl.pys hx
  refine ⟨ps, ?_, h1, h2, h3⟩
  rw [toPy, lstAt_eq h]
  simp only [h4, Option.map_some]
theorem eqDD_lst {xs ys : List D} {k l : Nat} (h : lstAt S k = some xs) (h2 : lstAt S l = some ys) (hx : ∀ x ∈ xs, Pl n x) (hy : ∀ y ∈ ys, Pl m y) (hn : n ≤ 50) (hm : m ≤ 50) : eqDD S (.ref k) (.ref l) = some (decide (xs = ys)) := by
  obtain ⟨ps, a1, a2, a3, a4⟩ := toPy_lst h hx
  obtain ⟨qs, b1, b2, b3, b4⟩ := toPy_lst h2 hy
  unfold eqDD
  rw [a1, b1]
  simp only
  rw [if_pos ⟨shaped_pl (by simpa [PyData.canLay0] using a3) (by simp only [PyData.depth]; omega), shaped_pl (by simpa [PyData.canLay0] using b3) (by simp only [PyData.depth]; omega)⟩]
  simp only [PyData.eqv, Pl.eqvs hx hy a2 b2]
theorem gEq_lst {xs ys : List D} {k l : Nat} (h : lstAt S k = some xs) (h2 : lstAt S l = some ys) (hx : ∀ x ∈ xs, Pl n x) (hy : ∀ y ∈ ys, Pl m y) (hn : n ≤ 50) (hm : m ≤ 50) : gEq (.ref k) (.ref l) S = .ok (.bl (decide (xs = ys))) S := by unfold gEq; rw [eqDD_lst h h2 hx hy hn hm]
theorem gNe_lst {xs ys : List D} {k l : Nat} (h : lstAt S k = some xs) (h2 : lstAt S l = some ys) (hx : ∀ x ∈ xs, Pl n x) (hy : ∀ y ∈ ys, Pl m y) (hn : n ≤ 50) (hm : m ≤ 50) : gNe (.ref k) (.ref l) S = .ok (.bl (!decide (xs = ys))) S := by unfold gNe; rw [eqDD_lst h h2 hx hy hn hm]
theorem inDD_lst {xs : List D} {k : Nat} (h : lstAt S k = some xs) (hd : Pl m d) (hx : ∀ x ∈ xs, Pl n x) (hn : n ≤ 50) (hm : m ≤ 50) : inDD S d (.ref k) = some (decide (d ∈ xs)) := by
  obtain ⟨p, b1, b2, b3, b4⟩ := hd.py
  obtain ⟨ps, a1, a2, a3, a4⟩ := toPy_lst h hx
  unfold inDD
  rw [a1, b4]
  simp only
  rw [if_pos ⟨shaped_pl b2 (by omega), shaped_pl (by simpa [PyData.canLay0] using a3) (by simp only [PyData.depth]; omega)⟩]
  congr 1
  clear a1 a3 a4 h
  induction xs generalizing ps with
  | nil => simp [pyTs] at a2; subst a2; simp
  | cons x xs ih =>
    simp only [pyTs] at a2
    split at a2
    · rename_i q qs c1 c2
      cases a2
      rw [List.any_cons, ih (fun z hz => hx z (List.mem_cons_of_mem _ hz)) qs c2, Pl.eqv (hx x List.mem_cons_self) hd c1 b1]
      by_cases e : x = d
      · simp [e]
      · have e' : ¬ d = x := fun z => e z.symm
        simp [e, e']
    · cases a2
end

/-! ### cells -/
def cD (c : Cell) : D := .tup [.int c.1, .int c.2]
theorem cD_inj {a b : Cell} (h : cD a = cD b) : a = b := by
  obtain ⟨x, y⟩ := a
  obtain ⟨u, v⟩ := b
  simp only [cD, D.tup.injEq, List.cons.injEq, D.int.injEq, and_true] at h
  rw [h.1, h.2]
theorem cD_eq (a b : Cell) : decide (cD a = cD b) = decide (a = b) := by
  by_cases h : a = b
  · rw [decide_eq_true h, decide_eq_true (by rw [h])]
  · rw [decide_eq_false h, decide_eq_false fun z => h (cD_inj z)]
theorem cD_tup (c : Cell) : cD c = tupOf [c.1, c.2] := rfl
theorem cDs_tup (cs : List Cell) : cs.map cD = (cs.map fun c => [c.1, c.2]).map tupOf := by rw [List.map_map]; rfl
theorem pl_cell (c : Cell) : Pl 1 (cD c) := .tup fun d hd => by
  simp only [List.mem_cons, List.not_mem_nil, or_false] at hd
  rcases hd with rfl | rfl
  · exact .int _
  · exact .int _
theorem pl_cells {cs : List Cell} : ∀ d ∈ cs.map cD, Pl 1 d := fun d hd => by
  obtain ⟨c, _, rfl⟩ := List.mem_map.mp hd
  exact pl_cell c
theorem cD_mem {c : Cell} {cs : List Cell} : cD c ∈ cs.map cD ↔ c ∈ cs := ⟨fun h => by
  obtain ⟨d, hd, e⟩ := List.mem_map.mp h
  rw [← cD_inj e]; exact hd, fun h => List.mem_map.mpr ⟨c, h, rfl⟩⟩
theorem kcls_cell (c : Cell) : kcls (cD c) = 2 := by
  simp [kcls, cD, nks, nk, NestedKey.depth, NestedKey.depthAll]
/-- a dict with cells as keys -/
def CellKeys (kvs : List (D × D)) : Prop := ∀ p ∈ kvs, ∃ c, p.1 = cD c
theorem cls_cell {kvs : List (D × D)} (h : CellKeys kvs) (c : Cell) : clsOk kvs (cD c) = true := by
  unfold clsOk
  rw [kcls_cell, Bool.and_eq_true, List.all_eq_true]
  refine ⟨rfl, fun p hp => ?_⟩
  obtain ⟨d, e⟩ := h p hp
  rw [e, kcls_cell]
  rfl
/-- a dict of cells, as pairs -/
def cKv {α : Type} (f : α → D) (l : List (Cell × α)) : List (D × D) := l.map fun p => (cD p.1, f p.2)
theorem cKv_keys {α : Type} {f : α → D} {l : List (Cell × α)} : CellKeys (cKv f l) := fun p hp => by
  obtain ⟨q, _, rfl⟩ := List.mem_map.mp hp
  exact ⟨q.1, rfl⟩
def look {α : Type} (l : List (Cell × α)) (c : Cell) : Option α := (l.find? fun p => decide (p.1 = c)).map (·.2)
theorem val_cKv {α : Type} {f : α → D} (l : List (Cell × α)) (c : Cell) : valD (cKv f l) (cD c) = (look l c).map f := by
  unfold valD look cKv
  induction l with
  | nil => rfl
  | cons p l ih =>
    rw [List.map_cons, List.find?_cons, List.find?_cons]
    by_cases h : p.1 = c
    · rw [decide_eq_true h, decide_eq_true (by rw [h])]
      rfl
    · rw [decide_eq_false h, decide_eq_false fun z => h (cD_inj z)]
      exact ih
def put {α : Type} (l : List (Cell × α)) (c : Cell) (a : α) : List (Cell × α) := if (l.any fun p => decide (p.1 = c)) = true then l.map (fun p => if p.1 = c then (p.1, a) else p) else l ++ [(c, a)]
theorem put_cKv {α : Type} {f : α → D} (l : List (Cell × α)) (c : Cell) (a : α) : putD (cKv f l) (cD c) (f a) = cKv f (put l c a) := by
  unfold putD put
  have e : (cKv f l).any (fun kv => decide (kv.1 = cD c)) = l.any fun p => decide (p.1 = c) := by
    unfold cKv
    rw [List.any_map]
    congr 1
    funext p
    exact cD_eq p.1 c
  rw [e]
  split
  · unfold cKv
    rw [List.map_map, List.map_map]
    refine List.map_congr_left fun p _ => ?_
    show (if cD p.1 = cD c then (cD p.1, f a) else (cD p.1, f p.2)) = _
    by_cases h : p.1 = c
    · simp [h]
    · have h' : ¬ cD p.1 = cD c := fun z => h (cD_inj z)
      simp [h, h']
  · unfold cKv
    rw [List.map_append]
    rfl
def del {α : Type} (l : List (Cell × α)) (c : Cell) : List (Cell × α) := l.filter fun p => decide (p.1 ≠ c)
theorem del_cKv {α : Type} {f : α → D} (l : List (Cell × α)) (c : Cell) : delD (cKv f l) (cD c) = cKv f (del l c) := by
  unfold delD del cKv
  induction l with
  | nil => rfl
  | cons p l ih =>
    rw [List.map_cons, List.filter_cons, List.filter_cons]
    by_cases h : p.1 = c
    · rw [if_neg (by simp [h]), if_neg (by simp [h])]; exact ih
    · have h' : ¬ cD p.1 = cD c := fun z => h (cD_inj z)
      rw [if_pos (by simp [h']), if_pos (by simp [h]), List.map_cons, ih]
theorem look_none {α : Type} {l : List (Cell × α)} {c : Cell} : look l c = none ↔ c ∉ l.map (·.1) := by
  unfold look
  rw [Option.map_eq_none_iff, List.find?_eq_none]
  constructor
  · intro h hm
    obtain ⟨p, hp, e⟩ := List.mem_map.mp hm
    exact h p hp (decide_eq_true e)
  · intro h p hp e
    exact h (List.mem_map.mpr ⟨p, hp, of_decide_eq_true e⟩)
theorem look_isSome {α : Type} {l : List (Cell × α)} {c : Cell} : (look l c).isSome = decide (c ∈ l.map (·.1)) := by
  by_cases h : c ∈ l.map (·.1)
  · rw [decide_eq_true h]
    cases e : look l c with
    | none => exact absurd h (look_none.mp e)
    | some a => rfl
  · rw [decide_eq_false h, look_none.mpr h]; rfl
theorem look_put {α : Type} (l : List (Cell × α)) (c : Cell) (a : α) (x : Cell) : look (put l c a) x = if x = c then some a else look l x := by
  unfold put
  split
  · rename_i h
    obtain ⟨q, hq, e⟩ := List.any_eq_true.mp h
    have hq' : q.1 = c := of_decide_eq_true e
    clear h e
    unfold look
    induction l with
    | nil => cases hq
    | cons p l ih =>
      rw [List.map_cons, List.find?_cons, List.find?_cons]
      by_cases h1 : p.1 = c
      · rw [if_pos h1]
        by_cases h2 : x = c
        · rw [if_pos h2, decide_eq_true (by rw [h2]; exact h1)]
          rfl
        · have h3 : ¬ p.1 = x := fun z => h2 (by rw [← z, h1])
          rw [if_neg h2, decide_eq_false h3]
          simp only
          have : ∀ m : List (Cell × α), (m.map fun p => if p.1 = c then (p.1, a) else p).find? (fun p => decide (p.1 = x)) = m.find? fun p => decide (p.1 = x) := by
            intro m
            induction m with
            | nil => rfl
            | cons r m ihm =>
              rw [List.map_cons, List.find?_cons, List.find?_cons]
              by_cases g : r.1 = c
              · have g2 : ¬ r.1 = x := fun z => h2 (by rw [← z, g])
                rw [if_pos g, decide_eq_false g2]; exact ihm
              · rw [if_neg g]
                by_cases g3 : r.1 = x
                · rw [decide_eq_true g3]
                · rw [decide_eq_false g3]; exact ihm
          rw [this]
      · rw [if_neg h1]
        have hq2 : q ∈ l := (List.mem_cons.mp hq).resolve_left fun z => h1 (by rw [← z]; exact hq')
        by_cases h3 : p.1 = x
        · have h2 : ¬ x = c := fun z => h1 (by rw [h3, z])
          rw [if_neg h2, decide_eq_true h3]
        · rw [decide_eq_false h3]
          exact ih hq2
  · rename_i h
    unfold look
    rw [List.find?_append]
    by_cases h2 : x = c
    · rw [if_pos h2]
      have : l.find? (fun p => decide (p.1 = x)) = none := List.find?_eq_none.mpr fun p hp e => h (List.any_eq_true.mpr ⟨p, hp, by rw [← h2]; exact e⟩)
      rw [this]
      simp [h2]
    · rw [if_neg h2]
      cases e : l.find? fun p => decide (p.1 = x) with
      | some p => rfl
      | none =>
        have h3 : ¬ c = x := fun z => h2 z.symm
        simp [h3]
theorem put_keys {α : Type} (l : List (Cell × α)) (c : Cell) (a : α) : (put l c a).map (·.1) = if c ∈ l.map (·.1) then l.map (·.1) else l.map (·.1) ++ [c] := by
  unfold put
  have e : (l.any fun p => decide (p.1 = c)) = decide (c ∈ l.map (·.1)) := by
    induction l with
    | nil => rfl
    | cons p l ih =>
      rw [List.any_cons, ih, List.map_cons]
      by_cases h : p.1 = c
      · simp [h]
      · have h' : ¬ c = p.1 := fun z => h z.symm
        simp [h, h']
  rw [e]
  by_cases h : c ∈ l.map (·.1)
  · rw [if_pos h, if_pos (by rw [decide_eq_true h]), List.map_map]
    refine List.map_congr_left fun p _ => ?_
    by_cases g : p.1 = c <;> simp [g]
  · rw [if_neg h, if_neg (by rw [decide_eq_false h]; exact Bool.false_ne_true), List.map_append]
    rfl
end SX
end
section
set_option linter.all false
set_option maxRecDepth 100000
set_option maxHeartbeats 2000000
/-! V3: the pen: draws. -/
namespace SX
open PySem L2 Tie
theorem ok_v {i : Nat} {ρ : Env} {S : Sto} {P : D → Sto → Prop} : Ok (sVar i ρ S) P = match ρ[i]? with
    | some (some d) => P d S
    | _ => False := by
  unfold sVar
  split <;> rename_i h <;> (try simp only [h]) <;> rfl
theorem wp_asgS {fo fi f : SE} {g : D → D → D → Sto → Option Sto} {ρ : Env} {S : Sto} {N B C : Env → Sto → Prop} {R : D → Sto → Prop} : Wp (sAsg (gSb fo fi g) f ρ S) N R B C = Ok (f ρ S) fun d S1 => Ok (fo ρ S1) fun o S2 => Ok (fi ρ S2) fun i S3 => ∃ S4, g o i d S3 = some S4 ∧ N ρ S4 := by
  rw [wp_asg]
  congr 1; funext d S1
  unfold gSb
  cases fo ρ S1 with
  | ok o S2 =>
    simp only
    show _ = Ok (fi ρ S2) _
    cases fi ρ S2 with
    | ok i S3 =>
      simp only
      show _ = ∃ S4, g o i d S3 = some S4 ∧ N ρ S4
      cases g o i d S3 with
      | some S4 => exact propext ⟨fun z => ⟨S4, rfl, z⟩, fun ⟨_, e, z⟩ => by cases e; exact z⟩
      | none => exact propext ⟨fun z => z.elim, fun ⟨_, e, _⟩ => nomatch e⟩
    | _ => rfl
  | _ => rfl
end SX
open SX in
local macro_rules | `(tactic| walk_at "ev") => `(tactic| simp only [startE, List.map_cons, List.map_nil, List.length_cons, List.length_nil, List.cons_append, List.nil_append, Nat.reduceAdd, Nat.reduceSub, List.replicate_succ, List.replicate_zero, wp_seq, wp_skip, wp_break, wp_cont, wp_ret, wp_retN, wp_expr, wp_asgN, wp_asgS, wp_if, wp_par, wp_par3, wp_never, ok_v, ok_c, ok_op2, ok_op1, ok_bool, ok_tru, ok_and, ok_or, ok_not, ok_andV, ok_orV, ok_notV, ok_if, ok_nil, ok_cons, ok_tup, ok_lst, ok_call, ok_callF, ok_meth, ok_dm, ok_dnew, ok_sl, ok_partN, ok_partS, ok_seqI, List.getElem?_cons_zero, List.getElem?_cons_succ, List.set_cons_zero, List.set_cons_succ])
namespace SX
open PySem L2 Tie
/-! ### the pen -/
def pk (m : Nat) (a g k f : Int) : List (D × D) := [(.str "cells", .ref m), (.str "at", .int a), (.str "digits", .int g), (.str "count", .int k), (.str "fold", .int f)]
section
variable {S : Sto} {p m : Nat} {a g k f v : Int}
theorem pk_cls {x : PySem.Str} : clsOk (pk m a g k f) (.str x) = true := rfl
theorem ix_of {kvs : List (D × D)} {y r : D} (h : dctW S p = some kvs) (c : clsOk kvs y = true) (e : valD kvs y = some r) : gIxA (.ref p) y S = .ok r S := by
  unfold gIxA
  simp only
  rw [dctW_at h]
  simp only
  rw [if_pos c, e]
theorem set_of {kvs : List (D × D)} {y r : D} (h : dctW S p = some kvs) (c : clsOk kvs y = true) (l : kvs.length < sizeLine) : gSetIxA (.ref p) y r S = some (S.set p (.dct (putD kvs y r))) := by
  unfold gSetIxA
  simp only
  rw [h]
  simp only
  rw [if_pos ⟨c, l⟩]
theorem small5 : (pk m a g k f).length < sizeLine := by show 5 < sizeLine; rw [sizeLine_eq]; omega
theorem pen_cells (h : dctW S p = some (pk m a g k f)) : gIxA (.ref p) (.str "cells") S = .ok (.ref m) S := ix_of h rfl rfl
theorem pen_at (h : dctW S p = some (pk m a g k f)) : gIxA (.ref p) (.str "at") S = .ok (.int a) S := ix_of h rfl rfl
theorem pen_digits (h : dctW S p = some (pk m a g k f)) : gIxA (.ref p) (.str "digits") S = .ok (.int g) S := ix_of h rfl rfl
theorem pen_count (h : dctW S p = some (pk m a g k f)) : gIxA (.ref p) (.str "count") S = .ok (.int k) S := ix_of h rfl rfl
theorem pen_fold (h : dctW S p = some (pk m a g k f)) : gIxA (.ref p) (.str "fold") S = .ok (.int f) S := ix_of h rfl rfl
theorem pen_at' (h : dctW S p = some (pk m a g k f)) : gSetIxA (.ref p) (.str "at") (.int v) S = some (S.set p (.dct (pk m v g k f))) := set_of h rfl small5
theorem pen_digits' (h : dctW S p = some (pk m a g k f)) : gSetIxA (.ref p) (.str "digits") (.int v) S = some (S.set p (.dct (pk m a v k f))) := set_of h rfl small5
theorem pen_count' (h : dctW S p = some (pk m a g k f)) : gSetIxA (.ref p) (.str "count") (.int v) S = some (S.set p (.dct (pk m a g v f))) := set_of h rfl small5
theorem pen_fold' (h : dctW S p = some (pk m a g k f)) : gSetIxA (.ref p) (.str "fold") (.int v) S = some (S.set p (.dct (pk m a g k v))) := set_of h rfl small5
end
/-- the pen at p, at most c draws done -/
structure Pen (S : Sto) (p c : Nat) : Prop where
  ex : ∃ (m : Nat) (xs : List Int) (a g k f : Int), dctW S p = some (pk m a g k f) ∧ lstAt S m = some (xs.map D.int) ∧ 0 ≤ a ∧ 0 ≤ g ∧ 0 ≤ k ∧ k ≤ (c : Int) ∧ 0 ≤ f ∧ f < 2147483587 ∧ m = p + 1
theorem Pen.lt {S : Sto} {p c : Nat} (h : Pen S p c) : p < S.length := by
  obtain ⟨m, xs, a, g, k, f, h, _⟩ := h.ex
  exact dct_lt h
theorem Pen.more {S : Sto} {p c d : Nat} (h : Pen S p c) (l : c ≤ d) : Pen S p d := by
  obtain ⟨m, xs, a, g, k, f, h1, h2, h3, h4, h5, h6, h7⟩ := h.ex
  exact ⟨m, xs, a, g, k, f, h1, h2, h3, h4, h5, by omega, h7⟩
theorem Pen.grow {S S' : Sto} {p c : Nat} (h : Pen S p c) (g : Grow none S S') : Pen S' p c := by
  obtain ⟨m, xs, a, g', k, f, h1, h2, h3⟩ := h.ex
  exact ⟨m, xs, a, g', k, f, g.dct h1 (fun z => nomatch z), g.lst h2 (fun z => nomatch z), h3⟩
theorem Pen.set {S : Sto} {p c n : Nat} {o : SO} (h : Pen S p c) (n1 : n ≠ p) (n2 : n ≠ p + 1) : Pen (S.set n o) p c := by
  obtain ⟨m, xs, a, g', k, f, h1, h2, h3, h4, h5, h6, h7, h8, hm⟩ := h.ex
  exact ⟨m, xs, a, g', k, f, by rw [dct_set_ne n1]; exact h1, by rw [lst_set_ne (by omega)]; exact h2, h3, h4, h5, h6, h7, h8, hm⟩
theorem Pen.lt1 {S : Sto} {p c : Nat} (h : Pen S p c) : p + 1 < S.length := by
  obtain ⟨m, xs, a, g', k, f, h1, h2, h3, h4, h5, h6, h7, h8, hm⟩ := h.ex
  rw [← hm]
  exact lst_lt h2
section
variable {S : Sto} {i j : Int}
theorem add_ii : gAdd (.int i) (.int j) S = .ok (.int (i + j)) S := rfl
theorem dif_ii : gDif (.int i) (.int j) S = .ok (.int (i - j)) S := rfl
theorem lt_ii : gLt (.int i) (.int j) S = .ok (.bl (decide (i < j))) S := rfl
theorem le_ii : gLe (.int i) (.int j) S = .ok (.bl (decide (i ≤ j))) S := rfl
theorem gt_ii : gGt (.int i) (.int j) S = .ok (.bl (decide (j < i))) S := rfl
theorem ge_ii : gGe (.int i) (.int j) S = .ok (.bl (decide (j ≤ i))) S := rfl
theorem eq_ii : gEq (.int i) (.int j) S = .ok (.bl (decide (i = j))) S := by
  rw [gEq_pl (.int i (n := 0)) (.int j (n := 0)) (by omega) (by omega)]
  congr 2
  by_cases h : i = j <;> simp [h]
theorem ne_ii : gNe (.int i) (.int j) S = .ok (.bl (!decide (i = j))) S := by
  rw [gNe_pl (.int i (n := 0)) (.int j (n := 0)) (by omega) (by omega)]
  congr 2
  by_cases h : i = j <;> simp [h]
theorem mul_ii (h : (-(2 ^ 64) < i ∧ i < 2 ^ 64) ∨ (-(2 ^ 64) < j ∧ j < 2 ^ 64)) : gMul (.int i) (.int j) S = .ok (.int (i * j)) S := by
  show (if cMul i j = true then _ else _) = _
  exact if_pos (decide_eq_true h)
theorem mod_ii (h : 0 < j) : gMod (.int i) (.int j) S = .ok (.int (i % j)) S := if_pos (decide_eq_true h)
theorem fdiv_ii (h : 0 < j ∧ j < 1073741824) : gFdiv (.int i) (.int j) S = .ok (.int (i / j)) S := if_pos (decide_eq_true h)
theorem pow_ii (h : 0 ≤ j ∧ j ≤ 1000000 ∧ i.natAbs < 2 ^ 64) : gPow (.int i) (.int j) S = .ok (.int (i ^ j.toNat)) S := if_pos (decide_eq_true h)
theorem int_i : gInt [.int i] S = .ok (.int i) S := rfl
theorem len_l {n : Nat} {xs : List D} (h : lstAt S n = some xs) : gLenA [.ref n] S = .ok (.int xs.length) S := by
  unfold gLenA
  simp only
  rw [(lst_noD h).1]
  simp only
  unfold gLen
  simp only
  rw [h]
theorem len_d {n : Nat} {xs : List (D × D)} (h : dctW S n = some xs) : gLenA [.ref n] S = .ok (.int xs.length) S := by
  unfold gLenA
  simp only
  rw [dctW_at h]
theorem len_t {xs : List D} : gLenA [.tup xs] S = .ok (.int xs.length) S := rfl
theorem ix_l {n : Nat} {xs : List D} (h : lstAt S n = some xs) {q : Nat} {d : D} (e : xs[q]? = some d) (hi : i = (q : Int)) : gIxA (.ref n) (.int i) S = .ok d S := by
  subst hi
  unfold gIxA
  simp only
  rw [(lst_noD h).1]
  simp only
  unfold gIx
  simp only
  rw [lstAt_eq h]
  simp only
  have hl : q < xs.length := (List.getElem?_eq_some_iff.mp e).1
  have : L2.atI xs (q : Int) = some d := by
    unfold L2.atI L2.ixN
    rw [if_pos (by omega), if_pos (by omega)]
    simpa using e
  rw [this]
theorem ix_t {xs : List D} {q : Nat} {d : D} (e : xs[q]? = some d) (hi : i = (q : Int)) : gIxA (.tup xs) (.int i) S = .ok d S := by
  subst hi
  unfold gIxA
  simp only
  unfold gIx
  simp only
  have hl : q < xs.length := (List.getElem?_eq_some_iff.mp e).1
  have : L2.atI xs (q : Int) = some d := by
    unfold L2.atI L2.ixN
    rw [if_pos (by omega), if_pos (by omega)]
    simpa using e
  rw [this]
theorem ix_last {n : Nat} {xs : List D} (h : lstAt S n = some xs) {d : D} (e : xs.getLast? = some d) : gIxA (.ref n) (.int (-1)) S = .ok d S := by
  unfold gIxA
  simp only
  rw [(lst_noD h).1]
  simp only
  unfold gIx
  simp only
  rw [lstAt_eq h]
  simp only
  have : L2.atI xs (-1) = some d := by
    unfold L2.atI L2.ixN
    cases xs with
    | nil => cases e
    | cons x xs =>
      rw [if_neg (by omega), if_pos (by simp only [List.length_cons]; omega)]
      simp only [Option.bind_some]
      rw [← e, List.getLast?_eq_getElem?]
      congr 1
      simp only [List.length_cons]
      omega
  rw [this]
theorem neg_i : gNeg (.int i) S = .ok (.int (-i)) S := rfl
end
end SX
namespace Lw
open PySem L2 SX Tie
variable {ga : PySem.Str → Nat} {S : Sto} {p c : Nat}
/-- a draw -/
theorem draw_ok {n : Int} (h : Pen S p c) (hc : c < 1000000) (hn : 1 ≤ n) (hn2 : n < 1073741824) : Ok (F__law_draw ga [.ref p, .int n] S) fun d S' => ∃ v, d = .int v ∧ 0 ≤ v ∧ v < n ∧ Grow (some p) S S' ∧ Pen S' p (c + 1) := by
  obtain ⟨m, xs, a, g, k, f, h1, h2, h3, h4, h5, h6, h7, h8, hm⟩ := h.ex
  have hp : p < S.length := dct_lt h1
  have mp : m ≠ p := lst_ne_dct h2 h1
  unfold F__law_draw
  refine ok_runB ?_
  unfold b__law_draw
  refine wp_cut (fun ρ S1 => ρ = [some (.ref p), some (.int n), none, none, none] ∧ Grow (some p) S S1 ∧ dctW S1 p = some (pk m a g (k + 1) f) ∧ lstAt S1 m = some (xs.map D.int)) ?_ ?_
  · walk_at "ev"
    rw [pen_count h1]
    simp only [ok_ok, add_ii]
    exact ⟨_, pen_count' h1, by first | trivial | rfl, Grow.refl.set (.inr rfl), dct_set hp, by rw [lst_set_ne (Ne.symm mp)]; exact h2⟩
  rintro ρ S1 ⟨rfl, g1, d1, l1⟩
  refine wp_cut (fun ρ S2 => ∃ (c2 : Option D) (a g f : Int), ρ = [some (.ref p), some (.int n), c2, none, none] ∧ Grow (some p) S S2 ∧ dctW S2 p = some (pk m a g (k + 1) f) ∧ lstAt S2 m = some (xs.map D.int) ∧ 0 ≤ a ∧ 0 ≤ g ∧ 0 ≤ f ∧ f < 2147483587) ?_ ?_
  · walk_at "ev"
    rw [pen_digits d1]
    simp only [ok_ok, eq_ii]
    by_cases cg : g = 0
    · simp only [decide_eq_true cg, if_true, pen_at d1, ok_ok, pen_cells d1, len_l l1, lt_ii]
      by_cases ca : a < ((xs.map D.int).length : Int)
      · simp only [decide_eq_true ca, if_true, pen_cells d1, pen_at d1, ok_ok]
        have hlt : a.toNat < xs.length := by simp at ca; omega
        have hq : (xs.map D.int)[a.toNat]? = some (.int xs[a.toNat]) := by
          rw [List.getElem?_map, List.getElem?_eq_getElem hlt]
          rfl
        generalize xs[a.toNat] = cell at hq
        rw [ix_l l1 hq (by omega)]
        simp only [ok_ok, pen_at d1, add_ii]
        refine ⟨_, pen_at' d1, ?_⟩
        have d3 : dctW (S1.set p (.dct (pk m (a + 1) g (k + 1) f))) p = some (pk m (a + 1) g (k + 1) f) := dct_set (dct_lt d1)
        have l3 : lstAt (S1.set p (.dct (pk m (a + 1) g (k + 1) f))) m = some (xs.map D.int) := by rw [lst_set_ne (Ne.symm mp)]; exact l1
        have g3 : Grow (some p) S (S1.set p (.dct (pk m (a + 1) g (k + 1) f))) := g1.set (.inr rfl)
        generalize S1.set p (.dct (pk m (a + 1) g (k + 1) f)) = S3 at d3 l3 g3 ⊢
        rw [pow_ii ⟨by decide, by decide, by decide⟩]
        simp only [ok_ok, ge_ii]
        by_cases cc : (10 : Int) ^ (18 : Int).toNat ≤ cell
        · simp only [decide_eq_true cc, if_true]
          rw [pow_ii ⟨by decide, by decide, by decide⟩]
          simp only [ok_ok, dif_ii]
          exact ⟨_, pen_digits' d3, _, a + 1, _, f, rfl, g3.set (.inr rfl), dct_set (dct_lt d3), by rw [lst_set_ne (Ne.symm mp)]; exact l3, by omega, by omega, h7, h8⟩
        · simp only [decide_eq_false cc, Bool.false_eq_true, if_false, pen_fold d3, ok_ok]
          rw [mul_ii (.inl ⟨by omega, by omega⟩)]
          simp only [ok_ok, add_ii, int_i]
          rw [mod_ii (by decide)]
          simp only [ok_ok]
          exact ⟨_, pen_fold' d3, _, a + 1, g, _, rfl, g3.set (.inr rfl), dct_set (dct_lt d3), by rw [lst_set_ne (Ne.symm mp)]; exact l3, by omega, h4, Int.emod_nonneg _ (by decide), Int.emod_lt_of_pos _ (by decide)⟩
      · simp only [decide_eq_false ca, Bool.false_eq_true, if_false]
        exact ⟨none, a, g, f, rfl, g1, d1, l1, h3, h4, h7, h8⟩
    · simp only [decide_eq_false cg, Bool.false_eq_true, if_false]
      exact ⟨none, a, g, f, rfl, g1, d1, l1, h3, h4, h7, h8⟩
  rintro ρ S2 ⟨c2, a, g, f, rfl, gr, d2, l2, ha, hg, hf, hf2⟩
  walk_at "ev"
  rw [pen_digits d2]
  simp only [ok_ok, gt_ii]
  by_cases cg : 0 < g
  · rw [if_pos (decide_eq_true cg)]
    simp only [ok_ok, int_i, pen_digits d2]
    rw [mod_ii (by omega)]
    simp only [ok_ok, pen_digits d2]
    rw [fdiv_ii ⟨by omega, hn2⟩]
    simp only [ok_ok]
    exact ⟨_, pen_digits' d2, _, rfl, Int.emod_nonneg _ (by omega), Int.emod_lt_of_pos _ (by omega), gr.set (.inr rfl), m, xs, a, g / n, k + 1, f, dct_set (dct_lt d2), by rw [lst_set_ne (Ne.symm mp)]; exact l2, ha, Int.ediv_nonneg hg (by omega), by omega, by omega, hf, hf2, hm⟩
  · rw [if_neg (by simpa using cg)]
    simp only [pen_fold d2, ok_ok, pen_count d2]
    rw [mul_ii (.inr ⟨by decide, by decide⟩)]
    simp only [ok_ok, add_ii]
    rw [pow_ii ⟨by decide, by decide, by omega⟩]
    simp only [ok_ok]
    rw [mod_ii (by decide)]
    simp only [ok_ok, int_i]
    rw [fdiv_ii ⟨by decide, by decide⟩]
    simp only [ok_ok]
    rw [mod_ii (by omega)]
    exact ⟨_, rfl, Int.emod_nonneg _ (by omega), Int.emod_lt_of_pos _ (by omega), gr, m, xs, a, g, k + 1, f, d2, l2, ha, hg, by omega, by omega, hf, hf2, hm⟩
end Lw
end
section
set_option linter.all false
set_option maxRecDepth 100000
set_option maxHeartbeats 2000000
/-! V4: small defs; the pen made; picks. -/
open SX in
local macro_rules | `(tactic| walk_at "ev") => `(tactic| simp only [startE, List.map_cons, List.map_nil, List.length_cons, List.length_nil, List.cons_append, List.nil_append, Nat.reduceAdd, Nat.reduceSub, List.replicate_succ, List.replicate_zero, wp_seq, wp_skip, wp_break, wp_cont, wp_ret, wp_retN, wp_expr, wp_asgN, wp_asgS, wp_if, wp_par, wp_par3, wp_never, ok_v, ok_c, ok_op2, ok_op1, ok_bool, ok_tru, ok_and, ok_or, ok_not, ok_andV, ok_orV, ok_notV, ok_if, ok_nil, ok_cons, ok_tup, ok_lst, ok_call, ok_callF, ok_meth, ok_dm, ok_dnew, ok_sl, ok_partN, ok_partS, ok_seqI, List.getElem?_cons_zero, List.getElem?_cons_succ, List.set_cons_zero, List.set_cons_succ])
namespace Lw
open PySem L2 SX Tie
variable {ga : PySem.Str → Nat} {S : Sto} {p c : Nat}
theorem is_whole_eq (i : Int) : F__law_is_whole ga [.int i] S = .ok (.bl true) S := by kernel_rfl
theorem is_whole2_eq (i : Int) : F_is_whole ga [.int i] S = .ok (.bl true) S := by kernel_rfl
theorem t2_is_cell_eq (c : Cell) : F__law_t2_is_cell ga [cD c] S = .ok (.bl true) S := by kernel_rfl
theorem is_cell_eq (c : Cell) : F_is_cell ga [cD c] S = .ok (.bl true) S := by kernel_rfl
theorem check_cell_eq (c : Cell) : F_check_cell ga [cD c] S = .ok .non S := by kernel_rfl
theorem t2_beside_eq (c : Cell) : F__law_t2_beside ga [cD c] S = .ok (.ref S.length) (S ++ [.lst ((bes c).map cD)]) := by kernel_rfl
theorem beside_eq (c : Cell) : F_beside ga [cD c] S = .ok (.tup ((bes c).map cD)) S := by kernel_rfl
end Lw
namespace SX
open PySem L2 Tie
theorem ok_pairs_nil {ρ : Env} {S : Sto} {P : List (D × D) → Sto → Prop} : Ok (sPairs [] ρ S) P = P [] S := rfl
theorem ok_pairs_cons {k v : SE} {r : List (SE × SE)} {ρ : Env} {S : Sto} {P : List (D × D) → Sto → Prop} : Ok (sPairs ((k, v) :: r) ρ S) P = Ok (k ρ S) fun kd S1 => Ok (v ρ S1) fun vd S2 => Ok (sPairs r ρ S2) fun ps S3 => P ((kd, vd) :: ps) S3 := by
  show Ok ((k ρ S).bind fun kd S1 => (v ρ S1).bind fun vd S2 => (sPairs r ρ S2).bind fun ps S3 => .ok ((kd, vd) :: ps) S3) P = _
  rw [ok_bind]; congr 1; funext kd S1
  rw [ok_bind]; congr 1; funext vd S2
  rw [ok_bind]; rfl
theorem ok_disp {ps : List (SE × SE)} {ρ : Env} {S : Sto} {P : D → Sto → Prop} : Ok (sDisp ps ρ S) P = Ok (sPairs ps ρ (S ++ [.dct []])) fun kvs S1 => ((kvs.all fun p => decide (kcls p.1 = 1)) = true ∧ kvs.length ≤ 15 ∧ dctW S1 S.length = some []) ∧ P (.ref S.length) (S1.set S.length (.dct (mergeD [] kvs))) := by
  unfold sDisp
  rw [ok_bind]; congr 1; funext kvs S1
  by_cases h : (kvs.all fun p => decide (kcls p.1 = 1)) = true ∧ kvs.length ≤ 15 ∧ dctW S1 S.length = some []
  · rw [if_pos h]; exact propext ⟨fun z => ⟨h, z⟩, fun z => z.2⟩
  · rw [if_neg h]; exact propext ⟨fun z => z.elim, fun z => h z.1⟩
end SX
namespace Lw
open PySem L2 SX Tie
variable {ga : PySem.Str → Nat} {S : Sto} {p c : Nat}
theorem pen_ok (xs : List Int) : Ok (F__law_pen ga [.rl xs] S) fun d S' => ∃ p, d = .ref p ∧ Grow none S S' ∧ Pen S' p 0 := by
  unfold F__law_pen
  refine ok_runB ?_
  unfold b__law_pen
  refine wp_cut (fun ρ S1 => ρ = [some (.rl xs), some (.int 0), none] ∧ S = S1) ?_ ?_
  · walk_at "ev"
    exact ⟨by first | trivial | rfl, by first | trivial | rfl⟩
  rintro ρ S1 ⟨rfl, rfl⟩
  refine wp_cut (fun ρ S1 => ∃ (f : Int) (c2 : Option D), ρ = [some (.rl xs), some (.int f), c2] ∧ S = S1 ∧ 0 ≤ f ∧ f < 1000000007) ?_ ?_
  · rw [wp_for, ok_seqI, ok_v]
    show Wp (sForGo _ _ _ (xs.map D.int) _ _) _ _ _ _
    refine wp_forGo (fun ds ρ S1 => ∃ (ys : List Int) (f : Int) (c2 : Option D), ds = ys.map D.int ∧ ρ = [some (.rl xs), some (.int f), c2] ∧ S = S1 ∧ 0 ≤ f ∧ f < 1000000007) (fun _ _ _ _ => rfl) ?_ ?_ _ _ _ ⟨xs, 0, none, rfl, rfl, rfl, by decide, by decide⟩
    · rintro ρ S1 ⟨ys, f, c2, h, rfl, rfl, h1, h2⟩
      exact ⟨f, c2, rfl, rfl, h1, h2⟩
    · rintro d ds ρ S1 ⟨ys, f, c2, h, rfl, rfl, h1, h2⟩
      cases ys with
      | nil => cases h
      | cons y ys =>
        rw [List.map_cons] at h
        injection h with e1 e2
        subst e1 e2
        refine ⟨_, _, rfl, ?_⟩
        walk_at "ev"
        rw [mul_ii (.inl ⟨by omega, by omega⟩)]
        simp only [ok_ok, add_ii, int_i]
        rw [mod_ii (by decide)]
        exact ⟨ys, _, _, rfl, rfl, rfl, Int.emod_nonneg _ (by decide), Int.emod_lt_of_pos _ (by decide)⟩
  rintro ρ S1 ⟨f, c2, rfl, rfl, h1, h2⟩
  rw [wp_ret, ok_disp]
  simp only [ok_pairs_cons, ok_pairs_nil]
  walk_at "ev"
  show ((_ : Prop) ∧ (_ : Prop))
  refine ⟨⟨rfl, by simp, ?_⟩, ?_⟩
  · unfold dctW
    rw [List.getElem?_append_left (by simp), List.getElem?_append_right (Nat.le_refl _), Nat.sub_self]
    rfl
  · have hl : S.length < ((S ++ [SO.dct []]) ++ [SO.lst (xs.map D.int)]).length := by simp
    refine ⟨_, rfl, ((Grow.app _).trans (Grow.app _)).set (.inl (Nat.le_refl _)), (S ++ [SO.dct []]).length, xs, 0, 0, 0, f, ?_, ?_, by decide, by decide, by decide, by omega, h1, by omega, by simp⟩
    · exact dct_set hl
    · rw [lst_set_ne (by simp)]
      exact lst_new
/-- a pick from a list -/
theorem pick_ok {m : Nat} {ds : List D} (h : Pen S p c) (hc : c < 1000000) (hm : lstAt S m = some ds) (h0 : ds ≠ []) (hl : ds.length < 1000000) : Ok (F__law_pick ga [.ref p, .ref m] S) fun d S' => d ∈ ds ∧ Grow (some p) S S' ∧ Pen S' p (c + 1) := by
  unfold F__law_pick
  refine ok_runB ?_
  unfold b__law_pick
  walk_at "ev"
  rw [len_l hm]
  simp only [ok_ok]
  have pos : 0 < ds.length := by cases ds with
    | nil => exact absurd rfl h0
    | cons _ _ => simp
  refine ⟨trivial, (draw_ok h hc (by omega) (by omega)).imp fun v S' ⟨i, e, h1, h2, g, q⟩ => ?_⟩
  subst e
  obtain ⟨_, _, _, _, _, _, hp, _⟩ := h.ex
  have hm' := g.lst hm (fun z => lst_ne_dct hm hp (by injection z))
  have hi : i.toNat < ds.length := by omega
  rw [ix_l hm' (List.getElem?_eq_getElem hi) (by omega)]
  exact ⟨List.getElem_mem hi, g, q⟩
end Lw
end
section
set_option linter.all false
set_option maxRecDepth 100000
set_option maxHeartbeats 2000000
/-! V5: the layer's functions at cells, lists, dicts of cells; sorted; comprehensions. -/
namespace SX
open PySem L2 Tie
section
variable {S : Sto} {n m : Nat} {xs ys : List D} {α : Type} {f : α → D} {l : List (Cell × α)} {c : Cell}
theorem in_d (h : dctW S n = some (cKv f l)) : gInA (cD c) (.ref n) S = .ok (.bl (look l c).isSome) S := by
  unfold gInA
  simp only
  rw [dctW_at h]
  simp only
  rw [if_pos (cls_cell cKv_keys c), val_cKv, Option.isSome_map]
theorem notin_d (h : dctW S n = some (cKv f l)) : gNotInA (cD c) (.ref n) S = .ok (.bl (!(look l c).isSome)) S := by
  unfold gNotInA
  simp only
  rw [dctW_at h]
  simp only
  rw [if_pos (cls_cell cKv_keys c), val_cKv, Option.isSome_map]
theorem ix_d {a : α} (h : dctW S n = some (cKv f l)) (e : look l c = some a) : gIxA (.ref n) (cD c) S = .ok (f a) S := ix_of h (cls_cell cKv_keys c) (by rw [val_cKv, e]; rfl)
theorem cKv_len : (cKv f l).length = l.length := List.length_map _
theorem set_d {a : α} (h : dctW S n = some (cKv f l)) (hl : l.length < sizeLine) : gSetIxA (.ref n) (cD c) (f a) S = some (S.set n (.dct (cKv f (put l c a)))) := by
  rw [set_of h (cls_cell cKv_keys c) (by rw [cKv_len]; exact hl), put_cKv]
theorem get_d (h : dctW S n = some (cKv f l)) : gDGet (.ref n) [cD c] S = .ok (((look l c).map f).getD .non) S := by
  unfold gDGet
  simp only
  rw [dctW_at h]
  simp only
  rw [if_pos (cls_cell cKv_keys c), val_cKv]
theorem get_d2 {z : D} (h : dctW S n = some (cKv f l)) : gDGet (.ref n) [cD c, z] S = .ok (((look l c).map f).getD z) S := by
  unfold gDGet
  simp only
  rw [dctW_at h]
  simp only
  rw [if_pos (cls_cell cKv_keys c), val_cKv]
theorem pop_d {a : α} (h : dctW S n = some (cKv f l)) (e : look l c = some a) : gDPop (.ref n) [cD c] S = .ok (f a) (S.set n (.dct (cKv f (del l c)))) := by
  unfold gDPop
  simp only
  rw [h]
  simp only
  rw [if_pos (cls_cell cKv_keys c), val_cKv, e, del_cKv]
  rfl
theorem list_d (h : dctW S n = some (cKv f l)) : gListA [.ref n] S = .ok (.ref S.length) (S ++ [.lst ((l.map (·.1)).map cD)]) := by
  unfold gListA
  simp only
  rw [dctW_at h]
  simp only
  unfold cKv
  rw [List.map_map, List.map_map]
  rfl
theorem list_l (h : lstAt S n = some xs) : gListA [.ref n] S = .ok (.ref S.length) (S ++ [.lst xs]) := by
  unfold gListA
  simp only
  rw [(lst_noD h).1]
  simp only
  unfold gList
  simp only
  rw [h]
theorem list_t : gListA [.tup xs] S = .ok (.ref S.length) (S ++ [.lst xs]) := rfl
theorem app_l {y : D} (h : lstAt S n = some xs) (hl : xs.length < sizeLine) : gAppend (.ref n) [y] S = .ok .non (S.set n (.lst (xs ++ [y]))) := by
  unfold gAppend
  simp only
  rw [h]
  simp only
  rw [if_pos hl]
theorem cat_l (h : lstAt S n = some xs) (k : lstAt S m = some ys) (hl : xs.length + ys.length ≤ sizeLine) : gAdd (.ref n) (.ref m) S = .ok (.ref S.length) (S ++ [.lst (xs ++ ys)]) := by
  unfold gAdd
  simp only
  rw [lstAt_eq h, lstAt_eq k]
  simp only
  rw [if_pos hl]
theorem tup_l (h : lstAt S n = some xs) : gTuple [.ref n] S = .ok (.tup xs) S := by
  unfold gTuple
  simp only
  rw [h]
theorem itm_l (h : lstAt S n = some xs) : itmOf S (.ref n) = some ⟨xs, fun S' => decide (lstAt S' n = some xs)⟩ := by
  show (lstAt S n).map _ = _
  rw [h]
  rfl
theorem itm_t : itmOf S (.tup xs) = some ⟨xs, fun _ => true⟩ := rfl
theorem ne_nil_l (h : lstAt S n = some xs) (hx : ∀ x ∈ xs, Pl 3 x) : gNe (.ref n) (.ref S.length) (S ++ [.lst []]) = .ok (.bl (!decide (xs = []))) (S ++ [.lst []]) := gNe_lst (n := 3) (m := 3) ((Grow.app _ : Grow none S _).lst h fun z => nomatch z) lst_new hx (fun _ z => nomatch z) (by omega) (by omega)
theorem eq_nil_l (h : lstAt S n = some xs) (hx : ∀ x ∈ xs, Pl 3 x) : gEq (.ref n) (.ref S.length) (S ++ [.lst []]) = .ok (.bl (decide (xs = []))) (S ++ [.lst []]) := gEq_lst (n := 3) (m := 3) ((Grow.app _ : Grow none S _).lst h fun z => nomatch z) lst_new hx (fun _ z => nomatch z) (by omega) (by omega)
theorem eq_c {a b : Cell} : gEq (cD a) (cD b) S = .ok (.bl (decide (a = b))) S := by rw [gEq_pl (pl_cell a) (pl_cell b) (by omega) (by omega), cD_eq]
theorem ne_c {a b : Cell} : gNe (cD a) (cD b) S = .ok (.bl (!decide (a = b))) S := by rw [gNe_pl (pl_cell a) (pl_cell b) (by omega) (by omega), cD_eq]
theorem ix_c0 : gIxA (cD c) (.int 0) S = .ok (.int c.1) S := rfl
theorem ix_c1 : gIxA (cD c) (.int 1) S = .ok (.int c.2) S := rfl
theorem in_l (h : lstAt S n = some xs) {y : D} (hy : Pl 3 y) (hx : ∀ x ∈ xs, Pl 3 x) : gInA y (.ref n) S = .ok (.bl (decide (y ∈ xs))) S := by
  unfold gInA
  simp only
  rw [(lst_noD h).1]
  simp only
  unfold gIn
  rw [inDD_lst h hy hx (by omega) (by omega)]
theorem in_lc {cs : List Cell} (h : lstAt S n = some (cs.map cD)) : gInA (cD c) (.ref n) S = .ok (.bl (decide (c ∈ cs))) S := by
  rw [in_l h ((pl_cell c).mono (by omega)) fun x hx => (pl_cells x hx).mono (by omega)]
  congr 2
  by_cases e : c ∈ cs
  · rw [decide_eq_true e, decide_eq_true (cD_mem.mpr e)]
  · rw [decide_eq_false e, decide_eq_false fun z => e (cD_mem.mp z)]
end

/-! ### sorted -/
structure SK {α : Type} (f : α → D) (e : α → PyData) : Prop where
  py : ∀ S a, toPy S 4 (f a) = some (e a)
  dp : ∀ a, (e a).depth ≤ 32
  al : ∀ a b, PySem.W.alike (e a) (e b) = true
  kd : (∀ a, isTupNE (e a) = true) ∨ ∀ a, isTN (e a) = false
def srtBy {α : Type} (e : α → PyData) (l : List α) : List α := l.mergeSort (PySem.W.dataLe false e)
theorem srtBy_perm {α : Type} (e : α → PyData) (l : List α) : (srtBy e l).Perm l := List.mergeSort_perm _ _
section
variable {α : Type} {f : α → D} {e : α → PyData} {S : Sto} {l : List α} {n : Nat}
theorem SK.enc (k : SK f e) (a : α) : encD S (f a) = e a := by unfold encD; rw [k.py]; rfl
theorem SK.ok (k : SK f e) : sortOk S (l.map f) = true := by
  unfold sortOk
  rw [Bool.and_eq_true, Bool.and_eq_true, Bool.or_eq_true]
  simp only [List.all_map, List.all_eq_true, Function.comp_apply, k.enc, k.py]
  refine ⟨⟨fun a _ => ?_, fun a _ b _ => k.al a b⟩, ?_⟩
  · rw [decide_eq_true (k.dp a)]; rfl
  · rcases k.kd with h | h
    · exact .inl fun a _ => h a
    · exact .inr fun a _ => by rw [h]; rfl
theorem SK.srt (k : SK f e) : srtD S (l.map f) = (srtBy e l).map f := by
  unfold srtD srtBy
  refine (List.map_mergeSort fun a _ b _ => ?_).symm
  show PySem.W.dataLe false e a b = PySem.W.dataLe false (encD S) (f a) (f b)
  simp only [PySem.W.dataLe, PySem.W.sortLe, k.enc]
theorem sorted_l (k : SK f e) (h : lstAt S n = some (l.map f)) : gSortedA [.ref n] S = .ok (.ref S.length) (S ++ [.lst ((srtBy e l).map f)]) := by
  unfold gSortedA
  simp only
  rw [(lst_noD h).2.2]
  simp only
  unfold gSorted
  simp only
  unfold itemsD
  simp only
  rw [lstAt_eq h]
  simp only
  rw [if_pos k.ok, k.srt]
theorem sorted_t (k : SK f e) : gSortedA [.tup (l.map f)] S = .ok (.ref S.length) (S ++ [.lst ((srtBy e l).map f)]) := by
  show (if sortOk S (l.map f) = true then Out.ok (D.ref S.length) (S ++ [.lst (srtD S (l.map f))]) else .err) = _
  rw [if_pos k.ok, k.srt]
end
def eC (c : Cell) : PyData := .tuple [.int c.1, .int c.2]
def eI (i : Int) : PyData := .int i
def eP (p : Cell × Cell) : PyData := .tuple [eC p.1, eC p.2]
def pD (p : Cell × Cell) : D := .tup [cD p.1, cD p.2]
theorem sk_c : SK cD eC := ⟨fun S a => by
  obtain ⟨p, h1, _, _, h4⟩ := (pl_cell a).py
  rw [h4]; rw [← h1]; rfl, fun a => by simp [eC, PyData.depth, PyData.depthAll], fun a b => rfl, .inl fun a => rfl⟩
theorem sk_i : SK D.int eI := ⟨fun S a => rfl, fun a => by simp [eI, PyData.depth], fun a b => rfl, .inr fun a => rfl⟩
theorem pl_pair (p : Cell × Cell) : Pl 2 (pD p) := .tup fun d hd => by
  simp only [List.mem_cons, List.not_mem_nil, or_false] at hd
  rcases hd with rfl | rfl <;> exact pl_cell _
theorem sk_p : SK pD eP := ⟨fun S a => by
  obtain ⟨p, h1, _, _, h4⟩ := (pl_pair a).py
  rw [h4]; rw [← h1]; rfl, fun a => by simp [eP, eC, PyData.depth, PyData.depthAll], fun a b => rfl, .inl fun a => rfl⟩
/-- the cells ascending -/
abbrev srtC (l : List Cell) : List Cell := srtBy eC l
theorem srtC_perm {k l : List Cell} (p : k.Perm l) : srtC k = srtC l := by
  have e : (srtC k).map cD = (srtC l).map cD := by
    rw [← sk_c.srt (S := []), ← sk_c.srt (S := []), cDs_tup, cDs_tup]
    exact srt_perm [] (p.map _)
  exact List.map_inj_right (fun a b h => cD_inj h) |>.mp e
theorem srtI_sorted {l : List Int} (h : l.Pairwise (· ≤ ·)) : srtBy eI l = l := by
  unfold srtBy
  refine List.mergeSort_of_pairwise (h.imp fun {a b} hab => ?_)
  rw [show eI = fun b : Int => PyData.int (id b) from rfl, PySem.W.dataLe_int]
  exact decide_eq_true hab
theorem srtI_perm {k l : List Int} (p : k.Perm l) : srtBy eI k = srtBy eI l := by
  unfold srtBy
  rw [show eI = fun b : Int => PyData.int (id b) from rfl, PySem.W.dataLe_int]
  refine List.Perm.eq_of_pairwise (le := fun a b => decide (id a ≤ id b) = true) (fun a b _ _ h1 h2 => Int.le_antisymm (of_decide_eq_true h1) (of_decide_eq_true h2)) (List.pairwise_mergeSort (fun a b c h1 h2 => ?_) (fun a b => ?_) _) (List.pairwise_mergeSort (fun a b c h1 h2 => ?_) (fun a b => ?_) _) ((List.mergeSort_perm _ _).trans (p.trans (List.mergeSort_perm _ _).symm))
  · exact decide_eq_true (Int.le_trans (of_decide_eq_true h1) (of_decide_eq_true h2))
  · rw [Bool.or_eq_true]; exact (Int.le_total a b).elim (fun z => .inl (decide_eq_true z)) fun z => .inr (decide_eq_true z)
  · exact decide_eq_true (Int.le_trans (of_decide_eq_true h1) (of_decide_eq_true h2))
  · rw [Bool.or_eq_true]; exact (Int.le_total a b).elim (fun z => .inl (decide_eq_true z)) fun z => .inr (decide_eq_true z)

/-! ### comprehensions over plain items -/
section
variable {α : Type} {enc : α → D} {ρ : Env} {i n : Nat} {S S0 : Sto} {m : Itm} {vs : List Nat}
/-- a list comprehension: each item filtered by q, told by f -/
theorem ok_lcGo {g : SG} {tt : SB} {te : SE} {chk : Sto → Bool} {ρ0 : Env} {up : α → Env} {P : Unit → Sto → Prop} (q : α → Bool) (f : α → D) (hn : S0.length = n) (l0 : List α)
    (hg : ∀ a S2, a ∈ l0 → g (enc a) ρ0 S2 = some (up a, S2)) (hc : ∀ S2, Grow none S0 S2 → chk S2 = true) (hz : l0.length ≤ sizeLine)
    (ht : ∀ a S2, a ∈ l0 → Grow none S0 S2 → Ok (tt (up a) S2) fun b S3 => b = q a ∧ Grow none S2 S3)
    (he : ∀ a S2, a ∈ l0 → q a = true → Grow none S0 S2 → Ok (te (up a) S2) fun d S3 => d = f a ∧ Grow none S2 S3)
    (fin : ∀ S2, Grow none S0 S2 → lstAt S2 n = some ((l0.filter q).map f) → P () S2) : Ok (sCmGo g tt (sStepL te) chk n ρ0 (l0.map enc) (S0 ++ [.lst []])) P := by
  refine ok_cmGo (fun ds S2 => ∃ dn td, l0 = dn ++ td ∧ ds = td.map enc ∧ Grow none S0 S2 ∧ lstAt S2 n = some ((dn.filter q).map f)) (fun ds S2 ⟨_, _, _, _, h, _⟩ => hc S2 h) ?_ ?_ _ _ ⟨[], l0, rfl, rfl, Grow.app _, by rw [← hn]; exact lst_new⟩
  · rintro S2 ⟨dn, td, e1, e2, g2, h2⟩
    have : td = [] := List.map_eq_nil_iff.mp e2.symm
    subst this
    rw [List.append_nil] at e1
    subst e1
    exact fin S2 g2 h2
  · rintro d ds S2 ⟨dn, td, e1, e2, g2, h2⟩
    cases td with
    | nil => cases e2
    | cons a td =>
      rw [List.map_cons] at e2
      injection e2 with e3 e4
      subst e3 e4
      have ha : a ∈ l0 := by rw [e1]; simp
      refine ⟨_, _, hg a S2 ha, (ht a S2 ha g2).imp fun b S3 ⟨eb, g3⟩ => ?_⟩
      subst eb
      have l3 := g3.lst h2 (fun z => nomatch z)
      by_cases hq : q a = true
      · rw [if_pos hq, ok_stepL]
        refine (he a S3 ha hq (g2.trans g3)).imp fun y S4 ⟨ey, g4⟩ => ?_
        subst ey
        have l4 := g4.lst l3 (fun z => nomatch z)
        refine ⟨_, l4, ?_, dn ++ [a], td, by rw [e1]; simp, rfl, ((g2.trans g3).trans g4).set (.inl (by omega)), ?_⟩
        · rw [List.length_map]
          have := List.length_filter_le q dn
          have h3 : dn.length < l0.length := by rw [e1]; simp
          omega
        · rw [lst_set (lst_lt l4), List.filter_append, List.map_append]
          simp [hq]
      · rw [if_neg hq]
        exact ⟨dn ++ [a], td, by rw [e1]; simp, rfl, g2.trans g3, by rw [l3, List.filter_append]; simp [hq]⟩
theorem ok_lc {it : SI} {g : SG} {tt : SB} {te : SE} {P : D → Sto → Prop} : Ok (sLc it g tt te vs ρ S) P = Ok (it ρ S) fun m S1 => Ok (sCmGo g tt (sStepL te) m.chk S1.length (wipeE ρ vs) m.items (S1 ++ [.lst []])) fun _ S2 => P (.ref S1.length) S2 := ok_cm
theorem ok_yes {P : Bool → Sto → Prop} : Ok (sYes ρ S) P = P true S := rfl
theorem ok_rg1 {gs : SA} {P : Itm → Sto → Prop} : Ok (iRg1 gs ρ S) P = Ok (gs ρ S) fun ds S1 => ∃ j, ds = [.int j] ∧ smallR j = true ∧ P ⟨rngList 0 j.toNat, fun _ => true⟩ S1 := by
  unfold iRg1
  rw [ok_bind]; congr 1; funext ds S1
  split
  · rename_i j
    by_cases h : smallR j = true
    · rw [if_pos h]; exact propext ⟨fun z => ⟨j, rfl, h, z⟩, fun ⟨_, e, _, z⟩ => by cases e; exact z⟩
    · rw [if_neg h]; exact propext ⟨fun z => z.elim, fun ⟨_, e, h2, _⟩ => by cases e; exact h h2⟩
  · rename_i h
    exact propext ⟨fun z => z.elim, fun ⟨j, e, _⟩ => h j e⟩
theorem ok_rg2 {gs : SA} {P : Itm → Sto → Prop} : Ok (iRg2 gs ρ S) P = Ok (gs ρ S) fun ds S1 => ∃ i j, ds = [.int i, .int j] ∧ (smallR i = true ∧ smallR j = true) ∧ P ⟨rngList i (j - i).toNat, fun _ => true⟩ S1 := by
  unfold iRg2
  rw [ok_bind]; congr 1; funext ds S1
  split
  · rename_i i j
    by_cases h : smallR i = true ∧ smallR j = true
    · rw [if_pos h]; exact propext ⟨fun z => ⟨i, j, rfl, h, z⟩, fun ⟨_, _, e, _, z⟩ => by cases e; exact z⟩
    · rw [if_neg h]; exact propext ⟨fun z => z.elim, fun ⟨_, _, e, h2, _⟩ => by cases e; exact h h2⟩
  · rename_i h
    exact propext ⟨fun z => z.elim, fun ⟨i, j, e, _⟩ => h i j e⟩
theorem ok_enm {gs : SA} {P : Itm → Sto → Prop} : Ok (iEnm gs ρ S) P = Ok (gs ρ S) fun ds S1 => ∃ n xs, ds = [.ref n] ∧ lstAt S1 n = some xs ∧ P ⟨enmList xs, fun S' => decide (lstAt S' n = some xs)⟩ S1 := by
  unfold iEnm
  rw [ok_bind]; congr 1; funext ds S1
  split
  · rename_i n
    split
    · rename_i xs h
      exact propext ⟨fun z => ⟨n, xs, rfl, h, z⟩, fun ⟨_, _, e, h2, z⟩ => by cases e; rw [h] at h2; cases h2; exact z⟩
    · rename_i h
      exact propext ⟨fun z => z.elim, fun ⟨_, _, e, h2, z⟩ => by cases e; rw [h] at h2; cases h2⟩
  · rename_i h
    exact propext ⟨fun z => z.elim, fun ⟨n, _, e, _⟩ => h n e⟩
theorem small_r {j : Int} (h : 0 ≤ j ∧ j < 1000000000) : smallR j = true := decide_eq_true (by omega)
end
end SX
end
section
set_option linter.all false
set_option maxRecDepth 100000
set_option maxHeartbeats 2000000
/-! V6: walks; squares; the parts that hang together. -/
open SX in
local macro_rules | `(tactic| walk_at "ev") => `(tactic| simp only [startE, List.map_cons, List.map_nil, List.length_cons, List.length_nil, List.cons_append, List.nil_append, Nat.reduceAdd, Nat.reduceSub, List.replicate_succ, List.replicate_zero, wp_seq, wp_skip, wp_break, wp_cont, wp_ret, wp_retN, wp_expr, wp_asgN, wp_asgS, wp_if, wp_par, wp_par3, wp_never, ok_v, ok_c, ok_op2, ok_op1, ok_bool, ok_tru, ok_and, ok_or, ok_not, ok_andV, ok_orV, ok_notV, ok_if, ok_nil, ok_cons, ok_tup, ok_lst, ok_call, ok_callF, ok_meth, ok_dm, ok_dnew, ok_sl, ok_partN, ok_partS, ok_seqI, List.getElem?_cons_zero, List.getElem?_cons_succ, List.set_cons_zero, List.set_cons_succ])
namespace SX
open PySem L2 Tie
def Walk (T : Sto → Prop) (x : D) (xs : List D) : Prop := ∃ m : Itm, (∀ S', T S' → itmOf S' x = some m ∧ m.chk S' = true) ∧ m.items = xs
theorem Walk.tup {T : Sto → Prop} {xs : List D} : Walk T (.tup xs) xs := ⟨_, fun _ _ => ⟨rfl, rfl⟩, rfl⟩
theorem Walk.lst {S : Sto} {n : Nat} {xs : List D} (h : lstAt S n = some xs) : Walk (Grow none S) (.ref n) xs := ⟨_, fun S' g => ⟨itm_l (g.lst h fun z => nomatch z), decide_eq_true (g.lst h fun z => nomatch z)⟩, rfl⟩
theorem Walk.at_ {n : Nat} {xs : List D} : Walk (fun S' => lstAt S' n = some xs) (.ref n) xs := ⟨_, fun S' h => ⟨itm_l h, decide_eq_true h⟩, rfl⟩
theorem Walk.grow {S S' : Sto} {x : D} {xs : List D} (h : Walk (Grow none S) x xs) (g : Grow none S S') : Walk (Grow none S') x xs := by
  obtain ⟨m, h, e⟩ := h
  exact ⟨m, fun S2 g2 => h S2 (g.trans g2), e⟩
section
variable {α : Type} {enc : α → D} {g : SG} {b : SS} {chk : Sto → Bool} {N B C : Env → Sto → Prop} {R : D → Sto → Prop}
theorem wp_walk (I : List α → Env → Sto → Prop) : ∀ (td dn : List α) (ρ : Env) (S : Sto), (hc : ∀ dn ρ S, I dn ρ S → chk S = true) → (fin : ∀ ρ S, I (dn ++ td) ρ S → N ρ S) →
    (step : ∀ d2 a t2 ρ S, dn ++ td = d2 ++ a :: t2 → I d2 ρ S → ∃ ρ1 S1, g (enc a) ρ S = some (ρ1, S1) ∧ Wp (b ρ1 S1) (I (d2 ++ [a])) R N (I (d2 ++ [a]))) → I dn ρ S → Wp (sForGo g b chk (td.map enc) ρ S) N R B C
  | [], dn, ρ, S, hc, fin, step, h => by
    unfold sForGo
    rw [List.map_nil]
    simp only
    rw [if_pos (hc _ _ _ h)]
    exact fin _ _ (by rw [List.append_nil]; exact h)
  | a :: td, dn, ρ, S, hc, fin, step, h => by
    rw [List.map_cons]
    unfold sForGo
    rw [if_pos (hc _ _ _ h)]
    obtain ⟨ρ1, S1, e, w⟩ := step dn a td ρ S rfl h
    rw [e]
    simp only
    have e3 : dn ++ a :: td = (dn ++ [a]) ++ td := by simp
    cases e2 : b ρ1 S1 with
    | nx ρ' S' => rw [e2] at w; exact wp_walk I td (dn ++ [a]) ρ' S' hc (by rw [← e3]; exact fin) (by rw [← e3]; exact step) w
    | ct ρ' S' => rw [e2] at w; exact wp_walk I td (dn ++ [a]) ρ' S' hc (by rw [← e3]; exact fin) (by rw [← e3]; exact step) w
    | bk ρ' S' => rw [e2] at w; exact w
    | rt d S' => rw [e2] at w; exact w
    | exc _ _ _ => rw [e2] at w; exact w.elim
    | err => rw [e2] at w; exact w.elim
/-- for a in a list or tuple -/
theorem wp_each {f : SE} {ρ : Env} {S : Sto} (enc : α → D) (T : Sto → Prop) (xs : List α) (I : List α → Env → Sto → Prop) {x : D} (hx : f ρ S = .ok x S) (hw : Walk T x (xs.map enc)) (gr : ∀ dn ρ1 S1, I dn ρ1 S1 → T S1) (fin : ∀ ρ S, I xs ρ S → N ρ S)
    (step : ∀ dn a td ρ S, xs = dn ++ a :: td → I dn ρ S → ∃ ρ1 S1, g (enc a) ρ S = some (ρ1, S1) ∧ Wp (b ρ1 S1) (I (dn ++ [a])) R N (I (dn ++ [a]))) (start : I [] ρ S) : Wp (sFor (iSeq f) g b ρ S) N R B C := by
  obtain ⟨m, hm, hi⟩ := hw
  rw [wp_for, ok_seqI, hx, ok_ok, (hm S (gr _ _ _ start)).1]
  simp only
  rw [hi]
  exact wp_walk I xs [] ρ S (fun dn ρ1 S1 h => (hm S1 (gr _ _ _ h)).2) fin step start
theorem wp_each2 {f : SE} {ρ : Env} {S : Sto} (enc : α → D) (h : Ok (f ρ S) fun x S1 => ∃ (T : Sto → Prop) (xs : List α) (I : List α → Env → Sto → Prop), Walk T x (xs.map enc) ∧ (∀ dn ρ1 S1, I dn ρ1 S1 → T S1) ∧ (∀ ρ S, I xs ρ S → N ρ S) ∧
    (∀ dn a td ρ S, xs = dn ++ a :: td → I dn ρ S → ∃ ρ1 S1, g (enc a) ρ S = some (ρ1, S1) ∧ Wp (b ρ1 S1) (I (dn ++ [a])) R N (I (dn ++ [a]))) ∧ I [] ρ S1) : Wp (sFor (iSeq f) g b ρ S) N R B C := by
  rw [wp_for, ok_seqI]
  refine h.imp fun x S1 ⟨T, xs, I, ⟨m, hm, hi⟩, gr, fin, step, st0⟩ => ?_
  rw [(hm S1 (gr _ _ _ st0)).1]
  simp only
  rw [hi]
  exact wp_walk I xs [] ρ S1 (fun dn ρ1 S1 h => (hm S1 (gr _ _ _ h)).2) fin step st0
/-- for i in range(n) -/
theorem wp_rng {gs : SA} {ρ : Env} {S : Sto} (n : Nat) (I : Nat → Env → Sto → Prop) (hx : Ok (gs ρ S) fun ds S1 => ds = [.int n] ∧ I 0 ρ S1) (hn : n < 1000000000) (fin : ∀ ρ S, I n ρ S → N ρ S)
    (step : ∀ k ρ S, k < n → I k ρ S → ∃ ρ1 S1, g (.int k) ρ S = some (ρ1, S1) ∧ Wp (b ρ1 S1) (I (k + 1)) R N (I (k + 1))) : Wp (sFor (iRg1 gs) g b ρ S) N R B C := by
  rw [wp_for, ok_rg1]
  refine hx.imp fun ds S ⟨e, st0⟩ => ?_
  subst e
  refine ⟨n, rfl, small_r ⟨by omega, by omega⟩, ?_⟩
  rw [Int.toNat_natCast]
  unfold rngList
  refine wp_walk (fun dn => I dn.length) (List.range n) [] ρ S (fun _ _ _ _ => rfl) (by rw [List.nil_append, List.length_range]; exact fin) ?_ st0
  intro d2 a t2 ρ1 S1 e h
  rw [List.nil_append] at e
  have e1 : (List.range n)[d2.length]? = some a := by rw [e]; simp
  have hl : d2.length < n := by
    have := (List.getElem?_eq_some_iff.mp e1).1
    rwa [List.length_range] at this
  rw [List.getElem?_range hl] at e1
  have ea : d2.length = a := Option.some.inj e1
  have := step _ _ _ hl h
  rw [ea] at this
  rw [Int.zero_add, List.length_append, List.length_singleton, ea]
  exact this
/-! squares -/
def uD : Unit → D := fun _ => .bl true
def sq (cs : List Cell) : List (Cell × Unit) := cs.map fun c => (c, ())
theorem sq_keys {cs : List Cell} : (sq cs).map (·.1) = cs := by
  unfold sq
  rw [List.map_map]
  exact List.map_id cs
theorem sq_look {cs : List Cell} {c : Cell} : (look (sq cs) c).isSome = decide (c ∈ cs) := by rw [look_isSome, sq_keys]
theorem put_new {l : List (Cell × α)} {c : Cell} {a : α} (h : c ∉ l.map (·.1)) : put l c a = l ++ [(c, a)] := by
  unfold put
  rw [if_neg]
  intro z
  obtain ⟨p, hp, e⟩ := List.any_eq_true.mp z
  exact h (List.mem_map.mpr ⟨p, hp, of_decide_eq_true e⟩)
theorem put_len {l : List (Cell × α)} {c : Cell} {a : α} : (put l c a).length ≤ l.length + 1 := by
  unfold put
  split
  · rw [List.length_map]; omega
  · simp
theorem del_keys {l : List (Cell × α)} {c : Cell} : (del l c).map (·.1) = (l.map (·.1)).filter fun x => decide (x ≠ c) := by
  unfold del
  rw [List.filter_map]
  rfl
theorem small_sz {n : Nat} (h : n < 100000) : n < sizeLine := by rw [sizeLine_eq]; omega
end
end SX
namespace Lw
open PySem L2 SX Tie
variable {ga : PySem.Str → Nat} {S : Sto}
theorem squares_ok {x : D} {cs : List Cell} (hw : Walk (Grow none S) x (cs.map cD)) (nd : cs.Nodup) (hl : cs.length < 1000) : Ok (F__law_t2_squares ga [x] S) fun d S' => d = .ref S.length ∧ Grow none S S' ∧ dctW S' S.length = some (cKv uD (sq cs)) := by
  unfold F__law_t2_squares
  refine ok_runB ?_
  unfold b__law_t2_squares
  refine wp_cut (fun ρ S1 => ρ = [some x, some (.ref S.length), none] ∧ S1 = S ++ [.dct []]) ?_ ?_
  · walk_at "ev"
    exact ⟨by first | trivial | rfl, by first | trivial | rfl⟩
  rintro ρ S1 ⟨rfl, rfl⟩
  have hp : S.length < (S ++ [SO.dct []]).length := by simp
  refine wp_cut (fun ρ S1 => ∃ c2, ρ = [some x, some (.ref S.length), c2] ∧ Grow none S S1 ∧ dctW S1 S.length = some (cKv uD (sq cs))) ?_ ?_
  · refine wp_each cD (Grow none S) cs (fun dn ρ S1 => ∃ c2, ρ = [some x, some (.ref S.length), c2] ∧ Grow none S S1 ∧ dctW S1 S.length = some (cKv uD (sq dn))) rfl hw (fun _ _ _ ⟨_, _, g, _⟩ => g) (fun _ _ h => h) ?_ ⟨none, rfl, Grow.app _, dct_new⟩
    rintro dn a td ρ S1 e ⟨c2, rfl, g1, d1⟩
    refine ⟨_, _, rfl, ?_⟩
    walk_at "ev"
    have hn : a ∉ (sq dn).map (·.1) := by
      rw [sq_keys]
      intro z
      rw [e] at nd
      exact (List.nodup_append.mp nd).2.2 a z a List.mem_cons_self rfl
    have hs : (sq dn).length < sizeLine := by
      refine small_sz ?_
      unfold sq
      rw [List.length_map]
      have : cs.length = dn.length + (td.length + 1) := by rw [e]; simp
      omega
    refine ⟨_, set_d (f := uD) (a := ()) d1 hs, _, rfl, g1.set (.inl (Nat.le_refl _)), ?_⟩
    rw [put_new hn, dct_set (dct_lt d1)]
    unfold sq
    rw [List.map_append]
    rfl
  rintro ρ S1 ⟨c2, rfl, g, h⟩
  walk_at "ev"
  exact ⟨by first | trivial | rfl, g, h⟩
end Lw
namespace Tie
theorem nodup_len {α : Type} [DecidableEq α] : ∀ {l m : List α}, l.Nodup → (∀ x ∈ l, x ∈ m) → l.length ≤ m.length
  | [], m, _, _ => Nat.zero_le _
  | a :: l, m, nd, h => by
    have nd' := List.nodup_cons.mp nd
    have ha : a ∈ m := h a List.mem_cons_self
    have := nodup_len (m := m.erase a) nd'.2 fun x hx => (List.mem_erase_of_ne fun e : x = a => nd'.1 (e ▸ hx)).mpr (h x (List.mem_cons_of_mem _ hx))
    rw [List.length_erase_of_mem ha] at this
    have hp := List.length_pos_of_mem ha
    rw [List.length_cons]
    omega
/-- the walk from a over A: k cells of pt looked at, L is left -/
structure BF (A : List Cell) (a : Cell) (k : Nat) (pt L : List Cell) : Prop where
  nd : pt.Nodup
  all : ∀ c, c ∈ A ↔ c ∈ pt ∨ c ∈ L
  out : ∀ c ∈ pt, c ∉ L
  rch : ∀ c ∈ pt, Rch (fun c => c ∈ A) a c
  root : a ∈ pt
  le : k ≤ pt.length
  seen : ∀ i c, i < k → pt[i]? = some c → ∀ y ∈ bes c, y ∉ L
section
variable {A pt L : List Cell} {a c y : Cell} {k : Nat}
theorem BF.start (h : a ∈ A) : BF A a 0 [a] (A.filter fun x => decide (x ≠ a)) where
  nd := by simp
  all := fun c => by
    rw [List.mem_singleton, List.mem_filter]
    by_cases e : c = a
    · subst e; exact ⟨fun _ => .inl rfl, fun _ => h⟩
    · exact ⟨fun z => .inr ⟨z, decide_eq_true e⟩, fun z => z.elim (fun q => absurd q e) fun q => q.1⟩
  out := fun c hc z => by
    rw [List.mem_singleton] at hc
    exact (of_decide_eq_true (List.mem_filter.mp z).2) hc
  rch := fun c hc => by rw [List.mem_singleton] at hc; subst hc; exact .refl h
  root := List.mem_singleton.mpr rfl
  le := Nat.zero_le _
  seen := fun i c hi => absurd hi (Nat.not_lt_zero _)
theorem BF.pop (h : BF A a k pt L) (hk : pt[k]? = some c) (hy : y ∈ bes c) (hL : y ∈ L) : BF A a k (pt ++ [y]) (L.filter fun x => decide (x ≠ y)) where
  nd := by
    rw [List.nodup_append]
    refine ⟨h.nd, by simp, fun x hx z hz e => ?_⟩
    rw [List.mem_singleton] at hz
    rw [e, hz] at hx
    exact h.out y hx hL
  all := fun x => by
    rw [h.all, List.mem_append, List.mem_singleton, List.mem_filter]
    by_cases e : x = y
    · subst e; exact ⟨fun _ => .inl (.inr rfl), fun _ => .inr hL⟩
    · exact ⟨fun z => z.elim (fun q => .inl (.inl q)) fun q => .inr ⟨q, decide_eq_true e⟩, fun z => z.elim (fun q => q.elim .inl fun q => absurd q e) fun q => .inr q.1⟩
  out := fun x hx z => by
    rw [List.mem_filter] at z
    rcases List.mem_append.mp hx with q | q
    · exact h.out x q z.1
    · exact of_decide_eq_true z.2 (List.mem_singleton.mp q)
  rch := fun x hx => by
    rcases List.mem_append.mp hx with q | q
    · exact h.rch x q
    · rw [List.mem_singleton] at q
      subst q
      exact .step (h.rch c (List.mem_of_getElem? hk)) hy ((h.all x).mpr (.inr hL))
  root := List.mem_append_left _ h.root
  le := by rw [List.length_append]; have := h.le; omega
  seen := fun i x hi hx z hz q => by
    have hl : i < pt.length := Nat.lt_of_lt_of_le hi h.le
    rw [List.getElem?_append_left hl] at hx
    exact h.seen i x hi hx z hz (List.mem_filter.mp q).1
theorem BF.next (h : BF A a k pt L) (hk : pt[k]? = some c) (hn : ∀ y ∈ bes c, y ∉ L) : BF A a (k + 1) pt L where
  nd := h.nd
  all := h.all
  out := h.out
  rch := h.rch
  root := h.root
  le := (List.getElem?_eq_some_iff.mp hk).1
  seen := fun i x hi hx => by
    by_cases e : i = k
    · subst e
      rw [hk] at hx
      cases hx
      exact hn
    · exact h.seen i x (by omega) hx
theorem BF.done (h : BF A a k pt L) (e : k = pt.length) (x : Cell) : x ∈ pt ↔ Rch (fun c => c ∈ A) a x := by
  refine ⟨h.rch x, fun r => ?_⟩
  refine Rch.closed (C := fun c => c ∈ pt) r h.root fun u v hu hv hA => ?_
  obtain ⟨i, hi⟩ := List.getElem?_of_mem hu
  have := h.seen i u (by rw [e]; exact (List.getElem?_eq_some_iff.mp hi).1) hi v hv
  exact ((h.all v).mp hA).resolve_right this
/-- k parts found, the keys dn looked at, L left -/
structure PI (cs dn L : List Cell) (k : Nat) : Prop where
  sub : ∀ c ∈ L, c ∈ cs ∧ c ∉ dn
  len : k ≤ dn.length
  zero : k = 0 → ∀ c, c ∈ L ↔ c ∈ cs
  one : k = 1 → ∃ r, r ∈ cs ∧ ∀ c ∈ cs, c ∉ L ↔ Rch (fun c => c ∈ cs) r c
  two : 2 ≤ k → ¬ Conn fun c => c ∈ cs
variable {cs dn : List Cell}
theorem PI.start : PI cs [] cs 0 := ⟨fun c hc => ⟨hc, fun z => nomatch z⟩, Nat.le_refl _, fun _ c => Iff.rfl, fun z => by omega, fun z => by omega⟩
theorem PI.skip (h : PI cs dn L k) (ha : a ∉ L) : PI cs (dn ++ [a]) L k := ⟨fun c hc => ⟨(h.sub c hc).1, fun z => by
  rcases List.mem_append.mp z with q | q
  · exact (h.sub c hc).2 q
  · rw [List.mem_singleton] at q; subst q; exact ha hc⟩, by rw [List.length_append]; have := h.len; omega, h.zero, h.one, h.two⟩
theorem PI.part (h : PI cs dn L k) (ha : a ∈ L) {L' : List Cell} {pt : List Cell} (hp : ∀ c, c ∈ pt ↔ Rch (fun c => c ∈ L) a c) (hall : ∀ c, c ∈ L ↔ c ∈ pt ∨ c ∈ L') (hout : ∀ c ∈ pt, c ∉ L') : PI cs (dn ++ [a]) L' (k + 1) where
  sub := fun c hc => by
    have hL := (hall c).mpr (.inr hc)
    refine ⟨(h.sub c hL).1, fun z => ?_⟩
    rcases List.mem_append.mp z with q | q
    · exact (h.sub c hL).2 q
    · rw [List.mem_singleton] at q
      subst q
      exact hout c ((hp c).mpr (.refl ha)) hc
  len := by rw [List.length_append, List.length_singleton]; have := h.len; omega
  zero := fun z => by omega
  one := fun z => by
    have h0 := h.zero (by omega)
    have e : (fun c => c ∈ L) = fun c => c ∈ cs := funext fun c => propext (h0 c)
    refine ⟨a, (h0 a).mp ha, fun c hc => ?_⟩
    rw [← e, ← hp]
    exact ⟨fun q => ((hall c).mp ((h0 c).mpr hc)).resolve_right q, fun q => hout c q⟩
  two := fun z cn => by
    by_cases e : k = 1
    · obtain ⟨r, hr, hh⟩ := h.one e
      exact (hh a (h.sub a ha).1).mpr (cn.2 r a hr (h.sub a ha).1) ha
    · exact h.two (by omega) cn
theorem PI.fin (h : PI cs dn L k) (hd : ∀ c ∈ cs, c ∈ dn) : k = 1 ↔ Conn fun c => c ∈ cs := by
  have em : ∀ c, c ∉ L := fun c hc => (h.sub c hc).2 (hd c (h.sub c hc).1)
  constructor
  · intro e
    obtain ⟨r, hr, hh⟩ := h.one e
    have to : ∀ c, c ∈ cs → Rch (fun c => c ∈ cs) r c := fun c hc => (hh c hc).mp (em c)
    exact ⟨⟨r, hr⟩, fun a b ha hb => (to a ha).symm.trans (to b hb)⟩
  · intro cn
    rcases Nat.lt_trichotomy k 1 with e | e | e
    · obtain ⟨a, ha⟩ := cn.1
      exact absurd ((h.zero (by omega) a).mpr ha) (em a)
    · exact e
    · exact absurd cn (h.two e)
end
end Tie
end
section
set_option linter.all false
set_option maxRecDepth 100000
set_option maxHeartbeats 2000000
/-! V7: parts, hangs, free. -/
open SX in
local macro_rules | `(tactic| walk_at "ev") => `(tactic| simp only [startE, List.map_cons, List.map_nil, List.length_cons, List.length_nil, List.cons_append, List.nil_append, Nat.reduceAdd, Nat.reduceSub, List.replicate_succ, List.replicate_zero, wp_seq, wp_skip, wp_break, wp_cont, wp_ret, wp_retN, wp_expr, wp_asgN, wp_asgS, wp_if, wp_par, wp_par3, wp_never, ok_v, ok_c, ok_op2, ok_op1, ok_bool, ok_tru, ok_and, ok_or, ok_not, ok_andV, ok_orV, ok_notV, ok_if, ok_nil, ok_cons, ok_tup, ok_lst, ok_call, ok_callF, ok_meth, ok_dm, ok_dnew, ok_sl, ok_partN, ok_partS, ok_seqI, List.getElem?_cons_zero, List.getElem?_cons_succ, List.set_cons_zero, List.set_cons_succ])
namespace SX
open PySem L2 Tie
theorem lst_ne {S : Sto} {n m : Nat} {xs ys : List D} (h : lstAt S n = some xs) (k : lstAt S m = some ys) (e : xs ≠ ys) : n ≠ m := fun z => by
  subst z
  rw [h] at k
  exact e (Option.some.inj k)
theorem size1 {n : Nat} (h : n < 100000) : n ≤ sizeLine := by rw [sizeLine_eq]; omega
end SX
namespace Lw
open PySem L2 SX Tie
variable {ga : PySem.Str → Nat} {S : Sto}
theorem parts_ok {n : Nat} {cs : List Cell} (h : lstAt S n = some (cs.map cD)) (nd : cs.Nodup) (hl : cs.length < 1000) : Ok (F__law_t2_parts ga [.ref n] S) fun d S' => ∃ q fs, d = .ref q ∧ Grow none S S' ∧ lstAt S' q = some fs ∧ (fs.length = 1 ↔ Conn fun c => c ∈ cs) := by
  unfold F__law_t2_parts
  refine ok_runB ?_
  unfold b__law_t2_parts
  have nS : n < S.length := lst_lt h
  refine wp_cut (fun ρ S1 => ρ = [some (.ref n), some (.ref S.length), some (.ref (S.length + 1)), none, none, none, none] ∧ Grow none S S1 ∧ dctW S1 S.length = some [] ∧ lstAt S1 (S.length + 1) = some []) ?_ ?_
  · walk_at "ev"
    refine ⟨size1 (by decide), ?_⟩
    have e : (S ++ [SO.dct []]).length = S.length + 1 := by simp
    rw [← e]
    exact ⟨by first | trivial | rfl, (Grow.app _).trans (Grow.app _), (Grow.app [SO.lst []] : Grow none (S ++ [SO.dct []]) _).dct dct_new (fun z => nomatch z), lst_new⟩
  rintro ρ S1 ⟨rfl, g1, d1, l1⟩
  generalize hp : S.length = p at *
  generalize hq : p + 1 = q at *
  refine wp_cut (fun ρ S2 => ∃ c3, ρ = [some (.ref n), some (.ref p), some (.ref q), c3, none, none, none] ∧ Grow none S S2 ∧ dctW S2 p = some (cKv uD (sq cs)) ∧ lstAt S2 q = some []) ?_ ?_
  · refine wp_each cD (Grow none S) cs (fun dn ρ S2 => ∃ c3, ρ = [some (.ref n), some (.ref p), some (.ref q), c3, none, none, none] ∧ Grow none S S2 ∧ dctW S2 p = some (cKv uD (sq dn)) ∧ lstAt S2 q = some []) rfl (Walk.lst h) (fun _ _ _ ⟨_, _, g, _⟩ => g) (fun _ _ h => h) ?_ ⟨none, rfl, g1, d1, l1⟩
    rintro dn a td ρ S2 e ⟨c3, rfl, g2, d2, l2⟩
    refine ⟨_, _, rfl, ?_⟩
    walk_at "ev"
    have hn : a ∉ (sq dn).map (·.1) := by
      rw [sq_keys]
      intro z
      rw [e] at nd
      exact (List.nodup_append.mp nd).2.2 a z a List.mem_cons_self rfl
    have hs : (sq dn).length < sizeLine := by
      refine small_sz ?_
      unfold sq
      rw [List.length_map]
      have : cs.length = dn.length + (td.length + 1) := by rw [e]; simp
      omega
    refine ⟨_, set_d (f := uD) (a := ()) d2 hs, _, rfl, g2.set (.inl (by omega)), ?_, by rw [lst_set_ne (lst_ne_dct l2 d2).symm]; exact l2⟩
    rw [put_new hn, dct_set (dct_lt d2)]
    unfold sq
    rw [List.map_append]
    rfl
  rintro ρ S2 ⟨c3, rfl, g2, d2, l2⟩
  refine wp_cut (fun ρ S3 => ∃ c3 c4 c5 c6 fs, ρ = [some (.ref n), some (.ref p), some (.ref q), c3, c4, c5, c6] ∧ Grow none S S3 ∧ lstAt S3 q = some fs ∧ (fs.length = 1 ↔ Conn fun c => c ∈ cs)) ?_ ?_
  · refine wp_each2 cD ?_
    walk_at "ev"
    rw [list_d d2]
    simp only [ok_ok]
    rw [sq_keys, sorted_l sk_c lst_new]
    simp only [ok_ok]
    have g3 : Grow none S2 ((S2 ++ [SO.lst (cs.map cD)]) ++ [SO.lst ((srtBy eC cs).map cD)]) := (Grow.app _).trans (Grow.app _)
    have d3 := g3.dct d2 (fun z => nomatch z)
    have l3 := g3.lst l2 (fun z => nomatch z)
    have lk : lstAt ((S2 ++ [SO.lst (cs.map cD)]) ++ [SO.lst ((srtBy eC cs).map cD)]) (S2 ++ [SO.lst (cs.map cD)]).length = some ((srtBy eC cs).map cD) := lst_new
    have hx : S2.length ≤ (S2 ++ [SO.lst (cs.map cD)]).length := by simp
    generalize (S2 ++ [SO.lst (cs.map cD)]).length = x at lk hx ⊢
    generalize ((S2 ++ [SO.lst (cs.map cD)]) ++ [SO.lst ((srtBy eC cs).map cD)]) = S3 at g3 d3 l3 lk ⊢
    have qS := lst_lt l2
    have pS := dct_lt d2
    have pq : p ≠ q := by omega
    have xp : x ≠ p := lst_ne_dct lk d3
    have xq : x ≠ q := by omega
    have g03 : Grow none S S3 := g2.trans g3
    refine ⟨_, srtC cs, fun dn ρ S4 => ∃ c3 c4 c5 c6 fs l, ρ = [some (.ref n), some (.ref p), some (.ref q), c3, c4, c5, c6] ∧ Grow none S S4 ∧ lstAt S4 x = some ((srtBy eC cs).map cD) ∧ lstAt S4 q = some fs ∧ dctW S4 p = some (cKv uD l) ∧ PI cs dn (l.map (·.1)) fs.length, Walk.at_, fun _ _ _ ⟨_, _, _, _, _, _, _, _, h, _⟩ => h, ?_, ?_, ⟨_, _, _, _, [], sq cs, rfl, g03, lk, l3, d3, by rw [sq_keys]; exact PI.start⟩⟩
    · rintro ρ S4 ⟨c3, c4, c5, c6, fs, l, rfl, g4, k4, l4, d4, hp4⟩
      exact ⟨c3, c4, c5, c6, fs, rfl, g4, l4, hp4.fin fun c hc => (srtBy_perm eC cs).mem_iff.mpr hc⟩
    rintro dn a td ρ S4 e ⟨c3, c4, c5, c6, fs, l, rfl, g4, k4, l4, d4, hp4⟩
    refine ⟨_, _, rfl, ?_⟩
    walk_at "ev"
    rw [in_d d4]
    simp only [ok_ok]
    by_cases ha : a ∈ l.map (·.1)
    · rw [look_isSome, decide_eq_true ha, if_pos rfl]
      generalize ht : S4.length = t
      have tq : t ≠ q := by have := lst_lt l4; omega
      have tx : t ≠ x := by have := lst_lt k4; omega
      have tp : t ≠ p := by have := dct_lt d4; omega
      have g4' : Grow none S4 (S4 ++ [SO.lst [cD a]]) := Grow.app _
      have d5 := g4'.dct d4 (fun z => nomatch z)
      have k5 := g4'.lst k4 (fun z => nomatch z)
      have l5 := g4'.lst l4 (fun z => nomatch z)
      have t5 : lstAt (S4 ++ [SO.lst [cD a]]) t = some ([a].map cD) := by rw [← ht]; exact lst_new
      have g5 : Grow none S (S4 ++ [SO.lst [cD a]]) := g4.trans g4'
      generalize S4 ++ [SO.lst [cD a]] = S5 at d5 k5 l5 t5 g5
      refine ⟨size1 (by decide), p, _, rfl, dctW_at d5, ?_⟩
      have hlk : look l a = some () := by
        have : (look l a).isSome = true := by rw [look_isSome, decide_eq_true ha]
        obtain ⟨u, hu⟩ := Option.isSome_iff_exists.mp this
        rw [hu]
      rw [pop_d d5 hlk]
      simp only [ok_ok]
      have hA : ∀ c, c ∈ l.map (·.1) → c ∈ cs := fun c hc => (hp4.sub c hc).1
      have hdn : dn.length < cs.length := by
        have := (srtBy_perm eC cs).length_eq
        rw [← this]
        show dn.length < (srtC cs).length
        rw [e]; simp
      have hbf : BF (l.map (·.1)) a 0 [a] ((del l a).map (·.1)) := by rw [del_keys]; exact BF.start ha
      have d6 : dctW (S5.set p (.dct (cKv uD (del l a)))) p = some (cKv uD (del l a)) := dct_set (dct_lt d5)
      have k6 : lstAt (S5.set p (.dct (cKv uD (del l a)))) x = some ((srtBy eC cs).map cD) := by rw [lst_set_ne xp.symm]; exact k5
      have l6 : lstAt (S5.set p (.dct (cKv uD (del l a)))) q = some fs := by rw [lst_set_ne pq]; exact l5
      have t6 : lstAt (S5.set p (.dct (cKv uD (del l a)))) t = some ([a].map cD) := by rw [lst_set_ne tp.symm]; exact t5
      have g6 : Grow none S (S5.set p (.dct (cKv uD (del l a)))) := g5.set (.inl (by omega))
      generalize S5.set p (.dct (cKv uD (del l a))) = S6 at d6 k6 l6 t6 g6 ⊢
      have hpos : S.length ≤ t := by rw [← ht]; exact g4.len
      clear d5 k5 l5 t5 g5 g4'
      have hlen : ∀ k pt L, BF (l.map (·.1)) a k pt L → pt.length ≤ cs.length := fun k pt L h => nodup_len h.nd fun z hz => hA z ((h.all z).mpr (.inl hz))
      refine Wp.imp (N := fun ρ S6 => ∃ c5 c6 pt l2, ρ = [some (.ref n), some (.ref p), some (.ref q), some (cD a), some (.ref t), c5, c6] ∧ Grow none S S6 ∧ lstAt S6 x = some ((srtBy eC cs).map cD) ∧ lstAt S6 q = some fs ∧ lstAt S6 t = some (pt.map cD) ∧ dctW S6 p = some (cKv uD l2) ∧ BF (l.map (·.1)) a pt.length pt (l2.map (·.1))) (R := fun _ _ => False) (B := fun _ _ => False) (C := fun _ _ => False) ?_ ?_ (fun _ _ z => z.elim) (fun _ _ z => z.elim) (fun _ _ z => z.elim)
      · refine wp_rng cs.length (fun k ρ S6 => ∃ c5 c6 pt l2, ρ = [some (.ref n), some (.ref p), some (.ref q), some (cD a), some (.ref t), c5, c6] ∧ Grow none S S6 ∧ lstAt S6 x = some ((srtBy eC cs).map cD) ∧ lstAt S6 q = some fs ∧ lstAt S6 t = some (pt.map cD) ∧ dctW S6 p = some (cKv uD l2) ∧ BF (l.map (·.1)) a k pt (l2.map (·.1))) ?_ (by omega) ?_ ?_
        · walk_at "ev"
          rw [len_l (g6.lst h fun z => nomatch z)]
          simp only [ok_ok, List.length_map]
          exact ⟨by first | trivial | rfl, c5, c6, [a], _, rfl, g6, k6, l6, t6, d6, hbf⟩
        · rintro ρ S7 ⟨c5, c6, pt, l2, rfl, g7, k7, l7, t7, d7, b7⟩
          have : cs.length = pt.length := by have := hlen _ _ _ b7; have := b7.le; omega
          rw [this] at b7
          exact ⟨c5, c6, pt, l2, rfl, g7, k7, l7, t7, d7, b7⟩
        · rintro k ρ S7 hk ⟨c5, c6, pt, l2, rfl, g7, k7, l7, t7, d7, b7⟩
          refine ⟨_, _, rfl, ?_⟩
          walk_at "ev"
          rw [len_l t7]
          simp only [ok_ok, eq_ii, List.length_map]
          by_cases ek : k = pt.length
          · rw [if_pos (decide_eq_true (by omega))]
            rw [ek] at b7
            exact ⟨_, c6, pt, l2, rfl, g7, k7, l7, t7, d7, b7⟩
          · rw [if_neg (by simp; omega)]
            have hk2 : k < pt.length := by have := b7.le; omega
            obtain ⟨c, hc⟩ : ∃ c, pt[k]? = some c := ⟨_, List.getElem?_eq_getElem hk2⟩
            have hc' : (pt.map cD)[k]? = some (cD c) := by rw [List.getElem?_map, hc]; rfl
            refine wp_each2 cD ?_
            walk_at "ev"
            rw [ix_l t7 hc' rfl]
            simp only [ok_ok]
            refine ⟨by first | trivial | rfl, ?_⟩
            rw [t2_beside_eq]
            simp only [ok_ok]
            have g7' : Grow none S7 (S7 ++ [SO.lst ((bes c).map cD)]) := Grow.app _
            have d8 := g7'.dct d7 (fun z => nomatch z)
            have k8 := g7'.lst k7 (fun z => nomatch z)
            have l8 := g7'.lst l7 (fun z => nomatch z)
            have t8 := g7'.lst t7 (fun z => nomatch z)
            have u8 : lstAt (S7 ++ [SO.lst ((bes c).map cD)]) S7.length = some ((bes c).map cD) := lst_new
            have g8 := g7.trans g7'
            generalize hu : S7.length = u at u8
            have ut : u ≠ t := by have := lst_lt t7; omega
            have up : u ≠ p := by have := dct_lt d7; omega
            generalize S7 ++ [SO.lst ((bes c).map cD)] = S8 at d8 k8 l8 t8 u8 g8
            refine ⟨_, bes c, fun d2 ρ S9 => ∃ c6 pt l2, ρ = [some (.ref n), some (.ref p), some (.ref q), some (cD a), some (.ref t), some (.int k), c6] ∧ Grow none S S9 ∧ lstAt S9 x = some ((srtBy eC cs).map cD) ∧ lstAt S9 q = some fs ∧ lstAt S9 t = some (pt.map cD) ∧ dctW S9 p = some (cKv uD l2) ∧ lstAt S9 u = some ((bes c).map cD) ∧ BF (l.map (·.1)) a k pt (l2.map (·.1)) ∧ pt[k]? = some c ∧ ∀ y ∈ d2, y ∉ l2.map (·.1), Walk.at_, fun _ _ _ ⟨_, _, _, _, _, _, _, _, _, h, _⟩ => h, ?_, ?_, ⟨c6, pt, l2, rfl, g8, k8, l8, t8, d8, u8, b7, hc, fun _ z => nomatch z⟩⟩
            · rintro ρ S9 ⟨c6, pt, l2, rfl, g9, k9, l9, t9, d9, u9, b9, hc9, hn9⟩
              exact ⟨_, c6, pt, l2, rfl, g9, k9, l9, t9, d9, b9.next hc9 hn9⟩
            · rintro d2 y t2 ρ S9 e2 ⟨c6, pt, l2, rfl, g9, k9, l9, t9, d9, u9, b9, hc9, hn9⟩
              refine ⟨_, _, rfl, ?_⟩
              walk_at "ev"
              rw [in_d d9]
              simp only [ok_ok]
              have hy : y ∈ bes c := by rw [e2]; simp
              by_cases hin : y ∈ l2.map (·.1)
              · rw [look_isSome, decide_eq_true hin, if_pos rfl]
                have hlk2 : look l2 y = some () := by
                  have : (look l2 y).isSome = true := by rw [look_isSome, decide_eq_true hin]
                  obtain ⟨w, hw⟩ := Option.isSome_iff_exists.mp this
                  rw [hw]
                refine ⟨p, _, rfl, dctW_at d9, ?_⟩
                rw [pop_d d9 hlk2]
                simp only [ok_ok]
                refine ⟨t, _, rfl, by rw [lst_set_ne tp.symm]; exact t9, ?_⟩
                rw [app_l (by rw [lst_set_ne tp.symm]; exact t9) (small_sz (by rw [List.length_map]; have := hlen _ _ _ b9; omega))]
                simp only [ok_ok]
                have b10 := b9.pop hc9 hy hin
                refine ⟨_, pt ++ [y], del l2 y, rfl, (g9.set (.inl (by omega))).set (.inl hpos), ?_, ?_, ?_, ?_, ?_, by rw [del_keys]; exact b10, by rw [List.getElem?_append_left (List.getElem?_eq_some_iff.mp hc9).1]; exact hc9, ?_⟩
                · rw [lst_set_ne tx, lst_set_ne xp.symm]; exact k9
                · rw [lst_set_ne tq, lst_set_ne pq]; exact l9
                · rw [lst_set (by rw [List.length_set]; exact lst_lt t9), List.map_append]; rfl
                · rw [dct_set_ne tp, dct_set (dct_lt d9)]
                · rw [lst_set_ne ut.symm, lst_set_ne up.symm]; exact u9
                · intro z hz
                  rw [del_keys, List.mem_filter]
                  rintro ⟨q1, q2⟩
                  rcases List.mem_append.mp hz with q3 | q3
                  · exact hn9 z q3 q1
                  · exact of_decide_eq_true q2 (List.mem_singleton.mp q3)
              · rw [look_isSome, decide_eq_false hin, if_neg Bool.false_ne_true]
                refine ⟨_, pt, l2, rfl, g9, k9, l9, t9, d9, u9, b9, hc9, fun z hz => ?_⟩
                rcases List.mem_append.mp hz with q3 | q3
                · exact hn9 z q3
                · rw [List.mem_singleton.mp q3]; exact hin
      · rintro ρ S7 ⟨c5, c6, pt, l2, rfl, g7, k7, l7, t7, d7, b7⟩
        simp only [List.getElem?_cons_zero, List.getElem?_cons_succ]
        refine ⟨q, _, rfl, l7, ?_⟩
        rw [sorted_l sk_c t7]
        simp only [ok_ok]
        rw [tup_l lst_new]
        simp only [ok_ok]
        have g7' : Grow none S7 (S7 ++ [SO.lst ((srtBy eC pt).map cD)]) := Grow.app _
        have d8 := g7'.dct d7 (fun z => nomatch z)
        have k8 := g7'.lst k7 (fun z => nomatch z)
        have l8 := g7'.lst l7 (fun z => nomatch z)
        have g8 := g7.trans g7'
        generalize S7 ++ [SO.lst ((srtBy eC pt).map cD)] = S8 at d8 k8 l8 g8
        rw [app_l l8 (small_sz (by have := hp4.len; omega))]
        simp only [ok_ok]
        refine ⟨_, _, _, _, fs ++ [.tup ((srtBy eC pt).map cD)], l2, rfl, g8.set (.inl (by omega)), by rw [lst_set_ne xq.symm]; exact k8, by rw [lst_set (lst_lt l8)], by rw [dct_set_ne (Ne.symm pq)]; exact d8, ?_⟩
        rw [List.length_append, List.length_singleton]
        exact hp4.part ha (b7.done rfl) b7.all b7.out
    · rw [look_isSome, decide_eq_false ha, if_neg Bool.false_ne_true]
      exact ⟨_, _, _, _, fs, l, rfl, g4, k4, l4, d4, hp4.skip ha⟩
  rintro ρ S3 ⟨c3, c4, c5, c6, fs, rfl, g3, l3, hf⟩
  walk_at "ev"
  exact ⟨q, fs, rfl, g3, l3, hf⟩
end Lw
end
section
set_option linter.all false
set_option maxRecDepth 100000
set_option maxHeartbeats 2000000
/-! V8: hangs, free, supports, kind, done, around. -/
open SX in
local macro_rules | `(tactic| walk_at "ev") => `(tactic| simp only [startE, List.map_cons, List.map_nil, List.length_cons, List.length_nil, List.cons_append, List.nil_append, Nat.reduceAdd, Nat.reduceSub, List.replicate_succ, List.replicate_zero, wp_seq, wp_skip, wp_break, wp_cont, wp_ret, wp_retN, wp_expr, wp_asgN, wp_asgS, wp_if, wp_par, wp_par3, wp_never, ok_v, ok_c, ok_op2, ok_op1, ok_bool, ok_tru, ok_and, ok_or, ok_not, ok_andV, ok_orV, ok_notV, ok_if, ok_nil, ok_cons, ok_tup, ok_lst, ok_call, ok_callF, ok_meth, ok_dm, ok_dnew, ok_sl, ok_partN, ok_partS, ok_seqI, List.getElem?_cons_zero, List.getElem?_cons_succ, List.set_cons_zero, List.set_cons_succ])
namespace Lw
open PySem L2 SX Tie
variable {ga : PySem.Str → Nat} {S : Sto}
theorem hangs_ok {n : Nat} {cs : List Cell} (h : lstAt S n = some (cs.map cD)) (nd : cs.Nodup) (hl : cs.length < 1000) : Ok (F__law_t2_hangs ga [.ref n] S) fun d S' => ∃ b, d = .bl b ∧ Grow none S S' ∧ (b = true ↔ Conn fun c => c ∈ cs) := by
  unfold F__law_t2_hangs
  refine ok_runB ?_
  unfold b__law_t2_hangs
  walk_at "ev"
  refine ⟨by first | trivial | rfl, (parts_ok h nd hl).imp fun d S' ⟨q, fs, e, g, l, hf⟩ => ?_⟩
  subst e
  rw [len_l l]
  simp only [ok_ok, eq_ii]
  refine ⟨_, rfl, g, ?_⟩
  rw [← hf, decide_eq_true_iff]
  omega
theorem free_ok {cs : List Cell} {c : Cell} (nd : cs.Nodup) (hl : cs.length < 1000) : Ok (F__law_t2_free ga [.tup (cs.map cD), cD c] S) fun d S' => ∃ b, d = .bl b ∧ Grow none S S' ∧ (b = true ↔ Conn fun x => x ∈ cs ∧ x ≠ c) := by
  unfold F__law_t2_free
  refine ok_runB ?_
  unfold b__law_t2_free
  rw [wp_ret, ok_callF, ok_cons, ok_lc, ok_seqI]
  walk_at "ev"
  rw [itm_t]
  simp only
  refine ok_lcGo (S0 := S) (enc := cD) (up := fun a => [some (.tup (cs.map cD)), some (cD c), some (cD a)]) (fun a => !decide (a = c)) cD rfl cs (fun _ _ _ => rfl) (fun _ _ => rfl) (by rw [sizeLine_eq]; omega) ?_ ?_ ?_
  · intro a S2 _ _
    walk_at "ev"
    rw [ne_c]
    exact ⟨rfl, Grow.refl⟩
  · intro a S2 _ _ _
    walk_at "ev"
    exact ⟨by first | trivial | rfl, Grow.refl⟩
  · intro S2 g2 l2
    refine ⟨by first | trivial | rfl, (hangs_ok l2 (nd.filter _) (Nat.lt_of_le_of_lt (List.length_filter_le _ _) hl)).imp fun d S3 ⟨b, e, g3, hb⟩ => ⟨b, e, g2.trans g3, ?_⟩⟩
    rw [hb]
    have : (fun x => x ∈ cs.filter fun a => !decide (a = c)) = fun x => x ∈ cs ∧ x ≠ c := funext fun x => propext (by rw [List.mem_filter]; simp)
    rw [this]
theorem done_ok {cs : List Cell} {s e : Cell} (hl : cs.length < 1000) : Ok (F__law_t2_done ga [.tup (cs.map cD), cD s, cD e] S) fun d S' => d = .tup ((srtC (cs.filter (fun a => !decide (a = s)) ++ [e])).map cD) ∧ Grow none S S' := by
  unfold F__law_t2_done
  refine ok_runB ?_
  unfold b__law_t2_done
  rw [wp_ret, ok_call, ok_cons, ok_call, ok_cons, ok_op2, ok_lc, ok_seqI]
  walk_at "ev"
  rw [itm_t]
  simp only
  refine ok_lcGo (S0 := S) (enc := cD) (up := fun a => [some (.tup (cs.map cD)), some (cD s), some (cD e), some (cD a)]) (fun a => !decide (a = s)) cD rfl cs (fun _ _ _ => rfl) (fun _ _ => rfl) (by rw [sizeLine_eq]; omega) ?_ ?_ ?_
  · intro a S2 _ _
    walk_at "ev"
    rw [ne_c]
    exact ⟨rfl, Grow.refl⟩
  · intro a S2 _ _ _
    walk_at "ev"
    exact ⟨by first | trivial | rfl, Grow.refl⟩
  · intro S2 g2 l2
    refine ⟨by rw [sizeLine_eq]; omega, ?_⟩
    rw [cat_l ((Grow.app _ : Grow none S2 _).lst l2 fun z => nomatch z) lst_new (by rw [sizeLine_eq, List.length_map]; have := List.length_filter_le (fun a => !decide (a = s)) cs; simp only [List.length_cons, List.length_nil]; omega)]
    simp only [ok_ok]
    have e : (cs.filter (fun a => !decide (a = s))).map cD ++ [cD e] = (cs.filter (fun a => !decide (a = s)) ++ [e]).map cD := by rw [List.map_append]; rfl
    rw [e, sorted_l sk_c lst_new]
    simp only [ok_ok]
    rw [tup_l lst_new]
    exact ⟨rfl, ((g2.trans (Grow.app _)).trans (Grow.app _)).trans (Grow.app _)⟩
end Lw
end
section
set_option linter.all false
set_option maxRecDepth 100000
set_option maxHeartbeats 2000000
/-! V9: supports, kind. -/
open SX in
local macro_rules | `(tactic| walk_at "ev") => `(tactic| simp only [startE, List.map_cons, List.map_nil, List.length_cons, List.length_nil, List.cons_append, List.nil_append, Nat.reduceAdd, Nat.reduceSub, List.replicate_succ, List.replicate_zero, wp_seq, wp_skip, wp_break, wp_cont, wp_ret, wp_retN, wp_expr, wp_asgN, wp_asgS, wp_if, wp_par, wp_par3, wp_never, ok_v, ok_c, ok_op2, ok_op1, ok_bool, ok_tru, ok_and, ok_or, ok_not, ok_andV, ok_orV, ok_notV, ok_if, ok_nil, ok_cons, ok_tup, ok_lst, ok_call, ok_callF, ok_meth, ok_dm, ok_dnew, ok_sl, ok_partN, ok_partS, ok_seqI, List.getElem?_cons_zero, List.getElem?_cons_succ, List.set_cons_zero, List.set_cons_succ])
namespace Tie
def occ (cs : List Cell) : Occ := fun c => decide (c ∈ cs)
theorem occ_iff {cs : List Cell} {c : Cell} : occ cs c = true ↔ c ∈ cs := decide_eq_true_iff
theorem occ_not {cs : List Cell} {c : Cell} : occ cs c = false ↔ c ∉ cs := decide_eq_false_iff_not
end Tie
namespace SX
open PySem L2 Tie
def supD (u : List Cell) : D := .tup (u.map cD)
theorem in_sq {S : Sto} {n : Nat} {cs : List Cell} {c : Cell} (h : dctW S n = some (cKv uD (sq cs))) : gInA (cD c) (.ref n) S = .ok (.bl (decide (c ∈ cs))) S := by rw [in_d h, sq_look]
theorem in_sq2 {S : Sto} {n : Nat} {cs : List Cell} {a b : Int} (h : dctW S n = some (cKv uD (sq cs))) : gInA (.tup [.int a, .int b]) (.ref n) S = .ok (.bl (decide ((a, b) ∈ cs))) S := in_sq (c := (a, b)) h
theorem notin_sq {S : Sto} {n : Nat} {cs : List Cell} {c : Cell} (h : dctW S n = some (cKv uD (sq cs))) : gNotInA (cD c) (.ref n) S = .ok (.bl (!decide (c ∈ cs))) S := by rw [notin_d h, sq_look]
theorem abs_i {S : Sto} {i : Int} : gAbs [.int i] S = .ok (.int i.natAbs) S := by
  show Out.ok (D.int (if i < 0 then -i else i)) S = _
  congr 2
  split <;> omega
theorem max_ii {S : Sto} {i j : Int} : gMax2 [.int i, .int j] S = .ok (.int (max i j)) S := by
  show Out.ok (D.int (if j > i then j else i)) S = _
  congr 2
  split <;> omega
theorem two_of {a b : Cell} : ∃ x y, srtC [a, b] = [x, y] := by
  have h := (srtBy_perm eC [a, b]).length_eq
  match e : srtBy eC [a, b], h with
  | [x, y], _ => exact ⟨x, y, e⟩
end SX
namespace Lw
open PySem L2 SX Tie
variable {ga : PySem.Str → Nat} {S : Sto}
/-- what the supports of a way are -/
def SupOut (S : Sto) (cs : List Cell) (s e : Cell) (d : D) (S' : Sto) : Prop := ∃ q ss, d = .ref q ∧ Grow none S S' ∧ lstAt S' q = some (ss.map supD) ∧ (∀ u ∈ ss, s ∈ cs ∧ e ∉ cs ∧ Sup (occ cs) s e u ∧ u.length ≤ 2) ∧ (s ∈ cs → e ∉ cs → (∃ u, Sup (occ cs) s e u) → ss ≠ []) ∧ ss.length ≤ 2
theorem supports_ok {n : Nat} {cs : List Cell} {s e : Cell} (h : dctW S n = some (cKv uD (sq cs))) : Ok (F__law_t2_supports ga [.ref n, cD s, cD e] S) (SupOut S cs s e) := by
  unfold F__law_t2_supports
  refine ok_runB ?_
  unfold b__law_t2_supports
  refine wp_cut (fun ρ S1 => ρ = [some (.ref n), some (cD s), some (cD e), some (.int (e.1 - s.1)), some (.int (e.2 - s.2)), none, none, none, none] ∧ S = S1) ?_ ?_
  · walk_at "ev"
    simp only [ix_c0, ix_c1, ok_ok, dif_ii]
    exact ⟨by first | trivial | rfl, by first | trivial | rfl⟩
  rintro ρ S1 ⟨rfl, rfl⟩
  refine wp_cut (fun ρ S1 => ρ = [some (.ref n), some (cD s), some (cD e), some (.int (e.1 - s.1)), some (.int (e.2 - s.2)), none, none, none, none] ∧ S = S1 ∧ s ∈ cs ∧ e ∉ cs ∧ max (((e.1 - s.1).natAbs : Int)) ((e.2 - s.2).natAbs : Int) = 1) ?_ ?_
  · walk_at "ev"
    have out : ∀ P : Prop, (¬ (s ∈ cs ∧ e ∉ cs ∧ max (((e.1 - s.1).natAbs : Int)) ((e.2 - s.2).natAbs : Int) = 1)) → 0 ≤ sizeLine ∧ SupOut S cs s e (.ref S.length) (S ++ [.lst []]) := fun _ hn => by
      refine ⟨Nat.zero_le _, S.length, [], rfl, Grow.app _, lst_new, (fun _ z => nomatch z), fun h1 h2 ⟨u, h3⟩ => ?_, Nat.zero_le _⟩
      refine absurd ⟨h1, h2, ?_⟩ hn
      rcases h3 with ⟨a, b, _⟩ | ⟨h3, _⟩
      · omega
      · rcases h3 with ⟨a, b⟩ | ⟨a, b⟩ <;> omega
    rw [notin_sq h]
    simp only [ok_ok]
    by_cases h1 : s ∈ cs
    · rw [if_neg (by simp [h1])]
      rw [in_sq h]
      simp only [ok_ok]
      by_cases h2 : e ∈ cs
      · rw [if_pos (decide_eq_true h2)]
        exact out True fun z => z.2.1 h2
      · rw [if_neg (by simp [h2])]
        simp only [abs_i, ok_ok, max_ii, ne_ii]
        by_cases h3 : max (((e.1 - s.1).natAbs : Int)) ((e.2 - s.2).natAbs : Int) = 1
        · rw [if_neg (by simp [h3])]
          exact ⟨by first | trivial | rfl, by first | trivial | rfl, h1, h2, h3⟩
        · rw [if_pos (by simp [h3])]
          exact out True fun z => h3 z.2.2
    · rw [if_pos (by simp [h1])]
      exact out True fun z => h1 z.1
  rintro ρ S1 ⟨rfl, rfl, h1, h2, h3⟩
  refine wp_cut (fun ρ S1 => ρ = [some (.ref n), some (cD s), some (cD e), some (.int (e.1 - s.1)), some (.int (e.2 - s.2)), some (.ref S.length), none, none, none] ∧ S1 = S ++ [.lst []]) ?_ ?_
  · walk_at "ev"
    exact ⟨Nat.zero_le _, by first | trivial | rfl, by first | trivial | rfl⟩
  rintro ρ S1 ⟨rfl, rfl⟩
  have g1 : Grow none S (S ++ [SO.lst []]) := Grow.app _
  have d1 := g1.dct h (fun z => nomatch z)
  have l1 : lstAt (S ++ [SO.lst []]) S.length = some [] := lst_new
  have hnl := dct_lt h
  generalize S ++ [SO.lst []] = S1 at g1 d1 l1
  generalize hq : S.length = q at l1 hnl
  have nq : n ≠ q := by omega
  refine wp_cut (fun ρ S2 => ρ = [some (.ref n), some (cD s), some (cD e), some (.int (e.1 - s.1)), some (.int (e.2 - s.2)), some (.ref q), none, none, none] ∧ S1 = S2 ∧ ¬ (e.1 - s.1 ≠ 0 ∧ e.2 - s.2 ≠ 0)) ?_ ?_
  · walk_at "ev"
    rw [ne_ii, ok_ok]
    simp only
    by_cases ha : e.1 - s.1 = 0
    · rw [if_neg (by simp [ha]), if_neg Bool.false_ne_true]
      exact ⟨by first | trivial | rfl, by first | trivial | rfl, fun z => z.1 ha⟩
    · rw [if_pos (by simp [ha])]
      rw [ne_ii, ok_ok]
      simp only
      by_cases hb : e.2 - s.2 = 0
      · rw [if_neg (by simp [hb])]
        exact ⟨by first | trivial | rfl, by first | trivial | rfl, fun z => z.2 hb⟩
      · rw [if_pos (by simp [hb])]
        have n1 : (e.1 - s.1).natAbs = 1 := by omega
        have n2 : (e.2 - s.2).natAbs = 1 := by omega
        have nsl : ∀ u, Sup (occ cs) s e u → (u = [(corners s e).1] ∧ occ cs (corners s e).1 = true ∧ occ cs (corners s e).2 = false) ∨ (u = [(corners s e).2] ∧ occ cs (corners s e).2 = true ∧ occ cs (corners s e).1 = false) := fun u hu => by
          rcases hu with ⟨_, _, hu⟩ | ⟨hd, _⟩
          · exact hu
          · rcases hd with ⟨_, b⟩ | ⟨a, _⟩ <;> omega
        simp only [ix_c0, ix_c1, ok_ok, in_sq2 d1, gNe_bl]
        refine ⟨size1 (by decide), size1 (by decide), ?_⟩
        by_cases c1 : (e.1, s.2) ∈ cs
        · by_cases c2 : (s.1, e.2) ∈ cs
          · rw [if_neg (by simp [c1, c2])]
            refine ⟨q, [], rfl, g1, l1, (fun _ z => nomatch z), fun _ _ ⟨u, hu⟩ => ?_, Nat.zero_le _⟩
            rcases nsl u hu with ⟨_, _, z⟩ | ⟨_, _, z⟩
            · exact absurd c2 (occ_not.mp z)
            · exact absurd c1 (occ_not.mp z)
          · rw [if_pos (by simp [c1, c2])]
            refine ⟨q, _, rfl, l1, ?_⟩
            rw [if_pos (decide_eq_true c1)]
            refine ⟨size1 (by decide), ?_⟩
            rw [app_l l1 (small_sz (by decide))]
            simp only [ok_ok]
            refine ⟨q, [[(e.1, s.2)]], rfl, g1.set (.inl (by omega)), lst_set (lst_lt l1), fun u hu => ?_, (fun _ _ _ z => nomatch z), by simp⟩
            rw [List.mem_singleton] at hu
            subst hu
            exact ⟨h1, h2, .inl ⟨n1, n2, .inl ⟨rfl, occ_iff.mpr c1, occ_not.mpr c2⟩⟩, by simp⟩
        · by_cases c2 : (s.1, e.2) ∈ cs
          · rw [if_pos (by simp [c1, c2])]
            refine ⟨q, _, rfl, l1, ?_⟩
            rw [if_neg (by simp [c1])]
            refine ⟨size1 (by decide), ?_⟩
            rw [app_l l1 (small_sz (by decide))]
            simp only [ok_ok]
            refine ⟨q, [[(s.1, e.2)]], rfl, g1.set (.inl (by omega)), lst_set (lst_lt l1), fun u hu => ?_, (fun _ _ _ z => nomatch z), by simp⟩
            rw [List.mem_singleton] at hu
            subst hu
            exact ⟨h1, h2, .inl ⟨n1, n2, .inr ⟨rfl, occ_iff.mpr c2, occ_not.mpr c1⟩⟩, by simp⟩
          · rw [if_neg (by simp [c1, c2])]
            refine ⟨q, [], rfl, g1, l1, (fun _ z => nomatch z), fun _ _ ⟨u, hu⟩ => ?_, Nat.zero_le _⟩
            rcases nsl u hu with ⟨_, z, _⟩ | ⟨_, z, _⟩
            · exact absurd (occ_iff.mp z) c1
            · exact absurd (occ_iff.mp z) c2
  rintro ρ S2 ⟨rfl, rfl, h4⟩
  have hd : ((e.1 - s.1).natAbs = 1 ∧ e.2 = s.2 ∨ e.1 = s.1 ∧ (e.2 - s.2).natAbs = 1) := by omega
  refine wp_cut (fun ρ S2 => ∃ c6 c7 c8 ps, ρ = [some (.ref n), some (cD s), some (cD e), some (.int (e.1 - s.1)), some (.int (e.2 - s.2)), some (.ref q), c6, c7, c8] ∧ Grow none S S2 ∧ lstAt S2 q = some (ps.map pD) ∧ (∀ p ∈ ps, Sup (occ cs) s e [p.1, p.2]) ∧ ((∃ u, Sup (occ cs) s e u) → ps ≠ []) ∧ ps.length ≤ 2) ?_ ?_
  · refine wp_each2 D.int ?_
    walk_at "ev"
    rw [neg_i]
    simp only [ok_ok]
    refine ⟨size1 (by decide), ?_⟩
    have gt : Grow none S1 (S1 ++ [SO.lst [.int 1, .int (-1)]]) := Grow.app _
    have d2 := gt.dct d1 (fun z => nomatch z)
    have l2 := gt.lst l1 (fun z => nomatch z)
    have g2 := g1.trans gt
    have t2 : lstAt (S1 ++ [SO.lst [.int 1, .int (-1)]]) S1.length = some ([1, -1].map D.int) := lst_new
    have tq : q < S1.length := lst_lt l1
    generalize S1 ++ [SO.lst [.int 1, .int (-1)]] = S2 at d2 l2 g2 t2
    generalize S1.length = t at t2 tq
    refine ⟨_, [1, -1], fun dn ρ S3 => ∃ c6 c7 c8 ps, ρ = [some (.ref n), some (cD s), some (cD e), some (.int (e.1 - s.1)), some (.int (e.2 - s.2)), some (.ref q), c6, c7, c8] ∧ Grow none S S3 ∧ lstAt S3 t = some ([1, -1].map D.int) ∧ dctW S3 n = some (cKv uD (sq cs)) ∧ lstAt S3 q = some (ps.map pD) ∧ (∀ p ∈ ps, Sup (occ cs) s e [p.1, p.2]) ∧ (∀ g ∈ dn, (s.1 + g * (e.2 - s.2), s.2 + g * (e.1 - s.1)) ∈ cs → (e.1 + g * (e.2 - s.2), e.2 + g * (e.1 - s.1)) ∈ cs → ps ≠ []) ∧ ps.length ≤ dn.length, Walk.at_, fun _ _ _ ⟨_, _, _, _, _, _, z, _⟩ => z, ?_, ?_, ⟨_, _, _, [], rfl, g2, t2, d2, l2, (fun _ z => nomatch z), (fun _ z => nomatch z), Nat.zero_le _⟩⟩
    · rintro ρ S3 ⟨c6, c7, c8, ps, rfl, g3, t3, d3, l3, hp, hc, hl⟩
      refine ⟨c6, c7, c8, ps, rfl, g3, l3, hp, fun ⟨u, hu⟩ => ?_, hl⟩
      rcases hu with ⟨a, b, _⟩ | ⟨_, g, hg, _, b1, b2⟩
      · exact absurd ⟨by omega, by omega⟩ h4
      · exact hc g (by rcases hg with rfl | rfl <;> simp) (occ_iff.mp b1) (occ_iff.mp b2)
    · rintro dn g td ρ S3 ed ⟨c6, c7, c8, ps, rfl, g3, t3, d3, l3, hp, hc, hl⟩
      refine ⟨_, _, rfl, ?_⟩
      have hg : g = 1 ∨ g = -1 := by
        have : g ∈ [(1 : Int), -1] := by rw [ed]; simp
        simpa using this
      walk_at "ev"
      have hmul : ∀ (j : Int) (S : Sto), gMul (.int g) (.int j) S = .ok (.int (g * j)) S := fun j S => mul_ii (.inl (by omega))
      simp only [ix_c0, ix_c1, ok_ok, hmul, add_ii]
      refine ⟨size1 (by decide), size1 (by decide), ?_⟩
      simp only [in_sq2 d3, ok_ok]
      have skip : ¬ ((s.1 + g * (e.2 - s.2), s.2 + g * (e.1 - s.1)) ∈ cs ∧ (e.1 + g * (e.2 - s.2), e.2 + g * (e.1 - s.1)) ∈ cs) → ∀ g' ∈ dn ++ [g], (s.1 + g' * (e.2 - s.2), s.2 + g' * (e.1 - s.1)) ∈ cs → (e.1 + g' * (e.2 - s.2), e.2 + g' * (e.1 - s.1)) ∈ cs → ps ≠ [] := fun hn g' hg' k1 k2 => by
        rcases List.mem_append.mp hg' with z | z
        · exact hc g' z k1 k2
        · rw [List.mem_singleton] at z; subst z; exact absurd ⟨k1, k2⟩ hn
      by_cases c1 : (s.1 + g * (e.2 - s.2), s.2 + g * (e.1 - s.1)) ∈ cs
      · rw [if_pos (decide_eq_true c1)]
        by_cases c2 : (e.1 + g * (e.2 - s.2), e.2 + g * (e.1 - s.1)) ∈ cs
        · rw [if_pos (decide_eq_true c2)]
          refine ⟨q, _, rfl, l3, size1 (by decide), ?_⟩
          obtain ⟨x, y, exy⟩ := two_of (a := (s.1 + g * (e.2 - s.2), s.2 + g * (e.1 - s.1))) (b := (e.1 + g * (e.2 - s.2), e.2 + g * (e.1 - s.1)))
          rw [show [D.tup [.int (s.1 + g * (e.2 - s.2)), .int (s.2 + g * (e.1 - s.1))], D.tup [.int (e.1 + g * (e.2 - s.2)), .int (e.2 + g * (e.1 - s.1))]] = [(s.1 + g * (e.2 - s.2), s.2 + g * (e.1 - s.1)), (e.1 + g * (e.2 - s.2), e.2 + g * (e.1 - s.1))].map cD from rfl]
          rw [sorted_l sk_c lst_new]
          simp only [ok_ok]
          rw [tup_l lst_new]
          simp only [ok_ok]
          rw [show srtBy eC [(s.1 + g * (e.2 - s.2), s.2 + g * (e.1 - s.1)), (e.1 + g * (e.2 - s.2), e.2 + g * (e.1 - s.1))] = [x, y] from exy]
          have hmem : ∀ c, c ∈ [x, y] ↔ c = (s.1 + g * (e.2 - s.2), s.2 + g * (e.1 - s.1)) ∨ c = (e.1 + g * (e.2 - s.2), e.2 + g * (e.1 - s.1)) := fun c => by
            rw [← exy, (srtBy_perm eC _).mem_iff]
            simp
          generalize ho : [D.tup [.int (s.1 + g * (e.2 - s.2)), .int (s.2 + g * (e.1 - s.1))], D.tup [.int (e.1 + g * (e.2 - s.2)), .int (e.2 + g * (e.1 - s.1))]] = oo
          have gt : Grow none S3 ((S3 ++ [SO.lst ([(s.1 + g * (e.2 - s.2), s.2 + g * (e.1 - s.1)), (e.1 + g * (e.2 - s.2), e.2 + g * (e.1 - s.1))].map cD)]) ++ [SO.lst ([x, y].map cD)]) := (Grow.app _).trans (Grow.app _)
          have d4 := gt.dct d3 (fun z => nomatch z)
          have l4 := gt.lst l3 (fun z => nomatch z)
          have t4 := gt.lst t3 (fun z => nomatch z)
          have g4 := g3.trans gt
          generalize (S3 ++ [SO.lst ([(s.1 + g * (e.2 - s.2), s.2 + g * (e.1 - s.1)), (e.1 + g * (e.2 - s.2), e.2 + g * (e.1 - s.1))].map cD)]) ++ [SO.lst ([x, y].map cD)] = S4 at d4 l4 t4 g4 ⊢
          have hdl : dn.length ≤ 2 := by
            have := congrArg List.length ed
            simp at this
            omega
          rw [app_l l4 (small_sz (by rw [List.length_map]; omega))]
          simp only [ok_ok]
          refine ⟨_, _, _, ps ++ [(x, y)], rfl, g4.set (.inl (by omega)), by rw [lst_set_ne (by omega)]; exact t4, by rw [dct_set_ne nq.symm]; exact d4, ?_, fun p hp2 => ?_, fun _ _ _ _ => by simp, by simp; omega⟩
          · rw [lst_set (lst_lt l4), List.map_append]; rfl
          · rcases List.mem_append.mp hp2 with z | z
            · exact hp p z
            · rw [List.mem_singleton] at z
              subst z
              exact .inr ⟨hd, g, hg, hmem, occ_iff.mpr c1, occ_iff.mpr c2⟩
        · rw [if_neg (by simp [c2])]
          exact ⟨_, _, _, ps, rfl, g3, t3, d3, l3, hp, skip fun z => c2 z.2, by simp; omega⟩
      · rw [if_neg (by simp [c1]), if_neg Bool.false_ne_true]
        exact ⟨_, _, _, ps, rfl, g3, t3, d3, l3, hp, skip fun z => c1 z.1, by simp; omega⟩
  rintro ρ S2 ⟨c6, c7, c8, ps, rfl, g2, l2, hp, hc, hl⟩
  walk_at "ev"
  rw [sorted_l sk_p l2]
  refine ⟨S2.length, (srtBy eP ps).map (fun p => [p.1, p.2]), rfl, g2.trans (Grow.app _), ?_, fun u hu => ?_, fun _ _ hu => ?_, ?_⟩
  · rw [lst_new, List.map_map]; rfl
  · obtain ⟨p, hp2, rfl⟩ := List.mem_map.mp hu
    exact ⟨h1, h2, hp p ((srtBy_perm eP ps).mem_iff.mp hp2), Nat.le_refl _⟩
  · intro z
    have := List.map_eq_nil_iff.mp z
    have h5 := (srtBy_perm eP ps).length_eq
    rw [this] at h5
    exact hc hu (List.eq_nil_of_length_eq_zero h5.symm)
  · rw [List.length_map, (srtBy_perm eP ps).length_eq]; exact hl
end Lw
end
section
set_option linter.all false
set_option maxRecDepth 100000
set_option maxHeartbeats 2000000
/-! V10: kind, around, moves. -/
namespace SX
open PySem L2 Tie
theorem wp_asg2 {i j : Nat} {f : SE} {ρ : Env} {S : Sto} {N B C : Env → Sto → Prop} {R : D → Sto → Prop} : Wp (sAsg (gTp 2 (gMore (gNm i) (gMore (gNm j) gNone))) f ρ S) N R B C = Ok (f ρ S) fun d S1 => ∃ a b, d = .tup [a, b] ∧ N ((ρ.set i (some a)).set j (some b)) S1 := by
  rw [wp_asg]
  congr 1; funext d S1
  cases d with
  | tup ds =>
    rcases ds with _ | ⟨a, _ | ⟨b, _ | ⟨c, r⟩⟩⟩
    · exact propext ⟨fun z => z.elim, fun ⟨_, _, e, _⟩ => nomatch e⟩
    · exact propext ⟨fun z => z.elim, fun ⟨_, _, e, _⟩ => nomatch e⟩
    · exact propext ⟨fun z => ⟨a, b, rfl, z⟩, fun ⟨_, _, e, z⟩ => by cases e; exact z⟩
    · refine propext ⟨fun z => ?_, fun ⟨_, _, e, _⟩ => nomatch e⟩
      unfold gTp at z
      simp only at z
      rw [if_neg (by simp)] at z
      exact z.elim
  | _ => exact propext ⟨fun z => z.elim, fun ⟨_, _, e, _⟩ => nomatch e⟩
end SX
open SX in
local macro_rules | `(tactic| walk_at "ev") => `(tactic| simp only [startE, List.map_cons, List.map_nil, List.length_cons, List.length_nil, List.cons_append, List.nil_append, Nat.reduceAdd, Nat.reduceSub, List.replicate_succ, List.replicate_zero, wp_seq, wp_skip, wp_break, wp_cont, wp_ret, wp_retN, wp_expr, wp_asgN, wp_asg2, wp_asgS, wp_if, wp_par, wp_par3, wp_never, ok_v, ok_c, ok_op2, ok_op1, ok_bool, ok_tru, ok_and, ok_or, ok_not, ok_andV, ok_orV, ok_notV, ok_if, ok_nil, ok_cons, ok_tup, ok_lst, ok_call, ok_callF, ok_meth, ok_dm, ok_dnew, ok_sl, ok_partN, ok_partS, ok_seqI, List.getElem?_cons_zero, List.getElem?_cons_succ, List.set_cons_zero, List.set_cons_succ])
namespace Tie
/-- a move of the body cs -/
structure Mv (cs : List Cell) (m : Cell × Cell) : Prop where
  s : m.1 ∈ cs
  e : m.2 ∉ cs
  sup : ∃ u, Sup (occ cs) m.1 m.2 u
  cn : Conn fun x => x ∈ cs ∧ x ≠ m.1
end Tie
namespace Lw
open PySem L2 SX Tie
variable {ga : PySem.Str → Nat} {S : Sto}
theorem pl_sup {u : List Cell} : Pl 2 (supD u) := .tup pl_cells
theorem pl_sups {ss : List (List Cell)} : ∀ x ∈ ss.map supD, Pl 3 x := fun x hx => by
  obtain ⟨u, _, rfl⟩ := List.mem_map.mp hx
  exact pl_sup.mono (by omega)
theorem sup_none {S S' : Sto} {cs : List Cell} {s e : Cell} {d : D} (h : SupOut S cs s e d S') : ∃ (q : Nat) (ss : List (List Cell)), d = .ref q ∧ Grow none S S' ∧ lstAt S' q = some (ss.map supD) ∧ (ss.map supD ≠ [] ↔ s ∈ cs ∧ e ∉ cs ∧ ∃ u, Sup (occ cs) s e u) := by
  obtain ⟨q, ss, h1, h2, h3, h4, h5, _⟩ := h
  refine ⟨q, ss, h1, h2, h3, fun z => ?_, fun ⟨a, b, c⟩ z => h5 a b c (List.map_eq_nil_iff.mp z)⟩
  cases ss with
  | nil => exact absurd rfl z
  | cons u r =>
    obtain ⟨a, b, c, _⟩ := h4 u List.mem_cons_self
    exact ⟨a, b, u, c⟩
theorem kind_ok {cs : List Cell} {s e : Cell} (nd : cs.Nodup) (hl : cs.length < 1000) : Ok (F__law_t2_kind ga [.tup (cs.map cD), cD s, cD e] S) fun d S' => Grow none S S' ∧ (Mv cs (s, e) → d ≠ .non) := by
  unfold F__law_t2_kind
  refine ok_runB ?_
  unfold b__law_t2_kind
  refine wp_cut (fun ρ S1 => ρ = [some (.tup (cs.map cD)), some (cD s), some (cD e)] ∧ Grow none S S1) ?_ ?_
  · walk_at "ev"
    refine ⟨by first | trivial | rfl, (squares_ok Walk.tup nd hl).imp fun d S1 ⟨ed, g1, d1⟩ => ?_⟩
    subst ed
    refine ⟨by first | trivial | rfl, (supports_ok d1).imp fun d S2 h2 => ?_⟩
    obtain ⟨q, ss, rfl, g2, l2, hs⟩ := sup_none h2
    refine ⟨Nat.zero_le _, ?_⟩
    rw [eq_nil_l l2 pl_sups]
    simp only [ok_ok]
    by_cases he : ss.map supD = []
    · rw [if_pos (decide_eq_true he)]
      refine ⟨(g1.trans g2).trans (Grow.app _), fun mv => ?_⟩
      exact absurd he (hs.mpr ⟨mv.s, mv.e, mv.sup⟩)
    · rw [if_neg (by simpa using he)]
      refine ⟨by first | trivial | rfl, (free_ok nd hl).imp fun d S3 ⟨b, ed, g3, hb⟩ => ?_⟩
      subst ed
      show (if (!b) = true then _ else _)
      cases b with
      | true => exact ⟨by first | trivial | rfl, ((g1.trans g2).trans (Grow.app _)).trans g3⟩
      | false => exact ⟨((g1.trans g2).trans (Grow.app _)).trans g3, fun mv => absurd (hb.mpr mv.cn) Bool.false_ne_true⟩
  rintro ρ S1 ⟨rfl, g1⟩
  walk_at "ev"
  simp only [ix_c0, ix_c1, ok_ok, eq_ii]
  by_cases h1 : s.1 = e.1
  · rw [if_pos (decide_eq_true h1)]
    exact ⟨g1, fun _ z => nomatch z⟩
  · rw [if_neg (by simpa using h1)]
    by_cases h2 : s.2 = e.2
    · rw [if_pos (decide_eq_true h2)]
      exact ⟨g1, fun _ z => nomatch z⟩
    · rw [if_neg (by simpa using h2)]
      exact ⟨g1, fun _ z => nomatch z⟩
theorem around_ok {c : Cell} : Ok (F__law_t2_around ga [cD c] S) fun d S' => ∃ (q : Nat) (as : List Cell), d = .ref q ∧ Grow none S S' ∧ lstAt S' q = some (as.map cD) ∧ as.length ≤ 9 := by
  unfold F__law_t2_around
  refine ok_runB ?_
  unfold b__law_t2_around
  refine wp_cut (fun ρ S1 => ∃ q, ρ = [some (cD c), some (.ref q), none, none] ∧ Grow none S S1 ∧ lstAt S1 q = some []) ?_ ?_
  · walk_at "ev"
    exact ⟨Nat.zero_le _, _, rfl, Grow.app _, lst_new⟩
  rintro ρ S1 ⟨q, rfl, g1, l1⟩
  refine wp_cut (fun ρ S1 => ∃ (q : Nat) (c2 c3 : Option D) (as : List Cell), ρ = [some (cD c), some (.ref q), c2, c3] ∧ Grow none S S1 ∧ lstAt S1 q = some (as.map cD) ∧ as.length ≤ 9) ?_ ?_
  · refine wp_each2 D.int ?_
    walk_at "ev"
    rw [neg_i]
    simp only [ok_ok]
    refine ⟨size1 (by decide), ?_⟩
    have gt : Grow none S1 (S1 ++ [SO.lst [.int (-1), .int 0, .int 1]]) := Grow.app _
    refine ⟨_, [-1, 0, 1], fun dn ρ S2 => ∃ (q : Nat) (c2 c3 : Option D) (as : List Cell), ρ = [some (cD c), some (.ref q), c2, c3] ∧ Grow none S S2 ∧ lstAt S2 S1.length = some ([-1, 0, 1].map D.int) ∧ lstAt S2 q = some (as.map cD) ∧ as.length ≤ 3 * dn.length, Walk.at_, fun _ _ _ ⟨_, _, _, _, _, _, z, _⟩ => z, ?_, ?_, ⟨q, _, _, [], rfl, g1.trans gt, lst_new, gt.lst l1 (fun z => nomatch z), Nat.zero_le _⟩⟩
    · rintro ρ S2 ⟨q, c2, c3, as, rfl, g2, t2, l2, h2⟩
      exact ⟨q, c2, c3, as, rfl, g2, l2, h2⟩
    · rintro dn i td ρ S2 ed ⟨q, c2, c3, as, rfl, g2, t2, l2, h2⟩
      refine ⟨_, _, rfl, ?_⟩
      have hdn : dn.length < 3 := by
        have := congrArg List.length ed
        simp at this
        omega
      walk_at "ev"
      rw [ok_lc]
      walk_at "ev"
      rw [neg_i]
      simp only [ok_ok]
      refine ⟨size1 (by decide), ?_⟩
      rw [itm_l lst_new]
      simp only
      refine ok_lcGo (S0 := S2 ++ [SO.lst [.int (-1), .int 0, .int 1]]) (enc := D.int) (up := fun j => [some (cD c), some (.ref q), some (.int i), some (.int j)]) (fun j => !decide (D.tup [.int i, .int j] = .tup [.int 0, .int 0])) (fun j => cD (c.1 + i, c.2 + j)) rfl [-1, 0, 1] (fun _ _ _ => rfl) (fun S3 g3 => decide_eq_true (g3.lst lst_new fun z => nomatch z)) (size1 (by decide)) ?_ ?_ ?_
      · intro j S3 _ _
        walk_at "ev"
        refine ⟨size1 (by decide), size1 (by decide), ?_⟩
        rw [gNe_pl (d := .tup [.int i, .int j]) (e := .tup [.int 0, .int 0]) (n := 1) (m := 1) (pl_cell (i, j)) (pl_cell (0, 0)) (by omega) (by omega)]
        exact ⟨rfl, Grow.refl⟩
      · intro j S3 _ _ _
        walk_at "ev"
        simp only [ix_c0, ix_c1, ok_ok, add_ii]
        exact ⟨size1 (by decide), rfl, Grow.refl⟩
      · intro S3 g3 l3
        have g23 : Grow none S2 S3 := (Grow.app _).trans g3
        have l2' := g23.lst l2 (fun z => nomatch z)
        have t2' := g23.lst t2 (fun z => nomatch z)
        have hf := List.length_filter_le (fun j => !decide (D.tup [.int i, .int j] = .tup [.int 0, .int 0])) [-1, 0, 1]
        rw [cat_l l2' l3 (by rw [sizeLine_eq, List.length_map, List.length_map]; simp only [List.length_cons, List.length_nil] at hf; omega)]
        simp only [ok_ok]
        refine ⟨_, _, _, as ++ ([-1, 0, 1].filter fun j => !decide (D.tup [.int i, .int j] = .tup [.int 0, .int 0])).map (fun j => (c.1 + i, c.2 + j)), rfl, (g2.trans g23).trans (Grow.app _), (Grow.app _ : Grow none S3 _).lst t2' (fun z => nomatch z), ?_, ?_⟩
        · rw [lst_new, List.map_append, List.map_map]; rfl
        · rw [List.length_append, List.length_map, List.length_append]
          simp only [List.length_cons, List.length_nil] at hf ⊢
          omega
  rintro ρ S2 ⟨q, c2, c3, as, rfl, g2, l2, h2⟩
  walk_at "ev"
  exact ⟨q, as, rfl, g2, l2, h2⟩
theorem pl_pairs {ms : List (Cell × Cell)} : ∀ x ∈ ms.map pD, Pl 3 x := fun x hx => by
  obtain ⟨u, _, rfl⟩ := List.mem_map.mp hx
  exact (pl_pair u).mono (by omega)
open Classical in
theorem moves_ok {cs : List Cell} (nd : cs.Nodup) (hl : cs.length < 1000) : Ok (F__law_t2_moves ga [.tup (cs.map cD)] S) fun d S' => ∃ (q : Nat) (ms : List (Cell × Cell)), d = .ref q ∧ Grow none S S' ∧ lstAt S' q = some (ms.map pD) ∧ (∀ m ∈ ms, Mv cs m) ∧ ms.length ≤ 9 * cs.length := by
  unfold F__law_t2_moves
  refine ok_runB ?_
  unfold b__law_t2_moves
  refine wp_cut (fun ρ S1 => ∃ (p q : Nat), ρ = [some (.tup (cs.map cD)), some (.ref p), some (.ref q), none, none, none] ∧ Grow none S S1 ∧ dctW S1 p = some (cKv uD (sq cs)) ∧ lstAt S1 q = some []) ?_ ?_
  · walk_at "ev"
    refine ⟨by first | trivial | rfl, (squares_ok Walk.tup nd hl).imp fun d S1 ⟨ed, g1, d1⟩ => ?_⟩
    subst ed
    exact ⟨Nat.zero_le _, size1 (by decide), _, _, rfl, _, _, rfl, g1.trans (Grow.app _), (Grow.app _ : Grow none S1 _).dct d1 (fun z => nomatch z), lst_new⟩
  rintro ρ S1 ⟨p, q, rfl, g1, d1, l1⟩
  refine wp_cut (fun ρ S1 => ∃ (q : Nat) (c3 c4 c5 : Option D) (ms : List (Cell × Cell)), ρ = [some (.tup (cs.map cD)), some (.ref p), some (.ref q), c3, c4, c5] ∧ Grow none S S1 ∧ lstAt S1 q = some (ms.map pD) ∧ (∀ m ∈ ms, Mv cs m) ∧ ms.length ≤ 9 * cs.length) ?_ ?_
  · refine wp_each cD (fun _ => True) cs (fun dn ρ S2 => ∃ (q : Nat) (c3 c4 c5 : Option D) (ms : List (Cell × Cell)), ρ = [some (.tup (cs.map cD)), some (.ref p), some (.ref q), c3, c4, c5] ∧ Grow none S S2 ∧ dctW S2 p = some (cKv uD (sq cs)) ∧ lstAt S2 q = some (ms.map pD) ∧ (∀ m ∈ ms, Mv cs m) ∧ ms.length ≤ 9 * dn.length) rfl Walk.tup (fun _ _ _ _ => trivial) ?_ ?_ ⟨q, _, _, _, [], rfl, g1, d1, l1, (fun _ z => nomatch z), Nat.zero_le _⟩
    · rintro ρ S2 ⟨q, c3, c4, c5, ms, rfl, g2, d2, l2, h2⟩
      exact ⟨q, c3, c4, c5, ms, rfl, g2, l2, h2⟩
    · rintro dn s td ρ S2 ed ⟨q, c3, c4, c5, ms, rfl, g2, d2, l2, hm, h2⟩
      refine ⟨_, _, rfl, ?_⟩
      have hdn : dn.length < cs.length := by rw [ed]; simp
      refine wp_cut (fun ρ S3 => ∃ (t : Nat) (es : List Cell), ρ = [some (.tup (cs.map cD)), some (.ref p), some (.ref q), some (cD s), some (.ref t), c5] ∧ Grow none S2 S3 ∧ lstAt S3 t = some (es.map cD) ∧ (∀ e ∈ es, s ∈ cs ∧ e ∉ cs ∧ ∃ u, Sup (occ cs) s e u) ∧ es.length ≤ 9) ?_ ?_
      · walk_at "ev"
        rw [ok_lc]
        walk_at "ev"
        refine ⟨by first | trivial | rfl, around_ok.imp fun d S3 ⟨u, as, e3, g3, l3, h3⟩ => ?_⟩
        subst e3
        rw [itm_l l3]
        simp only
        refine ok_lcGo (S0 := S3) (enc := cD) (up := fun a => [some (.tup (cs.map cD)), some (.ref p), some (.ref q), some (cD s), c4, some (cD a)]) (fun e => decide (s ∈ cs ∧ e ∉ cs ∧ ∃ u, Sup (occ cs) s e u)) cD rfl as (fun _ _ _ => rfl) (fun S4 g4 => decide_eq_true (g4.lst l3 fun z => nomatch z)) (by rw [sizeLine_eq]; omega) ?_ ?_ ?_
        · intro e S4 _ g4
          walk_at "ev"
          refine ⟨by first | trivial | rfl, (supports_ok ((g3.trans g4).dct d2 fun z => nomatch z)).imp fun d S5 h5 => ?_⟩
          obtain ⟨w, ss, rfl, g5, l5, hs⟩ := sup_none h5
          refine ⟨Nat.zero_le _, ?_⟩
          rw [ne_nil_l l5 pl_sups]
          refine ⟨?_, g5.trans (Grow.app _)⟩
          by_cases he : ss.map supD = []
          · rw [decide_eq_true he, decide_eq_false fun z => hs.mpr z he]; rfl
          · rw [decide_eq_false he, decide_eq_true (hs.mp he)]; rfl
        · intro a S4 _ _ _
          walk_at "ev"
          exact ⟨by first | trivial | rfl, Grow.refl⟩
        · intro S4 g4 l4
          refine ⟨S3.length, _, rfl, g3.trans g4, l4, fun e he => of_decide_eq_true (List.mem_filter.mp he).2, ?_⟩
          exact Nat.le_trans (List.length_filter_le _ _) h3
      rintro ρ S3 ⟨t, es, rfl, g3, l3, he, h3⟩
      have d3 := g3.dct d2 (fun z => nomatch z)
      have l3' := g3.lst l2 (fun z => nomatch z)
      have pe : ∀ x ∈ es.map cD, Pl 3 x := fun x hx => (pl_cells x hx).mono (by omega)
      walk_at "ev"
      refine ⟨Nat.zero_le _, ?_⟩
      rw [ne_nil_l l3 pe]
      simp only [ok_ok]
      have g4 : Grow none S3 (S3 ++ [SO.lst []]) := Grow.app _
      by_cases hn : es.map cD = []
      · rw [if_neg (by simp [hn]), if_neg Bool.false_ne_true]
        exact ⟨q, _, _, _, ms, rfl, (g2.trans g3).trans g4, g4.dct d3 (fun z => nomatch z), g4.lst l3' (fun z => nomatch z), hm, by rw [List.length_append, List.length_singleton]; omega⟩
      · rw [if_pos (by simpa using hn)]
        refine ⟨by first | trivial | rfl, (free_ok nd hl).imp fun d S5 ⟨b, eb, g5, hb⟩ => ?_⟩
        subst eb
        have g35 : Grow none S3 S5 := g4.trans g5
        show (if b = true then _ else _)
        cases b with
        | false =>
          exact ⟨q, _, _, _, ms, rfl, (g2.trans g3).trans g35, g35.dct d3 (fun z => nomatch z), g35.lst l3' (fun z => nomatch z), hm, by rw [List.length_append, List.length_singleton]; omega⟩
        | true =>
          rw [if_pos rfl, ok_lc]
          walk_at "ev"
          have l5 := g35.lst l3 (fun z => nomatch z)
          rw [itm_l l5]
          simp only
          refine ok_lcGo (S0 := S5) (enc := cD) (up := fun a => [some (.tup (cs.map cD)), some (.ref p), some (.ref q), some (cD s), some (.ref t), some (cD a)]) (fun _ => true) (fun e => pD (s, e)) rfl es (fun _ _ _ => rfl) (fun S6 g6 => decide_eq_true (g6.lst l5 fun z => nomatch z)) (by rw [sizeLine_eq]; omega) ?_ ?_ ?_
          · intro a S6 _ _
            exact ⟨rfl, Grow.refl⟩
          · intro a S6 _ _ _
            walk_at "ev"
            exact ⟨size1 (by decide), rfl, Grow.refl⟩
          · intro S6 g6 l6
            have g36 := g35.trans g6
            rw [List.filter_eq_self.mpr fun _ _ => rfl] at l6
            rw [cat_l (g36.lst l3' fun z => nomatch z) l6 (by rw [sizeLine_eq, List.length_map, List.length_map]; omega)]
            simp only [ok_ok]
            refine ⟨_, _, _, _, ms ++ es.map (fun e => (s, e)), rfl, ((g2.trans g3).trans g36).trans (Grow.app _), (g36.trans (Grow.app _)).dct d3 (fun z => nomatch z), by rw [lst_new, List.map_append, List.map_map]; rfl, fun m hm2 => ?_, by rw [List.length_append, List.length_map, List.length_append, List.length_singleton]; omega⟩
            rcases List.mem_append.mp hm2 with z | z
            · exact hm m z
            · obtain ⟨e, he2, rfl⟩ := List.mem_map.mp z
              obtain ⟨h1, h2, h3⟩ := he e he2
              exact ⟨h1, h2, h3, hb.mp rfl⟩
  rintro ρ S2 ⟨q, c3, c4, c5, ms, rfl, g2, l2, hm, h2⟩
  walk_at "ev"
  rw [sorted_l sk_p l2]
  exact ⟨S2.length, srtBy eP ms, rfl, g2.trans (Grow.app _), lst_new, fun m h => hm m ((srtBy_perm eP ms).mem_iff.mp h), by rw [(srtBy_perm eP ms).length_eq]; exact h2⟩
end Lw
end
section
set_option linter.all false
set_option maxRecDepth 100000
set_option maxHeartbeats 2000000
/-! V11: plan. -/
open SX in
local macro_rules | `(tactic| walk_at "ev") => `(tactic| simp only [startE, List.map_cons, List.map_nil, List.length_cons, List.length_nil, List.cons_append, List.nil_append, Nat.reduceAdd, Nat.reduceSub, List.replicate_succ, List.replicate_zero, wp_seq, wp_skip, wp_break, wp_cont, wp_ret, wp_retN, wp_expr, wp_asgN, wp_asg2, wp_asgS, wp_if, wp_par, wp_par3, wp_never, ok_v, ok_c, ok_op2, ok_op1, ok_bool, ok_tru, ok_and, ok_or, ok_not, ok_andV, ok_orV, ok_notV, ok_if, ok_nil, ok_cons, ok_tup, ok_lst, ok_call, ok_callF, ok_meth, ok_dm, ok_dnew, ok_sl, ok_partN, ok_partS, ok_seqI, List.getElem?_cons_zero, List.getElem?_cons_succ, List.set_cons_zero, List.set_cons_succ])
namespace Tie
open SX
def doneC (cs : List Cell) (m : Cell × Cell) : List Cell := srtC (cs.filter (fun a => !decide (a = m.1)) ++ [m.2])
def Mvs : List Cell → List (Cell × Cell) → Prop
  | _, [] => True
  | cs, m :: ms => Mv cs m ∧ Mvs (doneC cs m) ms
def endC (cs : List Cell) (ms : List (Cell × Cell)) : List Cell := ms.foldl doneC cs
theorem mvs_snoc : ∀ {ms : List (Cell × Cell)} {cs : List Cell} {m : Cell × Cell}, Mvs cs ms → Mv (endC cs ms) m → Mvs cs (ms ++ [m])
  | [], cs, m, _, h => ⟨h, trivial⟩
  | x :: ms, cs, m, ⟨h1, h2⟩, h => ⟨h1, mvs_snoc (ms := ms) h2 h⟩
theorem endC_snoc {ms : List (Cell × Cell)} {cs : List Cell} {m : Cell × Cell} : endC cs (ms ++ [m]) = doneC (endC cs ms) m := by
  unfold endC
  rw [List.foldl_append]
  rfl
theorem doneC_mem {cs : List Cell} {m : Cell × Cell} {c : Cell} : c ∈ doneC cs m ↔ (c ∈ cs ∧ c ≠ m.1) ∨ c = m.2 := by
  unfold doneC srtC
  rw [(srtBy_perm eC _).mem_iff, List.mem_append, List.mem_filter, List.mem_singleton]
  simp
theorem doneC_nodup {cs : List Cell} {m : Cell × Cell} (nd : cs.Nodup) (h : m.2 ∉ cs) : (doneC cs m).Nodup := by
  unfold doneC srtC
  rw [(srtBy_perm eC _).nodup_iff, List.nodup_append]
  refine ⟨nd.filter _, by simp, fun x hx y hy e => ?_⟩
  rw [List.mem_singleton] at hy
  rw [e, hy] at hx
  exact h (List.mem_filter.mp hx).1
theorem doneC_len {cs : List Cell} {m : Cell × Cell} (h : m.1 ∈ cs) : (doneC cs m).length ≤ cs.length := by
  unfold doneC srtC
  rw [(srtBy_perm eC _).length_eq, List.length_append, List.length_singleton]
  have : (cs.filter (fun a => !decide (a = m.1))).length < cs.length := by
    refine List.length_filter_lt_length_iff_exists.mpr ⟨m.1, h, by simp⟩
  omega
end Tie
namespace SX
open PySem L2 Tie
def bD (cs : List Cell) : D := .tup (cs.map cD)
theorem ix_p0 {S : Sto} {m : Cell × Cell} : gIxA (pD m) (.int 0) S = .ok (cD m.1) S := rfl
theorem ix_p1 {S : Sto} {m : Cell × Cell} : gIxA (pD m) (.int 1) S = .ok (cD m.2) S := rfl
theorem getLast_map {α β : Type} {f : α → β} {l : List α} {a : α} (h : l.getLast? = some a) : (l.map f).getLast? = some (f a) := by rw [List.getLast?_map, h]; rfl
end SX
namespace Lw
open PySem L2 SX Tie
variable {ga : PySem.Str → Nat} {S : Sto} {p c : Nat}
/-- what the plan's loop keeps of the store -/
structure PB (S : Sto) (p q1 q2 : Nat) (ms : List (Cell × Cell)) (bs : List (List Cell)) (S2 : Sto) : Prop where
  g : Grow (some p) S S2
  l1 : lstAt S2 q1 = some (ms.map pD)
  l2 : lstAt S2 q2 = some (bs.map bD)
theorem PB.next {q1 q2 : Nat} {ms : List (Cell × Cell)} {bs : List (List Cell)} {S2 S3 : Sto} (h : PB S p q1 q2 ms bs S2) (n1 : q1 ≠ p) (n2 : q2 ≠ p) (g : Grow (some p) S2 S3) : PB S p q1 q2 ms bs S3 :=
  ⟨h.g.trans g, g.lst h.l1 (fun z => n1 (by injection z)), g.lst h.l2 (fun z => n2 (by injection z))⟩
theorem plan_ok {cs : List Cell} {n : Nat} {v : Int} (hv : v = (n : Int)) (pen : Pen S p c) (hc : c + 2 * n < 1000000) (nd : cs.Nodup) (hl : cs.length < 1000) : Ok (F__law_t2_plan ga [.ref p, bD cs, .int v] S) fun d S' => ∃ (q1 q2 : Nat) (ms : List (Cell × Cell)) (bs : List (List Cell)), d = .tup [.ref q1, .ref q2] ∧ PB S p q1 q2 ms bs S' ∧ Pen S' p (c + 2 * n) ∧ Mvs cs ms ∧ ms.length ≤ n ∧ bs.getLast? = some (endC cs ms) := by
  unfold F__law_t2_plan
  refine ok_runB ?_
  unfold b__law_t2_plan
  have hp := pen.lt
  have hp1 := pen.lt1
  refine wp_cut (fun ρ S1 => ∃ (q1 q2 : Nat), ρ = [some (.ref p), some (bD cs), some (.int v), some (.ref q1), some (.ref q2), none, none, none, none] ∧ q1 ≠ p ∧ q2 ≠ p ∧ q1 ≠ q2 ∧ S.length ≤ q1 ∧ S.length ≤ q2 ∧ Grow none S S1 ∧ lstAt S1 q1 = some [] ∧ lstAt S1 q2 = some ([cs].map bD)) ?_ ?_
  · walk_at "ev"
    have e : (S ++ [SO.lst []]).length = S.length + 1 := by simp
    refine ⟨Nat.zero_le _, size1 (by decide), size1 (by decide), _, _, rfl, _, _, rfl, by omega, by omega, by omega, by omega, by omega, (Grow.app _).trans (Grow.app _), (Grow.app _ : Grow none (S ++ [SO.lst []]) _).lst lst_new (fun z => nomatch z), lst_new⟩
  rintro ρ S1 ⟨q1, q2, rfl, n1, n2, n3, h1, h2, g1, l1, l2⟩
  refine wp_cut (fun ρ S2 => ∃ (c5 c6 c7 c8 : Option D) (ms : List (Cell × Cell)) (bs : List (List Cell)), ρ = [some (.ref p), some (bD cs), some (.int v), some (.ref q1), some (.ref q2), c5, c6, c7, c8] ∧ PB S p q1 q2 ms bs S2 ∧ Pen S2 p (c + 2 * n) ∧ Mvs cs ms ∧ ms.length ≤ n ∧ bs.getLast? = some (endC cs ms)) ?_ ?_
  · refine wp_rng n (fun k ρ S2 => ∃ (c5 c6 c7 c8 : Option D) (ms : List (Cell × Cell)) (bs : List (List Cell)), ρ = [some (.ref p), some (bD cs), some (.int v), some (.ref q1), some (.ref q2), c5, c6, c7, c8] ∧ PB S p q1 q2 ms bs S2 ∧ Pen S2 p (c + 2 * k) ∧ Mvs cs ms ∧ ms.length ≤ k ∧ bs.length ≤ k + 1 ∧ bs.getLast? = some (endC cs ms) ∧ (endC cs ms).Nodup ∧ (endC cs ms).length ≤ cs.length) ?_ (by omega) ?_ ?_
    · walk_at "ev"
      exact ⟨by rw [hv], none, none, none, none, [], [cs], rfl, ⟨g1.any, l1, l2⟩, (pen.grow g1).more (by omega), trivial, Nat.zero_le _, Nat.le_refl _, rfl, nd, Nat.le_refl _⟩
    · rintro ρ S2 ⟨c5, c6, c7, c8, ms, bs, rfl, b2, p2, m2, hn2, _, e2, _⟩
      exact ⟨c5, c6, c7, c8, ms, bs, rfl, b2, p2, m2, hn2, e2⟩
    rintro k ρ S2 hk ⟨c5, c6, c7, c8, ms, bs, rfl, b2, p2, m2, hn2, hb2, e2, nd2, len2⟩
    refine ⟨_, _, rfl, ?_⟩
    simp only [List.set_cons_succ, List.set_cons_zero]
    refine wp_cut (fun ρ S3 => ∃ (t : Nat) (mv : List (Cell × Cell)), ρ = [some (.ref p), some (bD cs), some (.int v), some (.ref q1), some (.ref q2), some (.int k), some (.ref t), c7, c8] ∧ Grow none S2 S3 ∧ lstAt S3 t = some (mv.map pD) ∧ (∀ m ∈ mv, Mv (endC cs ms) m) ∧ mv.length ≤ 9 * cs.length) ?_ ?_
    · walk_at "ev"
      rw [neg_i]
      simp only [ok_ok]
      rw [ix_last b2.l2 (getLast_map e2)]
      simp only [ok_ok]
      refine ⟨by first | trivial | rfl, (moves_ok nd2 (by omega)).imp fun d S3 ⟨t, mv, ed, g3, l3, h3, h4⟩ => ?_⟩
      subst ed
      exact ⟨t, mv, rfl, g3, l3, h3, by omega⟩
    rintro ρ S3 ⟨t, mv, rfl, g3, l3, hm3, h3⟩
    have b3 := b2.next n1 n2 g3.any
    have p3 := p2.grow g3
    clear p2
    refine wp_cut (fun ρ S4 => ρ = [some (.ref p), some (bD cs), some (.int v), some (.ref q1), some (.ref q2), some (.int k), some (.ref t), c7, c8] ∧ Grow none S3 S4 ∧ mv ≠ []) ?_ ?_
    · walk_at "ev"
      refine ⟨Nat.zero_le _, ?_⟩
      rw [eq_nil_l l3 pl_pairs]
      simp only [ok_ok]
      by_cases hn : mv.map pD = []
      · rw [if_pos (decide_eq_true hn)]
        exact ⟨_, _, _, _, ms, bs, rfl, b3.next n1 n2 (Grow.app _), (p3.grow (Grow.app _)).more (by omega), m2, by omega, e2⟩
      · rw [if_neg (by simpa using hn)]
        exact ⟨by first | trivial | rfl, Grow.app _, fun z => hn (by rw [z]; rfl)⟩
    rintro ρ S4 ⟨rfl, g4, hne⟩
    have b4 := b3.next n1 n2 g4.any
    have p4 := p3.grow g4
    have l4 := g4.lst l3 (fun z => nomatch z)
    clear p3 l3
    refine wp_cut (fun ρ S5 => ∃ (u : Nat) (sm : List (Cell × Cell)), ρ = [some (.ref p), some (bD cs), some (.int v), some (.ref q1), some (.ref q2), some (.int k), some (.ref t), some (.ref u), c8] ∧ Grow none S4 S5 ∧ lstAt S5 u = some (sm.map pD) ∧ (∀ m ∈ sm, m ∈ mv) ∧ sm.length ≤ mv.length) ?_ ?_
    · walk_at "ev"
      rw [ok_lc]
      walk_at "ev"
      rw [itm_l l4]
      simp only
      refine ok_lcGo (S0 := S4) (enc := pD) (up := fun a => [some (.ref p), some (bD cs), some (.int v), some (.ref q1), some (.ref q2), some (.int k), some (.ref t), c7, some (pD a)]) (fun x => match ms.getLast? with | none => false | some l => decide (x.1 = l.2) && !decide (x.2 = l.1)) pD rfl mv (fun _ _ _ => rfl) (fun S5 g5 => decide_eq_true (g5.lst l4 fun z => nomatch z)) (by rw [sizeLine_eq]; omega) ?_ ?_ ?_
      · intro x S5 _ g5
        have l5 := (b4.next n1 n2 g5.any).l1
        walk_at "ev"
        refine ⟨Nat.zero_le _, ?_⟩
        rw [ne_nil_l l5 pl_pairs]
        simp only [ok_ok]
        have g6 : Grow none S5 (S5 ++ [SO.lst []]) := Grow.app _
        have l6 := g6.lst l5 (fun z => nomatch z)
        cases eg : ms.getLast? with
        | none =>
          have : ms = [] := List.getLast?_eq_none_iff.mp eg
          rw [if_neg (by rw [this]; simp)]
          exact ⟨rfl, g6⟩
        | some lm =>
          have : ms ≠ [] := fun z => by rw [z] at eg; cases eg
          rw [if_pos (by simp [this])]
          simp only [ix_p0, neg_i, ok_ok]
          rw [ix_last l6 (getLast_map eg)]
          simp only [ok_ok, ix_p0, ix_p1, eq_c]
          by_cases c1 : x.1 = lm.2
          · rw [if_pos (decide_eq_true c1)]
            rw [ix_last l6 (getLast_map eg)]
            simp only [ok_ok, ix_p0, ix_p1, ne_c, c1, decide_true, Bool.true_and]
            exact ⟨by first | trivial | rfl, g6⟩
          · rw [if_neg (by simp [c1])]
            refine ⟨by simp [c1], g6⟩
      · intro x S5 _ _ _
        walk_at "ev"
        exact ⟨by first | trivial | rfl, Grow.refl⟩
      · intro S5 g5 l5
        exact ⟨S4.length, _, rfl, g5, l5, fun m hm => (List.mem_filter.mp hm).1, List.length_filter_le _ _⟩
    rintro ρ S5 ⟨u, sm, rfl, g5, l5, hs5, h5⟩
    have b5 := b4.next n1 n2 g5.any
    have p5 := p4.grow g5
    have t5 := g5.lst l4 (fun z => nomatch z)
    clear p4 l4
    refine wp_cut (fun ρ S6 => ∃ (t : Nat) (mv : List (Cell × Cell)), ρ = [some (.ref p), some (bD cs), some (.int v), some (.ref q1), some (.ref q2), some (.int k), some (.ref t), some (.ref u), c8] ∧ Grow (some p) S5 S6 ∧ Pen S6 p (c + 2 * k + 1) ∧ lstAt S6 t = some (mv.map pD) ∧ (∀ m ∈ mv, Mv (endC cs ms) m) ∧ mv.length < 1000000 ∧ mv ≠ []) ?_ ?_
    · walk_at "ev"
      refine ⟨Nat.zero_le _, ?_⟩
      rw [ne_nil_l l5 pl_pairs]
      simp only [ok_ok]
      have g6 : Grow none S5 (S5 ++ [SO.lst []]) := Grow.app _
      by_cases hn : sm.map pD = []
      · rw [if_neg (by simp [hn]), if_neg Bool.false_ne_true]
        exact ⟨t, mv, rfl, g6.any, (p5.grow g6).more (by omega), g6.lst t5 (fun z => nomatch z), hm3, by omega, hne⟩
      · rw [if_pos (by simpa using hn)]
        refine ⟨by first | trivial | rfl, (draw_ok (p5.grow g6) (by omega) (by omega) (by omega)).imp fun d S7 ⟨v, ev, hv1, hv2, g7, p7⟩ => ?_⟩
        subst ev
        rw [gt_ii]
        simp only [ok_ok]
        have hlt5 := lst_lt l5
        obtain ⟨_, _, _, _, _, _, hpd, _⟩ := p5.ex
        have up : u ≠ p := lst_ne_dct l5 hpd
        have tp : t ≠ p := lst_ne_dct t5 hpd
        have g57 : Grow (some p) S5 S7 := g6.any.trans g7
        by_cases hv : 0 < v
        · rw [if_pos (decide_eq_true hv)]
          exact ⟨u, sm, rfl, g57, p7, g57.lst l5 (fun z => up (by injection z)), fun m hm => hm3 m (hs5 m hm), by omega, fun z => hn (by rw [z]; rfl)⟩
        · rw [if_neg (by simpa using hv)]
          exact ⟨t, mv, rfl, g57, p7, g57.lst t5 (fun z => tp (by injection z)), hm3, by omega, hne⟩
    rintro ρ S6 ⟨t, mv, rfl, g6, p6, t6, hm6, h6, hne6⟩
    have b6 := b5.next n1 n2 g6
    clear p5 t5 hm3 h3 hne
    refine wp_cut (fun ρ S7 => ∃ (m : Cell × Cell), ρ = [some (.ref p), some (bD cs), some (.int v), some (.ref q1), some (.ref q2), some (.int k), some (.ref t), some (.ref u), c8] ∧ PB S p q1 q2 (ms ++ [m]) bs S7 ∧ Pen S7 p (c + 2 * k + 2) ∧ Mv (endC cs ms) m) ?_ ?_
    · walk_at "ev"
      refine ⟨q1, _, rfl, b6.l1, by first | trivial | rfl, (pick_ok p6 (by omega) t6 (fun z => hne6 (List.map_eq_nil_iff.mp z)) (by rw [List.length_map]; exact h6)).imp fun d S7 ⟨hd, g7, p7⟩ => ?_⟩
      obtain ⟨m, hm, rfl⟩ := List.mem_map.mp hd
      have b7 := b6.next n1 n2 g7
      rw [app_l b7.l1 (by rw [sizeLine_eq, List.length_map]; omega)]
      simp only [ok_ok]
      refine ⟨m, by first | trivial | rfl, ⟨b7.g.set (.inl h1), by rw [lst_set (lst_lt b7.l1), List.map_append]; rfl, by rw [lst_set_ne n3]; exact b7.l2⟩, p7.set n1 (by omega), hm6 m hm⟩
    rintro ρ S7 ⟨m, rfl, b7, p7, mv7⟩
    walk_at "ev"
    refine ⟨q2, _, rfl, b7.l2, ?_⟩
    rw [neg_i]
    simp only [ok_ok]
    rw [ix_last b7.l2 (getLast_map e2)]
    simp only [ok_ok]
    rw [neg_i]
    simp only [ok_ok]
    rw [ix_last b7.l1 (d := pD m) (by simp)]
    simp only [ok_ok, ix_p0]
    rw [neg_i]
    simp only [ok_ok]
    rw [ix_last b7.l1 (d := pD m) (by simp)]
    simp only [ok_ok, ix_p1]
    refine ⟨by first | trivial | rfl, (done_ok (by omega)).imp fun d S8 ⟨ed, g8⟩ => ?_⟩
    subst ed
    have b8 := b7.next n1 n2 g8.any
    rw [app_l b8.l2 (by rw [sizeLine_eq, List.length_map]; omega)]
    simp only [ok_ok]
    refine ⟨_, _, _, _, ms ++ [m], bs ++ [doneC (endC cs ms) m], rfl, ⟨b8.g.set (.inl h2), by rw [lst_set_ne n3.symm]; exact b8.l1, by rw [lst_set (lst_lt b8.l2), List.map_append]; rfl⟩, ((p7.grow g8).set n2 (by omega)).more (by omega), mvs_snoc m2 mv7, by simp; omega, by simp; omega, by rw [endC_snoc]; simp, by rw [endC_snoc]; exact doneC_nodup nd2 mv7.e, by rw [endC_snoc]; have := doneC_len mv7.s; omega⟩
  rintro ρ S2 ⟨c5, c6, c7, c8, ms, bs, rfl, b2, p2, m2, hn2, e2⟩
  walk_at "ev"
  exact ⟨size1 (by decide), q1, q2, ms, bs, rfl, b2, p2, m2, hn2, e2⟩
end Lw
end
section
set_option linter.all false
set_option maxRecDepth 100000
set_option maxHeartbeats 2000000
/-! M2: distances over squares; ways back. -/
namespace Tie
open SX
structure FI (R : List Cell) (a0 : Cell) (l : List (Cell × Int)) : Prop where
  nd : (l.map (·.1)).Nodup
  sub : ∀ c, c ∈ l.map (·.1) → c ∈ R
  root : look l a0 = some 0
  val : ∀ x d, look l x = some d → 0 ≤ d ∧ (d = 0 → x = a0) ∧ (0 < d → ∃ y, y ∈ bes x ∧ look l y = some (d - 1))
  lt : ∀ x d, look l x = some d → d < (l.length : Int)
section
variable {R : List Cell} {a0 x y : Cell} {l : List (Cell × Int)} {line later dn d2 : List Cell} {k : Nat}
theorem look_key {α : Type} {l : List (Cell × α)} {a : α} {x : Cell} (h : look l x = some a) : x ∈ l.map (·.1) := by
  have : (look l x).isSome = true := by rw [h]; rfl
  rw [look_isSome] at this
  exact of_decide_eq_true this
theorem key_look {α : Type} {l : List (Cell × α)} {x : Cell} (h : x ∈ l.map (·.1)) : ∃ a, look l x = some a := by
  have : (look l x).isSome = true := by rw [look_isSome]; exact decide_eq_true h
  exact Option.isSome_iff_exists.mp this
theorem FI.one (h : a0 ∈ R) : FI R a0 (put [] a0 0) where
  nd := by simp [put]
  sub := fun c hc => by
    simp [put] at hc
    rw [hc]; exact h
  root := by rw [look_put, if_pos rfl]
  val := fun x d hx => by
    rw [look_put] at hx
    by_cases e : x = a0
    · rw [if_pos e] at hx
      cases hx
      exact ⟨Int.le_refl _, fun _ => e, fun z => by omega⟩
    · rw [if_neg e] at hx
      cases hx
  lt := fun x d hx => by
    rw [look_put] at hx
    by_cases e : x = a0
    · rw [if_pos e] at hx
      cases hx
      simp [SX.put]
    · rw [if_neg e] at hx
      cases hx
theorem FI.put {d : Int} (h : FI R a0 l) (hb : x ∈ bes y) (hy : look l y = some d) (hR : x ∈ R) (hx : x ∉ l.map (·.1)) : FI R a0 (SX.put l x (d + 1)) where
  nd := by
    rw [put_keys, if_neg hx, List.nodup_append]
    refine ⟨h.nd, by simp, fun u hu v hv e => ?_⟩
    rw [List.mem_singleton] at hv
    rw [e, hv] at hu
    exact hx hu
  sub := fun c hc => by
    rw [put_keys, if_neg hx] at hc
    rcases List.mem_append.mp hc with z | z
    · exact h.sub c z
    · rw [List.mem_singleton] at z; rw [z]; exact hR
  root := by
    rw [look_put, if_neg]
    · exact h.root
    · intro e
      exact hx (e ▸ look_key h.root)
  val := fun u e hu => by
    rw [look_put] at hu
    by_cases eu : u = x
    · rw [if_pos eu] at hu
      cases hu
      obtain ⟨v1, v2, v3⟩ := h.val y d hy
      refine ⟨by omega, fun z => by omega, fun _ => ⟨y, eu ▸ bes_symm hb, ?_⟩⟩
      rw [look_put, if_neg (fun e : y = x => hx (e ▸ look_key hy)), hy]
      congr 1
      omega
    · rw [if_neg eu] at hu
      obtain ⟨v1, v2, v3⟩ := h.val u e hu
      refine ⟨v1, v2, fun z => ?_⟩
      obtain ⟨w, w1, w2⟩ := v3 z
      refine ⟨w, w1, ?_⟩
      rw [look_put, if_neg (fun e : w = x => hx (e ▸ look_key w2))]
      exact w2
  lt := fun u e hu => by
    rw [put_new hx, List.length_append, List.length_singleton]
    rw [look_put] at hu
    by_cases eu : u = x
    · rw [if_pos eu] at hu
      cases hu
      have := h.lt y d hy
      omega
    · rw [if_neg eu] at hu
      have := h.lt u e hu
      omega
/-- ahead of lap k -/
structure WI (R : List Cell) (a0 : Cell) (l : List (Cell × Int)) (line : List Cell) (k : Nat) : Prop where
  fi : FI R a0 l
  far : ∀ x ∈ line, look l x = some (k : Int)
  closed : ∀ x, x ∈ l.map (·.1) → x ∉ line → ∀ y ∈ bes x, y ∈ R → y ∈ l.map (·.1)
  count : line ≠ [] → k + 1 ≤ l.length
/-- in lap k: dn of the line done -/
structure WM (R : List Cell) (a0 : Cell) (l : List (Cell × Int)) (line : List Cell) (k : Nat) (dn later : List Cell) : Prop where
  fi : FI R a0 l
  far : ∀ x ∈ line, look l x = some (k : Int)
  far2 : ∀ x ∈ later, look l x = some ((k : Int) + 1)
  closed : ∀ x, x ∈ l.map (·.1) → x ∉ line → x ∉ later → ∀ y ∈ bes x, y ∈ R → y ∈ l.map (·.1)
  done : ∀ x ∈ dn, ∀ y ∈ bes x, y ∈ R → y ∈ l.map (·.1)
  cnt : line ≠ [] → k + 1 ≤ l.length
  cnt2 : later ≠ [] → k + 2 ≤ l.length
  ll : later.length ≤ l.length
theorem WI.mid (h : WI R a0 l line k) : WM R a0 l line k [] [] := ⟨h.fi, h.far, fun _ z => (nomatch z), fun x hx hl _ => h.closed x hx hl, fun _ z => (nomatch z), h.count, fun z => absurd rfl z, Nat.zero_le _⟩
theorem WM.end_ (h : WM R a0 l line k line later) : WI R a0 l later (k + 1) := ⟨h.fi, fun x hx => by rw [h.far2 x hx]; congr 1, fun x hx hl y hy hR => by
  by_cases e : x ∈ line
  · exact h.done x e y hy hR
  · exact h.closed x hx e hl y hy hR, fun z => h.cnt2 z⟩
theorem WM.next (h : WM R a0 l line k dn later) (hd : ∀ y ∈ bes x, y ∈ R → y ∈ l.map (·.1)) : WM R a0 l line k (dn ++ [x]) later := ⟨h.fi, h.far, h.far2, h.closed, fun u hu => by
  rcases List.mem_append.mp hu with z | z
  · exact h.done u z
  · rw [List.mem_singleton.mp z]; exact hd, h.cnt, h.cnt2, h.ll⟩
theorem WM.put (h : WM R a0 l line k dn later) (hx : x ∈ line) (hy : y ∈ bes x) (hR : y ∈ R) (hn : y ∉ l.map (·.1)) : WM R a0 (SX.put l y ((k : Int) + 1)) line k dn (later ++ [y]) := by
  have keys : ∀ u, u ∈ (SX.put l y ((k : Int) + 1)).map (·.1) ↔ u ∈ l.map (·.1) ∨ u = y := fun u => by
    rw [put_keys, if_neg hn, List.mem_append, List.mem_singleton]
  have old : ∀ u e, look l u = some e → look (SX.put l y ((k : Int) + 1)) u = some e := fun u e hu => by
    rw [look_put, if_neg (fun z : u = y => hn (z ▸ look_key hu))]; exact hu
  refine ⟨h.fi.put hy (h.far x hx) hR hn, fun u hu => old u _ (h.far u hu), fun u hu => ?_, fun u hu hl hl2 v hv hvR => ?_, fun u hu v hv hvR => (keys v).mpr (.inl (h.done u hu v hv hvR)), fun z => ?_, fun _ => ?_, by rw [put_new hn, List.length_append, List.length_append]; have := h.ll; simp only [List.length_singleton]; omega⟩
  · rcases List.mem_append.mp hu with z | z
    · exact old u _ (h.far2 u z)
    · rw [List.mem_singleton.mp z, look_put, if_pos rfl]
  · rcases (keys u).mp hu with z | z
    · exact (keys v).mpr (.inl (h.closed u z hl (fun q => hl2 (List.mem_append_left _ q)) v hv hvR))
    · exact absurd (by rw [z]; simp) hl2
  · rw [put_new hn, List.length_append]; have := h.cnt z; omega
  · rw [put_new hn, List.length_append, List.length_singleton]
    have := h.cnt (fun z => by rw [z] at hx; cases hx)
    omega
/-- behind all laps -/
theorem WI.all (h : WI R a0 l line R.length) (cn : Conn fun c => c ∈ R) : ∀ c, c ∈ R → c ∈ l.map (·.1) := by
  have hl : line = [] := by
    by_cases e : line = []
    · exact e
    · have h1 := h.count e
      have h2 := nodup_len h.fi.nd h.fi.sub
      rw [List.length_map] at h2
      omega
  intro c hc
  have ha := look_key h.fi.root
  exact Rch.closed (C := fun c => c ∈ l.map (·.1)) (cn.2 a0 c (h.fi.sub _ ha) hc) ha fun u v hu hv hR => h.closed u hu (by rw [hl]; simp) v hv hR
/-- the way back from v: i cells put into fd -/
structure BK (l : List (Cell × Int)) (a0 v : Cell) (d : Nat) (i : Nat) (here : Cell) (fd : List Cell) : Prop where
  far : i ≤ d → look l here = some ((d : Int) - i)
  way : ∀ C : Cell → Prop, (∀ x, x ∈ fd → C x) → C here → Rch C v here
  fin : i = d + 1 → Rch (fun c => c ∈ fd) v a0
theorem BK.start {v : Cell} {d : Nat} {fd : List Cell} (h : look l v = some (d : Int)) : BK l a0 v d 0 v fd := ⟨fun _ => by rw [h]; simp, fun C _ hc => .refl hc, fun z => by omega⟩
theorem BK.step {v here h2 : Cell} {d i : Nat} {fd fd' : List Cell} (fi : FI R a0 l) (h : BK l a0 v d i here fd) (hi : i ≤ d) (hf : ∀ x, x ∈ fd' ↔ x ∈ fd ∨ x = here) (hn : (i < d → h2 ∈ bes here ∧ look l h2 = some ((d : Int) - i - 1)) ∧ (i = d → h2 = here)) : BK l a0 v d (i + 1) h2 fd' where
  far := fun z => by rw [(hn.1 (by omega)).2]; congr 1; omega
  way := fun C hC hc => by
    have hh : C here := hC _ ((hf _).mpr (.inr rfl))
    have r := h.way C (fun x hx => hC x ((hf x).mpr (.inl hx))) hh
    by_cases e : i < d
    · exact .step r (hn.1 e).1 hc
    · rw [hn.2 (by omega)]; exact r
  fin := fun z => by
    have e : i = d := by omega
    have hv := h.far hi
    have : here = a0 := by
      refine (fi.val here _ hv).2.1 ?_
      omega
    rw [← this]
    exact h.way (fun c => c ∈ fd') (fun x hx => (hf x).mpr (.inl hx)) ((hf _).mpr (.inr rfl))
end
end Tie
end
section
set_option linter.all false
set_option maxRecDepth 100000
set_option maxHeartbeats 2000000
/-! V12: witnesses. -/
open SX in
local macro_rules | `(tactic| walk_at "ev") => `(tactic| simp only [startE, List.map_cons, List.map_nil, List.length_cons, List.length_nil, List.cons_append, List.nil_append, Nat.reduceAdd, Nat.reduceSub, List.replicate_succ, List.replicate_zero, wp_seq, wp_skip, wp_break, wp_cont, wp_ret, wp_retN, wp_expr, wp_asgN, wp_asg2, wp_asgS, wp_if, wp_par, wp_par3, wp_never, ok_v, ok_c, ok_op2, ok_op1, ok_bool, ok_tru, ok_and, ok_or, ok_not, ok_andV, ok_orV, ok_notV, ok_if, ok_nil, ok_cons, ok_tup, ok_lst, ok_call, ok_callF, ok_meth, ok_dm, ok_dnew, ok_sl, ok_partN, ok_partS, ok_seqI, List.getElem?_cons_zero, List.getElem?_cons_succ, List.set_cons_zero, List.set_cons_succ])
namespace Tie
structure Wit (cs : List Cell) (s : Cell) (W : List Cell) : Prop where
  wB : ∀ c ∈ W, c ∈ cs
  ws : s ∉ W
  near : ∀ c ∈ bes s, c ∈ cs → c ∈ W
  one : ∀ a b, a ∈ bes s → a ∈ cs → b ∈ bes s → b ∈ cs → Rch (fun c => c ∈ W) a b
  len : W.length ≤ cs.length
end Tie
namespace SX
open PySem L2 Tie
theorem encT_cell {c : Cell} : encT (cD c) = eC c := rfl
theorem mmOk_cells {cs : List Cell} : mmOk (cs.map cD) = true := by
  unfold mmOk
  rw [Bool.and_eq_true]
  simp only [List.all_map, List.all_eq_true, Function.comp_apply, encT_cell]
  exact ⟨fun a _ => by simp [cD, pyT, pyTs, eC, PyData.depth, PyData.depthAll], fun a _ b _ => rfl⟩
theorem min_cells {S : Sto} {n : Nat} {cs : List Cell} (h : lstAt S n = some (cs.map cD)) (hn : cs ≠ []) : ∃ c ∈ cs, gMM minDD [.ref n] S = .ok (cD c) S := by
  cases cs with
  | nil => exact absurd rfl hn
  | cons a r =>
    have hm := minDD_mem (r.map cD) (cD a)
    rw [← List.map_cons] at hm
    obtain ⟨c, hc, e⟩ := List.mem_map.mp hm
    refine ⟨c, hc, ?_⟩
    unfold gMM
    simp only
    rw [h, List.map_cons]
    simp only
    rw [if_pos (show mmOk (cD a :: r.map cD) = true from mmOk_cells (cs := a :: r)), e]
end SX
namespace Lw
open PySem L2 SX Tie
variable {ga : PySem.Str → Nat} {S : Sto}
theorem witness_ok {cs : List Cell} {s : Cell} (nd : cs.Nodup) (hl : cs.length < 1000) (cn : Conn fun x => x ∈ cs ∧ x ≠ s) (hn : ∃ c, c ∈ bes s ∧ c ∈ cs) : Ok (F__law_t2_witness ga [bD cs, cD s] S) fun d S' => ∃ W, d = bD W ∧ Grow none S S' ∧ Wit cs s W := by
  unfold F__law_t2_witness
  refine ok_runB ?_
  unfold b__law_t2_witness
  generalize hR : cs.filter (fun a => !decide (a = s)) = R
  have mR : ∀ x, x ∈ R ↔ x ∈ cs ∧ x ≠ s := fun x => by rw [← hR, List.mem_filter]; simp
  have ndR : R.Nodup := by rw [← hR]; exact nd.filter _
  have lenR : R.length ≤ cs.length := by rw [← hR]; exact List.length_filter_le _ _
  have cnR : Conn fun c => c ∈ R := cn.congr fun x => (mR x).symm
  refine wp_cut (fun ρ S1 => ∃ (p2 : Nat), ρ = [some (bD cs), some (cD s), some (.ref p2), none, none, none, none, none, none, none, none, none, none] ∧ Grow none S S1 ∧ dctW S1 p2 = some (cKv uD (sq R))) ?_ ?_
  · walk_at "ev"
    rw [ok_lc]
    walk_at "ev"
    unfold bD
    rw [itm_t]
    simp only
    refine ok_lcGo (S0 := S) (enc := cD) (up := fun a => [some (.tup (cs.map cD)), some (cD s), none, none, none, none, none, none, some (cD a), none, none, none, none]) (fun a => !decide (a = s)) cD rfl cs (fun _ _ _ => rfl) (fun _ _ => rfl) (by rw [sizeLine_eq]; omega) ?_ ?_ ?_
    · intro a S2 _ _
      walk_at "ev"
      rw [ne_c]
      exact ⟨rfl, Grow.refl⟩
    · intro a S2 _ _ _
      walk_at "ev"
      exact ⟨by first | trivial | rfl, Grow.refl⟩
    · intro S2 g2 l2
      rw [hR] at l2
      refine ⟨by first | trivial | rfl, (squares_ok (Walk.lst l2) ndR (by omega)).imp fun d S3 ⟨ed, g3, d3⟩ => ?_⟩
      subst ed
      exact ⟨_, rfl, g2.trans g3, d3⟩
  rintro ρ S1 ⟨p2, rfl, g1, d1⟩
  have mN : ∀ x, x ∈ srtC ((bes s).filter fun c => decide (c ∈ R)) ↔ x ∈ bes s ∧ x ∈ R := fun x => by rw [(srtBy_perm eC _).mem_iff, List.mem_filter]; simp
  have lN : (srtC ((bes s).filter fun c => decide (c ∈ R))).length ≤ 4 := by
    rw [(srtBy_perm eC _).length_eq]
    exact List.length_filter_le _ _
  generalize hN : srtC ((bes s).filter fun c => decide (c ∈ R)) = NR at mN lN
  refine wp_cut (fun ρ S1 => ∃ (nr : Nat), ρ = [some (bD cs), some (cD s), some (.ref p2), some (.ref nr), none, none, none, none, none, none, none, none, none] ∧ Grow none S S1 ∧ dctW S1 p2 = some (cKv uD (sq R)) ∧ lstAt S1 nr = some (NR.map cD)) ?_ ?_
  · walk_at "ev"
    rw [ok_lc]
    walk_at "ev"
    refine ⟨by first | trivial | rfl, ?_⟩
    rw [t2_beside_eq]
    simp only [ok_ok]
    have l2 : lstAt (S1 ++ [SO.lst ((bes s).map cD)]) S1.length = some ((bes s).map cD) := lst_new
    have d2 := (Grow.app [SO.lst ((bes s).map cD)] : Grow none S1 _).dct d1 (fun z => nomatch z)
    have g2 : Grow none S (S1 ++ [SO.lst ((bes s).map cD)]) := g1.trans (Grow.app _)
    rw [itm_l l2]
    simp only
    refine ok_lcGo (S0 := S1 ++ [SO.lst ((bes s).map cD)]) (enc := cD) (up := fun a => [some (bD cs), some (cD s), some (.ref p2), none, none, none, none, none, some (cD a), none, none, none, none]) (fun c => decide (c ∈ R)) cD rfl (bes s) (fun _ _ _ => rfl) (fun S3 g3 => decide_eq_true (g3.lst l2 fun z => nomatch z)) (size1 (by show 4 < 100000; omega)) ?_ ?_ ?_
    · intro a S3 _ g3
      walk_at "ev"
      rw [in_sq (g3.dct d2 fun z => nomatch z)]
      exact ⟨rfl, Grow.refl⟩
    · intro a S3 _ _ _
      walk_at "ev"
      exact ⟨by first | trivial | rfl, Grow.refl⟩
    · intro S3 g3 l3
      rw [sorted_l sk_c l3]
      refine ⟨_, rfl, (g2.trans g3).trans (Grow.app _), (g3.trans (Grow.app _)).dct d2 (fun z => nomatch z), ?_⟩
      rw [lst_new, ← hN]
  rintro ρ S2 ⟨nr, rfl, g2, d2, l2⟩
  obtain ⟨a0, rest, eN⟩ : ∃ a0 rest, NR = a0 :: rest := by
    cases NR with
    | nil =>
      obtain ⟨c, h1, h2⟩ := hn
      have := (mN c).mpr ⟨h1, (mR c).mpr ⟨h2, fun e => bes_ne (e ▸ h1)⟩⟩
      cases this
    | cons a r => exact ⟨a, r, rfl⟩
  have a0N : a0 ∈ NR := by rw [eN]; simp
  have a0R : a0 ∈ R := ((mN a0).mp a0N).2
  have i0 : (NR.map cD)[0]? = some (cD a0) := by rw [eN]; rfl
  refine wp_cut (fun ρ S3 => ∃ (q ln : Nat), ρ = [some (bD cs), some (cD s), some (.ref p2), some (.ref nr), some (.ref q), some (.ref ln), none, none, none, none, none, none, none] ∧ Grow none S2 S3 ∧ S2.length ≤ q ∧ S2.length ≤ ln ∧ dctW S3 q = some [] ∧ lstAt S3 ln = some ([a0].map cD)) ?_ ?_
  · walk_at "ev"
    rw [ix_l (i := 0) ((Grow.app [SO.dct []] : Grow none S2 _).lst l2 fun z => nomatch z) i0 rfl]
    simp only [ok_ok]
    refine ⟨size1 (by decide), size1 (by decide), _, _, rfl, _, _, rfl, (Grow.app _).trans (Grow.app _), Nat.le_refl _, by simp, ?_, lst_new⟩
    exact (Grow.app _ : Grow none (S2 ++ [SO.dct []]) _).dct dct_new fun z => nomatch z
  rintro ρ S3 ⟨q, ln, rfl, g3, hq, hln, d3, l3⟩
  have p2S := dct_lt d2
  have nrS := lst_lt l2
  have g03 := g2.trans g3
  have k3 := g3.lst l2 (fun z => nomatch z)
  have e3 := g3.dct d2 (fun z => nomatch z)
  have SS : S.length ≤ S2.length := g2.len
  refine wp_cut (fun ρ S4 => ρ = [some (bD cs), some (cD s), some (.ref p2), some (.ref nr), some (.ref q), some (.ref ln), none, none, none, none, none, none, none] ∧ Grow none S S4 ∧ dctW S4 q = some (cKv D.int (put [] a0 0)) ∧ lstAt S4 ln = some ([a0].map cD) ∧ lstAt S4 nr = some (NR.map cD) ∧ dctW S4 p2 = some (cKv uD (sq R))) ?_ ?_
  · walk_at "ev"
    rw [ix_l (i := 0) k3 i0 rfl]
    simp only [ok_ok]
    refine ⟨_, set_d (f := D.int) (a := 0) (l := []) d3 (small_sz (by decide)), by first | trivial | rfl, g03.set (.inl (by omega)), dct_set (dct_lt d3), ?_, ?_, ?_⟩
    · rw [lst_set_ne (lst_ne_dct l3 d3).symm]; exact l3
    · rw [lst_set_ne (by omega)]; exact k3
    · rw [dct_set_ne (by omega)]; exact e3
  clear d3 l3 k3 e3 g03 g3 d2 l2 g2 d1 g1
  rintro ρ S4 ⟨rfl, g4, d4, l4, k4, e4⟩
  have w0 : WI R a0 (put [] a0 0) [a0] 0 := ⟨FI.one a0R, fun x hx => by rw [List.mem_singleton.mp hx, look_put, if_pos rfl]; rfl, fun x hx hl => by simp [put] at hx; simp [hx] at hl, fun _ => by simp [put]⟩
  refine wp_cut (fun ρ S5 => ∃ (c5 c6 c7 c8 c9 : Option D) (l : List (Cell × Int)), ρ = [some (bD cs), some (cD s), some (.ref p2), some (.ref nr), some (.ref q), c5, c6, c7, c8, c9, none, none, none] ∧ Grow none S S5 ∧ dctW S5 q = some (cKv D.int l) ∧ lstAt S5 nr = some (NR.map cD) ∧ FI R a0 l ∧ ∀ c ∈ R, c ∈ l.map (·.1)) ?_ ?_
  · refine wp_rng R.length (fun k ρ S5 => ∃ (ln : Nat) (c6 c7 c8 c9 : Option D) (L : List Cell) (l : List (Cell × Int)), ρ = [some (bD cs), some (cD s), some (.ref p2), some (.ref nr), some (.ref q), some (.ref ln), c6, c7, c8, c9, none, none, none] ∧ Grow none S S5 ∧ dctW S5 q = some (cKv D.int l) ∧ lstAt S5 ln = some (L.map cD) ∧ lstAt S5 nr = some (NR.map cD) ∧ dctW S5 p2 = some (cKv uD (sq R)) ∧ WI R a0 l L k) ?_ (by omega) ?_ ?_
    · walk_at "ev"
      rw [len_d e4]
      simp only [ok_ok]
      refine ⟨?_, ln, none, none, none, none, [a0], _, rfl, g4, d4, l4, k4, e4, w0⟩
      simp [cKv, sq]
    · rintro ρ S5 ⟨ln, c6, c7, c8, c9, L, l, rfl, g5, d5, l5, k5, e5, w5⟩
      exact ⟨_, c6, c7, c8, c9, l, rfl, g5, d5, k5, w5.fi, w5.all cnR⟩
    rintro k ρ S5 hk ⟨ln, c6, c7, c8, c9, L, l, rfl, g5, d5, l5, k5, e5, w5⟩
    refine ⟨_, _, rfl, ?_⟩
    simp only [List.set_cons_succ, List.set_cons_zero]
    have lnS := lst_lt l5
    have nrS5 := lst_lt k5
    have qS5 := dct_lt d5
    have pS5 := dct_lt e5
    refine wp_cut (fun ρ S6 => ∃ t, ρ = [some (bD cs), some (cD s), some (.ref p2), some (.ref nr), some (.ref q), some (.ref ln), some (.int k), some (.ref t), c8, c9, none, none, none] ∧ t = S5.length ∧ S6 = S5 ++ [.lst []]) ?_ ?_
    · walk_at "ev"
      exact ⟨Nat.zero_le _, _, rfl, by first | trivial | rfl, by first | trivial | rfl⟩
    rintro ρ S6 ⟨t, rfl, et, rfl⟩
    have gx : Grow none S5 (S5 ++ [SO.lst []]) := Grow.app _
    have t6 : lstAt (S5 ++ [SO.lst []]) t = some (([] : List Cell).map cD) := by rw [et]; exact lst_new
    have d6 := gx.dct d5 (fun z => nomatch z)
    have l6 := gx.lst l5 (fun z => nomatch z)
    have k6 := gx.lst k5 (fun z => nomatch z)
    have e6 := gx.dct e5 (fun z => nomatch z)
    have g6 := g5.trans gx
    have tS : S.length ≤ t := by rw [et]; exact g5.len
    have tl : t ≠ ln := by omega
    have tn : t ≠ nr := by omega
    have tq : t ≠ q := by omega
    have tp : t ≠ p2 := by omega
    have pq : p2 ≠ q := by omega
    have lq : ln ≠ q := lst_ne_dct l5 d5
    have nq : nr ≠ q := lst_ne_dct k5 d5
    generalize S5 ++ [SO.lst []] = S6 at t6 d6 l6 k6 e6 g6 ⊢
    clear gx d5 l5 k5 e5 g5
    refine wp_cut (fun ρ S7 => ∃ (c8 c9 : Option D) (later : List Cell) (l : List (Cell × Int)), ρ = [some (bD cs), some (cD s), some (.ref p2), some (.ref nr), some (.ref q), some (.ref ln), some (.int k), some (.ref t), c8, c9, none, none, none] ∧ Grow none S S7 ∧ dctW S7 q = some (cKv D.int l) ∧ lstAt S7 t = some (later.map cD) ∧ lstAt S7 nr = some (NR.map cD) ∧ dctW S7 p2 = some (cKv uD (sq R)) ∧ WM R a0 l L k L later) ?_ ?_
    · refine wp_each cD (fun S' => lstAt S' ln = some (L.map cD)) L (fun dn ρ S7 => ∃ (c8 c9 : Option D) (later : List Cell) (l : List (Cell × Int)), ρ = [some (bD cs), some (cD s), some (.ref p2), some (.ref nr), some (.ref q), some (.ref ln), some (.int k), some (.ref t), c8, c9, none, none, none] ∧ Grow none S S7 ∧ dctW S7 q = some (cKv D.int l) ∧ lstAt S7 t = some (later.map cD) ∧ lstAt S7 nr = some (NR.map cD) ∧ dctW S7 p2 = some (cKv uD (sq R)) ∧ lstAt S7 ln = some (L.map cD) ∧ WM R a0 l L k dn later) rfl Walk.at_ (fun _ _ _ ⟨_, _, _, _, _, _, _, _, _, _, z, _⟩ => z) ?_ ?_ ⟨c8, c9, [], l, rfl, g6, d6, t6, k6, e6, l6, w5.mid⟩
      · rintro ρ S7 ⟨c8, c9, later, l, rfl, g7, d7, t7, k7, e7, l7, w7⟩
        exact ⟨c8, c9, later, l, rfl, g7, d7, t7, k7, e7, w7⟩
      rintro dn x td ρ S7 eL ⟨c8, c9, later, l, rfl, g7, d7, t7, k7, e7, l7, w7⟩
      refine ⟨_, _, rfl, ?_⟩
      have xL : x ∈ L := by rw [eL]; simp
      simp only [List.set_cons_succ, List.set_cons_zero]
      refine wp_each2 cD ?_
      walk_at "ev"
      refine ⟨by first | trivial | rfl, ?_⟩
      rw [t2_beside_eq]
      simp only [ok_ok]
      have gx : Grow none S7 (S7 ++ [SO.lst ((bes x).map cD)]) := Grow.app _
      have u8 : lstAt (S7 ++ [SO.lst ((bes x).map cD)]) S7.length = some ((bes x).map cD) := lst_new
      have t8 := gx.lst t7 (fun z => nomatch z)
      have d8 := gx.dct d7 (fun z => nomatch z)
      have l8 := gx.lst l7 (fun z => nomatch z)
      have k8 := gx.lst k7 (fun z => nomatch z)
      have e8 := gx.dct e7 (fun z => nomatch z)
      have g8 := g7.trans gx
      have ut : S7.length ≠ t := by have := lst_lt t7; omega
      have uq : S7.length ≠ q := by have := dct_lt d7; omega
      generalize S7.length = u at u8 ut uq ⊢
      generalize S7 ++ [SO.lst ((bes x).map cD)] = S8 at u8 t8 d8 l8 k8 e8 g8 ⊢
      clear gx d7 l7 k7 e7 g7 t7
      refine ⟨_, bes x, fun d2 ρ S9 => ∃ (c9 : Option D) (later : List Cell) (l : List (Cell × Int)), ρ = [some (bD cs), some (cD s), some (.ref p2), some (.ref nr), some (.ref q), some (.ref ln), some (.int k), some (.ref t), some (cD x), c9, none, none, none] ∧ Grow none S S9 ∧ dctW S9 q = some (cKv D.int l) ∧ lstAt S9 t = some (later.map cD) ∧ lstAt S9 nr = some (NR.map cD) ∧ dctW S9 p2 = some (cKv uD (sq R)) ∧ lstAt S9 ln = some (L.map cD) ∧ lstAt S9 u = some ((bes x).map cD) ∧ WM R a0 l L k dn later ∧ ∀ y ∈ d2, y ∈ R → y ∈ l.map (·.1), Walk.at_, fun _ _ _ ⟨_, _, _, _, _, _, _, _, _, _, z, _⟩ => z, ?_, ?_, ⟨c9, later, l, rfl, g8, d8, t8, k8, e8, l8, u8, w7, fun _ z => nomatch z⟩⟩
      · rintro ρ S9 ⟨c9, later, l, rfl, g9, d9, t9, k9, e9, l9, u9, w9, h9⟩
        exact ⟨_, c9, later, l, rfl, g9, d9, t9, k9, e9, l9, w9.next h9⟩
      rintro d2 y t2 ρ S9 eb ⟨c9, later, l, rfl, g9, d9, t9, k9, e9, l9, u9, w9, h9⟩
      refine ⟨_, _, rfl, ?_⟩
      have yb : y ∈ bes x := by rw [eb]; simp
      walk_at "ev"
      rw [in_sq e9]
      simp only [ok_ok]
      by_cases hyR : y ∈ R
      · rw [if_pos (decide_eq_true hyR)]
        rw [notin_d d9]
        simp only [ok_ok]
        by_cases hy : y ∈ l.map (·.1)
        · rw [look_isSome, decide_eq_true hy, if_neg (by simp)]
          refine ⟨_, later, l, rfl, g9, d9, t9, k9, e9, l9, u9, w9, fun z hz hzR => ?_⟩
          rcases List.mem_append.mp hz with h | h
          · exact h9 z h hzR
          · rw [List.mem_singleton.mp h]; exact hy
        · rw [look_isSome, decide_eq_false hy, if_pos (by simp)]
          simp only [add_ii, ok_ok]
          have llen : l.length < 1000 := by
            have := nodup_len w9.fi.nd w9.fi.sub
            rw [List.length_map] at this
            omega
          refine ⟨_, set_d (f := D.int) (a := (k : Int) + 1) d9 (small_sz (by omega)), ?_⟩
          refine ⟨t, _, rfl, by rw [lst_set_ne tq.symm]; exact t9, ?_⟩
          have w10 := w9.put xL yb hyR hy
          have latl := w9.ll
          rw [app_l (by rw [lst_set_ne tq.symm]; exact t9) (small_sz (by rw [List.length_map]; omega))]
          simp only [ok_ok]
          refine ⟨_, later ++ [y], _, rfl, (g9.set (.inl (by omega))).set (.inl tS), ?_, ?_, ?_, ?_, ?_, ?_, w10, fun z hz hzR => ?_⟩
          · rw [dct_set_ne tq, dct_set (dct_lt d9)]
          · rw [lst_set (by rw [List.length_set]; exact lst_lt t9), List.map_append]; rfl
          · rw [lst_set_ne tn, lst_set_ne nq.symm]; exact k9
          · rw [dct_set_ne tp, dct_set_ne pq.symm]; exact e9
          · rw [lst_set_ne tl, lst_set_ne lq.symm]; exact l9
          · rw [lst_set_ne ut.symm, lst_set_ne uq.symm]; exact u9
          · rw [put_keys, if_neg hy, List.mem_append]
            rcases List.mem_append.mp hz with h | h
            · exact .inl (h9 z h hzR)
            · exact .inr h
      · rw [if_neg (by simp [hyR]), if_neg Bool.false_ne_true]
        refine ⟨_, later, l, rfl, g9, d9, t9, k9, e9, l9, u9, w9, fun z hz hzR => ?_⟩
        rcases List.mem_append.mp hz with h | h
        · exact h9 z h hzR
        · rw [List.mem_singleton.mp h] at hzR; exact absurd hzR hyR
    rintro ρ S7 ⟨c8, c9, later, l, rfl, g7, d7, t7, k7, e7, w7⟩
    walk_at "ev"
    exact ⟨t, _, _, c8, c9, later, l, rfl, g7, d7, t7, k7, e7, w7.end_⟩
  rintro ρ S5 ⟨c5, c6, c7, c8, c9, l, rfl, g5, d5, k5, fi5, all5⟩
  refine wp_cut (fun ρ S6 => ∃ (w : Nat), ρ = [some (bD cs), some (cD s), some (.ref p2), some (.ref nr), some (.ref q), c5, c6, c7, c8, c9, some (.ref w), none, none] ∧ Grow none S S6 ∧ dctW S6 q = some (cKv D.int l) ∧ lstAt S6 nr = some (NR.map cD) ∧ S.length ≤ w ∧ w ≠ q ∧ w ≠ nr ∧ dctW S6 w = some (cKv uD [])) ?_ ?_
  · walk_at "ev"
    have gx : Grow none S5 (S5 ++ [SO.dct []]) := Grow.app _
    have h1 := dct_lt d5
    have h2 := lst_lt k5
    exact ⟨_, rfl, g5.trans gx, gx.dct d5 (fun z => nomatch z), gx.lst k5 (fun z => nomatch z), g5.len, by omega, by omega, dct_new⟩
  clear g5 d5 k5
  rintro ρ S6 ⟨w, rfl, g6, d6, k6, hw, wq, wn, f6⟩
  refine wp_cut (fun ρ S7 => ∃ (c6 c8 c9 c11 c12 : Option D) (fd : List (Cell × Unit)), ρ = [some (bD cs), some (cD s), some (.ref p2), some (.ref nr), some (.ref q), c5, c6, c7, c8, c9, some (.ref w), c11, c12] ∧ Grow none S S7 ∧ dctW S7 w = some (cKv uD fd) ∧ (fd.map (·.1)).Nodup ∧ (∀ x, x ∈ fd.map (·.1) → x ∈ R) ∧ ∀ v ∈ NR, Rch (fun c => c ∈ fd.map (·.1)) v a0) ?_ ?_
  · refine wp_each cD (fun S' => lstAt S' nr = some (NR.map cD)) NR (fun dn ρ S7 => ∃ (c6 c8 c9 c11 c12 : Option D) (fd : List (Cell × Unit)), ρ = [some (bD cs), some (cD s), some (.ref p2), some (.ref nr), some (.ref q), c5, c6, c7, c8, c9, some (.ref w), c11, c12] ∧ Grow none S S7 ∧ dctW S7 q = some (cKv D.int l) ∧ lstAt S7 nr = some (NR.map cD) ∧ dctW S7 w = some (cKv uD fd) ∧ (fd.map (·.1)).Nodup ∧ (∀ x, x ∈ fd.map (·.1) → x ∈ R) ∧ ∀ v ∈ dn, Rch (fun c => c ∈ fd.map (·.1)) v a0) rfl Walk.at_ (fun _ _ _ ⟨_, _, _, _, _, _, _, _, _, z, _⟩ => z) ?_ ?_ ⟨c6, c8, c9, none, none, [], rfl, g6, d6, k6, f6, List.nodup_nil, (fun _ z => nomatch z), (fun _ z => nomatch z)⟩
    · rintro ρ S7 ⟨c6, c8, c9, c11, c12, fd, rfl, g7, d7, k7, f7, h1, h2, h3⟩
      exact ⟨c6, c8, c9, c11, c12, fd, rfl, g7, f7, h1, h2, h3⟩
    rintro dn v td ρ S7 eN2 ⟨c6, c8, c9, c11, c12, fd, rfl, g7, d7, k7, f7, h1, h2, h3⟩
    refine ⟨_, _, rfl, ?_⟩
    simp only [List.set_cons_succ, List.set_cons_zero]
    have vN : v ∈ NR := by rw [eN2]; simp
    obtain ⟨dv, hdv⟩ := key_look (all5 v ((mN v).mp vN).2)
    have dv0 := (fi5.val v dv hdv).1
    obtain ⟨d, ed⟩ : ∃ d : Nat, dv = (d : Int) := ⟨dv.toNat, by omega⟩
    subst ed
    have llen : l.length ≤ R.length := by
      have := nodup_len fi5.nd fi5.sub
      rwa [List.length_map] at this
    have dlt : d < 100000000 := by have := fi5.lt v _ hdv; omega
    refine wp_cut (fun ρ S8 => ρ = [some (bD cs), some (cD s), some (.ref p2), some (.ref nr), some (.ref q), c5, c6, c7, some (cD v), c9, some (.ref w), some (cD v), c12] ∧ S7 = S8) ?_ ?_
    · walk_at "ev"
      exact ⟨by first | trivial | rfl, by first | trivial | rfl⟩
    rintro ρ S8 ⟨rfl, rfl⟩
    refine Wp.imp (N := fun ρ S8 => ∃ (c6 c9 c11 c12 : Option D) (fd2 : List (Cell × Unit)), ρ = [some (bD cs), some (cD s), some (.ref p2), some (.ref nr), some (.ref q), c5, c6, c7, some (cD v), c9, some (.ref w), c11, c12] ∧ Grow none S S8 ∧ dctW S8 q = some (cKv D.int l) ∧ lstAt S8 nr = some (NR.map cD) ∧ dctW S8 w = some (cKv uD fd2) ∧ (fd2.map (·.1)).Nodup ∧ (∀ x, x ∈ fd2.map (·.1) → x ∈ R) ∧ (∀ x, x ∈ fd.map (·.1) → x ∈ fd2.map (·.1)) ∧ Rch (fun c => c ∈ fd2.map (·.1)) v a0) (R := fun _ _ => False) (B := fun _ _ => False) (C := fun _ _ => False) ?_ ?_ (fun _ _ z => z.elim) (fun _ _ z => z.elim) (fun _ _ z => z.elim)
    · refine wp_rng (d + 1) (fun i ρ S8 => ∃ (c6 c9 c12 : Option D) (here : Cell) (fd2 : List (Cell × Unit)), ρ = [some (bD cs), some (cD s), some (.ref p2), some (.ref nr), some (.ref q), c5, c6, c7, some (cD v), c9, some (.ref w), some (cD here), c12] ∧ Grow none S S8 ∧ dctW S8 q = some (cKv D.int l) ∧ lstAt S8 nr = some (NR.map cD) ∧ dctW S8 w = some (cKv uD fd2) ∧ (fd2.map (·.1)).Nodup ∧ (∀ x, x ∈ fd2.map (·.1) → x ∈ R) ∧ (∀ x, x ∈ fd.map (·.1) → x ∈ fd2.map (·.1)) ∧ BK l a0 v d i here (fd2.map (·.1))) ?_ (by omega) ?_ ?_
      · walk_at "ev"
        rw [ix_d (f := D.int) d7 hdv]
        simp only [ok_ok, add_ii]
        exact ⟨by first | trivial | rfl, c6, c9, c12, v, fd, rfl, g7, d7, k7, f7, h1, h2, (fun _ z => z), BK.start hdv⟩
      · rintro ρ S8 ⟨c6, c9, c12, here, fd2, rfl, g8, d8, k8, f8, i1, i2, i3, bk⟩
        exact ⟨c6, c9, _, c12, fd2, rfl, g8, d8, k8, f8, i1, i2, i3, bk.fin rfl⟩
      rintro i ρ S8 hi ⟨c6, c9, c12, here, fd2, rfl, g8, d8, k8, f8, i1, i2, i3, bk⟩
      refine ⟨_, _, rfl, ?_⟩
      simp only [List.set_cons_succ, List.set_cons_zero]
      have hfar := bk.far (by omega)
      have hereR : here ∈ R := fi5.sub _ (look_key hfar)
      have fdl : fd2.length ≤ R.length := by
        have := nodup_len i1 i2
        rwa [List.length_map] at this
      have hkeys : ∀ x, x ∈ (put fd2 here ()).map (·.1) ↔ x ∈ fd2.map (·.1) ∨ x = here := fun x => by
        rw [put_keys]
        by_cases e : here ∈ fd2.map (·.1)
        · rw [if_pos e]
          exact ⟨.inl, fun z => z.elim id fun z => z ▸ e⟩
        · rw [if_neg e, List.mem_append, List.mem_singleton]
      have hnd : ((put fd2 here ()).map (·.1)).Nodup := by
        rw [put_keys]
        by_cases e : here ∈ fd2.map (·.1)
        · rw [if_pos e]; exact i1
        · rw [if_neg e, List.nodup_append]
          refine ⟨i1, by simp, fun u hu z hz ez => ?_⟩
          rw [List.mem_singleton] at hz
          rw [ez, hz] at hu
          exact e hu
      refine wp_cut (fun ρ S9 => ρ = [some (bD cs), some (cD s), some (.ref p2), some (.ref nr), some (.ref q), c5, some (.int i), c7, some (cD v), c9, some (.ref w), some (cD here), c12] ∧ Grow none S S9 ∧ dctW S9 q = some (cKv D.int l) ∧ lstAt S9 nr = some (NR.map cD) ∧ dctW S9 w = some (cKv uD (put fd2 here ()))) ?_ ?_
      · walk_at "ev"
        refine ⟨_, set_d (f := uD) (a := ()) f8 (small_sz (by omega)), by first | trivial | rfl, g8.set (.inl hw), ?_, ?_, dct_set (dct_lt f8)⟩
        · rw [dct_set_ne wq]; exact d8
        · rw [lst_set_ne wn]; exact k8
      clear g8 d8 k8 f8
      rintro ρ S9 ⟨rfl, g9, d9, k9, f9⟩
      refine wp_cut (fun ρ S9 => ∃ (x : Nat), ρ = [some (bD cs), some (cD s), some (.ref p2), some (.ref nr), some (.ref q), c5, some (.int i), c7, some (cD v), c9, some (.ref w), some (cD here), some (.ref x)] ∧ Grow none S S9 ∧ dctW S9 q = some (cKv D.int l) ∧ lstAt S9 nr = some (NR.map cD) ∧ dctW S9 w = some (cKv uD (put fd2 here ())) ∧ lstAt S9 x = some (((bes here).filter fun y => decide (look l y = some ((d : Int) - i - 1))).map cD)) ?_ ?_
      · walk_at "ev"
        rw [ok_lc]
        walk_at "ev"
        refine ⟨by first | trivial | rfl, ?_⟩
        rw [t2_beside_eq]
        simp only [ok_ok]
        have gx : Grow none S9 (S9 ++ [SO.lst ((bes here).map cD)]) := Grow.app _
        have l10 : lstAt (S9 ++ [SO.lst ((bes here).map cD)]) S9.length = some ((bes here).map cD) := lst_new
        have d10 := gx.dct d9 (fun z => nomatch z)
        rw [itm_l l10]
        simp only
        refine ok_lcGo (S0 := S9 ++ [SO.lst ((bes here).map cD)]) (enc := cD) (up := fun a => [some (bD cs), some (cD s), some (.ref p2), some (.ref nr), some (.ref q), c5, some (.int i), c7, some (cD v), some (cD a), some (.ref w), some (cD here), c12]) (fun y => decide (look l y = some ((d : Int) - i - 1))) cD rfl (bes here) (fun _ _ _ => rfl) (fun S3 g3 => decide_eq_true (g3.lst l10 fun z => nomatch z)) (size1 (by show 4 < 100000; omega)) ?_ ?_ ?_
        · intro y S11 _ g11
          have d11 := g11.dct d10 (fun z => nomatch z)
          walk_at "ev"
          refine ⟨q, _, rfl, dctW_at d11, ?_⟩
          rw [get_d d11]
          simp only [ok_ok]
          rw [ix_d (f := D.int) d11 hfar]
          simp only [ok_ok, dif_ii]
          cases hy : look l y with
          | none =>
            show Ok (gEq .non (.int _) S11) _
            rw [gEq_pl (n := 0) (m := 0) .non (.int _) (by omega) (by omega)]
            exact ⟨rfl, Grow.refl⟩
          | some e =>
            show Ok (gEq (.int e) (.int _) S11) _
            rw [eq_ii]
            refine ⟨?_, Grow.refl⟩
            by_cases he : e = (d : Int) - i - 1 <;> simp [he]
        · intro a S11 _ _ _
          walk_at "ev"
          exact ⟨by first | trivial | rfl, Grow.refl⟩
        · intro S11 g11 l11
          have gy := gx.trans g11
          exact ⟨_, rfl, g9.trans gy, gy.dct d9 (fun z => nomatch z), gy.lst k9 (fun z => nomatch z), gy.dct f9 (fun z => nomatch z), l11⟩
      clear g9 d9 k9 f9
      rintro ρ S9 ⟨x, rfl, g9, d9, k9, f9, x9⟩
      have px : ∀ y ∈ ((bes here).filter fun y => decide (look l y = some ((d : Int) - i - 1))).map cD, Pl 3 y := fun y hy => (pl_cells y hy).mono (by omega)
      have mS : ∀ y, y ∈ (bes here).filter (fun y => decide (look l y = some ((d : Int) - i - 1))) ↔ y ∈ bes here ∧ look l y = some ((d : Int) - i - 1) := fun y => by rw [List.mem_filter]; simp
      generalize (bes here).filter (fun y => decide (look l y = some ((d : Int) - i - 1))) = sm at x9 px mS
      walk_at "ev"
      refine ⟨Nat.zero_le _, ?_⟩
      rw [ne_nil_l x9 px]
      simp only [ok_ok]
      have gx : Grow none S9 (S9 ++ [SO.lst []]) := Grow.app _
      have iff1 : sm.map cD = [] ↔ i = d := by
        rw [List.map_eq_nil_iff]
        constructor
        · intro e
          have : ¬ (0 < (d : Int) - i) := fun z => by
            obtain ⟨y, y1, y2⟩ := (fi5.val here _ hfar).2.2 z
            have := (mS y).mpr ⟨y1, y2⟩
            rw [e] at this
            cases this
          omega
        · intro e
          cases sm with
          | nil => rfl
          | cons y r =>
            have := ((mS y).mp List.mem_cons_self).2
            have := (fi5.val y _ this).1
            omega
      by_cases hid : i = d
      · rw [if_neg (by simp [iff1.mpr hid])]
        exact ⟨_, _, _, here, put fd2 here (), rfl, g9.trans gx, gx.dct d9 (fun z => nomatch z), gx.lst k9 (fun z => nomatch z), gx.dct f9 (fun z => nomatch z), hnd, fun u hu => ((hkeys u).mp hu).elim (i2 u) fun z => z ▸ hereR, fun u hu => (hkeys u).mpr (.inl (i3 u hu)), bk.step fi5 (by omega) hkeys ⟨fun z => by omega, fun _ => rfl⟩⟩
      · have hsm : sm.map cD ≠ [] := fun z => hid (iff1.mp z)
        rw [if_pos (by simpa using hsm)]
        obtain ⟨y, hy, ey⟩ := min_cells (gx.lst x9 fun z => nomatch z) (fun z => hsm (by rw [z]; rfl))
        rw [ey]
        exact ⟨_, _, _, y, put fd2 here (), rfl, g9.trans gx, gx.dct d9 (fun z => nomatch z), gx.lst k9 (fun z => nomatch z), gx.dct f9 (fun z => nomatch z), hnd, fun u hu => ((hkeys u).mp hu).elim (i2 u) fun z => z ▸ hereR, fun u hu => (hkeys u).mpr (.inl (i3 u hu)), bk.step fi5 (by omega) hkeys ⟨fun _ => (mS y).mp hy, fun z => absurd z hid⟩⟩
    · rintro ρ S8 ⟨c6, c9, c11, c12, fd2, rfl, g8, d8, k8, f8, i1, i2, i3, i4⟩
      refine ⟨_, _, _, _, _, fd2, rfl, g8, d8, k8, f8, i1, i2, fun u hu => ?_⟩
      rcases List.mem_append.mp hu with z | z
      · exact (h3 u z).mono i3
      · rw [List.mem_singleton.mp z]; exact i4
  rintro ρ S7 ⟨c6, c8, c9, c11, c12, fd, rfl, g7, f7, h1, h2, h3⟩
  walk_at "ev"
  rw [list_d f7]
  simp only [ok_ok]
  rw [sorted_l sk_c lst_new]
  simp only [ok_ok]
  rw [tup_l lst_new]
  have mW : ∀ c, c ∈ srtBy eC (fd.map (·.1)) ↔ c ∈ fd.map (·.1) := fun c => (srtBy_perm eC _).mem_iff
  refine ⟨srtBy eC (fd.map (·.1)), rfl, (g7.trans (Grow.app _)).trans (Grow.app _), ⟨fun c hc => ((mR c).mp (h2 c ((mW c).mp hc))).1, fun hs => ((mR s).mp (h2 s ((mW s).mp hs))).2 rfl, fun c hb hc => ?_, fun a b ha hac hb hbc => ?_, ?_⟩⟩
  · have := h3 c ((mN c).mpr ⟨hb, (mR c).mpr ⟨hc, fun e => bes_ne (e ▸ hb)⟩⟩)
    exact (mW c).mpr this.left
  · have r1 := h3 a ((mN a).mpr ⟨ha, (mR a).mpr ⟨hac, fun e => bes_ne (e ▸ ha)⟩⟩)
    have r2 := h3 b ((mN b).mpr ⟨hb, (mR b).mpr ⟨hbc, fun e => bes_ne (e ▸ hb)⟩⟩)
    exact (r1.trans r2.symm).mono fun c hc => (mW c).mpr hc
  · rw [(srtBy_perm eC _).length_eq]
    exact Nat.le_trans (nodup_len h1 h2) lenR
end Lw
end
section
set_option linter.all false
set_option maxRecDepth 100000
set_option maxHeartbeats 2000000
/-! V13: papers, what they read, ties. -/
namespace SX
open PySem L2 Tie
theorem wp_asg4 {i j k m : Nat} {f : SE} {ρ : Env} {S : Sto} {N B C : Env → Sto → Prop} {R : D → Sto → Prop} (h : Ok (f ρ S) fun d S1 => ∃ a b c e, d = .tup [a, b, c, e] ∧ N ((((ρ.set i (some a)).set j (some b)).set k (some c)).set m (some e)) S1) : Wp (sAsg (gTp 4 (gMore (gNm i) (gMore (gNm j) (gMore (gNm k) (gMore (gNm m) gNone))))) f ρ S) N R B C := by
  rw [wp_asg]
  refine h.imp fun d S1 ⟨a, b, c, e, ed, z⟩ => ?_
  subst ed
  exact z
end SX
open SX in
local macro_rules | `(tactic| walk_at "ev") => `(tactic| simp only [startE, List.map_cons, List.map_nil, List.length_cons, List.length_nil, List.cons_append, List.nil_append, Nat.reduceAdd, Nat.reduceSub, List.replicate_succ, List.replicate_zero, wp_seq, wp_skip, wp_break, wp_cont, wp_ret, wp_retN, wp_expr, wp_asgN, wp_asg2, wp_asgS, wp_if, wp_par, wp_par3, wp_never, ok_v, ok_c, ok_op2, ok_op1, ok_bool, ok_tru, ok_and, ok_or, ok_not, ok_andV, ok_orV, ok_notV, ok_if, ok_nil, ok_cons, ok_tup, ok_lst, ok_call, ok_callF, ok_meth, ok_dm, ok_dnew, ok_sl, ok_partN, ok_partS, ok_seqI, List.getElem?_cons_zero, List.getElem?_cons_succ, List.set_cons_zero, List.set_cons_succ])
namespace Tie
open SX
structure Pap (cs : List Cell) (m : Cell × Cell) (p : Paper) : Prop where
  s : p.s = m.1
  e : p.e = m.2
  sup : Sup (occ cs) m.1 m.2 p.u
  wit : Wit cs m.1 p.w
  ul : p.u.length ≤ 2
def Paps : List Cell → List (Cell × Cell) → List Paper → Prop
  | _, [], [] => True
  | cs, m :: ms, p :: ps => Pap cs m p ∧ Paps (doneC cs m) ms ps
  | _, _, _ => False
theorem paps_snoc : ∀ {ms : List (Cell × Cell)} {ps : List Paper} {cs : List Cell} {m : Cell × Cell} {p : Paper}, Paps cs ms ps → Pap (endC cs ms) m p → Paps cs (ms ++ [m]) (ps ++ [p])
  | [], [], cs, m, p, _, h => ⟨h, trivial⟩
  | [], _ :: _, cs, m, p, h, _ => h.elim
  | _ :: _, [], cs, m, p, h, _ => h.elim
  | x :: ms, y :: ps, cs, m, p, ⟨h1, h2⟩, h => ⟨h1, paps_snoc (ms := ms) h2 h⟩
theorem paps_len : ∀ {ms : List (Cell × Cell)} {ps : List Paper} {cs : List Cell}, Paps cs ms ps → ps.length = ms.length
  | [], [], _, _ => rfl
  | [], _ :: _, _, h => h.elim
  | _ :: _, [], _, h => h.elim
  | x :: ms, y :: ps, cs, ⟨_, h2⟩ => by rw [List.length_cons, List.length_cons, paps_len h2]
theorem mvs_at : ∀ {dn : List (Cell × Cell)} {cs : List Cell} {m : Cell × Cell} {td : List (Cell × Cell)}, cs.Nodup → Mvs cs (dn ++ m :: td) → Mv (endC cs dn) m ∧ (endC cs dn).Nodup ∧ (endC cs dn).length ≤ cs.length
  | [], cs, m, td, nd, h => ⟨h.1, nd, Nat.le_refl _⟩
  | x :: dn, cs, m, td, nd, ⟨h1, h2⟩ => by
    obtain ⟨a, b, c⟩ := mvs_at (dn := dn) (doneC_nodup nd h1.e) h2
    exact ⟨a, b, Nat.le_trans c (doneC_len h1.s)⟩
/-- a support has a square beside the start -/
theorem Mv.touch {cs : List Cell} {m : Cell × Cell} (h : Mv cs m) : ∃ c, c ∈ bes m.1 ∧ c ∈ cs := by
  obtain ⟨u, hu⟩ := h.sup
  obtain ⟨⟨c, h1, h2⟩, _⟩ := hu.touch (occ_iff.mpr h.s) (occ_not.mpr h.e)
  exact ⟨c, h1, occ_iff.mp h2⟩
theorem Pap.good {cs : List Cell} {m : Cell × Cell} {p : Paper} (h : Pap cs m p) (mv : Mv cs m) : Good (occ cs) p where
  s := by rw [h.s]; exact occ_iff.mpr mv.s
  e := by rw [h.e]; exact occ_not.mpr mv.e
  sup := by rw [h.s, h.e]; exact h.sup
  wB := fun c hc => occ_iff.mpr (h.wit.wB c hc)
  ws := by rw [h.s]; exact h.wit.ws
  near := fun c hc hb => h.wit.near c (h.s ▸ hc) (occ_iff.mp hb)
  one := fun a b ha hA hb hB => h.wit.one a b (h.s ▸ ha) (occ_iff.mp hA) (h.s ▸ hb) (occ_iff.mp hB)
theorem Pap.tog {cs : List Cell} {m : Cell × Cell} {p : Paper} (h : Pap cs m p) (mv : Mv cs m) : tog (occ cs) p = occ (doneC cs m) := by
  funext c
  have h1 := tog_iff (h.good mv) c
  have h2 : occ (doneC cs m) c = true ↔ less (occ cs) p.s c ∨ c = p.e := by
    rw [occ_iff, doneC_mem]
    unfold less
    rw [occ_iff, h.s, h.e]
  cases e1 : Tie.tog (occ cs) p c <;> cases e2 : occ (doneC cs m) c
  · rfl
  · exact absurd (h1.mpr (h2.mp e2)) (by rw [e1]; exact Bool.false_ne_true)
  · exact absurd (h2.mpr (h1.mp e1)) (by rw [e2]; exact Bool.false_ne_true)
  · rfl
theorem paps_good : ∀ {ms : List (Cell × Cell)} {ps : List Paper} {cs : List Cell}, Mvs cs ms → Paps cs ms ps → AllGood (occ cs) ps ∧ run (occ cs) ps = occ (endC cs ms)
  | [], [], _, _, _ => ⟨trivial, rfl⟩
  | [], _ :: _, _, _, h => h.elim
  | _ :: _, [], _, _, h => h.elim
  | m :: ms, p :: ps, cs, ⟨h1, h2⟩, ⟨k1, k2⟩ => by
    obtain ⟨a, b⟩ := paps_good h2 k2
    refine ⟨⟨k1.good h1, ?_⟩, ?_⟩
    · rw [k1.tog h1]; exact a
    · show run (Tie.tog (occ cs) p) ps = _
      rw [k1.tog h1]; exact b
end Tie
namespace SX
open PySem L2 Tie
def papD (p : Paper) : D := .tup [cD p.s, cD p.e, supD p.u, supD p.w]
def c2k (c : Cell) : List Int := [c.1, c.2]
theorem tia_cells : ∀ (cs : List Cell), tupIntsAll (cs.map cD) = some (cs.map c2k)
  | [] => rfl
  | c :: cs => by
    rw [List.map_cons, List.map_cons]
    unfold tupIntsAll
    rw [tia_cells cs]
    rfl
theorem ded_cells {cs : List Cell} : ∃ ds : List Cell, dedK [] (cs.map c2k) = ds.map c2k ∧ (∀ c, c ∈ ds ↔ c ∈ cs) ∧ ds.Nodup := by
  have inj : ∀ a b : Cell, c2k a = c2k b → a = b := fun a b h => by
    unfold c2k at h
    injection h with h1 h2
    injection h2 with h2 _
    exact Prod.ext h1 h2
  have mem : ∀ k, k ∈ dedK [] (cs.map c2k) ↔ k ∈ cs.map c2k := fun k => by rw [dedK_mem]; simp
  have nd : (dedK [] (cs.map c2k)).Nodup := dedK_nodup List.nodup_nil
  have sub : ∀ k, k ∈ dedK [] (cs.map c2k) → ∃ c, c2k c = k := fun k hk => by
    obtain ⟨c, _, e⟩ := List.mem_map.mp ((mem k).mp hk)
    exact ⟨c, e⟩
  have lift : ∀ ks : List (List Int), (∀ k ∈ ks, ∃ c, c2k c = k) → ∃ ds : List Cell, ks = ds.map c2k := by
    intro ks
    induction ks with
    | nil => exact fun _ => ⟨[], rfl⟩
    | cons k ks ih =>
      intro h
      obtain ⟨c, e⟩ := h k List.mem_cons_self
      obtain ⟨ds, ed⟩ := ih fun z hz => h z (List.mem_cons_of_mem _ hz)
      exact ⟨c :: ds, by rw [List.map_cons, e, ← ed]⟩
  obtain ⟨ds, ed⟩ := lift _ sub
  refine ⟨ds, ed, fun c => ?_, ?_⟩
  · have h1 := mem (c2k c)
    rw [ed, List.mem_map, List.mem_map] at h1
    exact ⟨fun h => by obtain ⟨x, hx, e⟩ := h1.mp ⟨c, h, rfl⟩; rw [← inj _ _ e]; exact hx, fun h => by obtain ⟨x, hx, e⟩ := h1.mpr ⟨c, h, rfl⟩; rw [← inj _ _ e]; exact hx⟩
  · rw [ed] at nd
    exact (List.pairwise_map.mp nd).imp fun h e => h (congrArg c2k e)
theorem set_cells {S : Sto} {n : Nat} {cs : List Cell} (h : lstAt S n = some (cs.map cD)) (hl : cs.length < 64) : ∃ ds : List Cell, gSetOf [.ref n] S = .ok (.ref S.length) (S ++ [.set (ds.map c2k)]) ∧ (∀ c, c ∈ ds ↔ c ∈ cs) ∧ ds.Nodup := by
  obtain ⟨ds, h1, h2, h3⟩ := ded_cells (cs := cs)
  refine ⟨ds, ?_, h2, h3⟩
  unfold gSetOf
  simp only
  rw [h]
  simp only
  rw [tia_cells]
  simp only
  rw [if_pos (by rw [List.length_map]; exact hl), h1]
theorem sorted_s {S : Sto} {n : Nat} {ds : List Cell} (h : setAt S n = some (ds.map c2k)) : gSortedA [.ref n] S = .ok (.ref S.length) (S ++ [.lst ((srtC ds).map cD)]) := by
  unfold gSortedA
  simp only
  rw [h]
  simp only
  have e : (ds.map c2k).map tupOf = ds.map cD := by rw [List.map_map]; rfl
  rw [e, if_pos sk_c.ok, sk_c.srt]
theorem set_new {S : Sto} {K : List (List Int)} : setAt (S ++ [.set K]) S.length = some K := by
  unfold setAt
  rw [List.getElem?_append_right (Nat.le_refl _), Nat.sub_self]
  rfl
end SX
namespace Lw
open PySem L2 SX Tie
variable {ga : PySem.Str → Nat} {S : Sto}
theorem papers_ok {cs : List Cell} {ms : List (Cell × Cell)} {q1 : Nat} (nd : cs.Nodup) (hl : cs.length < 1000) (h1 : lstAt S q1 = some (ms.map pD)) (hm : Mvs cs ms) (hml : ms.length < 1000) : Ok (F__law_t2_papers ga [bD cs, .ref q1] S) fun d S' => ∃ (q : Nat) (ps : List Paper), d = .ref q ∧ Grow none S S' ∧ lstAt S' q = some (ps.map papD) ∧ Paps cs ms ps := by
  unfold F__law_t2_papers
  refine ok_runB ?_
  unfold b__law_t2_papers
  refine wp_cut (fun ρ S1 => ∃ (q : Nat), ρ = [some (bD cs), some (.ref q1), some (.ref q), some (bD cs), none, none, none] ∧ Grow none S S1 ∧ S.length ≤ q ∧ lstAt S1 q = some (([] : List Paper).map papD)) ?_ ?_
  · walk_at "ev"
    exact ⟨Nat.zero_le _, _, rfl, Grow.app _, Nat.le_refl _, lst_new⟩
  rintro ρ S1 ⟨q, rfl, g1, hq, l1⟩
  refine wp_cut (fun ρ S1 => ∃ (c3 c4 c5 c6 : Option D) (ps : List Paper), ρ = [some (bD cs), some (.ref q1), some (.ref q), c3, c4, c5, c6] ∧ Grow none S S1 ∧ lstAt S1 q = some (ps.map papD) ∧ Paps cs ms ps) ?_ ?_
  · refine wp_each pD (Grow none S) ms (fun dn ρ S1 => ∃ (c4 c5 c6 : Option D) (ps : List Paper), ρ = [some (bD cs), some (.ref q1), some (.ref q), some (bD (endC cs dn)), c4, c5, c6] ∧ Grow none S S1 ∧ lstAt S1 q = some (ps.map papD) ∧ Paps cs dn ps) rfl (Walk.lst h1) (fun _ _ _ ⟨_, _, _, _, _, z, _⟩ => z) ?_ ?_ ⟨none, none, none, [], rfl, g1, l1, trivial⟩
    · rintro ρ S2 ⟨c4, c5, c6, ps, rfl, g2, l2, hp⟩
      exact ⟨_, c4, c5, c6, ps, rfl, g2, l2, hp⟩
    rintro dn m td ρ S2 em ⟨c4, c5, c6, ps, rfl, g2, l2, hp⟩
    refine ⟨_, _, rfl, ?_⟩
    simp only [List.set_cons_succ, List.set_cons_zero]
    rw [em] at hm
    obtain ⟨mv, nd2, len2⟩ := mvs_at nd hm
    have hd : dn.length < 1000 := by have := congrArg List.length em; simp at this; omega
    refine wp_cut (fun ρ S3 => ∃ (u : List Cell), ρ = [some (bD cs), some (.ref q1), some (.ref q), some (bD (endC cs dn)), some (cD m.1), some (cD m.2), some (supD u)] ∧ Grow none S2 S3 ∧ Sup (occ (endC cs dn)) m.1 m.2 u ∧ u.length ≤ 2) ?_ ?_
    · walk_at "ev"
      refine ⟨by first | trivial | rfl, (squares_ok (cs := endC cs dn) Walk.tup nd2 (by omega)).imp fun d S3 ⟨ed, g3, d3⟩ => ?_⟩
      subst ed
      refine ⟨by first | trivial | rfl, (supports_ok d3).imp fun d S4 ⟨t, ss, ed, g4, l4, h4, h5, h6⟩ => ?_⟩
      subst ed
      have hne := h5 mv.s mv.e mv.sup
      cases ss with
      | nil => exact absurd rfl hne
      | cons u r =>
        rw [ix_l (i := 0) l4 (d := supD u) (q := 0) rfl rfl]
        obtain ⟨_, _, a, b⟩ := h4 u List.mem_cons_self
        exact ⟨u, rfl, g3.trans g4, a, b⟩
    rintro ρ S3 ⟨u, rfl, g3, hu, hul⟩
    have l3 := g3.lst l2 (fun z => nomatch z)
    refine wp_cut (fun ρ S4 => ∃ (p : Paper), ρ = [some (bD cs), some (.ref q1), some (.ref q), some (bD (endC cs dn)), some (cD m.1), some (cD m.2), some (supD u)] ∧ Grow none S S4 ∧ lstAt S4 q = some ((ps ++ [p]).map papD) ∧ Pap (endC cs dn) m p) ?_ ?_
    · walk_at "ev"
      refine ⟨q, _, rfl, l3, by first | trivial | rfl, (witness_ok nd2 (by omega) mv.cn mv.touch).imp fun d S4 ⟨W, ed, g4, hW⟩ => ?_⟩
      subst ed
      refine ⟨size1 (by decide), ?_⟩
      have l4 := g4.lst l3 (fun z => nomatch z)
      rw [app_l l4 (small_sz (by rw [List.length_map, paps_len hp]; omega))]
      refine ⟨⟨m.1, m.2, u, W⟩, by first | trivial | rfl, ((g2.trans g3).trans g4).set (.inl hq), ?_, ⟨rfl, rfl, hu, hW, hul⟩⟩
      rw [lst_set (lst_lt l4), List.map_append]
      rfl
    rintro ρ S4 ⟨p, rfl, g4, l4, hpap⟩
    walk_at "ev"
    refine ⟨by first | trivial | rfl, (done_ok (cs := endC cs dn) (by omega)).imp fun d S5 ⟨ed, g5⟩ => ?_⟩
    subst ed
    exact ⟨some (cD m.1), some (cD m.2), some (supD u), ps ++ [p], by rw [endC_snoc]; rfl, g4.trans g5, g5.lst l4 (fun z => nomatch z), paps_snoc hp hpap⟩
  rintro ρ S2 ⟨c3, c4, c5, c6, ps, rfl, g2, l2, hp⟩
  walk_at "ev"
  exact ⟨q, ps, rfl, g2, l2, hp⟩
/-- a paper of few cells -/
def Small (p : Paper) : Prop := p.u.length ≤ 2 ∧ p.w.length ≤ 40
theorem reads_ok {p : Paper} (hs : Small p) : Ok (F__law_t2_reads ga [papD p] S) fun d S' => ∃ (q : Nat) (rs : List Cell), d = .ref q ∧ Grow none S S' ∧ lstAt S' q = some (rs.map cD) ∧ ∀ c, c ∈ rs ↔ p.reads c := by
  unfold F__law_t2_reads
  refine ok_runB ?_
  unfold b__law_t2_reads
  refine wp_cut (fun ρ S1 => ρ = [some (papD p), some (cD p.s), some (cD p.e), some (supD p.u), some (supD p.w)] ∧ S = S1) ?_ ?_
  · refine wp_asg4 ?_
    walk_at "ev"
    exact ⟨_, _, _, _, rfl, by first | trivial | rfl, by first | trivial | rfl⟩
  rintro ρ S1 ⟨rfl, rfl⟩
  walk_at "ev"
  refine ⟨size1 (by decide), by first | trivial | rfl, ?_⟩
  rw [t2_beside_eq]
  simp only [ok_ok]
  rw [show [cD p.s, cD p.e] = [p.s, p.e].map cD from rfl]
  have ga1 : Grow none (S ++ [SO.lst ([p.s, p.e].map cD)]) ((S ++ [SO.lst ([p.s, p.e].map cD)]) ++ [SO.lst ((bes p.s).map cD)]) := Grow.app _
  rw [cat_l (xs := [p.s, p.e].map cD) (ga1.lst lst_new fun z => nomatch z) lst_new (size1 (by show 6 < 100000; omega))]
  simp only [ok_ok]
  rw [← List.map_append]
  have h1 : Grow none S ((S ++ [SO.lst ([p.s, p.e].map cD)]) ++ [SO.lst ((bes p.s).map cD)]) := (Grow.app _).trans (Grow.app _)
  generalize (S ++ [SO.lst ([p.s, p.e].map cD)]) ++ [SO.lst ((bes p.s).map cD)] = S1 at h1 ⊢
  unfold supD
  rw [list_t]
  simp only [ok_ok]
  have ga2 : Grow none (S1 ++ [SO.lst (([p.s, p.e] ++ bes p.s).map cD)]) ((S1 ++ [SO.lst (([p.s, p.e] ++ bes p.s).map cD)]) ++ [SO.lst (p.u.map cD)]) := Grow.app _
  rw [cat_l (ga2.lst lst_new fun z => nomatch z) lst_new (size1 (by have := hs.1; simp [bes]; omega))]
  simp only [ok_ok]
  rw [← List.map_append]
  have h2 : Grow none S1 ((S1 ++ [SO.lst (([p.s, p.e] ++ bes p.s).map cD)]) ++ [SO.lst (p.u.map cD)]) := (Grow.app _).trans (Grow.app _)
  generalize (S1 ++ [SO.lst (([p.s, p.e] ++ bes p.s).map cD)]) ++ [SO.lst (p.u.map cD)] = S2 at h2 ⊢
  rw [list_t]
  simp only [ok_ok]
  have ga3 : Grow none (S2 ++ [SO.lst (([p.s, p.e] ++ bes p.s ++ p.u).map cD)]) ((S2 ++ [SO.lst (([p.s, p.e] ++ bes p.s ++ p.u).map cD)]) ++ [SO.lst (p.w.map cD)]) := Grow.app _
  rw [cat_l (ga3.lst lst_new fun z => nomatch z) lst_new (size1 (by have := hs.1; have := hs.2; simp [bes]; omega))]
  simp only [ok_ok]
  rw [← List.map_append]
  have h3 : Grow none S2 ((S2 ++ [SO.lst (([p.s, p.e] ++ bes p.s ++ p.u).map cD)]) ++ [SO.lst (p.w.map cD)]) := (Grow.app _).trans (Grow.app _)
  generalize (S2 ++ [SO.lst (([p.s, p.e] ++ bes p.s ++ p.u).map cD)]) ++ [SO.lst (p.w.map cD)] = S3 at h3 ⊢
  obtain ⟨ds, e1, e2, e3⟩ := set_cells (S := S3 ++ [SO.lst (([p.s, p.e] ++ bes p.s ++ p.u ++ p.w).map cD)]) (n := S3.length) lst_new (by have := hs.1; have := hs.2; simp [bes]; omega)
  rw [e1]
  simp only [ok_ok]
  rw [sorted_s set_new]
  refine ⟨_, srtC ds, rfl, ((((h1.trans h2).trans h3).trans (Grow.app _)).trans (Grow.app _)).trans (Grow.app _), lst_new, fun c => ?_⟩
  show c ∈ srtBy eC ds ↔ _
  rw [(srtBy_perm eC ds).mem_iff, e2]
  unfold Paper.reads
  simp only [List.mem_append, List.mem_cons, List.not_mem_nil, or_false]
  constructor
  · rintro (((h | h) | h) | h)
    · exact h.elim .inl fun z => .inr (.inl z)
    · exact .inr (.inr (.inl h))
    · exact .inr (.inr (.inr (.inl h)))
    · exact .inr (.inr (.inr (.inr h)))
  · rintro (h | h | h | h | h)
    · exact .inl (.inl (.inl (.inl h)))
    · exact .inl (.inl (.inl (.inr h)))
    · exact .inl (.inl (.inr h))
    · exact .inl (.inr h)
    · exact .inr h
end Lw
end
section
set_option linter.all false
set_option maxRecDepth 100000
set_option maxHeartbeats 2000000
/-! V14: ties of papers, by the law. -/
open SX in
local macro_rules | `(tactic| walk_at "ev") => `(tactic| simp only [startE, List.map_cons, List.map_nil, List.length_cons, List.length_nil, List.cons_append, List.nil_append, Nat.reduceAdd, Nat.reduceSub, List.replicate_succ, List.replicate_zero, wp_seq, wp_skip, wp_break, wp_cont, wp_ret, wp_retN, wp_expr, wp_asgN, wp_asg2, wp_asgS, wp_if, wp_par, wp_par3, wp_never, ok_v, ok_c, ok_op2, ok_op1, ok_bool, ok_tru, ok_and, ok_or, ok_not, ok_andV, ok_orV, ok_notV, ok_if, ok_nil, ok_cons, ok_tup, ok_lst, ok_call, ok_callF, ok_meth, ok_dm, ok_dnew, ok_sl, ok_partN, ok_partS, ok_seqI, List.getElem?_cons_zero, List.getElem?_cons_succ, List.set_cons_zero, List.set_cons_succ])
namespace Tie
theorem tied_iff {p q : Paper} : tied p q ↔ (q.reads p.s ∨ q.reads p.e) ∨ (p.reads q.s ∨ p.reads q.e) := by
  unfold tied
  constructor
  · rintro (⟨c, h1, h2⟩ | ⟨c, h1, h2⟩)
    · rcases chg_iff.mp h1 with rfl | rfl
      · exact .inl (.inl h2)
      · exact .inl (.inr h2)
    · rcases chg_iff.mp h1 with rfl | rfl
      · exact .inr (.inl h2)
      · exact .inr (.inr h2)
  · rintro ((h | h) | (h | h))
    · exact .inl ⟨_, chg_iff.mpr (.inl rfl), h⟩
    · exact .inl ⟨_, chg_iff.mpr (.inr rfl), h⟩
    · exact .inr ⟨_, chg_iff.mpr (.inl rfl), h⟩
    · exact .inr ⟨_, chg_iff.mpr (.inr rfl), h⟩
/-- the paper at i -/
def pf (ps : List Paper) (i : Nat) : Paper := ps[i]?.getD ⟨(0, 0), (0, 0), [], []⟩
theorem pf_at {ps : List Paper} {i : Nat} (h : i < ps.length) : ps[i]? = some (pf ps i) := by
  unfold pf
  rw [List.getElem?_eq_getElem h]
  rfl
theorem pf_mem {ps : List Paper} {i : Nat} (h : i < ps.length) : pf ps i ∈ ps := List.mem_of_getElem? (pf_at h)
end Tie
namespace SX
open PySem L2 Tie
def iD (t : Nat × Nat) : D := .tup [.int (t.1 : Int), .int (t.2 : Int)]
end SX
namespace Lw
open PySem L2 SX Tie
variable {ga : PySem.Str → Nat} {S : Sto}
theorem tied_ok {p q : Paper} (hp : Small p) (hq : Small q) : Ok (F__law_t2_tied ga [papD p, papD q] S) fun d S' => ∃ b, d = .bl b ∧ Grow none S S' ∧ (b = true ↔ tied p q) := by
  unfold F__law_t2_tied
  refine ok_runB ?_
  unfold b__law_t2_tied
  refine wp_cut (fun ρ S1 => ∃ (a b : Nat) (ra rb : List Cell), ρ = [some (papD p), some (papD q), some (.ref a), some (.ref b)] ∧ Grow none S S1 ∧ lstAt S1 a = some (ra.map cD) ∧ lstAt S1 b = some (rb.map cD) ∧ (∀ c, c ∈ ra ↔ p.reads c) ∧ ∀ c, c ∈ rb ↔ q.reads c) ?_ ?_
  · walk_at "ev"
    refine ⟨by first | trivial | rfl, (reads_ok hp).imp fun d S1 ⟨a, ra, ed, g1, l1, h1⟩ => ?_⟩
    subst ed
    refine ⟨by first | trivial | rfl, (reads_ok hq).imp fun d S2 ⟨b, rb, ed, g2, l2, h2⟩ => ?_⟩
    subst ed
    exact ⟨a, b, ra, rb, rfl, g1.trans g2, g2.lst l1 (fun z => nomatch z), l2, h1, h2⟩
  rintro ρ S1 ⟨a, b, ra, rb, rfl, g1, l1, l2, h1, h2⟩
  have x0 : ∀ (r : Paper) (S : Sto), gIxA (papD r) (.int 0) S = .ok (cD r.s) S := fun _ _ => rfl
  have x1 : ∀ (r : Paper) (S : Sto), gIxA (papD r) (.int 1) S = .ok (cD r.e) S := fun _ _ => rfl
  walk_at "ev"
  simp only [x0, x1, ok_ok, in_lc l2, in_lc l1]
  rw [tied_iff]
  by_cases c1 : p.s ∈ rb
  · rw [if_pos (decide_eq_true c1)]
    exact ⟨true, rfl, g1, fun _ => .inl (.inl ((h2 _).mp c1)), fun _ => rfl⟩
  · rw [if_neg (by simp [c1])]
    by_cases c2 : p.e ∈ rb
    · rw [if_pos (decide_eq_true c2)]
      exact ⟨true, rfl, g1, fun _ => .inl (.inr ((h2 _).mp c2)), fun _ => rfl⟩
    · rw [if_neg (by simp [c2])]
      by_cases c3 : q.s ∈ ra
      · rw [decide_eq_true c3]
        exact ⟨true, rfl, g1, fun _ => .inr (.inl ((h1 _).mp c3)), fun _ => rfl⟩
      · rw [decide_eq_false c3]
        refine ⟨_, rfl, g1, fun z => .inr (.inr ((h1 _).mp (of_decide_eq_true z))), fun z => ?_⟩
        rcases z with (z | z) | (z | z)
        · exact absurd ((h2 _).mpr z) c1
        · exact absurd ((h2 _).mpr z) c2
        · exact absurd ((h1 _).mpr z) c3
        · exact decide_eq_true ((h1 _).mpr z)
open Classical in
theorem ties_ok {ps : List Paper} {q : Nat} (hq : lstAt S q = some (ps.map papD)) (hs : ∀ p ∈ ps, Small p) (hl : ps.length < 1000) : Ok (F__law_t2_ties ga [.ref q] S) fun d S' => ∃ (r : Nat) (ts : List (Nat × Nat)), d = .ref r ∧ Grow none S S' ∧ lstAt S' r = some (ts.map iD) ∧ (∀ i j, (i, j) ∈ ts ↔ i < j ∧ j < ps.length ∧ tied (pf ps i) (pf ps j)) ∧ ts.length ≤ 1000000 := by
  unfold F__law_t2_ties
  refine ok_runB ?_
  unfold b__law_t2_ties
  refine wp_cut (fun ρ S1 => ∃ (r : Nat), ρ = [some (.ref q), some (.ref r), none, none] ∧ Grow none S S1 ∧ lstAt S1 r = some (([] : List (Nat × Nat)).map iD)) ?_ ?_
  · walk_at "ev"
    exact ⟨Nat.zero_le _, _, rfl, Grow.app _, lst_new⟩
  rintro ρ S1 ⟨r, rfl, g1, l1⟩
  refine wp_cut (fun ρ S1 => ∃ (r : Nat) (c2 c3 : Option D) (ts : List (Nat × Nat)), ρ = [some (.ref q), some (.ref r), c2, c3] ∧ Grow none S S1 ∧ lstAt S1 r = some (ts.map iD) ∧ (∀ i j, (i, j) ∈ ts ↔ i < j ∧ j < ps.length ∧ tied (pf ps i) (pf ps j)) ∧ ts.length ≤ 1000000) ?_ ?_
  · refine wp_rng ps.length (fun k ρ S1 => ∃ (r : Nat) (c2 c3 : Option D) (ts : List (Nat × Nat)), ρ = [some (.ref q), some (.ref r), c2, c3] ∧ Grow none S S1 ∧ lstAt S1 r = some (ts.map iD) ∧ (∀ i j, (i, j) ∈ ts ↔ i < k ∧ i < j ∧ j < ps.length ∧ tied (pf ps i) (pf ps j)) ∧ ts.length ≤ 1000 * k) ?_ (by omega) ?_ ?_
    · walk_at "ev"
      rw [len_l (g1.lst hq fun z => nomatch z)]
      simp only [ok_ok, List.length_map]
      exact ⟨by first | trivial | rfl, r, none, none, [], rfl, g1, l1, fun i j => ⟨fun z => (nomatch z), fun z => absurd z.1 (Nat.not_lt_zero _)⟩, Nat.zero_le _⟩
    · rintro ρ S2 ⟨r, c2, c3, ts, rfl, g2, l2, h2, h3⟩
      refine ⟨r, c2, c3, ts, rfl, g2, l2, fun i j => ?_, by omega⟩
      rw [h2]
      exact ⟨fun z => z.2, fun z => ⟨by omega, z⟩⟩
    rintro k ρ S2 hk ⟨r, c2, c3, ts, rfl, g2, l2, h2, h3⟩
    refine ⟨_, _, rfl, ?_⟩
    have q2 := g2.lst hq (fun z => nomatch z)
    walk_at "ev"
    rw [ok_lc, ok_rg2]
    walk_at "ev"
    simp only [add_ii, ok_ok]
    rw [len_l q2]
    simp only [ok_ok, List.length_map]
    refine ⟨_, _, rfl, ⟨small_r ⟨by omega, by omega⟩, small_r ⟨by omega, by omega⟩⟩, ?_⟩
    have e1 : ((ps.length : Int) - ((k : Int) + 1)).toNat = ps.length - (k + 1) := by omega
    simp only [e1]
    unfold rngList
    refine ok_lcGo (S0 := S2) (enc := fun (j : Nat) => D.int ((k : Int) + 1 + (j : Int))) (up := fun j => [some (.ref q), some (.ref r), some (.int k), some (.int ((k : Int) + 1 + (j : Int)))]) (fun j => decide (tied (pf ps k) (pf ps (k + 1 + j)))) (fun j => iD (k, k + 1 + j)) rfl (List.range (ps.length - (k + 1))) (fun _ _ _ => rfl) (fun _ _ => rfl) (by rw [sizeLine_eq, List.length_range]; omega) ?_ ?_ ?_
    · intro j S3 hj g3
      rw [List.mem_range] at hj
      have q3 := g3.lst q2 (fun z => nomatch z)
      walk_at "ev"
      have i1 : (ps.map papD)[k]? = some (papD (pf ps k)) := by rw [List.getElem?_map, pf_at hk]; rfl
      have i2 : (ps.map papD)[k + 1 + j]? = some (papD (pf ps (k + 1 + j))) := by rw [List.getElem?_map, pf_at (by omega)]; rfl
      rw [ix_l q3 i1 rfl]
      simp only [ok_ok]
      rw [ix_l q3 i2 (by omega)]
      simp only [ok_ok]
      refine ⟨by first | trivial | rfl, (tied_ok (hs _ (pf_mem hk)) (hs _ (pf_mem (by omega)))).imp fun d S4 ⟨b, ed, g4, hb⟩ => ?_⟩
      subst ed
      show b = _ ∧ _
      refine ⟨?_, g4⟩
      cases b with
      | true => rw [decide_eq_true (hb.mp rfl)]
      | false => rw [decide_eq_false fun z => Bool.false_ne_true (hb.mpr z)]
    · intro j S3 hj _ g3
      walk_at "ev"
      refine ⟨size1 (by decide), ?_, Grow.refl⟩
      unfold iD
      simp only [Int.natCast_add, Int.cast_ofNat_Int]
    · intro S3 g3 l3
      have hf := List.length_filter_le (fun j => decide (tied (pf ps k) (pf ps (k + 1 + j)))) (List.range (ps.length - (k + 1)))
      rw [List.length_range] at hf
      rw [cat_l (g3.lst l2 fun z => nomatch z) l3 (by rw [sizeLine_eq, List.length_map, List.length_map]; omega)]
      simp only [ok_ok]
      refine ⟨_, _, _, ts ++ ((List.range (ps.length - (k + 1))).filter fun j => decide (tied (pf ps k) (pf ps (k + 1 + j)))).map (fun j => (k, k + 1 + j)), rfl, (g2.trans g3).trans (Grow.app _), ?_, fun i j => ?_, by rw [List.length_append, List.length_map]; omega⟩
      · rw [lst_new, List.map_append, List.map_map]; rfl
      · rw [List.mem_append, h2, List.mem_map]
        constructor
        · rintro (⟨a, b, c, d⟩ | ⟨x, hx, e⟩)
          · exact ⟨by omega, b, c, d⟩
          · rw [List.mem_filter, List.mem_range] at hx
            injection e with e1 e2
            subst e1 e2
            exact ⟨by omega, by omega, by omega, of_decide_eq_true hx.2⟩
        · rintro ⟨a, b, c, d⟩
          by_cases e : i < k
          · exact .inl ⟨e, b, c, d⟩
          · have e1 : i = k := by omega
            subst e1
            refine .inr ⟨j - (i + 1), ?_, ?_⟩
            · rw [List.mem_filter, List.mem_range]
              refine ⟨by omega, decide_eq_true ?_⟩
              rw [show i + 1 + (j - (i + 1)) = j by omega]
              exact d
            · rw [show i + 1 + (j - (i + 1)) = j by omega]
  rintro ρ S2 ⟨r, c2, c3, ts, rfl, g2, l2, h2, h3⟩
  walk_at "ev"
  exact ⟨r, ts, rfl, g2, l2, h2, h3⟩
end Lw
end
section
set_option linter.all false
set_option maxRecDepth 100000
set_option maxHeartbeats 2000000
/-! V15: steps of the package; what they read. -/
namespace SX
open PySem L2 Tie
theorem wp_fldS {C : Nat} {g : PySem.Str} {fo fv : SE} {ρ : Env} {S : Sto} {N B K : Env → Sto → Prop} {R : D → Sto → Prop} : Wp (sFldS C g fo fv ρ S) N R B K = Ok (fv ρ S) fun y S1 => Ok (fo ρ S1) fun x S2 => ∃ n fs, x = .ref n ∧ S2[n]? = some (.ins C fs) ∧ fs.length < 1000 ∧ N ρ (S2.set n (.ins C (putFD g y fs))) := by
  unfold sFldS
  rw [wp_flow]; congr 1; funext y S1
  rw [wp_flow]; congr 1; funext x S2
  cases x with
  | ref n =>
    simp only
    cases e : S2[n]? with
    | none => exact propext ⟨fun z => z.elim, fun ⟨m, fs, e1, e2, _⟩ => by cases e1; rw [e] at e2; cases e2⟩
    | some o =>
      cases o with
      | ins C' fs =>
        simp only
        by_cases c : C' = C ∧ fs.length < 1000
        · rw [if_pos c]
          exact propext ⟨fun z => ⟨n, fs, rfl, by rw [e, c.1], c.2, z⟩, fun ⟨m, fs', e1, e2, _, z⟩ => by cases e1; rw [e] at e2; cases e2; exact z⟩
        · rw [if_neg c]
          exact propext ⟨fun z => z.elim, fun ⟨m, fs', e1, e2, h, _⟩ => by cases e1; rw [e] at e2; cases e2; exact c ⟨rfl, h⟩⟩
      | _ => exact propext ⟨fun z => z.elim, fun ⟨m, fs, e1, e2, _⟩ => by cases e1; rw [e] at e2; cases e2⟩
  | _ => exact propext ⟨fun z => z.elim, fun ⟨m, fs, e1, _⟩ => by cases e1⟩
theorem putFD_len {g : PySem.Str} {y : D} : ∀ {fs : List (PySem.Str × D)}, (putFD g y fs).length ≤ fs.length + 1
  | [] => Nat.le_refl _
  | (f, x) :: r => by
    unfold putFD
    split
    · simp
    · have := putFD_len (g := g) (y := y) (fs := r)
      simp only [List.length_cons]
      omega
theorem ok_make {C n : Nat} {F : List D → Sto → Out D} {gs : SA} {ρ : Env} {S : Sto} {P : D → Sto → Prop} (h : Ok (gs ρ S) fun xs S1 => xs.length + 1 = n ∧ Ok (F (.ref S1.length :: xs) (S1 ++ [.ins C []])) fun d S2 => d = .non ∧ P (.ref S1.length) S2) : Ok (sMake C n F gs ρ S) P := by
  unfold sMake
  rw [ok_bind]
  refine h.imp fun xs S1 ⟨h1, h2⟩ => ?_
  rw [if_pos h1]
  obtain ⟨d, S2, e, ed, h3⟩ := h2.ex
  subst ed
  rw [e]
  exact h3
/-- a step in the store -/
def InsAt (S : Sto) (C n : Nat) (p : Paper) : Prop := S[n]? = some (.ins C [("start", cD p.s), ("end", cD p.e), ("support", supD p.u), ("witness", supD p.w)])
theorem InsAt.grow {S S' : Sto} {C n : Nat} {p : Paper} (h : InsAt S C n p) (g : Grow none S S') : InsAt S' C n p := by
  unfold InsAt
  rw [g.at_ n (List.getElem?_eq_some_iff.mp h).1 fun z => nomatch z]
  exact h
def InsAll (S : Sto) (C : Nat) (ns : List Nat) (ps : List Paper) : Prop := ns.length = ps.length ∧ ∀ i n, ns[i]? = some n → InsAt S C n (pf ps i)
theorem InsAll.grow {S S' : Sto} {C : Nat} {ns : List Nat} {ps : List Paper} (h : InsAll S C ns ps) (g : Grow none S S') : InsAll S' C ns ps := ⟨h.1, fun i n e => (h.2 i n e).grow g⟩
theorem ok_sc {it : SI} {g : SG} {tt : SB} {te : SE} {vs : List Nat} {ρ : Env} {S : Sto} {P : D → Sto → Prop} : Ok (sSc it g tt te vs ρ S) P = Ok (it ρ S) fun m S1 => Ok (sCmGo g tt (sStepS te) m.chk S1.length (wipeE ρ vs) m.items (S1 ++ [.set []])) fun _ S2 => P (.ref S1.length) S2 := ok_cm
theorem ok_dc {it : SI} {g : SG} {tt : SB} {tk tv : SE} {vs : List Nat} {ρ : Env} {S : Sto} {P : D → Sto → Prop} : Ok (sDc it g tt tk tv vs ρ S) P = Ok (it ρ S) fun m S1 => Ok (sCmGo g tt (sStepD tk tv) m.chk S1.length (wipeE ρ vs) m.items (S1 ++ [.dct []])) fun _ S2 => P (.ref S1.length) S2 := ok_cm
section
variable {α : Type} {enc : α → D} {g : SG} {tt : SB} {chk : Sto → Bool} {n : Nat} {ρ0 : Env} {sx : Nat → Env → Sto → Out Unit} {P : Unit → Sto → Prop}
/-- a comprehension, cell by cell, without a condition -/
theorem ok_cmEach {up : α → Env} (I : List α → Sto → Prop) : ∀ (td dn : List α) (S : Sto), (∀ a S2, g (enc a) ρ0 S2 = some (up a, S2)) → (∀ dn S2, I dn S2 → chk S2 = true) → (fin : ∀ S2, I (dn ++ td) S2 → P () S2) →
    (step : ∀ d2 a t2 S2, dn ++ td = d2 ++ a :: t2 → I d2 S2 → Ok (tt (up a) S2) fun b S3 => b = true ∧ Ok (sx n (up a) S3) fun _ S4 => I (d2 ++ [a]) S4) → I dn S → Ok (sCmGo g tt sx chk n ρ0 (td.map enc) S) P
  | [], dn, S, hg, hc, fin, step, h => by
    unfold sCmGo
    rw [List.map_nil]
    simp only
    rw [if_pos (hc _ _ h)]
    exact fin _ (by rw [List.append_nil]; exact h)
  | a :: td, dn, S, hg, hc, fin, step, h => by
    rw [List.map_cons]
    unfold sCmGo
    rw [if_pos (hc _ _ h), hg a S]
    simp only
    have e3 : dn ++ a :: td = (dn ++ [a]) ++ td := by simp
    rw [ok_on]
    refine (step dn a td S rfl h).imp fun b S3 ⟨eb, hs⟩ => ?_
    subst eb
    simp only [if_true]
    rw [ok_on]
    refine hs.imp fun _ S4 h4 => ?_
    exact ok_cmEach I td (dn ++ [a]) S4 hg hc (by rw [← e3]; exact fin) (by rw [← e3]; exact step) h4
end
theorem set_lt {S : Sto} {n : Nat} {K : List (List Int)} (h : setAt S n = some K) : n < S.length := (List.getElem?_eq_some_iff.mp (setAt_eq h)).1
theorem set_set {S : Sto} {n : Nat} {K : List (List Int)} (h : n < S.length) : setAt (S.set n (.set K)) n = some K := by
  unfold setAt
  rw [List.getElem?_set_self h]
theorem addK_cells {ds : List Cell} {c : Cell} : addK (ds.map c2k) (c2k c) = (if c ∈ ds then ds else ds ++ [c]).map c2k := by
  have inj : ∀ a b : Cell, c2k a = c2k b → a = b := fun a b h => by
    unfold c2k at h
    injection h with h1 h2
    injection h2 with h2 _
    exact Prod.ext h1 h2
  unfold addK
  by_cases h : c ∈ ds
  · rw [if_pos h, if_pos (List.mem_map.mpr ⟨c, h, rfl⟩)]
  · rw [if_neg h, if_neg, List.map_append]
    · rfl
    · intro z
      obtain ⟨x, hx, e⟩ := List.mem_map.mp z
      exact h (inj _ _ e ▸ hx)
end SX
open SX in
local macro_rules | `(tactic| walk_at "ev") => `(tactic| simp only [startE, List.map_cons, List.map_nil, List.length_cons, List.length_nil, List.cons_append, List.nil_append, Nat.reduceAdd, Nat.reduceSub, List.replicate_succ, List.replicate_zero, wp_seq, wp_skip, wp_break, wp_cont, wp_ret, wp_retN, wp_expr, wp_asgN, wp_asg2, wp_fldS, ok_fldD, wp_asgS, wp_if, wp_par, wp_par3, wp_never, ok_v, ok_c, ok_op2, ok_op1, ok_bool, ok_tru, ok_and, ok_or, ok_not, ok_andV, ok_orV, ok_notV, ok_if, ok_nil, ok_cons, ok_tup, ok_lst, ok_call, ok_callF, ok_meth, ok_dm, ok_dnew, ok_sl, ok_partN, ok_partS, ok_seqI, List.getElem?_cons_zero, List.getElem?_cons_succ, List.set_cons_zero, List.set_cons_succ])
namespace Lw
open PySem L2 SX Tie
variable {ga : PySem.Str → Nat} {S : Sto}
theorem init_ok {n : Nat} {p : Paper} (h : S[n]? = some (.ins (ga "Step") [])) : Ok (F_Step___init__ ga [.ref n, cD p.s, cD p.e, supD p.u, supD p.w] S) fun d S' => d = .non ∧ S' = S.set n (.ins (ga "Step") [("start", cD p.s), ("end", cD p.e), ("support", supD p.u), ("witness", supD p.w)]) := by
  unfold F_Step___init__
  refine ok_runB ?_
  unfold b_Step___init__
  have hn := (List.getElem?_eq_some_iff.mp h).1
  walk_at "ev"
  refine ⟨n, _, rfl, h, by decide, ?_⟩
  have b1 := putFD_len (g := "start") (y := cD p.s) (fs := [])
  have b2 := putFD_len (g := "end") (y := cD p.e) (fs := putFD "start" (cD p.s) [])
  have b3 := putFD_len (g := "support") (y := supD p.u) (fs := putFD "end" (cD p.e) (putFD "start" (cD p.s) []))
  rw [List.length_nil] at b1
  refine ⟨n, _, rfl, List.getElem?_set_self hn, by omega, ?_⟩
  refine ⟨n, _, rfl, by rw [List.getElem?_set_self (by rw [List.length_set]; exact hn)], by omega, ?_⟩
  refine ⟨n, _, rfl, by rw [List.getElem?_set_self (by rw [List.length_set, List.length_set]; exact hn)], by omega, ?_⟩
  refine ⟨by first | trivial | rfl, ?_⟩
  rw [List.set_set, List.set_set, List.set_set]
  rfl
theorem steps_ok {ps : List Paper} {q : Nat} (hq : lstAt S q = some (ps.map papD)) (hl : ps.length < 1000) : Ok (F__law_t2_steps ga [.ref q] S) fun d S' => ∃ (r : Nat) (ns : List Nat), d = .ref r ∧ Grow none S S' ∧ lstAt S' r = some (ns.map D.ref) ∧ InsAll S' (ga "Step") ns ps := by
  unfold F__law_t2_steps
  refine ok_runB ?_
  unfold b__law_t2_steps
  rw [wp_ret, ok_lc]
  walk_at "ev"
  rw [itm_l hq]
  simp only
  refine ok_cmEach (enc := papD) (up := fun a => [some (.ref q), some (papD a)]) (fun dn S2 => Grow none S S2 ∧ ∃ ns : List Nat, lstAt S2 S.length = some (ns.map D.ref) ∧ InsAll S2 (ga "Step") ns dn) ps [] _ (fun _ _ => rfl) (fun _ S2 h => decide_eq_true (h.1.lst hq fun z => nomatch z)) ?_ ?_ ⟨Grow.app _, [], lst_new, rfl, fun i n e => by cases e⟩
  · rintro S2 ⟨g2, ns, l2, i2⟩
    exact ⟨S.length, ns, rfl, g2, l2, i2⟩
  rintro dn p td S2 ed ⟨g2, ns, l2, i2⟩
  have hdn : dn.length < 1000 := by have := congrArg List.length ed; simp at this; omega
  refine ⟨rfl, ?_⟩
  rw [ok_stepL]
  refine ok_make ?_
  walk_at "ev"
  have x0 : ∀ (r : Paper) (S : Sto), gIxA (papD r) (.int 0) S = .ok (cD r.s) S := fun _ _ => rfl
  have x1 : ∀ (r : Paper) (S : Sto), gIxA (papD r) (.int 1) S = .ok (cD r.e) S := fun _ _ => rfl
  have x2 : ∀ (r : Paper) (S : Sto), gIxA (papD r) (.int 2) S = .ok (supD r.u) S := fun _ _ => rfl
  have x3 : ∀ (r : Paper) (S : Sto), gIxA (papD r) (.int 3) S = .ok (supD r.w) S := fun _ _ => rfl
  simp only [x0, x1, x2, x3, ok_ok]
  refine ⟨by first | trivial | rfl, ?_⟩
  have hnew : (S2 ++ [SO.ins (ga "Step") []])[S2.length]? = some (.ins (ga "Step") []) := by rw [List.getElem?_append_right (Nat.le_refl _), Nat.sub_self]; rfl
  refine (init_ok hnew).imp fun d S3 ⟨ed2, e3⟩ => ⟨ed2, ?_⟩
  have g3 : Grow none S2 S3 := by rw [e3]; exact (Grow.app _).set (.inl (Nat.le_refl _))
  have h3 : InsAt S3 (ga "Step") S2.length p := by
    unfold InsAt
    rw [e3, List.getElem?_set_self (List.getElem?_eq_some_iff.mp hnew).1]
  have l3 := g3.lst l2 (fun z => nomatch z)
  have hS : S.length ≠ S2.length := by have := lst_lt l2; omega
  have nl : ns.length = dn.length := i2.1
  refine ⟨_, l3, by rw [sizeLine_eq, List.length_map]; omega, (g2.trans g3).set (.inl (Nat.le_refl _)), ns ++ [S2.length], ?_, ?_, fun i n e => ?_⟩
  · rw [lst_set (lst_lt l3), List.map_append]; rfl
  · rw [List.length_append, List.length_append, nl]; rfl
  · have hb : i < ns.length + 1 := by
      have := (List.getElem?_eq_some_iff.mp e).1
      rwa [List.length_append, List.length_singleton] at this
    by_cases hi : i < ns.length
    · rw [List.getElem?_append_left hi] at e
      have hh := (i2.2 i n e).grow g3
      have ep : pf (dn ++ [p]) i = pf dn i := by unfold pf; rw [List.getElem?_append_left (by omega)]
      rw [ep]
      unfold InsAt at hh ⊢
      rw [List.getElem?_set_ne]
      · exact hh
      · intro z
        subst z
        have := lstAt_eq l3
        rw [hh] at this
        cases this
    · have hi2 : i = ns.length := by omega
      subst hi2
      rw [List.getElem?_append_right (Nat.le_refl _), Nat.sub_self] at e
      cases e
      have ep : pf (dn ++ [p]) ns.length = p := by unfold pf; rw [nl, List.getElem?_append_right (Nat.le_refl _), Nat.sub_self]; rfl
      rw [ep]
      unfold InsAt at h3 ⊢
      rw [List.getElem?_set_ne hS]
      exact h3
end Lw
end
section
set_option linter.all false
set_option maxRecDepth 100000
set_option maxHeartbeats 2000000
/-! V16: reads_of, changes, ties_of. -/
open SX in
local macro_rules | `(tactic| walk_at "ev") => `(tactic| simp only [startE, List.map_cons, List.map_nil, List.length_cons, List.length_nil, List.cons_append, List.nil_append, Nat.reduceAdd, Nat.reduceSub, List.replicate_succ, List.replicate_zero, wp_seq, wp_skip, wp_break, wp_cont, wp_ret, wp_retN, wp_expr, wp_asgN, wp_asg2, wp_fldS, ok_fldD, wp_asgS, wp_if, wp_par, wp_par3, wp_never, ok_v, ok_c, ok_op2, ok_op1, ok_bool, ok_tru, ok_and, ok_or, ok_not, ok_andV, ok_orV, ok_notV, ok_if, ok_nil, ok_cons, ok_tup, ok_lst, ok_call, ok_callF, ok_meth, ok_dm, ok_dnew, ok_sl, ok_partN, ok_partS, ok_seqI, List.getElem?_cons_zero, List.getElem?_cons_succ, List.set_cons_zero, List.set_cons_succ])
namespace SX
open PySem L2 Tie
theorem cat_t {S : Sto} {xs ys : List D} (h : xs ≠ []) (hl : xs.length + ys.length ≤ sizeLine) : gAdd (.tup xs) (.tup ys) S = .ok (.tup (xs ++ ys)) S := if_pos ⟨h, hl⟩
theorem look_start {p : Paper} : List.lookup ("start" : PySem.Str) [("start", cD p.s), ("end", cD p.e), ("support", supD p.u), ("witness", supD p.w)] = some (cD p.s) := by kernel_rfl
theorem look_end {p : Paper} : List.lookup ("end" : PySem.Str) [("start", cD p.s), ("end", cD p.e), ("support", supD p.u), ("witness", supD p.w)] = some (cD p.e) := by kernel_rfl
theorem look_sup {p : Paper} : List.lookup ("support" : PySem.Str) [("start", cD p.s), ("end", cD p.e), ("support", supD p.u), ("witness", supD p.w)] = some (supD p.u) := by kernel_rfl
theorem look_wit {p : Paper} : List.lookup ("witness" : PySem.Str) [("start", cD p.s), ("end", cD p.e), ("support", supD p.u), ("witness", supD p.w)] = some (supD p.w) := by kernel_rfl
def nf (ns : List Nat) (i : Nat) : Nat := ns[i]?.getD 0
theorem nf_at {ns : List Nat} {i : Nat} (h : i < ns.length) : ns[i]? = some (nf ns i) := by
  unfold nf
  rw [List.getElem?_eq_getElem h]
  rfl
theorem enm_refs {ns : List Nat} : enmList (ns.map D.ref) = (List.range ns.length).map fun (i : Nat) => D.tup [.int (i : Int), .ref (nf ns i)] := by
  unfold enmList
  refine List.ext_getElem? fun i => ?_
  rw [List.getElem?_mapIdx, List.getElem?_map, List.getElem?_map]
  by_cases h : i < ns.length
  · rw [List.getElem?_range h, nf_at h]; rfl
  · rw [List.getElem?_eq_none (by omega), List.getElem?_eq_none (by rw [List.length_range]; omega)]; rfl
section
variable {g : SG} {b : SS} {N B C : Env → Sto → Prop} {R : D → Sto → Prop}
/-- for i, x in enumerate(list of refs) -/
theorem wp_enm {gs : SA} {ρ : Env} {S : Sto} (h : Ok (gs ρ S) fun ds S1 => ∃ (q : Nat) (ns : List Nat) (I : Nat → Env → Sto → Prop), ds = [.ref q] ∧ lstAt S1 q = some (ns.map D.ref) ∧ (∀ k ρ S2, I k ρ S2 → lstAt S2 q = some (ns.map D.ref)) ∧ (∀ ρ S, I ns.length ρ S → N ρ S) ∧
    (∀ k ρ S, k < ns.length → I k ρ S → ∃ ρ1 S1, g (.tup [.int k, .ref (nf ns k)]) ρ S = some (ρ1, S1) ∧ Wp (b ρ1 S1) (I (k + 1)) R N (I (k + 1))) ∧ I 0 ρ S1) : Wp (sFor (iEnm gs) g b ρ S) N R B C := by
  rw [wp_for, ok_enm]
  refine h.imp fun ds S1 ⟨q, ns, I, ed, l1, gr, fin, step, st0⟩ => ?_
  refine ⟨q, _, ed, l1, ?_⟩
  simp only [enm_refs]
  refine wp_walk (enc := fun (i : Nat) => D.tup [.int (i : Int), .ref (nf ns i)]) (fun dn => I dn.length) (List.range ns.length) [] ρ S1 (fun _ _ S2 hI => decide_eq_true (gr _ _ _ hI)) (by rw [List.nil_append, List.length_range]; exact fin) ?_ st0
  intro d2 a t2 ρ1 S1 e h
  rw [List.nil_append] at e
  have e1 : (List.range ns.length)[d2.length]? = some a := by rw [e]; simp
  have hl : d2.length < ns.length := by
    have := (List.getElem?_eq_some_iff.mp e1).1
    rwa [List.length_range] at this
  rw [List.getElem?_range hl] at e1
  have ea : d2.length = a := Option.some.inj e1
  have := step _ _ _ hl h
  rw [ea] at this
  rw [List.length_append, List.length_singleton, ea]
  exact this
end
def eT (t : Nat × Nat) : PyData := eC (t.1, t.2)
theorem sk_t : SK iD eT := ⟨fun S a => sk_c.py S (a.1, a.2), fun a => sk_c.dp (a.1, a.2), fun a b => rfl, .inl fun a => rfl⟩
/-- dicts of the read cells -/
def DictAll (S : Sto) (ds : List Nat) (ps : List Paper) : Prop := ds.length = ps.length ∧ ∀ i d, ds[i]? = some d → ∃ l : List (Cell × Unit), dctW S d = some (cKv uD l) ∧ ∀ c, c ∈ l.map (·.1) ↔ (pf ps i).reads c
theorem DictAll.grow {S S' : Sto} {ds : List Nat} {ps : List Paper} (h : DictAll S ds ps) (g : Grow none S S') : DictAll S' ds ps := ⟨h.1, fun i d e => by
  obtain ⟨l, h1, h2⟩ := h.2 i d e
  exact ⟨l, g.dct h1 (fun z => nomatch z), h2⟩⟩
end SX
namespace Lw
open PySem L2 SX Tie
variable {ga : PySem.Str → Nat} {S : Sto}
theorem reads_of_ok {n : Nat} {p : Paper} (h : InsAt S (ga "Step") n p) (hs : Small p) : Ok (F_reads_of ga [.ref n] S) fun d S' => ∃ rs : List Cell, d = .tup (rs.map cD) ∧ Grow none S S' ∧ (∀ c, c ∈ rs ↔ p.reads c) ∧ rs.length ≤ 60 := by
  unfold F_reads_of
  refine ok_runB ?_
  unfold b_reads_of
  generalize hA : ([p.s, p.e] ++ bes p.s ++ p.u ++ p.w) = A
  have lA : A.length ≤ 48 := by rw [← hA]; have := hs.1; have := hs.2; simp [bes]; omega
  refine wp_cut (fun ρ S1 => ρ = [some (.ref n), some (.tup (A.map cD)), none] ∧ S = S1) ?_ ?_
  · walk_at "ev"
    refine ⟨n, _, _, rfl, h, look_start, n, _, _, rfl, h, look_end, size1 (by decide), n, _, _, rfl, h, look_start, by first | trivial | rfl, ?_⟩
    rw [beside_eq]
    simp only [ok_ok]
    rw [cat_t (by simp) (size1 (by show 6 < 100000; omega))]
    simp only [ok_ok]
    refine ⟨n, _, _, rfl, h, look_sup, ?_⟩
    unfold supD
    rw [cat_t (by simp) (size1 (by have := hs.1; simp [bes]; omega))]
    simp only [ok_ok]
    refine ⟨n, _, _, rfl, h, look_wit, ?_⟩
    unfold supD
    rw [cat_t (by simp) (size1 (by have := hs.1; have := hs.2; simp [bes]; omega))]
    simp only [ok_ok]
    refine ⟨?_, by first | trivial | rfl⟩
    rw [← hA]
    simp only [List.map_append, List.map_cons, List.map_nil]
  rintro ρ S1 ⟨rfl, rfl⟩
  rw [wp_ret, ok_call, ok_cons, ok_call, ok_cons, ok_sc]
  walk_at "ev"
  rw [itm_t]
  simp only
  refine ok_cmEach (enc := cD) (up := fun a => [some (.ref n), some (.tup (A.map cD)), some (cD a)]) (fun dn S2 => Grow none S S2 ∧ ∃ ds : List Cell, setAt S2 S.length = some (ds.map c2k) ∧ (∀ c, c ∈ ds ↔ c ∈ dn) ∧ ds.length ≤ dn.length) A [] _ (fun _ _ => rfl) (fun _ _ _ => rfl) ?_ ?_ ⟨Grow.app _, [], set_new, fun c => Iff.rfl, Nat.le_refl _⟩
  · rintro S2 ⟨g2, ds, s2, h2, h3⟩
    rw [sorted_s s2]
    simp only [ok_ok]
    rw [tup_l lst_new]
    refine ⟨srtC ds, rfl, g2.trans (Grow.app _), fun c => ?_, ?_⟩
    · show c ∈ srtBy eC ds ↔ _
      rw [(srtBy_perm eC ds).mem_iff, h2, List.nil_append, ← hA]
      unfold Paper.reads
      simp only [List.mem_append, List.mem_cons, List.not_mem_nil, or_false]
      constructor
      · rintro (((h | h) | h) | h)
        · exact h.elim .inl fun z => .inr (.inl z)
        · exact .inr (.inr (.inl h))
        · exact .inr (.inr (.inr (.inl h)))
        · exact .inr (.inr (.inr (.inr h)))
      · rintro (h | h | h | h | h)
        · exact .inl (.inl (.inl (.inl h)))
        · exact .inl (.inl (.inl (.inr h)))
        · exact .inl (.inl (.inr h))
        · exact .inl (.inr h)
        · exact .inr h
    · show (srtBy eC ds).length ≤ 60
      rw [(srtBy_perm eC ds).length_eq]
      rw [List.nil_append] at h3
      omega
  rintro dn c td S2 ed ⟨g2, ds, s2, h2, h3⟩
  have hdn : dn.length < 48 := by have := congrArg List.length ed; simp at this; omega
  refine ⟨rfl, ?_⟩
  rw [ok_stepS]
  walk_at "ev"
  refine ⟨_, c2k c, s2, rfl, by rw [List.length_map]; omega, g2.set (.inl (Nat.le_refl _)), (if c ∈ ds then ds else ds ++ [c]), ?_, fun x => ?_, ?_⟩
  · rw [set_set (set_lt s2), addK_cells]
  · by_cases e : c ∈ ds
    · rw [if_pos e, h2, List.mem_append, List.mem_singleton]
      exact ⟨.inl, fun z => z.elim id fun z => z ▸ (h2 c).mp e⟩
    · rw [if_neg e, List.mem_append, List.mem_append, h2]
  · rw [List.length_append, List.length_singleton]
    split
    · omega
    · rw [List.length_append, List.length_singleton]; omega
theorem changes_ok {n d : Nat} {p : Paper} {l : List (Cell × Unit)} (h : InsAt S (ga "Step") n p) (hd : dctW S d = some (cKv uD l)) : Ok (F_changes ga [.ref n, .ref d] S) fun r S' => r = .bl (decide (p.s ∈ l.map (·.1)) || decide (p.e ∈ l.map (·.1))) ∧ S = S' := by
  unfold F_changes
  refine ok_runB ?_
  unfold b_changes
  walk_at "ev"
  refine ⟨n, _, _, rfl, h, look_start, ?_⟩
  rw [in_d hd]
  simp only [ok_ok, look_isSome]
  by_cases c1 : p.s ∈ l.map (·.1)
  · rw [decide_eq_true c1]
    exact ⟨rfl, by first | trivial | rfl⟩
  · rw [decide_eq_false c1]
    refine ⟨n, _, _, rfl, h, look_end, ?_⟩
    rw [in_d hd, look_isSome]
    exact ⟨rfl, by first | trivial | rfl⟩
end Lw
end
section
set_option linter.all false
set_option maxRecDepth 100000
set_option maxHeartbeats 2000000
/-! V17: ties_of, waits_of. -/
open SX in
local macro_rules | `(tactic| walk_at "ev") => `(tactic| simp only [startE, List.map_cons, List.map_nil, List.length_cons, List.length_nil, List.cons_append, List.nil_append, Nat.reduceAdd, Nat.reduceSub, List.replicate_succ, List.replicate_zero, wp_seq, wp_skip, wp_break, wp_cont, wp_ret, wp_retN, wp_expr, wp_asgN, wp_asg2, wp_fldS, ok_fldD, wp_asgS, wp_if, wp_par, wp_par3, wp_never, ok_v, ok_c, ok_op2, ok_op1, ok_bool, ok_tru, ok_and, ok_or, ok_not, ok_andV, ok_orV, ok_notV, ok_if, ok_nil, ok_cons, ok_tup, ok_lst, ok_call, ok_callF, ok_meth, ok_dm, ok_dnew, ok_sl, ok_partN, ok_partS, ok_seqI, List.getElem?_cons_zero, List.getElem?_cons_succ, List.set_cons_zero, List.set_cons_succ])
namespace Lw
open PySem L2 SX Tie
variable {ga : PySem.Str → Nat} {S : Sto}
theorem ties_of_ok {ps : List Paper} {q : Nat} {ns : List Nat} (hq : lstAt S q = some (ns.map D.ref)) (hI : InsAll S (ga "Step") ns ps) (hs : ∀ p ∈ ps, Small p) (hl : ps.length < 1000) : Ok (F_ties_of ga [.ref q] S) fun d S' => ∃ (ts : List (Nat × Nat)), d = .tup (ts.map iD) ∧ Grow none S S' ∧ (∀ i j, (i, j) ∈ ts ↔ i < j ∧ j < ps.length ∧ tied (pf ps i) (pf ps j)) ∧ ts.length ≤ 1000000 := by
  unfold F_ties_of
  refine ok_runB ?_
  unfold b_ties_of
  have nl : ns.length = ps.length := hI.1
  refine wp_cut (fun ρ S1 => ∃ (r : Nat) (ds : List Nat), ρ = [some (.ref q), some (.ref r), none, none, none, none, none, none] ∧ Grow none S S1 ∧ lstAt S1 r = some (ds.map D.ref) ∧ DictAll S1 ds ps) ?_ ?_
  · walk_at "ev"
    rw [ok_lc]
    walk_at "ev"
    rw [itm_l hq]
    simp only
    refine ok_cmEach (enc := D.ref) (up := fun a => [some (.ref q), none, none, none, none, none, some (.ref a), none]) (fun dn S2 => Grow none S S2 ∧ ∃ ds : List Nat, lstAt S2 S.length = some (ds.map D.ref) ∧ DictAll S2 ds (ps.take dn.length) ∧ ds.length = dn.length) ns [] _ (fun _ _ => rfl) (fun _ S2 h => decide_eq_true (h.1.lst hq fun z => nomatch z)) ?_ ?_ ⟨Grow.app _, [], lst_new, ⟨by simp, fun i d e => by cases e⟩, rfl⟩
    · rintro S2 ⟨g2, ds, l2, h2, _⟩
      refine ⟨S.length, ds, rfl, g2, l2, ?_⟩
      rw [List.nil_append, nl, List.take_length] at h2
      exact h2
    rintro dn n td S2 ed ⟨g2, ds, l2, h2, h3⟩
    rw [List.nil_append] at ed
    have hdn : dn.length < ps.length := by have := congrArg List.length ed; simp at this; omega
    have hn : ns[dn.length]? = some n := by rw [ed]; simp
    have hins := (hI.2 _ _ hn).grow g2
    have hSS : S.length < S2.length := lst_lt l2
    refine ⟨rfl, ?_⟩
    rw [ok_stepL, ok_dc]
    walk_at "ev"
    refine ⟨by first | trivial | rfl, (reads_of_ok hins (hs _ (pf_mem hdn))).imp fun d S3 ⟨rs, ed3, g3, h4, h5⟩ => ?_⟩
    subst ed3
    rw [itm_t]
    simp only
    refine ok_cmEach (enc := cD) (up := fun a => [some (.ref q), none, none, none, none, none, some (.ref n), some (cD a)]) (fun d2 S4 => Grow none S3 S4 ∧ ∃ l : List (Cell × Unit), dctW S4 S3.length = some (cKv uD l) ∧ (∀ c, c ∈ l.map (·.1) ↔ c ∈ d2) ∧ l.length ≤ d2.length) rs [] _ (fun _ _ => rfl) (fun _ _ _ => rfl) ?_ ?_ ⟨Grow.app _, [], dct_new, fun c => Iff.rfl, Nat.le_refl _⟩
    · rintro S4 ⟨g4, l, d4, h6, h7⟩
      rw [List.nil_append] at h6 h7
      have g24 := g3.trans g4
      have l4 := g24.lst l2 (fun z => nomatch z)
      have hne : S.length ≠ S3.length := by have := g3.len; omega
      refine ⟨_, l4, by rw [sizeLine_eq, List.length_map]; omega, (g2.trans g24).set (.inl (Nat.le_refl _)), ds ++ [S3.length], by rw [lst_set (lst_lt l4), List.map_append]; rfl, ⟨?_, fun i d e => ?_⟩, by rw [List.length_append, List.length_append, h3]; rfl⟩
      · rw [List.length_append, List.length_singleton, h3, List.length_take, List.length_append, List.length_singleton]; omega
      · have hb : i < ds.length + 1 := by
          have := (List.getElem?_eq_some_iff.mp e).1
          rwa [List.length_append, List.length_singleton] at this
        have pft : ∀ m, i < m → pf (ps.take m) i = pf ps i := fun m hm => by unfold pf; rw [List.getElem?_take_of_lt hm]
        rw [List.length_append, List.length_singleton, pft _ (by omega)]
        by_cases hi : i < ds.length
        · rw [List.getElem?_append_left hi] at e
          obtain ⟨l', a, b⟩ := h2.2 i d e
          rw [pft _ (by omega)] at b
          have a4 := g24.dct a (fun z => nomatch z)
          refine ⟨l', ?_, b⟩
          rw [dct_set_ne (lst_ne_dct l4 a4)]
          exact a4
        · have hi2 : i = ds.length := by omega
          subst hi2
          rw [List.getElem?_append_right (Nat.le_refl _), Nat.sub_self] at e
          cases e
          refine ⟨l, by rw [dct_set_ne hne]; exact d4, fun c => ?_⟩
          rw [h6, h4, h3]
    rintro d2 c t2 S4 e4 ⟨g4, l, d4, h6, h7⟩
    have hd2 : d2.length < 60 := by have := congrArg List.length e4; simp at this; omega
    refine ⟨rfl, ?_⟩
    rw [ok_stepD]
    walk_at "ev"
    refine ⟨_, d4, cls_cell cKv_keys c, by rw [cKv_len]; exact small_sz (by omega), g4.set (.inl (Nat.le_refl _)), put l c (), ?_, fun x => ?_, ?_⟩
    · rw [dct_set (dct_lt d4), ← put_cKv (f := uD)]; rfl
    · rw [put_keys]
      by_cases e : c ∈ l.map (·.1)
      · rw [if_pos e, h6, List.mem_append, List.mem_singleton]
        exact ⟨.inl, fun z => z.elim id fun z => z ▸ (h6 c).mp e⟩
      · rw [if_neg e, List.mem_append, List.mem_append, h6]
    · rw [List.length_append, List.length_singleton]
      have := put_len (l := l) (c := c) (a := ())
      omega
  rintro ρ S1 ⟨r, ds, rfl, g1, l1, hD⟩
  have dl : ds.length = ps.length := hD.1
  refine wp_cut (fun ρ S2 => ∃ (f : Nat), ρ = [some (.ref q), some (.ref r), some (.ref f), none, none, none, none, none] ∧ Grow none S1 S2 ∧ S1.length ≤ f ∧ lstAt S2 f = some (([] : List (Nat × Nat)).map iD)) ?_ ?_
  · walk_at "ev"
    exact ⟨Nat.zero_le _, _, rfl, Grow.app _, Nat.le_refl _, lst_new⟩
  rintro ρ S2 ⟨f, rfl, g2, hf, l2⟩
  refine wp_cut (fun ρ S3 => ∃ (c3 c4 c5 : Option D) (ts : List (Nat × Nat)), ρ = [some (.ref q), some (.ref r), some (.ref f), c3, c4, c5, none, none] ∧ Grow none S1 S3 ∧ lstAt S3 f = some (ts.map iD) ∧ (∀ i j, (i, j) ∈ ts ↔ i < j ∧ j < ps.length ∧ tied (pf ps i) (pf ps j)) ∧ ts.length ≤ 1000000) ?_ ?_
  · refine wp_enm ?_
    walk_at "ev"
    refine ⟨q, ns, fun k ρ S3 => ∃ (c3 c4 c5 : Option D) (ts : List (Nat × Nat)), ρ = [some (.ref q), some (.ref r), some (.ref f), c3, c4, c5, none, none] ∧ Grow none S1 S3 ∧ lstAt S3 f = some (ts.map iD) ∧ (∀ i j, (i, j) ∈ ts ↔ i < j ∧ j < k ∧ tied (pf ps i) (pf ps j)) ∧ ts.length ≤ 1000 * k, by first | trivial | rfl, (g1.trans g2).lst hq (fun z => nomatch z), fun k ρ S3 ⟨_, _, _, _, _, g3, _⟩ => (g1.trans g3).lst hq (fun z => nomatch z), ?_, ?_, ⟨none, none, none, [], rfl, g2, l2, fun i j => ⟨fun z => (nomatch z), fun z => absurd z.2.1 (Nat.not_lt_zero _)⟩, Nat.zero_le _⟩⟩
    · rintro ρ S3 ⟨c3, c4, c5, ts, rfl, g3, l3, h3, h4⟩
      rw [nl] at h3 h4
      exact ⟨c3, c4, c5, ts, rfl, g3, l3, h3, by omega⟩
    rintro k ρ S3 hk ⟨c3, c4, c5, ts, rfl, g3, l3, h3, h4⟩
    refine ⟨_, _, rfl, ?_⟩
    rw [nl] at hk
    simp only [List.set_cons_succ, List.set_cons_zero]
    generalize hv : (k : Int) = v
    · refine wp_rng k (fun m ρ S3 => ∃ (c5 : Option D) (ts : List (Nat × Nat)), ρ = [some (.ref q), some (.ref r), some (.ref f), some (.int v), some (.ref (nf ns k)), c5, none, none] ∧ Grow none S1 S3 ∧ lstAt S3 f = some (ts.map iD) ∧ (∀ i j, (i, j) ∈ ts ↔ (i < j ∧ j < k ∧ tied (pf ps i) (pf ps j)) ∨ (j = k ∧ i < m ∧ tied (pf ps i) (pf ps j))) ∧ ts.length ≤ 1000 * k + m) ?_ (by omega) ?_ ?_
      · walk_at "ev"
        refine ⟨by rw [hv], c5, ts, rfl, g3, l3, fun i j => ?_, by omega⟩
        rw [h3]
        exact ⟨.inl, fun z => z.elim id fun z => absurd z.2.1 (Nat.not_lt_zero _)⟩
      · rintro ρ S4 ⟨c5, ts, rfl, g4, l4, h5, h6⟩
        refine ⟨_, _, c5, ts, rfl, g4, l4, fun i j => ?_, by omega⟩
        rw [h5]
        constructor
        · rintro (h | ⟨rfl, h7, h8⟩)
          · exact ⟨h.1, by omega, h.2.2⟩
          · exact ⟨h7, by omega, h8⟩
        · rintro ⟨a, b, c⟩
          by_cases e : j = k
          · subst e; exact .inr ⟨rfl, a, c⟩
          · exact .inl ⟨a, by omega, c⟩
      rintro m ρ S4 hm ⟨c5, ts, rfl, g4, l4, h5, h6⟩
      refine ⟨_, _, rfl, ?_⟩
      have q4 := (g1.trans g4).lst hq (fun z => nomatch z)
      have r4 := g4.lst l1 (fun z => nomatch z)
      have I4 := hI.grow (g1.trans g4)
      have D4 := hD.grow g4
      have im : ns[m]? = some (nf ns m) := nf_at (by omega)
      have ik : ns[k]? = some (nf ns k) := nf_at (by omega)
      have jm : ds[m]? = some (nf ds m) := nf_at (by omega)
      have jk : ds[k]? = some (nf ds k) := nf_at (by omega)
      have im' : (ns.map D.ref)[m]? = some (.ref (nf ns m)) := by rw [List.getElem?_map, im]; rfl
      have jm' : (ds.map D.ref)[m]? = some (.ref (nf ds m)) := by rw [List.getElem?_map, jm]; rfl
      have jk' : (ds.map D.ref)[k]? = some (.ref (nf ds k)) := by rw [List.getElem?_map, jk]; rfl
      obtain ⟨lk, dk, hk2⟩ := D4.2 k _ jk
      obtain ⟨lm, dm, hm2⟩ := D4.2 m _ jm
      walk_at "ev"
      rw [ix_l q4 im' rfl]
      simp only [ok_ok]
      rw [ix_l r4 jk' hv.symm]
      simp only [ok_ok]
      refine ⟨by first | trivial | rfl, (changes_ok (I4.2 m _ im) dk).imp fun d S5 ⟨ed, e5⟩ => ?_⟩
      subst ed e5
      have yes : tied (pf ps m) (pf ps k) → ∃ (n_1 : Nat) (xs : List D), D.ref f = .ref n_1 ∧ lstAt S4 n_1 = some xs ∧ 2 ≤ sizeLine ∧ Ok (gAppend (.ref f) [.tup [.int (m : Int), .int v]] S4) fun _ S5 => ∃ (c5' : Option D) (ts : List (Nat × Nat)), [some (.ref q), some (.ref r), some (.ref f), some (.int v), some (.ref (nf ns k)), some (.int (m : Int)), none, none] = [some (.ref q), some (.ref r), some (.ref f), some (.int v), some (.ref (nf ns k)), c5', none, none] ∧ Grow none S1 S5 ∧ lstAt S5 f = some (ts.map iD) ∧ (∀ i j, (i, j) ∈ ts ↔ (i < j ∧ j < k ∧ tied (pf ps i) (pf ps j)) ∨ (j = k ∧ i < m + 1 ∧ tied (pf ps i) (pf ps j))) ∧ ts.length ≤ 1000 * k + (m + 1) := fun ht => by
        refine ⟨f, _, rfl, l4, size1 (by decide), ?_⟩
        subst hv
        rw [app_l l4 (by rw [sizeLine_eq, List.length_map]; omega)]
        refine ⟨_, ts ++ [(m, k)], rfl, g4.set (.inl hf), by rw [lst_set (lst_lt l4), List.map_append]; rfl, fun i j => ?_, by rw [List.length_append, List.length_singleton]; omega⟩
        rw [List.mem_append, h5, List.mem_singleton]
        constructor
        · rintro ((h | h) | h)
          · exact .inl h
          · exact .inr ⟨h.1, by omega, h.2.2⟩
          · injection h with e1 e2
            subst e1 e2
            exact .inr ⟨rfl, by omega, ht⟩
        · rintro (h | ⟨h7, h8, h9⟩)
          · exact .inl (.inl h)
          · by_cases e : i = m
            · subst e h7
              exact .inr rfl
            · exact .inl (.inr ⟨h7, by omega, h9⟩)
      have no : ¬ tied (pf ps m) (pf ps k) → ∃ (c5' : Option D) (ts : List (Nat × Nat)), [some (.ref q), some (.ref r), some (.ref f), some (.int v), some (.ref (nf ns k)), some (.int (m : Int)), none, none] = [some (.ref q), some (.ref r), some (.ref f), some (.int v), some (.ref (nf ns k)), c5', none, none] ∧ Grow none S1 S4 ∧ lstAt S4 f = some (ts.map iD) ∧ (∀ i j, (i, j) ∈ ts ↔ (i < j ∧ j < k ∧ tied (pf ps i) (pf ps j)) ∨ (j = k ∧ i < m + 1 ∧ tied (pf ps i) (pf ps j))) ∧ ts.length ≤ 1000 * k + (m + 1) := fun ht => by
        refine ⟨_, ts, rfl, g4, l4, fun i j => ?_, by omega⟩
        rw [h5]
        constructor
        · rintro (h | h)
          · exact .inl h
          · exact .inr ⟨h.1, by omega, h.2.2⟩
        · rintro (h | ⟨h7, h8, h9⟩)
          · exact .inl h
          · by_cases e : i = m
            · subst e h7
              exact absurd h9 ht
            · exact .inr ⟨h7, by omega, h9⟩
      rw [tied_iff] at yes no
      show (if _ = true then _ else _)
      by_cases c1 : (decide ((pf ps m).s ∈ lk.map (·.1)) || decide ((pf ps m).e ∈ lk.map (·.1))) = true
      · rw [if_pos c1]
        refine yes (.inl ?_)
        rw [Bool.or_eq_true, decide_eq_true_iff, decide_eq_true_iff, hk2, hk2] at c1
        exact c1
      · rw [if_neg c1]
        rw [ix_l r4 jm' rfl]
        simp only [ok_ok]
        refine ⟨by first | trivial | rfl, (changes_ok (I4.2 k _ ik) dm).imp fun d S5 ⟨ed, e5⟩ => ?_⟩
        subst ed e5
        show (if _ = true then _ else _)
        rw [Bool.or_eq_true, decide_eq_true_iff, decide_eq_true_iff, hk2, hk2] at c1
        by_cases c2 : (decide ((pf ps k).s ∈ lm.map (·.1)) || decide ((pf ps k).e ∈ lm.map (·.1))) = true
        · rw [if_pos c2]
          refine yes (.inr ?_)
          rw [Bool.or_eq_true, decide_eq_true_iff, decide_eq_true_iff, hm2, hm2] at c2
          exact c2
        · rw [if_neg c2]
          rw [Bool.or_eq_true, decide_eq_true_iff, decide_eq_true_iff, hm2, hm2] at c2
          exact no fun z => z.elim c1 c2
  rintro ρ S3 ⟨c3, c4, c5, ts, rfl, g3, l3, h3, h4⟩
  walk_at "ev"
  rw [sorted_l sk_t l3]
  simp only [ok_ok]
  rw [tup_l lst_new]
  refine ⟨srtBy eT ts, rfl, (g1.trans g3).trans (Grow.app _), fun i j => ?_, by rw [(srtBy_perm eT ts).length_eq]; exact h4⟩
  rw [(srtBy_perm eT ts).mem_iff, h3]
end Lw
end
section
set_option linter.all false
set_option maxRecDepth 100000
set_option maxHeartbeats 2000000
/-! V18: waits_of. -/
open SX in
local macro_rules | `(tactic| walk_at "ev") => `(tactic| simp only [startE, List.map_cons, List.map_nil, List.length_cons, List.length_nil, List.cons_append, List.nil_append, Nat.reduceAdd, Nat.reduceSub, List.replicate_succ, List.replicate_zero, wp_seq, wp_skip, wp_break, wp_cont, wp_ret, wp_retN, wp_expr, wp_asgN, wp_asg2, wp_fldS, ok_fldD, wp_asgS, wp_if, wp_par, wp_par3, wp_never, ok_v, ok_c, ok_op2, ok_op1, ok_bool, ok_tru, ok_and, ok_or, ok_not, ok_andV, ok_orV, ok_notV, ok_if, ok_nil, ok_cons, ok_tup, ok_lst, ok_call, ok_callF, ok_meth, ok_dm, ok_dnew, ok_sl, ok_partN, ok_partS, ok_seqI, List.getElem?_cons_zero, List.getElem?_cons_succ, List.set_cons_zero, List.set_cons_succ])
namespace SX
open PySem L2 Tie
theorem nf_append_left {ws : List Nat} {x j : Nat} (h : j < ws.length) : nf (ws ++ [x]) j = nf ws j := by unfold nf; rw [List.getElem?_append_left h]
theorem nf_append_self {ws : List Nat} {x : Nat} : nf (ws ++ [x]) ws.length = x := by unfold nf; rw [List.getElem?_append_right (Nat.le_refl _), Nat.sub_self]; rfl
def nD (i : Nat) : D := .int (i : Int)
end SX
namespace Lw
open PySem L2 SX Tie
variable {ga : PySem.Str → Nat} {S : Sto}
theorem waits_ok {ps : List Paper} {q : Nat} {ns : List Nat} (hq : lstAt S q = some (ns.map D.ref)) (hI : InsAll S (ga "Step") ns ps) (hs : ∀ p ∈ ps, Small p) (hl : ps.length < 1000) : Ok (F_waits_of ga [.ref q] S) fun d S' => ∃ (r : Nat) (ws : List Nat), d = .ref r ∧ Grow none S S' ∧ lstAt S' r = some (ws.map D.ref) ∧ ws.length = ps.length ∧ S.length ≤ r ∧ (∀ j, j < ps.length → S.length ≤ nf ws j) ∧ ∀ j, j < ps.length → ∃ is : List Nat, lstAt S' (nf ws j) = some (is.map nD) ∧ is.length ≤ 1000000 ∧ ∀ i, i ∈ is ↔ i < j ∧ tied (pf ps i) (pf ps j) := by
  unfold F_waits_of
  refine ok_runB ?_
  unfold b_waits_of
  have nl : ns.length = ps.length := hI.1
  refine wp_cut (fun ρ S1 => ∃ (r : Nat) (ws : List Nat), ρ = [some (.ref q), some (.ref r), none, none, none] ∧ S.length ≤ r ∧ Grow none S S1 ∧ lstAt S1 r = some (ws.map D.ref) ∧ ws.length = ps.length ∧ (∀ j, j < ws.length → r < nf ws j ∧ nf ws j < S1.length ∧ lstAt S1 (nf ws j) = some []) ∧ ∀ i j, i < j → j < ws.length → nf ws i < nf ws j) ?_ ?_
  · walk_at "ev"
    rw [ok_lc]
    walk_at "ev"
    rw [itm_l hq]
    simp only
    refine ok_cmEach (enc := D.ref) (up := fun a => [some (.ref q), none, none, none, some (.ref a)]) (fun dn S1 => Grow none S S1 ∧ ∃ ws : List Nat, lstAt S1 S.length = some (ws.map D.ref) ∧ ws.length = dn.length ∧ (∀ j, j < ws.length → S.length < nf ws j ∧ nf ws j < S1.length ∧ lstAt S1 (nf ws j) = some []) ∧ ∀ i j, i < j → j < ws.length → nf ws i < nf ws j) ns [] _ (fun _ _ => rfl) (fun _ S2 h => decide_eq_true (h.1.lst hq fun z => nomatch z)) ?_ ?_ ⟨Grow.app _, [], lst_new, rfl, fun j h => absurd h (Nat.not_lt_zero _), fun i j _ h => absurd h (Nat.not_lt_zero _)⟩
    · rintro S2 ⟨g2, ws, l2, h2, h3, h4⟩
      exact ⟨S.length, ws, rfl, Nat.le_refl _, g2, l2, by rw [h2, List.nil_append, nl], h3, h4⟩
    rintro dn n td S2 ed ⟨g2, ws, l2, h2, h3, h4⟩
    rw [List.nil_append] at ed
    have hdn : dn.length < ps.length := by have := congrArg List.length ed; simp at this; omega
    refine ⟨rfl, ?_⟩
    rw [ok_stepL]
    walk_at "ev"
    have gx : Grow none S2 (S2 ++ [SO.lst []]) := Grow.app _
    have l3 := gx.lst l2 (fun z => nomatch z)
    have hS := lst_lt l2
    have hnew : lstAt (S2 ++ [SO.lst []]) S2.length = some [] := lst_new
    have hlen : (S2 ++ [SO.lst []]).length = S2.length + 1 := by simp
    refine ⟨Nat.zero_le _, _, l3, by rw [sizeLine_eq, List.length_map]; omega, (g2.trans gx).set (.inl (Nat.le_refl _)), ws ++ [S2.length], by rw [lst_set (lst_lt l3), List.map_append]; rfl, by rw [List.length_append, List.length_append, h2]; rfl, fun j hj => ?_, fun i j hij hj => ?_⟩
    · rw [List.length_append, List.length_singleton] at hj
      rw [List.length_set, hlen]
      by_cases e : j < ws.length
      · obtain ⟨a, b, c⟩ := h3 j e
        rw [nf_append_left e]
        refine ⟨a, by omega, ?_⟩
        rw [lst_set_ne (by omega)]
        exact gx.lst c (fun z => nomatch z)
      · have : j = ws.length := by omega
        subst this
        rw [nf_append_self]
        refine ⟨hS, by omega, ?_⟩
        rw [lst_set_ne (by omega)]
        exact hnew
    · rw [List.length_append, List.length_singleton] at hj
      by_cases e : j < ws.length
      · rw [nf_append_left e, nf_append_left (by omega)]
        exact h4 i j hij e
      · have : j = ws.length := by omega
        subst this
        rw [nf_append_self, nf_append_left hij]
        exact (h3 i hij).2.1
  rintro ρ S1 ⟨r, ws, rfl, hr, g1, l1, hw, h3, h4⟩
  refine wp_cut (fun ρ S2 => ∃ (c2 c3 c4 : Option D), ρ = [some (.ref q), some (.ref r), c2, c3, c4] ∧ Grow none S S2 ∧ lstAt S2 r = some (ws.map D.ref) ∧ ∀ j, j < ps.length → ∃ is : List Nat, lstAt S2 (nf ws j) = some (is.map nD) ∧ is.length ≤ 1000000 ∧ ∀ i, i ∈ is ↔ i < j ∧ tied (pf ps i) (pf ps j)) ?_ ?_
  · refine wp_each2 iD ?_
    walk_at "ev"
    refine ⟨by first | trivial | rfl, (ties_of_ok (g1.lst hq fun z => nomatch z) (hI.grow g1) hs hl).imp fun d S2 ⟨ts, ed, g2, ht, htl⟩ => ?_⟩
    subst ed
    refine ⟨fun _ => True, ts, fun dn ρ S3 => ∃ (c2 c3 c4 : Option D), ρ = [some (.ref q), some (.ref r), c2, c3, c4] ∧ Grow none S S3 ∧ lstAt S3 r = some (ws.map D.ref) ∧ ∀ j, j < ps.length → ∃ is : List Nat, lstAt S3 (nf ws j) = some (is.map nD) ∧ is.length ≤ dn.length ∧ ∀ i, i ∈ is ↔ (i, j) ∈ dn, Walk.tup, fun _ _ _ _ => trivial, ?_, ?_, ⟨none, none, none, rfl, g1.trans g2, g2.lst l1 (fun z => nomatch z), fun j hj => ⟨[], g2.lst (h3 j (by omega)).2.2 (fun z => nomatch z), Nat.le_refl _, fun i => ⟨fun z => (nomatch z), fun z => (nomatch z)⟩⟩⟩⟩
    · rintro ρ S3 ⟨c2, c3, c4, rfl, g3, l3, h5⟩
      refine ⟨c2, c3, c4, rfl, g3, l3, fun j hj => ?_⟩
      obtain ⟨is, a, b, c⟩ := h5 j hj
      refine ⟨is, a, by omega, fun i => ?_⟩
      rw [c, ht]
      exact ⟨fun z => ⟨z.1, z.2.2⟩, fun z => ⟨z.1, hj, z.2⟩⟩
    rintro dn t td ρ S3 ed ⟨c2, c3, c4, rfl, g3, l3, h5⟩
    obtain ⟨i, j⟩ := t
    refine ⟨_, _, rfl, ?_⟩
    have hij := (ht i j).mp (by rw [ed]; simp)
    have hdn : dn.length < ts.length := by rw [ed]; simp
    obtain ⟨is, a, b, c⟩ := h5 j hij.2.1
    have jw : (ws.map D.ref)[j]? = some (.ref (nf ws j)) := by rw [List.getElem?_map, nf_at (by omega)]; rfl
    walk_at "ev"
    rw [ix_l l3 jw rfl]
    simp only [ok_ok]
    refine ⟨_, _, rfl, a, ?_⟩
    rw [app_l a (by rw [sizeLine_eq, List.length_map]; omega)]
    simp only [ok_ok]
    have hrj := (h3 j (by omega)).1
    refine ⟨_, _, _, rfl, g3.set (.inl (by omega)), by rw [lst_set_ne (by omega)]; exact l3, fun j2 hj2 => ?_⟩
    by_cases e : j2 = j
    · subst e
      refine ⟨is ++ [i], by rw [lst_set (lst_lt a), List.map_append]; rfl, by rw [List.length_append, List.length_append]; simp only [List.length_singleton]; omega, fun i2 => ?_⟩
      rw [List.mem_append, List.mem_append, c, List.mem_singleton, List.mem_singleton]
      exact ⟨fun z => z.imp id fun e => by rw [e], fun z => z.imp id fun e => by injection e⟩
    · obtain ⟨is2, a2, b2, c2'⟩ := h5 j2 hj2
      have hne : nf ws j ≠ nf ws j2 := by
        rcases Nat.lt_trichotomy j j2 with z | z | z
        · have := h4 j j2 z (by omega); omega
        · omega
        · have := h4 j2 j z (by omega); omega
      refine ⟨is2, by rw [lst_set_ne hne]; exact a2, by rw [List.length_append]; omega, fun i2 => ?_⟩
      rw [c2', List.mem_append, List.mem_singleton]
      exact ⟨.inl, fun z => z.elim id fun z => by injection z with _ z; exact absurd z e⟩
  rintro ρ S2 ⟨c2, c3, c4, rfl, g2, l2, h5⟩
  walk_at "ev"
  exact ⟨r, ws, rfl, g2, l2, hw, hr, fun j hj => by have := (h3 j (by omega)).1; omega, h5⟩
end Lw
end
section
set_option linter.all false
set_option maxRecDepth 100000
set_option maxHeartbeats 2000000
/-! V19: rounds_of. -/
open SX in
local macro_rules | `(tactic| walk_at "ev") => `(tactic| simp only [startE, List.map_cons, List.map_nil, List.length_cons, List.length_nil, List.cons_append, List.nil_append, Nat.reduceAdd, Nat.reduceSub, List.replicate_succ, List.replicate_zero, wp_seq, wp_skip, wp_break, wp_cont, wp_ret, wp_retN, wp_expr, wp_asgN, wp_asg2, wp_fldS, ok_fldD, wp_asgS, wp_if, wp_par, wp_par3, wp_never, ok_v, ok_c, ok_op2, ok_op1, ok_bool, ok_tru, ok_and, ok_or, ok_not, ok_andV, ok_orV, ok_notV, ok_if, ok_nil, ok_cons, ok_tup, ok_lst, ok_call, ok_callF, ok_meth, ok_dm, ok_dnew, ok_sl, ok_partN, ok_partS, ok_seqI, List.getElem?_cons_zero, List.getElem?_cons_succ, List.set_cons_zero, List.set_cons_succ])
namespace SX
open PySem L2 Tie
theorem max_ints : ∀ (l : List Int) (a : Int), ∃ m, maxDD (.int a) (l.map D.int) = .int m ∧ m ∈ a :: l ∧ ∀ x ∈ a :: l, x ≤ m
  | [], a => ⟨a, rfl, by simp, fun x hx => by simp at hx; omega⟩
  | y :: l, a => by
    have e : maxDD (.int a) ((y :: l).map D.int) = maxDD (.int (if a < y then y else a)) (l.map D.int) := by
      show maxDD (if PySem.W.dataLt (.int a) (.int y) = true then D.int y else .int a) (l.map D.int) = _
      rw [PySem.W.dataLt_int]
      by_cases h : a < y
      · rw [if_pos (decide_eq_true h), if_pos h]
      · rw [if_neg (by simpa using h), if_neg h]
    obtain ⟨m, h1, h2, h3⟩ := max_ints l (if a < y then y else a)
    refine ⟨m, by rw [e, h1], ?_, fun x hx => ?_⟩
    · rcases List.mem_cons.mp h2 with z | z
      · rw [z]; split <;> simp
      · simp [z]
    · have h4 := h3 _ List.mem_cons_self
      rcases List.mem_cons.mp hx with z | z
      · subst z
        split at h4 <;> omega
      · rcases List.mem_cons.mp z with z | z
        · subst z
          split at h4 <;> omega
        · exact h3 x (List.mem_cons_of_mem _ z)
theorem mmOk_ints {l : List Int} : mmOk (l.map D.int) = true := by
  unfold mmOk
  rw [Bool.and_eq_true]
  simp only [List.all_map, List.all_eq_true, Function.comp_apply]
  exact ⟨fun a _ => by simp [pyT, encT, PyData.depth], fun a _ b _ => rfl⟩
theorem ok_maxDf {f g : SE} {ρ : Env} {S : Sto} {P : D → Sto → Prop} (h : Ok (f ρ S) fun x S1 => Ok (g ρ S1) fun z S2 => ∃ n l, x = .ref n ∧ lstAt S2 n = some (l.map D.int) ∧ (l = [] → P z S2) ∧ ∀ m, m ∈ l → (∀ x ∈ l, x ≤ m) → P (.int m) S2) : Ok (sMaxDf f g ρ S) P := by
  unfold sMaxDf
  rw [ok_bind]
  refine h.imp fun x S1 h => ?_
  rw [ok_bind]
  refine h.imp fun z S2 ⟨n, l, e, h1, h2, h3⟩ => ?_
  subst e
  simp only
  rw [h1]
  cases l with
  | nil => exact h2 rfl
  | cons a l =>
    rw [List.map_cons]
    simp only
    rw [if_pos (show mmOk (D.int a :: l.map D.int) = true from mmOk_ints (l := a :: l))]
    obtain ⟨m, e1, e2, e3⟩ := max_ints l a
    rw [e1]
    exact h3 m e2 e3
end SX
namespace Tie
/-- the number of j is one more than the greatest of those it waits for -/
def NuOk (ps : List Paper) (nu : List Nat) (j : Nat) : Prop := (∀ i, i < j → tied (pf ps i) (pf ps j) → SX.nf nu i + 1 ≤ SX.nf nu j) ∧ (SX.nf nu j = 0 ∨ ∃ i, i < j ∧ tied (pf ps i) (pf ps j) ∧ SX.nf nu i + 1 = SX.nf nu j)
def roundC (nu : List Nat) (k m : Nat) : List Nat := (List.range k).filter fun j => decide (SX.nf nu j = m)
end Tie
namespace Lw
open PySem L2 SX Tie
variable {ga : PySem.Str → Nat} {S : Sto}
structure RI (ps : List Paper) (nu : List Nat) (k K : Nat) : Prop where
  len : nu.length = k
  ok : ∀ j, j < k → NuOk ps nu j
  lt : ∀ j, j < k → nf nu j < K
  hit : ∀ m, m < K → ∃ j, j < k ∧ nf nu j = m
theorem RI.snoc {ps : List Paper} {nu : List Nat} {k K v : Nat} (h : RI ps nu k K) (h1 : ∀ i, i < k → tied (pf ps i) (pf ps k) → nf nu i + 1 ≤ v) (h2 : v = 0 ∨ ∃ i, i < k ∧ tied (pf ps i) (pf ps k) ∧ nf nu i + 1 = v) {K' : Nat} (hK : K' = if v = K then K + 1 else K) : RI ps (nu ++ [v]) (k + 1) K' := by
  have old : ∀ j, j < k → nf (nu ++ [v]) j = nf nu j := fun j hj => nf_append_left (by rw [h.len]; exact hj)
  have new : nf (nu ++ [v]) k = v := by rw [← h.len]; exact nf_append_self
  have hv : v ≤ K := by
    rcases h2 with z | ⟨i, a, _, c⟩
    · omega
    · have := h.lt i a; omega
  refine ⟨by rw [List.length_append, h.len]; rfl, fun j hj => ?_, fun j hj => ?_, fun m hm => ?_⟩
  · by_cases e : j = k
    · subst e
      unfold NuOk
      rw [new]
      refine ⟨fun i hi ht => by rw [old i hi]; exact h1 i hi ht, h2.imp id fun ⟨i, a, b, c⟩ => ⟨i, a, b, by rw [old i a]; exact c⟩⟩
    · have hj2 : j < k := by omega
      obtain ⟨a, b⟩ := h.ok j hj2
      unfold NuOk
      rw [old j hj2]
      exact ⟨fun i hi ht => by rw [old i (by omega)]; exact a i hi ht, b.imp id fun ⟨i, a, b, c⟩ => ⟨i, a, b, by rw [old i (by omega)]; exact c⟩⟩
  · by_cases e : j = k
    · subst e
      rw [new, hK]
      split <;> omega
    · rw [old j (by omega), hK]
      have := h.lt j (by omega)
      split <;> omega
  · by_cases e : m = v
    · exact ⟨k, by omega, by rw [new, e]⟩
    · have : m < K := by rw [hK] at hm; split at hm <;> omega
      obtain ⟨j, a, b⟩ := h.hit m this
      exact ⟨j, by omega, by rw [old j a]; exact b⟩
theorem roundC_snoc {nu : List Nat} {k v m : Nat} (h : nu.length = k) : roundC (nu ++ [v]) (k + 1) m = if v = m then roundC nu k m ++ [k] else roundC nu k m := by
  unfold roundC
  rw [List.range_succ, List.filter_append]
  have e1 : (List.range k).filter (fun j => decide (nf (nu ++ [v]) j = m)) = (List.range k).filter fun j => decide (nf nu j = m) := List.filter_congr fun j hj => by
    rw [List.mem_range] at hj
    rw [nf_append_left (by omega)]
  have e2 : nf (nu ++ [v]) k = v := by rw [← h]; exact nf_append_self
  rw [e1]
  by_cases e : v = m
  · subst e
    rw [if_pos rfl]; simp [e2]
  · rw [if_neg e]; simp [e2, e]
theorem roundC_len {nu : List Nat} {k m : Nat} : (roundC nu k m).length ≤ k := by
  unfold roundC
  have := List.length_filter_le (fun j => decide (nf nu j = m)) (List.range k)
  rwa [List.length_range] at this
/-- what rounds_of tells -/
def roundsD (nu : List Nat) (n K : Nat) : D := .tup ((List.range K).map fun m => .tup ((roundC nu n m).map nD))
theorem rounds_ok {ps : List Paper} {q : Nat} {ns : List Nat} (hq : lstAt S q = some (ns.map D.ref)) (hI : InsAll S (ga "Step") ns ps) (hs : ∀ p ∈ ps, Small p) (hl : ps.length < 1000) : Ok (F_rounds_of ga [.ref q] S) fun d S' => ∃ (nu : List Nat) (K : Nat), d = roundsD nu ps.length K ∧ Grow none S S' ∧ RI ps nu ps.length K := by
  unfold F_rounds_of
  refine ok_runB ?_
  unfold b_rounds_of
  refine wp_cut (fun ρ S1 => ∃ (r1 r2 : Nat), ρ = [some (.ref q), some (.ref r1), some (.ref r2), none, none, none, none] ∧ Grow none S S1 ∧ S.length ≤ r1 ∧ r1 < r2 ∧ r2 < S1.length ∧ lstAt S1 r1 = some [] ∧ lstAt S1 r2 = some []) ?_ ?_
  · walk_at "ev"
    have e : (S ++ [SO.lst []]).length = S.length + 1 := by simp
    exact ⟨Nat.zero_le _, Nat.zero_le _, size1 (by decide), _, _, rfl, _, _, rfl, (Grow.app _).trans (Grow.app _), Nat.le_refl _, by omega, by simp, (Grow.app _ : Grow none (S ++ [SO.lst []]) _).lst lst_new (fun z => nomatch z), lst_new⟩
  rintro ρ S1 ⟨r1, r2, rfl, g1, hr1, hr12, hr2, l1, l2⟩
  refine wp_cut (fun ρ S2 => ∃ (c3 c4 c5 c6 : Option D) (nu rr : List Nat), ρ = [some (.ref q), some (.ref r1), some (.ref r2), c3, c4, c5, c6] ∧ Grow none S S2 ∧ lstAt S2 r2 = some (rr.map D.ref) ∧ RI ps nu ps.length rr.length ∧ ∀ m, m < rr.length → lstAt S2 (nf rr m) = some ((roundC nu ps.length m).map nD)) ?_ ?_
  · refine wp_enm ?_
    simp only [ok_cons, ok_callF, ok_v, ok_nil, List.getElem?_cons_zero, List.length_cons, List.length_nil, Nat.reduceAdd]
    refine ⟨by first | trivial | rfl, (waits_ok (g1.lst hq fun z => nomatch z) (hI.grow g1) hs hl).imp fun d S2 ⟨w, ws, ed, g2, w2, hw, hw1, hw2, hw3⟩ => ?_⟩
    subst ed
    refine ⟨w, ws, fun k ρ S3 => ∃ (c3 c4 c5 c6 : Option D) (nu rr : List Nat), ρ = [some (.ref q), some (.ref r1), some (.ref r2), c3, c4, c5, c6] ∧ Grow none S S3 ∧ S2.length ≤ S3.length ∧ (∀ t, S1.length ≤ t → t < S2.length → S3[t]? = S2[t]?) ∧ lstAt S3 r1 = some (nu.map nD) ∧ lstAt S3 r2 = some (rr.map D.ref) ∧ RI ps nu k rr.length ∧ (∀ m, m < rr.length → S2.length ≤ nf rr m ∧ nf rr m < S3.length ∧ lstAt S3 (nf rr m) = some ((roundC nu k m).map nD)) ∧ (∀ i j, i < j → j < rr.length → nf rr i < nf rr j) ∧ rr.length ≤ k, rfl, w2, fun k ρ S3 ⟨_, _, _, _, _, _, _, _, _, hk, _⟩ => ?_, ?_, ?_, ⟨none, none, none, none, [], [], rfl, g1.trans g2, Nat.le_refl _, fun _ _ _ => rfl, g2.lst l1 (fun z => nomatch z), g2.lst l2 (fun z => nomatch z), ⟨rfl, fun j h => absurd h (Nat.not_lt_zero _), fun j h => absurd h (Nat.not_lt_zero _), fun j h => absurd h (Nat.not_lt_zero _)⟩, fun j h => absurd h (Nat.not_lt_zero _), fun i j _ h => absurd h (Nat.not_lt_zero _), Nat.le_refl _⟩⟩
    · have := hk w hw1 (lst_lt w2)
      unfold lstAt at w2 ⊢
      rw [this]; exact w2
    · rintro ρ S3 ⟨c3, c4, c5, c6, nu, rr, rfl, g3, hlen, hk, a1, a2, ri, hr, _, _⟩
      rw [hw] at ri hr
      exact ⟨c3, c4, c5, c6, nu, rr, rfl, g3, a2, ri, fun m hm => (hr m hm).2.2⟩
    rintro k ρ S3 hk0 ⟨c3, c4, c5, c6, nu, rr, rfl, g3, hlen, hk, a1, a2, ri, hr, hinc, hrk⟩
    refine ⟨_, _, rfl, ?_⟩
    rw [hw] at hk0
    simp only [List.set_cons_succ, List.set_cons_zero]
    obtain ⟨is, i1, i2, i3⟩ := hw3 k hk0
    have iw : lstAt S3 (nf ws k) = some (is.map nD) := by
      have := hk (nf ws k) (hw2 k hk0) (lst_lt i1)
      unfold lstAt at i1 ⊢
      rw [this]; exact i1
    have wlt := lst_lt i1
    generalize hv : (k : Int) = v
    refine wp_cut (fun ρ S4 => ∃ (c6 : Option D) (x : Nat), ρ = [some (.ref q), some (.ref r1), some (.ref r2), some (.int v), some (.ref (nf ws k)), some (nD x), c6] ∧ Grow none S3 S4 ∧ (∀ i, i < k → tied (pf ps i) (pf ps k) → nf nu i + 1 ≤ x) ∧ (x = 0 ∨ ∃ i, i < k ∧ tied (pf ps i) (pf ps k) ∧ nf nu i + 1 = x)) ?_ ?_
    · rw [wp_asgN]
      refine ok_maxDf ?_
      rw [ok_lc]
      walk_at "ev"
      rw [itm_l iw]
      simp only
      refine ok_lcGo (S0 := S3) (enc := nD) (up := fun a => [some (.ref q), some (.ref r1), some (.ref r2), some (.int v), some (.ref (nf ws k)), c5, some (nD a)]) (fun _ => true) (fun i => D.int ((nf nu i : Int) + 1)) rfl is (fun _ _ _ => rfl) (fun S4 g4 => decide_eq_true (g4.lst iw fun z => nomatch z)) (by rw [sizeLine_eq]; omega) ?_ ?_ ?_
      · intro a S4 _ _
        exact ⟨rfl, Grow.refl⟩
      · intro a S4 ha _ g4
        have hak := (i3 a).mp ha
        have ea : (nu.map nD)[a]? = some (nD (nf nu a)) := by rw [List.getElem?_map, nf_at (by rw [ri.len]; exact hak.1)]; rfl
        walk_at "ev"
        unfold nD at ea ⊢
        rw [ix_l (g4.lst a1 fun z => nomatch z) ea rfl]
        simp only [ok_ok, add_ii]
        exact ⟨by first | trivial | rfl, Grow.refl⟩
      · intro S4 g4 l4
        rw [List.filter_eq_self.mpr fun _ _ => rfl] at l4
        refine ⟨S3.length, is.map fun i => (nf nu i : Int) + 1, rfl, by rw [l4, List.map_map]; rfl, fun e => ?_, fun m hm hmax => ?_⟩
        · have : is = [] := List.map_eq_nil_iff.mp e
          refine ⟨_, 0, rfl, g4, fun i hi ht => ?_, .inl rfl⟩
          have := (i3 i).mpr ⟨hi, ht⟩
          simp_all
        · obtain ⟨i, hi, ei⟩ := List.mem_map.mp hm
          have hik := (i3 i).mp hi
          refine ⟨c6, nf nu i + 1, ?_, g4, fun i' hi' ht => ?_, .inr ⟨i, hik.1, hik.2, rfl⟩⟩
          · rw [← ei]; rfl
          · have := hmax _ (List.mem_map.mpr ⟨i', (i3 i').mpr ⟨hi', ht⟩, rfl⟩)
            omega
    rintro ρ S4 ⟨c6, x, rfl, g4, hx1, hx2⟩
    have b1 := g4.lst a1 (fun z => nomatch z)
    have b2 := g4.lst a2 (fun z => nomatch z)
    have hx : x ≤ rr.length := by
      rcases hx2 with z | ⟨i, a, _, c⟩
      · omega
      · have := ri.lt i a; omega
    have hr2S : r2 < S2.length := Nat.lt_of_lt_of_le hr2 g2.len
    have S34 := g4.len
    have nul := ri.len
    refine wp_cut (fun ρ S5 => ρ = [some (.ref q), some (.ref r1), some (.ref r2), some (.int v), some (.ref (nf ws k)), some (nD x), c6] ∧ Grow none S S5 ∧ S4.length ≤ S5.length ∧ (∀ t, S1.length ≤ t → t < S2.length → S5[t]? = S2[t]?) ∧ lstAt S5 r1 = some ((nu ++ [x]).map nD) ∧ lstAt S5 r2 = some (rr.map D.ref) ∧ ∀ m, m < rr.length → S2.length ≤ nf rr m ∧ nf rr m < S5.length ∧ lstAt S5 (nf rr m) = some ((roundC nu k m).map nD)) ?_ ?_
    · walk_at "ev"
      refine ⟨r1, _, rfl, b1, ?_⟩
      rw [app_l b1 (by rw [sizeLine_eq, List.length_map]; omega)]
      refine ⟨by first | trivial | rfl, (g3.trans g4).set (.inl hr1), by rw [List.length_set]; exact Nat.le_refl _, fun t h1 h2 => ?_, by rw [lst_set (lst_lt b1), List.map_append]; rfl, by rw [lst_set_ne (by omega)]; exact b2, fun m hm => ?_⟩
      · rw [List.getElem?_set_ne (by omega), g4.at_ t (by omega) (fun z => nomatch z)]
        exact hk t h1 h2
      · obtain ⟨a, b, c⟩ := hr m hm
        refine ⟨a, by rw [List.length_set]; omega, ?_⟩
        rw [lst_set_ne (by omega)]
        exact g4.lst c (fun z => nomatch z)
    clear hk hr a1 a2 b1 b2 iw
    rintro ρ S5 ⟨rfl, g5, S45, hk, b1, b2, hr⟩
    refine wp_cut (fun ρ S6 => ∃ rr2 : List Nat, ρ = [some (.ref q), some (.ref r1), some (.ref r2), some (.int v), some (.ref (nf ws k)), some (nD x), c6] ∧ Grow none S S6 ∧ S2.length ≤ S6.length ∧ (∀ t, S1.length ≤ t → t < S2.length → S6[t]? = S2[t]?) ∧ lstAt S6 r1 = some ((nu ++ [x]).map nD) ∧ lstAt S6 r2 = some (rr2.map D.ref) ∧ (∀ m, m < rr2.length → S2.length ≤ nf rr2 m ∧ nf rr2 m < S6.length ∧ lstAt S6 (nf rr2 m) = some ((roundC nu k m).map nD)) ∧ (∀ i j, i < j → j < rr2.length → nf rr2 i < nf rr2 j) ∧ rr2.length = (if x = rr.length then rr.length + 1 else rr.length) ∧ x < rr2.length) ?_ ?_
    · walk_at "ev"
      rw [len_l b2]
      simp only [ok_ok, List.length_map]
      unfold nD
      rw [eq_ii]
      simp only [ok_ok]
      by_cases e : x = rr.length
      · rw [if_pos (decide_eq_true (by omega))]
        refine ⟨r2, _, rfl, b2, Nat.zero_le _, ?_⟩
        have gx : Grow none S5 (S5 ++ [SO.lst []]) := Grow.app _
        have b2' := gx.lst b2 (fun z => nomatch z)
        have hl6 : (S5 ++ [SO.lst []]).length = S5.length + 1 := by simp
        have r1S := lst_lt b1
        have r2S := lst_lt b2
        rw [app_l b2' (by rw [sizeLine_eq, List.length_map]; omega)]
        refine ⟨rr ++ [S5.length], by first | trivial | rfl, (g5.trans gx).set (.inl (by omega)), by rw [List.length_set, hl6]; omega, fun t h1 h2 => ?_, by rw [lst_set_ne (by omega)]; exact gx.lst b1 (fun z => nomatch z), by rw [lst_set (lst_lt b2'), List.map_append]; rfl, fun m hm => ?_, fun i j hij hj => ?_, by rw [if_pos e, List.length_append]; rfl, by rw [List.length_append, List.length_singleton]; omega⟩
        · rw [List.getElem?_set_ne (by omega), gx.at_ t (by omega) (fun z => nomatch z)]
          exact hk t h1 h2
        · rw [List.length_append, List.length_singleton] at hm
          rw [List.length_set, hl6]
          by_cases e2 : m < rr.length
          · obtain ⟨a, b, c⟩ := hr m e2
            rw [nf_append_left e2]
            refine ⟨a, by omega, ?_⟩
            rw [lst_set_ne (by omega)]
            exact gx.lst c (fun z => nomatch z)
          · have : m = rr.length := by omega
            subst this
            rw [nf_append_self]
            refine ⟨by omega, by omega, ?_⟩
            rw [lst_set_ne (by omega), lst_new]
            have : roundC nu k rr.length = [] := by
              unfold roundC
              rw [List.filter_eq_nil_iff]
              intro j hj
              rw [List.mem_range] at hj
              have := ri.lt j hj
              simp
              omega
            rw [this]
            rfl
        · rw [List.length_append, List.length_singleton] at hj
          by_cases e2 : j < rr.length
          · rw [nf_append_left e2, nf_append_left (by omega)]
            exact hinc i j hij e2
          · have : j = rr.length := by omega
            subst this
            rw [nf_append_self, nf_append_left hij]
            exact (hr i hij).2.1
      · rw [if_neg (by simp; omega)]
        exact ⟨rr, by first | trivial | rfl, g5, by omega, hk, b1, b2, hr, hinc, by rw [if_neg e], by omega⟩
    clear hk hr b1 b2
    rintro ρ S6 ⟨rr2, rfl, g6, S26, hk, b1, b2, hr, hinc2, hlen2, hx3⟩
    have jx : (rr2.map D.ref)[x]? = some (.ref (nf rr2 x)) := by rw [List.getElem?_map, nf_at hx3]; rfl
    obtain ⟨a, b, c⟩ := hr x hx3
    walk_at "ev"
    rw [show nD x = D.int (x : Int) from rfl, ix_l b2 jx rfl]
    simp only [ok_ok]
    refine ⟨_, _, rfl, c, ?_⟩
    have rcl := roundC_len (nu := nu) (k := k) (m := x)
    rw [app_l c (by rw [sizeLine_eq, List.length_map]; omega)]
    refine ⟨_, _, _, _, nu ++ [x], rr2, rfl, g6.set (.inl (by have := g1.len; have := g2.len; omega)), by rw [List.length_set]; exact S26, fun t h1 h2 => by rw [List.getElem?_set_ne (by omega)]; exact hk t h1 h2, by rw [lst_set_ne (by omega)]; exact b1, by rw [lst_set_ne (by omega)]; exact b2, ri.snoc hx1 hx2 hlen2, fun m hm => ?_, hinc2, by rw [hlen2]; split <;> omega⟩
    obtain ⟨a', b', c'⟩ := hr m hm
    rw [List.length_set, roundC_snoc nul]
    refine ⟨a', b', ?_⟩
    by_cases e : x = m
    · subst e
      rw [if_pos rfl, lst_set b, List.map_append, ← hv]
      rfl
    · rw [if_neg e, lst_set_ne]
      · exact c'
      · rcases Nat.lt_trichotomy x m with z | z | z
        · have := hinc2 x m z hm; omega
        · exact absurd z e
        · have := hinc2 m x z hx3; omega
  rintro ρ S2 ⟨c3, c4, c5, c6, nu, rr, rfl, g2, l2, ri, hr⟩
  rw [wp_ret, ok_call, ok_cons, ok_lc]
  walk_at "ev"
  rw [itm_l l2]
  simp only
  have er : rr.map D.ref = (List.range rr.length).map fun m => D.ref (nf rr m) := by
    refine List.ext_getElem? fun i => ?_
    rw [List.getElem?_map, List.getElem?_map]
    by_cases h : i < rr.length
    · rw [List.getElem?_range h, nf_at h]; rfl
    · rw [List.getElem?_eq_none (by omega), List.getElem?_eq_none (by rw [List.length_range]; omega)]; rfl
  have hK : rr.length ≤ ps.length := by
    have h1 := ri.hit
    have := nodup_len (l := List.range rr.length) (m := (List.range ps.length).map fun j => nf nu j) List.nodup_range fun m hm => by
      rw [List.mem_range] at hm
      obtain ⟨j, a, b⟩ := h1 m hm
      exact List.mem_map.mpr ⟨j, List.mem_range.mpr a, b⟩
    rwa [List.length_range, List.length_map, List.length_range] at this
  simp only [er]
  have l2' := l2
  rw [er] at l2'
  refine ok_lcGo (S0 := S2) (enc := fun m => D.ref (nf rr m)) (up := fun m => [some (.ref q), some (.ref r1), some (.ref r2), c3, c4, c5, some (.ref (nf rr m))]) (fun _ => true) (fun m => .tup ((roundC nu ps.length m).map nD)) rfl (List.range rr.length) (fun _ _ _ => rfl) (fun S4 g4 => decide_eq_true (g4.lst l2' fun z => nomatch z)) (by rw [sizeLine_eq, List.length_range]; omega) ?_ ?_ ?_
  · intro a S4 _ _
    exact ⟨rfl, Grow.refl⟩
  · intro m S4 hm _ g4
    rw [List.mem_range] at hm
    walk_at "ev"
    rw [tup_l (g4.lst (hr m hm) fun z => nomatch z)]
    exact ⟨rfl, Grow.refl⟩
  · intro S4 g4 l4
    rw [List.filter_eq_self.mpr fun _ _ => rfl] at l4
    rw [tup_l l4]
    exact ⟨nu, rr.length, rfl, g2.trans g4, ri⟩
end Lw
end
section
set_option linter.all false
set_option maxRecDepth 100000
set_option maxHeartbeats 2000000
/-! V20: first_broken. -/
open SX in
local macro_rules | `(tactic| walk_at "ev") => `(tactic| simp only [startE, List.map_cons, List.map_nil, List.length_cons, List.length_nil, List.cons_append, List.nil_append, Nat.reduceAdd, Nat.reduceSub, List.replicate_succ, List.replicate_zero, wp_seq, wp_skip, wp_break, wp_cont, wp_ret, wp_retN, wp_expr, wp_asgN, wp_asg2, wp_fldS, ok_fldD, wp_asgS, wp_if, wp_par, wp_par3, wp_never, ok_v, ok_c, ok_op2, ok_op1, ok_bool, ok_tru, ok_and, ok_or, ok_not, ok_andV, ok_orV, ok_notV, ok_if, ok_nil, ok_cons, ok_tup, ok_lst, ok_call, ok_callF, ok_meth, ok_dm, ok_dnew, ok_sl, ok_partN, ok_partS, ok_seqI, List.getElem?_cons_zero, List.getElem?_cons_succ, List.set_cons_zero, List.set_cons_succ])
namespace SX
open PySem L2 Tie
theorem kcls_int (i : Int) : kcls (.int i) = 1 := by
  simp [kcls, leafKey]
/-- a dict from numbers to numbers -/
def iKv (l : List (Nat × Nat)) : List (D × D) := l.map fun p => (nD p.1, nD p.2)
theorem cls_iKv {l : List (Nat × Nat)} {i : Nat} : clsOk (iKv l) (nD i) = true := by
  unfold clsOk nD
  rw [kcls_int, Bool.and_eq_true, List.all_eq_true]
  refine ⟨rfl, fun p hp => ?_⟩
  obtain ⟨q, _, rfl⟩ := List.mem_map.mp hp
  show decide (kcls (.int _) = 1) = true
  rw [kcls_int]
  rfl
theorem nD_inj {a b : Nat} (h : nD a = nD b) : a = b := by
  unfold nD at h
  injection h with h
  omega
theorem val_iKv {l : List (Nat × Nat)} {i : Nat} : valD (iKv l) (nD i) = ((l.find? fun p => decide (p.1 = i)).map (·.2)).map nD := by
  unfold valD iKv
  induction l with
  | nil => rfl
  | cons p l ih =>
    rw [List.map_cons, List.find?_cons, List.find?_cons]
    by_cases h : p.1 = i
    · rw [decide_eq_true h, decide_eq_true (by rw [h])]
      rfl
    · rw [decide_eq_false h, decide_eq_false fun z => h (nD_inj z)]
      exact ih
theorem put_iKv {l : List (Nat × Nat)} {i v : Nat} (h : ∀ p ∈ l, p.1 ≠ i) : putD (iKv l) (nD i) (nD v) = iKv (l ++ [(i, v)]) := by
  unfold putD
  rw [if_neg]
  · unfold iKv
    rw [List.map_append]
    rfl
  · intro z
    obtain ⟨p, hp, e⟩ := List.any_eq_true.mp z
    unfold iKv at hp
    obtain ⟨q, hq, rfl⟩ := List.mem_map.mp hp
    exact h q hq (nD_inj (of_decide_eq_true e))
theorem enm_nats {ol : List Nat} : enmList (ol.map nD) = (List.range ol.length).map fun (i : Nat) => D.tup [.int (i : Int), nD (nf ol i)] := by
  unfold enmList
  refine List.ext_getElem? fun i => ?_
  rw [List.getElem?_mapIdx, List.getElem?_map, List.getElem?_map]
  by_cases h : i < ol.length
  · rw [List.getElem?_range h, nf_at h]; rfl
  · rw [List.getElem?_eq_none (by omega), List.getElem?_eq_none (by rw [List.length_range]; omega)]; rfl
end SX
namespace Lw
open PySem L2 SX Tie
variable {ga : PySem.Str → Nat} {S : Sto}
theorem is_list_eq {n : Nat} {xs : List D} (h : lstAt S n = some xs) : F_is_list ga [.ref n] S = .ok (.bl true) S := by
  have e : gIsi [.ref n, .tup [.ty "list", .ty "tuple"]] S = .ok (.bl true) S := by
    unfold gIsi
    have : tyD S (.ref n) = some "list" := by
      unfold tyD
      simp only
      rw [lstAt_eq h]
    simp only [this]
    rfl
  have : Ok (F_is_list ga [.ref n] S) fun d S' => d = .bl true ∧ S' = S := by
    unfold F_is_list
    refine ok_runB ?_
    unfold b_is_list
    walk_at "ev"
    refine ⟨size1 (by decide), ?_⟩
    rw [e]
    exact ⟨rfl, rfl⟩
  obtain ⟨d, S', e1, e2, e3⟩ := this.ex
  rw [e1, e2, e3]
theorem nf_inj {ol : List Nat} {a b : Nat} (h : ol.Nodup) (ha : a < ol.length) (hb : b < ol.length) (e : nf ol a = nf ol b) : a = b := by
  unfold nf at e
  rw [List.getElem?_eq_getElem ha, List.getElem?_eq_getElem hb] at e
  have e' : ol[a] = ol[b] := e
  rcases Nat.lt_trichotomy a b with z | z | z
  · exact absurd e' (List.pairwise_iff_getElem.mp h a b ha hb z)
  · exact z
  · exact absurd e'.symm (List.pairwise_iff_getElem.mp h b a hb ha z)
theorem bols_all {α : Type} : ∀ (l : List α), bolsD (l.map fun _ => D.bl true) = some (l.map fun _ => true)
  | [] => rfl
  | a :: l => by
    rw [List.map_cons, List.map_cons]
    unfold bolsD
    rw [bols_all l]
    rfl
theorem all_true {α : Type} {n : Nat} {l : List α} (h : lstAt S n = some (l.map fun _ => D.bl true)) : gAll [.ref n] S = .ok (.bl true) S := by
  unfold gAll lstBols
  simp only
  rw [h]
  simp only [Option.bind_some, bols_all]
  congr 2
  rw [List.all_eq_true]
  intro b hb
  obtain ⟨_, _, rfl⟩ := List.mem_map.mp hb
  rfl
theorem ok_lrg1 {f : SE} {ρ : SX.Env} {P : D → Sto → Prop} (h : Ok (f ρ S) fun x S1 => ∃ n : Nat, x = .int n ∧ n < 1000000 ∧ P (.ref S1.length) (S1 ++ [.lst ((List.range n).map nD)])) : Ok (sLrg1 f ρ S) P := by
  unfold sLrg1
  rw [ok_bind]
  refine h.imp fun x S1 ⟨n, e, hn, hp⟩ => ?_
  subst e
  simp only
  rw [if_pos (by unfold okRg; exact decide_eq_true (by omega))]
  have : rgD 0 (n : Int) = (List.range n).map nD := by
    unfold rgD nD
    rw [Int.sub_zero, Int.toNat_natCast]
    simp only [Int.zero_add]
  rw [this]
  exact hp
theorem sorted_nats {ol : List Nat} {n k : Nat} (h : lstAt S n = some (ol.map nD)) (pm : ol.Perm (List.range k)) : gSortedA [.ref n] S = .ok (.ref S.length) (S ++ [.lst ((List.range k).map nD)]) := by
  have e1 : ∀ l : List Nat, l.map nD = (l.map fun (i : Nat) => (i : Int)).map D.int := fun l => by rw [List.map_map]; rfl
  rw [e1] at h
  rw [sorted_l sk_i h, e1]
  congr 5
  rw [srtI_perm (pm.map _), srtI_sorted]
  rw [List.pairwise_map]
  exact List.pairwise_lt_range.imp fun h => by omega
theorem pl_nats {l : List Nat} : ∀ x ∈ l.map nD, Pl 3 x := fun x hx => by
  obtain ⟨u, _, rfl⟩ := List.mem_map.mp hx
  exact .int _
theorem first_broken_ok {ps : List Paper} {q o : Nat} {ns ol : List Nat} (hq : lstAt S q = some (ns.map D.ref)) (hI : InsAll S (ga "Step") ns ps) (hs : ∀ p ∈ ps, Small p) (hl : ps.length < 1000) (ho : lstAt S o = some (ol.map nD)) (pm : ol.Perm (List.range ps.length))
    (keep : ∀ a b, a < ps.length → b < ps.length → nf ol a < nf ol b → tied (pf ps (nf ol a)) (pf ps (nf ol b)) → a < b) : Ok (F_first_broken ga [.ref q, .ref o] S) fun d S' => d = .non ∧ Grow none S S' := by
  unfold F_first_broken
  refine ok_runB ?_
  unfold b_first_broken
  have nl : ns.length = ps.length := hI.1
  have oll : ol.length = ps.length := by rw [pm.length_eq, List.length_range]
  have ond : ol.Nodup := pm.nodup_iff.mpr List.nodup_range
  refine wp_cut (fun ρ S1 => ρ = [some (.ref q), some (.ref o), none, none, none, none, none] ∧ Grow none S S1) ?_ ?_
  · walk_at "ev"
    refine ⟨by first | trivial | rfl, ?_⟩
    rw [is_list_eq ho]
    simp only [ok_ok, truD, Bool.not_true, Bool.false_eq_true, if_false]
    rw [ok_lc]
    walk_at "ev"
    rw [itm_l ho]
    simp only
    refine ok_lcGo (S0 := S) (enc := nD) (up := fun a => [some (.ref q), some (.ref o), none, none, none, some (nD a), none]) (fun _ => true) (fun _ => .bl true) rfl ol (fun _ _ _ => rfl) (fun S4 g4 => decide_eq_true (g4.lst ho fun z => nomatch z)) (by rw [sizeLine_eq]; omega) ?_ ?_ ?_
    · intro a S4 _ _
      exact ⟨rfl, Grow.refl⟩
    · intro a S4 _ _ g4
      walk_at "ev"
      refine ⟨by first | trivial | rfl, ?_⟩
      unfold nD
      rw [is_whole2_eq]
      exact ⟨rfl, Grow.refl⟩
    · intro S4 g4 l4
      rw [all_true l4]
      simp only [ok_ok, truD, Bool.not_true, Bool.false_eq_true, if_false]
      exact ⟨by first | trivial | rfl, g4⟩
  rintro ρ S1 ⟨rfl, g1⟩
  refine wp_cut (fun ρ S2 => ρ = [some (.ref q), some (.ref o), none, none, none, none, none] ∧ Grow none S S2) ?_ ?_
  · walk_at "ev"
    rw [sorted_nats (g1.lst ho fun z => nomatch z) pm]
    simp only [ok_ok]
    refine ok_lrg1 ?_
    walk_at "ev"
    have gx : Grow none S1 (S1 ++ [SO.lst ((List.range ps.length).map nD)]) := Grow.app _
    rw [len_l ((g1.trans gx).lst hq fun z => nomatch z)]
    simp only [ok_ok, List.length_map, nl]
    refine ⟨ps.length, rfl, by omega, ?_⟩
    rw [gNe_lst (n := 3) (m := 3) ((Grow.app _ : Grow none (S1 ++ [SO.lst ((List.range ps.length).map nD)]) _).lst lst_new fun z => nomatch z) lst_new pl_nats pl_nats (by omega) (by omega)]
    simp only [ok_ok, decide_true, Bool.not_true, Bool.false_eq_true, if_false]
    exact ⟨by first | trivial | rfl, (g1.trans gx).trans (Grow.app _)⟩
  rintro ρ S2 ⟨rfl, g2⟩
  refine wp_cut (fun ρ S3 => ∃ pd : Nat, ρ = [some (.ref q), some (.ref o), some (.ref pd), none, none, none, none] ∧ Grow none S S3 ∧ dctW S3 pd = some (iKv ((List.range ps.length).map fun k => (nf ol k, k)))) ?_ ?_
  · rw [wp_asgN, ok_dc, ok_enm]
    walk_at "ev"
    have o2 := g2.lst ho (fun z => nomatch z)
    refine ⟨o, _, rfl, o2, ?_⟩
    simp only [enm_nats]
    refine ok_cmEach (enc := fun (k : Nat) => D.tup [.int (k : Int), nD (nf ol k)]) (up := fun k => [some (.ref q), some (.ref o), none, none, none, some (nD (nf ol k)), some (nD k)]) (fun dn S3 => Grow none S2 S3 ∧ dctW S3 S2.length = some (iKv (dn.map fun k => (nf ol k, k)))) (List.range ol.length) [] _ (fun _ _ => rfl) (fun dn S3 h => ?_) ?_ ?_ ⟨Grow.app _, dct_new⟩
    · have h2 := h.1.lst o2 (fun z => nomatch z)
      exact decide_eq_true h2
    · rintro S3 ⟨g3, d3⟩
      rw [List.nil_append, oll] at d3
      exact ⟨S2.length, rfl, g2.trans g3, d3⟩
    rintro dn k td S3 ed ⟨g3, d3⟩
    rw [List.nil_append] at ed
    refine ⟨rfl, ?_⟩
    rw [ok_stepD]
    walk_at "ev"
    have hlen := congrArg List.length ed
    rw [List.length_range, List.length_append, List.length_cons] at hlen
    have ndr : (dn ++ k :: td).Nodup := by rw [← ed]; exact List.nodup_range
    have mem : ∀ m, m ∈ dn ++ k :: td → m < ol.length := fun m hm => by rw [← ed, List.mem_range] at hm; exact hm
    refine ⟨_, d3, cls_iKv, by rw [sizeLine_eq]; unfold iKv; rw [List.length_map, List.length_map]; omega, g3.set (.inl (Nat.le_refl _)), ?_⟩
    rw [dct_set (dct_lt d3), put_iKv, List.map_append]
    · rfl
    · intro p hp e
      obtain ⟨m, hm, rfl⟩ := List.mem_map.mp hp
      have : m = k := nf_inj ond (mem m (by simp [hm])) (mem k (by simp)) e
      subst this
      exact (List.nodup_append.mp ndr).2.2 m hm m List.mem_cons_self rfl
  rintro ρ S3 ⟨pd, rfl, g3, d3⟩
  have place : ∀ i, i < ps.length → ∃ m, m < ps.length ∧ nf ol m = i ∧ ∀ S4, dctW S4 pd = some (iKv ((List.range ps.length).map fun k => (nf ol k, k))) → gIxA (.ref pd) (nD i) S4 = .ok (nD m) S4 := fun i hi => by
    have h1 : i ∈ ol := pm.mem_iff.mpr (List.mem_range.mpr hi)
    obtain ⟨m0, hm0⟩ := List.getElem?_of_mem h1
    have hlt := (List.getElem?_eq_some_iff.mp hm0).1
    cases e : ((List.range ps.length).map fun k => (nf ol k, k)).find? fun p => decide (p.1 = i) with
    | none =>
      rw [List.find?_eq_none] at e
      refine absurd (decide_eq_true ?_) (e (nf ol m0, m0) (List.mem_map.mpr ⟨m0, List.mem_range.mpr (by omega), rfl⟩))
      unfold nf
      rw [hm0]
      rfl
    | some p =>
      obtain ⟨m, hm, rfl⟩ := List.mem_map.mp (List.mem_of_find?_eq_some e)
      have := List.find?_some e
      refine ⟨m, List.mem_range.mp hm, of_decide_eq_true this, fun S4 d4 => ix_of d4 cls_iKv ?_⟩
      rw [val_iKv, e]
      rfl
  refine wp_cut (fun ρ S4 => ∃ (c3 c4 : Option D), ρ = [some (.ref q), some (.ref o), some (.ref pd), c3, c4, none, none] ∧ Grow none S S4) ?_ ?_
  · refine wp_each2 iD ?_
    simp only [ok_cons, ok_callF, ok_v, ok_nil, List.getElem?_cons_zero, List.length_cons, List.length_nil, Nat.reduceAdd]
    refine ⟨by first | trivial | rfl, (ties_of_ok (g3.lst hq fun z => nomatch z) (hI.grow g3) hs hl).imp fun d S4 ⟨ts, ed, g4, ht, htl⟩ => ?_⟩
    subst ed
    refine ⟨fun _ => True, ts, fun dn ρ S5 => ∃ (c3 c4 : Option D), ρ = [some (.ref q), some (.ref o), some (.ref pd), c3, c4, none, none] ∧ S4 = S5, Walk.tup, fun _ _ _ _ => trivial, ?_, ?_, ⟨none, none, rfl, rfl⟩⟩
    · rintro ρ S5 ⟨c3, c4, rfl, rfl⟩
      exact ⟨c3, c4, rfl, g3.trans g4⟩
    rintro dn t td ρ S5 ed ⟨c3, c4, rfl, rfl⟩
    obtain ⟨i, j⟩ := t
    refine ⟨_, _, rfl, ?_⟩
    have hij := (ht i j).mp (by rw [ed]; simp)
    obtain ⟨mi, a1, a2, a3⟩ := place i (by omega)
    obtain ⟨mj, b1, b2, b3⟩ := place j hij.2.1
    have d4 := g4.dct d3 (fun z => nomatch z)
    have hk := keep mi mj a1 b1 (by omega) (by rw [a2, b2]; exact hij.2.2)
    walk_at "ev"
    have a3' := a3 _ d4
    have b3' := b3 _ d4
    unfold nD at a3' b3'
    rw [b3']
    simp only [ok_ok]
    rw [a3']
    simp only [ok_ok, lt_ii]
    rw [if_neg (by simp; omega)]
    exact ⟨_, _, rfl, by first | trivial | rfl⟩
  rintro ρ S4 ⟨c3, c4, rfl, g4⟩
  walk_at "ev"
  exact ⟨by first | trivial | rfl, g4⟩
end Lw
end
section
set_option linter.all false
set_option maxRecDepth 100000
set_option maxHeartbeats 2000000
/-! V21: shuffled, first_wrong. -/
open SX in
local macro_rules | `(tactic| walk_at "ev") => `(tactic| simp only [startE, List.map_cons, List.map_nil, List.length_cons, List.length_nil, List.cons_append, List.nil_append, Nat.reduceAdd, Nat.reduceSub, List.replicate_succ, List.replicate_zero, wp_seq, wp_skip, wp_break, wp_cont, wp_ret, wp_retN, wp_expr, wp_asgN, wp_asg2, wp_fldS, ok_fldD, wp_asgS, wp_if, wp_par, wp_par3, wp_never, ok_v, ok_c, ok_op2, ok_op1, ok_bool, ok_tru, ok_and, ok_or, ok_not, ok_andV, ok_orV, ok_notV, ok_if, ok_nil, ok_cons, ok_tup, ok_lst, ok_call, ok_callF, ok_meth, ok_dm, ok_dnew, ok_sl, ok_partN, ok_partS, ok_seqI, List.getElem?_cons_zero, List.getElem?_cons_succ, List.set_cons_zero, List.set_cons_succ])
namespace SX
open PySem L2 Tie
theorem cut_to {xs : List D} {j : Nat} (h : j ≤ xs.length) : cutD xs none (some (j : Int)) = xs.take j := by
  unfold cutD
  rw [HT.sIx_none, HT.sIx_nat, Nat.min_eq_left h, List.drop_zero, Nat.sub_zero]
theorem cut_from {xs : List D} {j : Nat} (h : j ≤ xs.length) : cutD xs (some (j : Int)) none = xs.drop j := by
  unfold cutD
  rw [HT.sIx_none, HT.sIx_nat, Nat.min_eq_left h, List.take_of_length_le]
  rw [List.length_drop]
  exact Nat.le_refl _
theorem sl_l {S : Sto} {n : Nat} {xs : List D} {lo hi : Option Int} (h : lstAt S n = some xs) : gSl (.ref n) lo hi S = .ok (.ref S.length) (S ++ [.lst (cutD xs lo hi)]) := by
  unfold gSl
  simp only
  rw [h]
end SX
namespace Lw
open PySem L2 SX Tie
variable {ga : PySem.Str → Nat} {S : Sto} {p c : Nat}
theorem shuffled_ok {m : Nat} {l : List Nat} (pen : Pen S p c) (hm : lstAt S m = some (l.map nD)) (hl : l.length < 1000) (hc : c + l.length < 1000000) : Ok (F__law_shuffled ga [.ref p, .ref m] S) fun d S' => ∃ (q : Nat) (l' : List Nat), d = .ref q ∧ lstAt S' q = some (l'.map nD) ∧ l'.Perm l ∧ Grow (some p) S S' ∧ Pen S' p (c + l.length) := by
  unfold F__law_shuffled
  refine ok_runB ?_
  unfold b__law_shuffled
  have hp := pen.lt
  have hp1 := pen.lt1
  obtain ⟨_, _, _, _, _, _, hpd, _⟩ := pen.ex
  have mp : m ≠ p := lst_ne_dct hm hpd
  refine wp_cut (fun ρ S1 => ∃ (a f : Nat), ρ = [some (.ref p), some (.ref m), some (.ref a), some (.ref f), none, none] ∧ Grow none S S1 ∧ S.length ≤ a ∧ a ≠ f ∧ S.length ≤ f ∧ lstAt S1 a = some (l.map nD) ∧ lstAt S1 f = some (([] : List Nat).map nD)) ?_ ?_
  · walk_at "ev"
    rw [list_l hm]
    simp only [ok_ok]
    have gx : Grow none (S ++ [SO.lst (l.map nD)]) ((S ++ [SO.lst (l.map nD)]) ++ [SO.lst []]) := Grow.app _
    have e : (S ++ [SO.lst (l.map nD)]).length = S.length + 1 := by simp
    exact ⟨Nat.zero_le _, _, _, rfl, (Grow.app _).trans gx, Nat.le_refl _, by omega, by omega, gx.lst lst_new (fun z => nomatch z), lst_new⟩
  rintro ρ S1 ⟨a, f, rfl, g1, ha, haf, hf, l1, f1⟩
  refine wp_cut (fun ρ S2 => ∃ (c2 c4 c5 : Option D) (fo : List Nat), ρ = [some (.ref p), some (.ref m), c2, some (.ref f), c4, c5] ∧ Grow (some p) S S2 ∧ lstAt S2 f = some (fo.map nD) ∧ fo.Perm l ∧ Pen S2 p (c + l.length)) ?_ ?_
  · refine wp_rng l.length (fun k ρ S2 => ∃ (a : Nat) (c4 c5 : Option D) (fo la : List Nat), ρ = [some (.ref p), some (.ref m), some (.ref a), some (.ref f), c4, c5] ∧ Grow (some p) S S2 ∧ a ≠ f ∧ a ≠ p ∧ lstAt S2 a = some (la.map nD) ∧ lstAt S2 f = some (fo.map nD) ∧ (fo ++ la).Perm l ∧ fo.length = k ∧ Pen S2 p (c + k)) ?_ (by omega) ?_ ?_
    · walk_at "ev"
      rw [len_l (g1.lst hm fun z => nomatch z)]
      simp only [ok_ok, List.length_map]
      exact ⟨by first | trivial | rfl, a, none, none, [], l, rfl, g1.any, haf, by omega, l1, f1, List.Perm.refl _, rfl, (pen.grow g1).more (by omega)⟩
    · rintro ρ S2 ⟨a, c4, c5, fo, la, rfl, g2, n1, n2, l2, f2, pm, fl, p2⟩
      have : la = [] := by
        have := pm.length_eq
        rw [List.length_append] at this
        exact List.eq_nil_of_length_eq_zero (by omega)
      subst this
      rw [List.append_nil] at pm
      exact ⟨_, c4, c5, fo, rfl, g2, f2, pm, p2⟩
    rintro k ρ S2 hk ⟨a, c4, c5, fo, la, rfl, g2, n1, n2, l2, f2, pm, fl, p2⟩
    refine ⟨_, _, rfl, ?_⟩
    have lal : la.length = l.length - k := by
      have := pm.length_eq
      rw [List.length_append] at this
      omega
    have fp : f ≠ p := by omega
    refine wp_cut (fun ρ S3 => ∃ (j : Nat), ρ = [some (.ref p), some (.ref m), some (.ref a), some (.ref f), some (.int k), some (nD j)] ∧ j < la.length ∧ Grow (some p) S2 S3 ∧ Pen S3 p (c + (k + 1))) ?_ ?_
    · walk_at "ev"
      rw [len_l l2]
      simp only [ok_ok, List.length_map]
      refine ⟨by first | trivial | rfl, (draw_ok p2 (by omega) (by omega) (by omega)).imp fun d S3 ⟨v, ev, h1, h2, g3, p3⟩ => ?_⟩
      subst ev
      refine ⟨v.toNat, ?_, by omega, g3, p3⟩
      unfold nD
      rw [Int.toNat_of_nonneg h1]
    rintro ρ S3 ⟨j, rfl, hj, g3, p3⟩
    have l3 := g3.lst l2 (fun z => n2 (by injection z))
    have f3 := g3.lst f2 (fun z => fp (by injection z))
    have ej : (la.map nD)[j]? = some (nD (nf la j)) := by rw [List.getElem?_map, nf_at hj]; rfl
    generalize hjv : nD j = jv
    walk_at "ev"
    refine ⟨f, _, rfl, f3, ?_⟩
    rw [← hjv]
    rw [show nD j = D.int (j : Int) from rfl, ix_l l3 ej rfl]
    simp only [ok_ok]
    rw [app_l f3 (by rw [sizeLine_eq, List.length_map]; omega)]
    simp only [ok_ok]
    have l4 : lstAt (S3.set f (.lst (fo.map nD ++ [nD (nf la j)]))) a = some (la.map nD) := by rw [lst_set_ne n1.symm]; exact l3
    have f4 : lstAt (S3.set f (.lst (fo.map nD ++ [nD (nf la j)]))) f = some ((fo ++ [nf la j]).map nD) := by rw [lst_set (lst_lt f3), List.map_append]; rfl
    have p4 : Pen (S3.set f (.lst (fo.map nD ++ [nD (nf la j)]))) p (c + (k + 1)) := p3.set fp (by omega)
    have g4 : Grow (some p) S (S3.set f (.lst (fo.map nD ++ [nD (nf la j)]))) := (g2.trans g3).set (.inl hf)
    generalize S3.set f (.lst (fo.map nD ++ [nD (nf la j)])) = S4 at l4 f4 p4 g4 ⊢
    rw [sl_l l4, cut_to (by rw [List.length_map]; omega)]
    simp only [ok_ok, add_ii]
    have gx : Grow none S4 (S4 ++ [SO.lst ((la.map nD).take j)]) := Grow.app _
    rw [sl_l (gx.lst l4 fun z => nomatch z), show ((j : Int) + 1) = ((j + 1 : Nat) : Int) from rfl, cut_from (by rw [List.length_map]; omega)]
    simp only [ok_ok]
    have gy : Grow none (S4 ++ [SO.lst ((la.map nD).take j)]) ((S4 ++ [SO.lst ((la.map nD).take j)]) ++ [SO.lst ((la.map nD).drop (j + 1))]) := Grow.app _
    rw [cat_l (gy.lst lst_new fun z => nomatch z) lst_new (by rw [sizeLine_eq, List.length_take, List.length_drop, List.length_map]; omega)]
    simp only [ok_ok]
    have gz := (gx.trans gy).trans (Grow.app [SO.lst ((la.map nD).take j ++ (la.map nD).drop (j + 1))])
    have hSl : S.length ≤ S4.length := g4.len
    have f4l := lst_lt f4
    refine ⟨_, _, _, fo ++ [nf la j], la.take j ++ la.drop (j + 1), rfl, g4.trans gz.any, ?_, ?_, ?_, gz.lst f4 (fun z => nomatch z), ?_, by rw [List.length_append]; simp; omega, p4.grow gz⟩
    · simp; omega
    · simp; omega
    · rw [lst_new, List.map_append, List.map_take, List.map_drop]
    · refine List.Perm.trans ?_ pm
      rw [List.append_assoc]
      refine List.Perm.append_left fo ?_
      have e : la = la.take j ++ nf la j :: la.drop (j + 1) := by
        have h1 : la[j] = nf la j := by
          have := nf_at hj
          rw [List.getElem?_eq_getElem hj] at this
          exact Option.some.inj this
        rw [← h1, List.getElem_cons_drop]
        exact (List.take_append_drop j la).symm
      conv => rhs; rw [e]
      exact (List.perm_middle (a := nf la j) (l₁ := la.take j) (l₂ := la.drop (j + 1))).symm
  rintro ρ S2 ⟨c2, c4, c5, fo, rfl, g2, f2, pm, p2⟩
  walk_at "ev"
  exact ⟨f, fo, rfl, f2, pm, g2, p2⟩
end Lw
end
section
set_option linter.all false
set_option maxRecDepth 100000
set_option maxHeartbeats 2000000
/-! V22: first_wrong. -/
open SX in
local macro_rules | `(tactic| walk_at "ev") => `(tactic| simp only [startE, List.map_cons, List.map_nil, List.length_cons, List.length_nil, List.cons_append, List.nil_append, Nat.reduceAdd, Nat.reduceSub, List.replicate_succ, List.replicate_zero, wp_seq, wp_skip, wp_break, wp_cont, wp_ret, wp_retN, wp_expr, wp_asgN, wp_asg2, wp_fldS, ok_fldD, wp_asgS, wp_if, wp_par, wp_par3, wp_never, ok_v, ok_c, ok_op2, ok_op1, ok_bool, ok_tru, ok_and, ok_or, ok_not, ok_andV, ok_orV, ok_notV, ok_if, ok_nil, ok_cons, ok_tup, ok_lst, ok_call, ok_callF, ok_meth, ok_dm, ok_dnew, ok_sl, ok_partN, ok_partS, ok_seqI, List.getElem?_cons_zero, List.getElem?_cons_succ, List.set_cons_zero, List.set_cons_succ])
namespace Lw
open PySem L2 SX Tie
variable {ga : PySem.Str → Nat} {S : Sto}
theorem first_wrong_ok {cs : List Cell} {ms : List (Cell × Cell)} {q : Nat} (nd : cs.Nodup) (hl : cs.length < 1000) (hq : lstAt S q = some (ms.map pD)) (hm : Mvs cs ms) (hml : ms.length < 1000) : Ok (F__law_t2_first_wrong ga [bD cs, .ref q] S) fun d S' => ∃ (b : Nat) (bs : List (List Cell)), d = .tup [.non, .ref b] ∧ Grow none S S' ∧ lstAt S' b = some (bs.map bD) ∧ bs.getLast? = some (endC cs ms) := by
  unfold F__law_t2_first_wrong
  refine ok_runB ?_
  unfold b__law_t2_first_wrong
  refine wp_cut (fun ρ S1 => ∃ b : Nat, ρ = [some (bD cs), some (.ref q), some (.ref b), none, none, none] ∧ S.length ≤ b ∧ Grow none S S1 ∧ lstAt S1 b = some ([cs].map bD)) ?_ ?_
  · walk_at "ev"
    exact ⟨size1 (by decide), _, rfl, Nat.le_refl _, Grow.app _, lst_new⟩
  rintro ρ S1 ⟨b, rfl, hb, g1, l1⟩
  refine wp_cut (fun ρ S2 => ∃ (c3 c4 c5 : Option D) (bs : List (List Cell)), ρ = [some (bD cs), some (.ref q), some (.ref b), c3, c4, c5] ∧ Grow none S S2 ∧ lstAt S2 b = some (bs.map bD) ∧ bs.getLast? = some (endC cs ms)) ?_ ?_
  · refine wp_rng ms.length (fun k ρ S2 => ∃ (c3 c4 c5 : Option D) (bs : List (List Cell)), ρ = [some (bD cs), some (.ref q), some (.ref b), c3, c4, c5] ∧ Grow none S S2 ∧ lstAt S2 b = some (bs.map bD) ∧ bs.getLast? = some (endC cs (ms.take k)) ∧ bs.length ≤ k + 1) ?_ (by omega) ?_ ?_
    · walk_at "ev"
      rw [len_l (g1.lst hq fun z => nomatch z)]
      simp only [ok_ok, List.length_map]
      exact ⟨by first | trivial | rfl, none, none, none, [cs], rfl, g1, l1, rfl, Nat.le_refl _⟩
    · rintro ρ S2 ⟨c3, c4, c5, bs, rfl, g2, l2, h2, _⟩
      rw [List.take_length] at h2
      exact ⟨c3, c4, c5, bs, rfl, g2, l2, h2⟩
    rintro k ρ S2 hk ⟨c3, c4, c5, bs, rfl, g2, l2, h2, h3⟩
    refine ⟨_, _, rfl, ?_⟩
    have em : ms = ms.take k ++ ms[k] :: ms.drop (k + 1) := by rw [List.getElem_cons_drop]; exact (List.take_append_drop k ms).symm
    have ek : (ms.map pD)[k]? = some (pD ms[k]) := by rw [List.getElem?_map, List.getElem?_eq_getElem hk]; rfl
    have et : ms.take (k + 1) = ms.take k ++ [ms[k]] := by rw [List.take_append_getElem hk]
    rw [em] at hm
    obtain ⟨mv, nd2, len2⟩ := mvs_at nd hm
    generalize ms[k] = m at ek et mv
    generalize ms.take k = dn at et mv nd2 len2 h2
    generalize hv : (k : Int) = v
    simp only [List.set_cons_succ, List.set_cons_zero]
    refine wp_cut (fun ρ S3 => ρ = [some (bD cs), some (.ref q), some (.ref b), some (.int v), some (cD m.1), some (cD m.2)] ∧ S2 = S3) ?_ ?_
    · walk_at "ev"
      rw [ix_l (g2.lst hq fun z => nomatch z) ek hv.symm]
      exact ⟨cD m.1, cD m.2, rfl, by first | trivial | rfl, by first | trivial | rfl⟩
    rintro ρ S3 ⟨rfl, rfl⟩
    refine wp_cut (fun ρ S3 => ρ = [some (bD cs), some (.ref q), some (.ref b), some (.int v), some (cD m.1), some (cD m.2)] ∧ Grow none S2 S3) ?_ ?_
    · walk_at "ev"
      refine ⟨by first | trivial | rfl, ?_⟩
      rw [t2_is_cell_eq]
      simp only [ok_ok, truD, Bool.not_true, Bool.false_eq_true, if_false]
      refine ⟨by first | trivial | rfl, ?_⟩
      rw [t2_is_cell_eq]
      simp only [ok_ok, truD, Bool.not_true, Bool.false_eq_true, if_false, neg_i]
      rw [ix_last l2 (getLast_map h2)]
      simp only [ok_ok]
      refine ⟨by first | trivial | rfl, (kind_ok (cs := endC cs dn) (s := m.1) (e := m.2) nd2 (by omega)).imp fun d S3 ⟨g3, hd⟩ => ?_⟩
      have hd := hd mv
      show Ok (gIs d .non S3) _
      have : gIs d .non S3 = .ok (.bl false) S3 := by
        unfold gIs
        simp [hd]
      rw [this]
      simp only [ok_ok, Bool.false_eq_true, if_false]
      exact ⟨by first | trivial | rfl, g3⟩
    rintro ρ S3 ⟨rfl, g3⟩
    have l3 := g3.lst l2 (fun z => nomatch z)
    walk_at "ev"
    refine ⟨b, _, rfl, l3, ?_⟩
    rw [neg_i]
    simp only [ok_ok]
    rw [ix_last l3 (getLast_map h2)]
    simp only [ok_ok]
    refine ⟨by first | trivial | rfl, (done_ok (cs := endC cs dn) (by omega)).imp fun d S4 ⟨ed, g4⟩ => ?_⟩
    subst ed
    have l4 := g4.lst l3 (fun z => nomatch z)
    rw [app_l l4 (by rw [sizeLine_eq, List.length_map]; omega)]
    refine ⟨_, _, _, bs ++ [doneC (endC cs dn) m], rfl, ((g2.trans g3).trans g4).set (.inl hb), by rw [lst_set (lst_lt l4), List.map_append]; rfl, by rw [et, endC_snoc]; simp, by rw [List.length_append, List.length_singleton]; omega⟩
  rintro ρ S2 ⟨c3, c4, c5, bs, rfl, g2, l2, h2⟩
  walk_at "ev"
  exact ⟨size1 (by decide), b, bs, rfl, g2, l2, h2⟩
end Lw
end
section
set_option linter.all false
set_option maxRecDepth 100000
set_option maxHeartbeats 2000000
/-! V23: the drawn body: blobs. -/
open SX in
local macro_rules | `(tactic| walk_at "ev") => `(tactic| simp only [startE, List.map_cons, List.map_nil, List.length_cons, List.length_nil, List.cons_append, List.nil_append, Nat.reduceAdd, Nat.reduceSub, List.replicate_succ, List.replicate_zero, wp_seq, wp_skip, wp_break, wp_cont, wp_ret, wp_retN, wp_expr, wp_asgN, wp_asg2, wp_fldS, ok_fldD, wp_asgS, wp_if, wp_par, wp_par3, wp_never, ok_v, ok_c, ok_op2, ok_op1, ok_bool, ok_tru, ok_and, ok_or, ok_not, ok_andV, ok_orV, ok_notV, ok_if, ok_nil, ok_cons, ok_tup, ok_lst, ok_call, ok_callF, ok_meth, ok_dm, ok_dnew, ok_sl, ok_partN, ok_partS, ok_seqI, List.getElem?_cons_zero, List.getElem?_cons_succ, List.set_cons_zero, List.set_cons_succ])
namespace Tie
open SX
/-- a list of cells that is not empty has one without a right neighbour in it -/
theorem right_free : ∀ (l : List Cell), l ≠ [] → ∃ c ∈ l, (c.1 + 1, c.2) ∉ l := by
  intro l hl
  have : ∃ c ∈ l, ∀ d ∈ l, d.1 ≤ c.1 := by
    induction l with
    | nil => exact absurd rfl hl
    | cons a l ih =>
      by_cases e : l = []
      · subst e
        exact ⟨a, by simp, fun d hd => by simp at hd; rw [hd]; exact Int.le_refl _⟩
      · obtain ⟨c, hc, hm⟩ := ih e
        by_cases h : c.1 ≤ a.1
        · exact ⟨a, by simp, fun d hd => by
            rcases List.mem_cons.mp hd with z | z
            · rw [z]; exact Int.le_refl _
            · have := hm d z; omega⟩
        · exact ⟨c, by simp [hc], fun d hd => by
            rcases List.mem_cons.mp hd with z | z
            · rw [z]; omega
            · exact hm d z⟩
  obtain ⟨c, hc, hm⟩ := this
  refine ⟨c, hc, fun z => ?_⟩
  have := hm _ z
  simp only at this
  omega
theorem right_bes {c : Cell} : (c.1 + 1, c.2) ∈ bes c := by simp [bes]
/-- a row of cells, each beside one ahead of it (or one of them) -/
inductive Gr : List Cell → Prop
  | one (c : Cell) : Gr [c]
  | snoc {cl : List Cell} {b c : Cell} : Gr cl → b ∈ cl → (c ∈ bes b ∨ c ∈ cl) → Gr (cl ++ [c])
theorem Gr.ne {cl : List Cell} (h : Gr cl) : cl ≠ [] := by
  cases h with
  | one c => simp
  | snoc _ _ _ => simp
theorem Gr.take {cl : List Cell} (h : Gr cl) : ∀ n, 1 ≤ n → Gr (cl.take n) := by
  induction h with
  | one c =>
    intro n hn
    rw [List.take_of_length_le (by simpa using hn)]
    exact .one c
  | @snoc cl b c g hb hc ih =>
    intro n hn
    by_cases hl : n ≤ cl.length
    · rw [List.take_append_of_le_length hl]
      exact ih n hn
    · rw [List.take_of_length_le (by simp; omega)]
      exact .snoc g hb hc
theorem Gr.conn {cl : List Cell} (h : Gr cl) : Conn fun c => c ∈ cl := by
  induction h with
  | one c =>
    refine ⟨⟨c, by simp⟩, fun a b ha hb => ?_⟩
    simp only [List.mem_singleton] at ha hb
    subst ha; subst hb
    exact .refl (by simp)
  | @snoc cl b c g hb hc ih =>
    rcases hc with hc | hc
    · exact (conn_add ih hb (bes_symm hc)).congr fun x => by simp
    · exact ih.congr fun x => by
        rw [List.mem_append, List.mem_singleton]
        exact ⟨.inl, fun z => z.elim id fun z => z ▸ hc⟩
/-- a new cell beside the row -/
def Nw (cl : List Cell) (x : Cell) : Prop := x ∉ cl ∧ ∃ b ∈ cl, x ∈ bes b
end Tie
namespace SX
open PySem L2 Tie
theorem wp_asg3 {i j k : Nat} {f : SE} {ρ : SX.Env} {S : Sto} {N B C : SX.Env → Sto → Prop} {R : D → Sto → Prop} (h : Ok (f ρ S) fun d S1 => ∃ a b c, d = .tup [a, b, c] ∧ N (((ρ.set i (some a)).set j (some b)).set k (some c)) S1) : Wp (sAsg (gTp 3 (gMore (gNm i) (gMore (gNm j) (gMore (gNm k) gNone)))) f ρ S) N R B C := by
  rw [wp_asg]
  refine h.imp fun d S1 ⟨a, b, c, ed, z⟩ => ?_
  subst ed
  exact z
end SX
namespace Lw
open PySem L2 SX Tie
variable {ga : PySem.Str → Nat} {S : Sto} {p c : Nat}
/-- the blob's store -/
structure BB (S : Sto) (p a b e : Nat) (cl : List Cell) (kn : List (Cell × Unit)) (ct : List (Cell × Int)) (S2 : Sto) : Prop where
  g : Grow (some p) S S2
  la : lstAt S2 a = some (cl.map cD)
  db : dctW S2 b = some (cKv uD kn)
  de : dctW S2 e = some (cKv D.int ct)
structure BN (S : Sto) (p a b e : Nat) : Prop where
  sa : S.length ≤ a
  sb : S.length ≤ b
  se : S.length ≤ e
  nab : a ≠ b
  nae : a ≠ e
  nbe : b ≠ e
  sp : p + 1 < S.length
theorem BB.next {a b e : Nat} {cl : List Cell} {kn : List (Cell × Unit)} {ct : List (Cell × Int)} {S2 S3 : Sto} (n : BN S p a b e) (h : BB S p a b e cl kn ct S2) (g : Grow (some p) S2 S3) : BB S p a b e cl kn ct S3 := by
  have h1 := n.sa
  have h2 := n.sb
  have h3 := n.se
  have h4 := n.sp
  exact ⟨h.g.trans g, g.lst h.la (fun z => by injection z; omega), g.dct h.db (fun z => by injection z; omega), g.dct h.de (fun z => by injection z; omega)⟩
theorem pl_cells3 {cs : List Cell} : ∀ x ∈ cs.map cD, Pl 3 x := fun x hx => (pl_cells x hx).mono (by omega)
theorem blob_ok {n : Nat} {many taste : Int} (hmany : many = (n : Int) + 1) (hn : n < 100) (pen : Pen S p c) (hc : c + 3 * n < 100000) : Ok (F__law_t2_blob ga [.ref p, .int many, .int taste] S) fun d S' => ∃ (a : Nat) (cl : List Cell), d = .ref a ∧ lstAt S' a = some (cl.map cD) ∧ cl.length = n + 1 ∧ Gr cl ∧ Grow (some p) S S' ∧ Pen S' p (c + 3 * n) := by
  unfold F__law_t2_blob
  refine ok_runB ?_
  unfold b__law_t2_blob
  have hp1 := pen.lt1
  refine wp_cut (fun ρ S1 => ∃ a b e, ρ = [some (.ref p), some (.int many), some (.int taste), some (.ref a), some (.ref b), some (.ref e), none, none, none, none, none] ∧ BN S p a b e ∧ BB S p a b e [(0, 0)] [] [] S1 ∧ Pen S1 p c) ?_ ?_
  · refine wp_asg3 ?_
    walk_at "ev"
    have g1 : Grow none S (S ++ [SO.lst [.tup [.int 0, .int 0]]]) := Grow.app _
    have g2 : Grow none (S ++ [SO.lst [.tup [.int 0, .int 0]]]) ((S ++ [SO.lst [.tup [.int 0, .int 0]]]) ++ [SO.dct []]) := Grow.app _
    have g3 : Grow none ((S ++ [SO.lst [.tup [.int 0, .int 0]]]) ++ [SO.dct []]) (((S ++ [SO.lst [.tup [.int 0, .int 0]]]) ++ [SO.dct []]) ++ [SO.dct []]) := Grow.app _
    have e1 : (S ++ [SO.lst [.tup [.int 0, .int 0]]]).length = S.length + 1 := by simp
    have e2 : ((S ++ [SO.lst [.tup [.int 0, .int 0]]]) ++ [SO.dct []]).length = S.length + 2 := by simp
    refine ⟨size1 (by decide), size1 (by decide), size1 (by decide), _, _, _, rfl, _, _, _, rfl, ⟨Nat.le_refl _, by omega, by omega, by omega, by omega, by omega, hp1⟩, ⟨((g1.trans g2).trans g3).any, ?_, ?_, ?_⟩, pen.grow ((g1.trans g2).trans g3)⟩
    · exact (g2.trans g3).lst lst_new (fun z => nomatch z)
    · exact g3.dct dct_new (fun z => nomatch z)
    · exact dct_new
  rintro ρ S1 ⟨a, b, e, rfl, bn, b1, p1⟩
  have n1 := bn.sa
  have n2 := bn.sb
  have n3 := bn.se
  have n4 := bn.nab
  have n5 := bn.nae
  have n6 := bn.nbe
  refine wp_cut (fun ρ S2 => ρ = [some (.ref p), some (.int many), some (.int taste), some (.ref a), some (.ref b), some (.ref e), none, none, none, none, none] ∧ BB S p a b e [(0, 0)] [((0, 0), ())] [] S2 ∧ Pen S2 p c) ?_ ?_
  · walk_at "ev"
    refine ⟨size1 (by decide), _, set_d (f := uD) (a := ()) (c := (0, 0)) b1.db (small_sz (by decide)), by first | trivial | rfl, ⟨b1.g.set (.inl n2), by rw [lst_set_ne n4.symm]; exact b1.la, by rw [dct_set (dct_lt b1.db)]; rfl, by rw [dct_set_ne n6]; exact b1.de⟩, p1.set (by omega) (by omega)⟩
  clear b1 p1
  rintro ρ S2 ⟨rfl, b2, p2⟩
  refine wp_cut (fun ρ S3 => ∃ (c6 c7 c8 c9 c10 : Option D) (cl : List Cell) (kn : List (Cell × Unit)) (ct : List (Cell × Int)), ρ = [some (.ref p), some (.int many), some (.int taste), some (.ref a), some (.ref b), some (.ref e), c6, c7, c8, c9, c10] ∧ BB S p a b e cl kn ct S3 ∧ Pen S3 p (c + 3 * n) ∧ cl.length = n + 1 ∧ Gr cl) ?_ ?_
  · refine wp_rng n (fun k ρ S3 => ∃ (c6 c7 c8 c9 c10 : Option D) (cl : List Cell) (kn : List (Cell × Unit)) (ct : List (Cell × Int)), ρ = [some (.ref p), some (.int many), some (.int taste), some (.ref a), some (.ref b), some (.ref e), c6, c7, c8, c9, c10] ∧ BB S p a b e cl kn ct S3 ∧ Pen S3 p (c + 3 * k) ∧ cl.length = k + 1 ∧ (∀ x, x ∈ kn.map (·.1) ↔ x ∈ cl) ∧ kn.length ≤ k + 1 ∧ ct.length ≤ 4 * k ∧ (∀ x ∈ cl, some x ≠ cl.getLast? → ∀ y ∈ bes x, y ∈ ct.map (·.1)) ∧ Gr cl ∧ ∀ y ∈ ct.map (·.1), ∃ b ∈ cl, y ∈ bes b) ?_ (by omega) ?_ ?_
    · walk_at "ev"
      simp only [dif_ii, ok_ok]
      exact ⟨by rw [hmany, Int.add_sub_cancel], none, none, none, none, none, [(0, 0)], [((0, 0), ())], [], rfl, b2, p2, rfl, fun x => by simp, Nat.le_refl _, Nat.le_refl _, fun x hx hne => by simp at hx hne; exact absurd hx hne, .one _, fun _ z => nomatch z⟩
    · rintro ρ S3 ⟨c6, c7, c8, c9, c10, cl, kn, ct, rfl, b3, p3, h3, _, _, _, _, hgr, _⟩
      exact ⟨c6, c7, c8, c9, c10, cl, kn, ct, rfl, b3, p3, h3, hgr⟩
    rintro k ρ S3 hk ⟨c6, c7, c8, c9, c10, cl, kn, ct, rfl, b3, p3, h3, hkn, hknl, hctl, hct, hgr, hcb⟩
    refine ⟨_, _, rfl, ?_⟩
    simp only [List.set_cons_succ, List.set_cons_zero]
    generalize hv : (k : Int) = v
    obtain ⟨last, hlast⟩ : ∃ x, cl.getLast? = some x := by
      cases e : cl.getLast? with
      | none => rw [List.getLast?_eq_none_iff.mp e] at h3; cases h3
      | some x => exact ⟨x, rfl⟩
    have e1 : (cl.map cD).getLast? = some (cD last) := getLast_map hlast
    refine wp_cut (fun ρ S4 => ∃ (c7 : Option D) (ct2 : List (Cell × Int)), ρ = [some (.ref p), some (.int many), some (.int taste), some (.ref a), some (.ref b), some (.ref e), some (.int v), c7, c8, c9, c10] ∧ BB S p a b e cl kn ct2 S4 ∧ Pen S4 p (c + 3 * k) ∧ ct2.length ≤ 4 * k + 4 ∧ (∀ x ∈ cl, ∀ y ∈ bes x, y ∈ ct2.map (·.1)) ∧ ∀ y ∈ ct2.map (·.1), ∃ b ∈ cl, y ∈ bes b) ?_ ?_
    · refine wp_each2 cD ?_
      simp only [ok_cons, ok_callF, ok_v, ok_nil, ok_op2, ok_op1, ok_c, List.getElem?_cons_zero, List.getElem?_cons_succ, List.length_cons, List.length_nil, Nat.reduceAdd]
      rw [neg_i]
      simp only [ok_ok]
      rw [ix_last b3.la e1]
      simp only [ok_ok]
      refine ⟨by first | trivial | rfl, ?_⟩
      rw [t2_beside_eq]
      simp only [ok_ok]
      have gx : Grow none S3 (S3 ++ [SO.lst ((bes last).map cD)]) := Grow.app _
      have hel := dct_lt b3.de
      refine ⟨_, bes last, fun d2 ρ S4 => ∃ (c7 : Option D) (ct2 : List (Cell × Int)), ρ = [some (.ref p), some (.int many), some (.int taste), some (.ref a), some (.ref b), some (.ref e), some (.int v), c7, c8, c9, c10] ∧ lstAt S4 S3.length = some ((bes last).map cD) ∧ BB S p a b e cl kn ct2 S4 ∧ Pen S4 p (c + 3 * k) ∧ ct2.length ≤ 4 * k + d2.length ∧ (∀ y, y ∈ ct.map (·.1) → y ∈ ct2.map (·.1)) ∧ (∀ y ∈ d2, y ∈ ct2.map (·.1)) ∧ ∀ y ∈ ct2.map (·.1), ∃ b ∈ cl, y ∈ bes b, Walk.at_, fun _ _ _ ⟨_, _, _, z, _⟩ => z, ?_, ?_, ⟨c7, ct, rfl, lst_new, b3.next bn gx.any, p3.grow gx, by simpa using hctl, fun _ z => z, (fun _ z => nomatch z), hcb⟩⟩
      · rintro ρ S4 ⟨c7, ct2, rfl, _, b4, p4, h4, h5, h6, h7⟩
        refine ⟨c7, ct2, rfl, b4, p4, h4, fun x hx y hy => ?_, h7⟩
        by_cases hxl : some x = cl.getLast?
        · rw [hlast] at hxl
          cases hxl
          exact h6 y hy
        · exact h5 y (hct x hx hxl y hy)
      rintro d2 y t2 ρ S4 eb ⟨c7, ct2, rfl, u4, b4, p4, h4, h5, h6, h7⟩
      refine ⟨_, _, rfl, ?_⟩
      have hd2 : d2.length < 4 := by have := congrArg List.length eb; simp [bes] at this; omega
      walk_at "ev"
      refine ⟨e, _, rfl, dctW_at b4.de, ?_⟩
      rw [get_d2 b4.de]
      simp only [ok_ok]
      have hv2 : ((look ct2 y).map D.int).getD (.int 0) = .int ((look ct2 y).getD 0) := by cases look ct2 y <;> rfl
      rw [hv2, add_ii]
      simp only [ok_ok]
      refine ⟨_, set_d (f := D.int) (a := (look ct2 y).getD 0 + 1) b4.de (small_sz (by omega)), _, put ct2 y ((look ct2 y).getD 0 + 1), rfl, ?_, ⟨b4.g.set (.inl n3), by rw [lst_set_ne n5.symm]; exact b4.la, by rw [dct_set_ne n6.symm]; exact b4.db, dct_set (dct_lt b4.de)⟩, p4.set (by omega) (by omega), ?_, fun z hz => ?_, fun z hz => ?_, fun z hz => ?_⟩
      · rw [lst_set_ne (by omega)]; exact u4
      · have := put_len (l := ct2) (c := y) (a := (look ct2 y).getD 0 + 1)
        rw [List.length_append, List.length_singleton]
        omega
      · rw [put_keys]
        split
        · exact h5 z hz
        · exact List.mem_append_left _ (h5 z hz)
      · rw [put_keys]
        rcases List.mem_append.mp hz with w | w
        · split
          · exact h6 z w
          · exact List.mem_append_left _ (h6 z w)
        · rw [List.mem_singleton.mp w]
          split
          · assumption
          · simp
      · rw [put_keys] at hz
        split at hz
        · exact h7 z hz
        · rcases List.mem_append.mp hz with w | w
          · exact h7 z w
          · rw [List.mem_singleton.mp w]
            exact ⟨last, List.mem_of_getLast? hlast, by rw [eb]; simp⟩
    clear b3 p3 hct hctl hcb
    rintro ρ S4 ⟨c7, ct2, rfl, b4, p4, hctl, hct, hcb⟩
    refine wp_cut (fun ρ S5 => ∃ (r : Nat) (fr : List Cell), ρ = [some (.ref p), some (.int many), some (.int taste), some (.ref a), some (.ref b), some (.ref e), some (.int v), c7, some (.ref r), c9, c10] ∧ BB S p a b e cl kn ct2 S5 ∧ Pen S5 p (c + 3 * k) ∧ lstAt S5 r = some (fr.map cD) ∧ (∀ x ∈ fr, x ∈ ct2.map (·.1) ∧ Nw cl x) ∧ fr ≠ [] ∧ fr.length ≤ ct2.length) ?_ ?_
    · walk_at "ev"
      rw [ok_lc]
      walk_at "ev"
      rw [list_d b4.de]
      simp only [ok_ok]
      rw [itm_l lst_new]
      simp only
      have gx : Grow none S4 (S4 ++ [SO.lst ((ct2.map (·.1)).map cD)]) := Grow.app _
      refine ok_lcGo (S0 := S4 ++ [SO.lst ((ct2.map (·.1)).map cD)]) (enc := cD) (up := fun x => [some (.ref p), some (.int many), some (.int taste), some (.ref a), some (.ref b), some (.ref e), some (.int v), some (cD x), c8, c9, c10]) (fun x => !decide (x ∈ kn.map (·.1))) cD rfl (ct2.map (·.1)) (fun _ _ _ => rfl) (fun S5 g5 => decide_eq_true (g5.lst lst_new fun z => nomatch z)) (by rw [sizeLine_eq, List.length_map]; omega) ?_ ?_ ?_
      · intro x S5 _ g5
        walk_at "ev"
        rw [notin_d ((gx.trans g5).dct b4.db fun z => nomatch z), look_isSome]
        exact ⟨rfl, Grow.refl⟩
      · intro x S5 _ _ _
        walk_at "ev"
        exact ⟨by first | trivial | rfl, Grow.refl⟩
      · intro S5 g5 l5
        have g45 := gx.trans g5
        refine ⟨_, _, rfl, b4.next bn g45.any, p4.grow g45, l5, fun x hx => ?_, ?_, ?_⟩
        · rw [List.mem_filter] at hx
          refine ⟨hx.1, fun z => ?_, hcb x hx.1⟩
          have := hx.2
          rw [decide_eq_true ((hkn x).mpr z)] at this
          exact Bool.false_ne_true this
        · have hne : cl ≠ [] := fun z => by rw [z] at h3; cases h3
          obtain ⟨x, hx, hr⟩ := right_free cl hne
          intro z
          have : (x.1 + 1, x.2) ∈ (ct2.map (·.1)).filter fun x => !decide (x ∈ kn.map (·.1)) := by
            rw [List.mem_filter]
            refine ⟨hct x hx _ right_bes, ?_⟩
            rw [decide_eq_false fun w => hr ((hkn _).mp w)]
            rfl
          rw [z] at this
          cases this
        · exact Nat.le_trans (List.length_filter_le _ _) (by rw [List.length_map]; exact Nat.le_refl _)
    rintro ρ S5 ⟨r, fr, rfl, b5, p5, l5, hfr, hne, hfl⟩
    have part : ∀ (tt : SB) (ρ0 : SX.Env) (up : Cell → SX.Env) (qv : Int → Bool) (S5 : Sto), BB S p a b e cl kn ct2 S5 → lstAt S5 r = some (fr.map cD) → (∀ x S6, gNm 7 (cD x) ρ0 S6 = some (up x, S6)) → (∀ x S6 w, look ct2 x = some w → dctW S6 e = some (cKv D.int ct2) → Ok (tt (up x) S6) fun bb S7 => bb = qv w ∧ Grow none S6 S7) → (∀ x S6, sVar 7 (up x) S6 = .ok (cD x) S6) → ∀ P : Unit → Sto → Prop, (∀ S6, Grow none S5 S6 → (∃ sm : List Cell, lstAt S6 S5.length = some (sm.map cD) ∧ (∀ x ∈ sm, x ∈ fr) ∧ sm.length ≤ fr.length) → P () S6) → Ok (sCmGo (gNm 7) tt (sStepL (sVar 7)) (fun S' => decide (lstAt S' r = some (fr.map cD))) S5.length ρ0 (fr.map cD) (S5 ++ [.lst []])) P := by
      intro tt ρ0 up qv S5 b5 l5 hg ht hev P fin
      refine ok_lcGo (S0 := S5) (enc := cD) (up := up) (fun x => qv ((look ct2 x).getD 0)) cD rfl fr (fun x S2 _ => hg x S2) (fun S6 g6 => decide_eq_true (g6.lst l5 fun z => nomatch z)) (by rw [sizeLine_eq]; omega) ?_ ?_ ?_
      · intro x S6 hx g6
        obtain ⟨w, hw⟩ := key_look (hfr x hx).1
        rw [hw]
        exact ht x S6 w hw (g6.dct b5.de fun z => nomatch z)
      · intro x S6 _ _ _
        rw [hev]
        exact ⟨rfl, Grow.refl⟩
      · intro S6 g6 l6
        exact fin S6 g6 ⟨_, l6, fun x hx => (List.mem_filter.mp hx).1, List.length_filter_le _ _⟩
    refine wp_cut (fun ρ S6 => ∃ (r2 : Nat) (sm : List Cell), ρ = [some (.ref p), some (.int many), some (.int taste), some (.ref a), some (.ref b), some (.ref e), some (.int v), c7, some (.ref r), some (.ref r2), c10] ∧ BB S p a b e cl kn ct2 S6 ∧ Pen S6 p (c + 3 * k) ∧ lstAt S6 r = some (fr.map cD) ∧ lstAt S6 r2 = some (sm.map cD) ∧ (∀ x ∈ sm, x ∈ fr) ∧ sm.length ≤ fr.length) ?_ ?_
    · walk_at "ev"
      rw [ok_lc]
      walk_at "ev"
      rw [itm_l l5]
      refine part _ _ (fun x => [some (.ref p), some (.int many), some (.int taste), some (.ref a), some (.ref b), some (.ref e), some (.int v), some (cD x), some (.ref r), c9, c10]) (fun w => decide (w = 1)) S5 b5 l5 (fun _ _ => rfl) (fun x S6 w hw d6 => ?_) (fun _ _ => rfl) _ (fun S6 g6 ⟨sm, h1, h2, h3⟩ => ⟨_, sm, rfl, b5.next bn g6.any, p5.grow g6, g6.lst l5 (fun z => nomatch z), h1, h2, h3⟩)
      walk_at "ev"
      rw [ix_d (f := D.int) d6 hw]
      simp only [ok_ok, eq_ii]
      exact ⟨by first | trivial | rfl, Grow.refl⟩
    clear b5 p5 l5
    rintro ρ S5 ⟨r2, sm2, rfl, b5, p5, l5, t5, hs2, hl2⟩
    refine wp_cut (fun ρ S6 => ∃ (r3 : Nat) (sm : List Cell), ρ = [some (.ref p), some (.int many), some (.int taste), some (.ref a), some (.ref b), some (.ref e), some (.int v), c7, some (.ref r), some (.ref r2), some (.ref r3)] ∧ BB S p a b e cl kn ct2 S6 ∧ Pen S6 p (c + 3 * k) ∧ lstAt S6 r = some (fr.map cD) ∧ lstAt S6 r2 = some (sm2.map cD) ∧ lstAt S6 r3 = some (sm.map cD) ∧ (∀ x ∈ sm, x ∈ fr) ∧ sm.length ≤ fr.length) ?_ ?_
    · walk_at "ev"
      rw [ok_lc]
      walk_at "ev"
      rw [itm_l l5]
      refine part _ _ (fun x => [some (.ref p), some (.int many), some (.int taste), some (.ref a), some (.ref b), some (.ref e), some (.int v), some (cD x), some (.ref r), some (.ref r2), c10]) (fun w => decide (1 < w)) S5 b5 l5 (fun _ _ => rfl) (fun x S6 w hw d6 => ?_) (fun _ _ => rfl) _ (fun S6 g6 ⟨sm, h1, h2, h3⟩ => ⟨_, sm, rfl, b5.next bn g6.any, p5.grow g6, g6.lst l5 (fun z => nomatch z), g6.lst t5 (fun z => nomatch z), h1, h2, h3⟩)
      walk_at "ev"
      rw [ix_d (f := D.int) d6 hw]
      simp only [ok_ok, gt_ii]
      exact ⟨by first | trivial | rfl, Grow.refl⟩
    clear b5 p5 l5 t5 part
    rintro ρ S5 ⟨r3, sm3, rfl, b5, p5, l5, t5, w5, hs3, hl3⟩
    refine wp_cut (fun ρ S6 => ∃ (r : Nat) (fr : List Cell), ρ = [some (.ref p), some (.int many), some (.int taste), some (.ref a), some (.ref b), some (.ref e), some (.int v), c7, some (.ref r), some (.ref r2), some (.ref r3)] ∧ BB S p a b e cl kn ct2 S6 ∧ Pen S6 p (c + 3 * k + 1) ∧ lstAt S6 r = some (fr.map cD) ∧ lstAt S6 r3 = some (sm3.map cD) ∧ (∀ x ∈ fr, Nw cl x) ∧ fr ≠ [] ∧ fr.length < 1000) ?_ ?_
    · obtain ⟨_, _, _, _, _, _, hpd, _⟩ := p5.ex
      have rp : r ≠ p := lst_ne_dct l5 hpd
      have r2p : r2 ≠ p := lst_ne_dct t5 hpd
      have r3p : r3 ≠ p := lst_ne_dct w5 hpd
      walk_at "ev"
      rw [eq_ii]
      simp only [ok_ok]
      by_cases ht : taste = 1
      · rw [if_pos (decide_eq_true ht)]
        refine ⟨Nat.zero_le _, ?_⟩
        rw [ne_nil_l t5 pl_cells3]
        simp only [ok_ok]
        have gx : Grow none S5 (S5 ++ [SO.lst []]) := Grow.app _
        by_cases he : sm2.map cD = []
        · rw [if_neg (by simp [he]), if_neg Bool.false_ne_true]
          exact ⟨r, fr, by first | trivial | rfl, b5.next bn gx.any, (p5.grow gx).more (by omega), gx.lst l5 (fun z => nomatch z), gx.lst w5 (fun z => nomatch z), fun x hx => (hfr x hx).2, hne, by omega⟩
        · rw [if_pos (by simpa using he)]
          refine ⟨by first | trivial | rfl, (draw_ok (p5.grow gx) (by omega) (by omega) (by omega)).imp fun d S6 ⟨w, ew, h1, h2, g6, p6⟩ => ?_⟩
          subst ew
          rw [gt_ii]
          simp only [ok_ok]
          have g56 : Grow (some p) S5 S6 := gx.any.trans g6
          by_cases hw : 0 < w
          · rw [if_pos (decide_eq_true hw)]
            exact ⟨r2, sm2, by first | trivial | rfl, b5.next bn g56, p6, g56.lst t5 (fun z => r2p (by injection z)), g56.lst w5 (fun z => r3p (by injection z)), fun x hx => (hfr x (hs2 x hx)).2, fun z => he (by rw [z]; rfl), by omega⟩
          · rw [if_neg (by simpa using hw)]
            exact ⟨r, fr, by first | trivial | rfl, b5.next bn g56, p6, g56.lst l5 (fun z => rp (by injection z)), g56.lst w5 (fun z => r3p (by injection z)), fun x hx => (hfr x hx).2, hne, by omega⟩
      · rw [if_neg (by simpa using ht), if_neg Bool.false_ne_true]
        exact ⟨r, fr, by first | trivial | rfl, b5, p5.more (by omega), l5, w5, fun x hx => (hfr x hx).2, hne, by omega⟩
    have hs3' : ∀ x ∈ sm3, Nw cl x := fun x hx => (hfr x (hs3 x hx)).2
    have hl3' : sm3.length < 1000 := by omega
    clear b5 p5 l5 t5 w5 hfr hne hfl hs3 hl3 hs2 hl2
    rintro ρ S5 ⟨r, fr, rfl, b5, p5, l5, w5, hfr, hne, hfl2⟩
    refine wp_cut (fun ρ S6 => ∃ (r : Nat) (fr : List Cell), ρ = [some (.ref p), some (.int many), some (.int taste), some (.ref a), some (.ref b), some (.ref e), some (.int v), c7, some (.ref r), some (.ref r2), some (.ref r3)] ∧ BB S p a b e cl kn ct2 S6 ∧ Pen S6 p (c + 3 * k + 2) ∧ lstAt S6 r = some (fr.map cD) ∧ (∀ x ∈ fr, Nw cl x) ∧ fr ≠ [] ∧ fr.length < 1000) ?_ ?_
    · obtain ⟨_, _, _, _, _, _, hpd, _⟩ := p5.ex
      have rp : r ≠ p := lst_ne_dct l5 hpd
      have r2p : r3 ≠ p := lst_ne_dct w5 hpd
      walk_at "ev"
      rw [eq_ii]
      simp only [ok_ok]
      by_cases ht : taste = 2
      · rw [if_pos (decide_eq_true ht)]
        refine ⟨Nat.zero_le _, ?_⟩
        rw [ne_nil_l w5 pl_cells3]
        simp only [ok_ok]
        have gx : Grow none S5 (S5 ++ [SO.lst []]) := Grow.app _
        by_cases he : sm3.map cD = []
        · rw [if_neg (by simp [he]), if_neg Bool.false_ne_true]
          exact ⟨r, fr, by first | trivial | rfl, b5.next bn gx.any, (p5.grow gx).more (by omega), gx.lst l5 (fun z => nomatch z), hfr, hne, hfl2⟩
        · rw [if_pos (by simpa using he)]
          refine ⟨by first | trivial | rfl, (draw_ok (p5.grow gx) (by omega) (by omega) (by omega)).imp fun d S6 ⟨w, ew, h1, h2, g6, p6⟩ => ?_⟩
          subst ew
          rw [gt_ii]
          simp only [ok_ok]
          have g56 : Grow (some p) S5 S6 := gx.any.trans g6
          by_cases hw : 0 < w
          · rw [if_pos (decide_eq_true hw)]
            exact ⟨r3, sm3, by first | trivial | rfl, b5.next bn g56, p6, g56.lst w5 (fun z => r2p (by injection z)), hs3', fun z => he (by rw [z]; rfl), hl3'⟩
          · rw [if_neg (by simpa using hw)]
            exact ⟨r, fr, by first | trivial | rfl, b5.next bn g56, p6, g56.lst l5 (fun z => rp (by injection z)), hfr, hne, hfl2⟩
      · rw [if_neg (by simpa using ht), if_neg Bool.false_ne_true]
        exact ⟨r, fr, by first | trivial | rfl, b5, p5.more (by omega), l5, hfr, hne, hfl2⟩
    clear b5 p5 l5 w5 hfr hne hfl2
    rintro ρ S5 ⟨r, fr, rfl, b5, p5, l5, hfr, hne, hfl2⟩
    refine wp_cut (fun ρ S6 => ∃ x, ρ = [some (.ref p), some (.int many), some (.int taste), some (.ref a), some (.ref b), some (.ref e), some (.int v), c7, some (.ref r), some (.ref r2), some (.ref r3)] ∧ BB S p a b e (cl ++ [x]) kn ct2 S6 ∧ Pen S6 p (c + 3 * k + 3) ∧ Nw cl x) ?_ ?_
    · walk_at "ev"
      refine ⟨a, _, rfl, b5.la, by first | trivial | rfl, (pick_ok p5 (by omega) l5 (fun z => hne (List.map_eq_nil_iff.mp z)) (by rw [List.length_map]; omega)).imp fun d S6 ⟨hd, g6, p6⟩ => ?_⟩
      obtain ⟨x, hx, rfl⟩ := List.mem_map.mp hd
      have b6 := b5.next bn g6
      rw [app_l b6.la (by rw [sizeLine_eq, List.length_map]; omega)]
      exact ⟨x, by first | trivial | rfl, ⟨b6.g.set (.inl n1), by rw [lst_set (lst_lt b6.la), List.map_append]; rfl, by rw [dct_set_ne n4]; exact b6.db, by rw [dct_set_ne n5]; exact b6.de⟩, p6.set (by omega) (by omega), hfr x hx⟩
    rintro ρ S6 ⟨x, rfl, b6, p6, hx⟩
    walk_at "ev"
    rw [neg_i]
    simp only [ok_ok]
    rw [ix_last b6.la (d := cD x) (by simp)]
    simp only [ok_ok]
    have hkx : x ∉ kn.map (·.1) := fun z => hx.1 ((hkn x).mp z)
    refine ⟨_, set_d (f := uD) (a := ()) b6.db (small_sz (by omega)), _, _, _, _, _, cl ++ [x], put kn x (), ct2, rfl, ⟨b6.g.set (.inl n2), by rw [lst_set_ne n4.symm]; exact b6.la, dct_set (dct_lt b6.db), by rw [dct_set_ne n6]; exact b6.de⟩, (p6.set (by omega) (by omega)).more (by omega), by rw [List.length_append, h3]; rfl, fun y => ?_, ?_, by omega, fun y hy hyl z hz => ?_, ?_, fun y hy => ?_⟩
    · rw [put_keys, if_neg hkx, List.mem_append, List.mem_append, hkn]
    · have := put_len (l := kn) (c := x) (a := ())
      omega
    · rcases List.mem_append.mp hy with w | w
      · exact hct y w z hz
      · rw [List.mem_singleton.mp w] at hyl
        exact absurd (by simp) hyl
    · obtain ⟨b', hb', hx'⟩ := hx.2
      exact .snoc hgr hb' (.inl hx')
    · obtain ⟨b', hb', hx'⟩ := hcb y hy
      exact ⟨b', List.mem_append_left _ hb', hx'⟩
  rintro ρ S3 ⟨c6, c7, c8, c9, c10, cl, kn, ct, rfl, b3, p3, h3, hgr⟩
  walk_at "ev"
  exact ⟨a, cl, rfl, b3.la, h3, hgr, b3.g, p3⟩
end Lw
end
section
set_option linter.all false
set_option maxRecDepth 100000
set_option maxHeartbeats 2000000
/-! V24: the drawn body: ways. -/
open SX in
local macro_rules | `(tactic| walk_at "ev") => `(tactic| simp only [startE, List.map_cons, List.map_nil, List.length_cons, List.length_nil, List.cons_append, List.nil_append, Nat.reduceAdd, Nat.reduceSub, List.replicate_succ, List.replicate_zero, wp_seq, wp_skip, wp_break, wp_cont, wp_ret, wp_retN, wp_expr, wp_asgN, wp_asg2, wp_fldS, ok_fldD, wp_asgS, wp_if, wp_par, wp_par3, wp_never, ok_v, ok_c, ok_op2, ok_op1, ok_bool, ok_tru, ok_and, ok_or, ok_not, ok_andV, ok_orV, ok_notV, ok_if, ok_nil, ok_cons, ok_tup, ok_lst, ok_call, ok_callF, ok_meth, ok_dm, ok_dnew, ok_sl, ok_partN, ok_partS, ok_seqI, List.getElem?_cons_zero, List.getElem?_cons_succ, List.set_cons_zero, List.set_cons_succ])
namespace Lw
open PySem L2 SX Tie
variable {ga : PySem.Str → Nat} {S : Sto} {p c : Nat}
theorem way_ok {st : Nat} {il : List Int} {turns : Int} (hst : lstAt S st = some (il.map D.int)) (hil : ∀ x ∈ il, 0 ≤ x ∧ x ≤ 100) (hl : il.length ≤ 100) (ht : 0 ≤ turns ∧ turns < 1000) : Ok (F__law_t2_way ga [.ref st, .int turns] S) fun d S' => ∃ (a : Nat) (cl : List Cell), d = .ref a ∧ lstAt S' a = some (cl.map cD) ∧ cl.length ≤ 10001 ∧ Gr cl ∧ Grow none S S' := by
  unfold F__law_t2_way
  refine ok_runB ?_
  unfold b__law_t2_way
  refine wp_cut (fun ρ S1 => ∃ a h, ρ = [some (.ref st), some (.int turns), some (.ref a), some (cD (0, 0)), some (.ref h), none, none, none] ∧ S.length ≤ a ∧ a < h ∧ Grow none S S1 ∧ lstAt S1 a = some ([(0, 0)].map cD) ∧ lstAt S1 h = some ([(1, 0), (0, 1), (-1, 0), (0, -1)].map cD)) ?_ ?_
  · walk_at "ev"
    simp only [neg_i, ok_ok]
    have e : (S ++ [SO.lst [.tup [.int 0, .int 0]]]).length = S.length + 1 := by simp
    refine ⟨size1 (by decide), size1 (by decide), size1 (by decide), size1 (by decide), size1 (by decide), size1 (by decide), size1 (by decide), size1 (by decide), _, _, rfl, Nat.le_refl _, by omega, (Grow.app _).trans (Grow.app _), ?_, lst_new⟩
    exact (Grow.app _ : Grow none (S ++ [SO.lst [.tup [.int 0, .int 0]]]) _).lst lst_new (fun z => nomatch z)
  rintro ρ S1 ⟨a, h, rfl, ha, hah, g1, l1, h1⟩
  refine wp_cut (fun ρ S2 => ∃ (c3 c5 c6 c7 : Option D) (cl : List Cell), ρ = [some (.ref st), some (.int turns), some (.ref a), c3, some (.ref h), c5, c6, c7] ∧ Grow none S S2 ∧ lstAt S2 a = some (cl.map cD) ∧ cl.length ≤ 10001 ∧ Gr cl) ?_ ?_
  · refine wp_rng il.length (fun k ρ S2 => ∃ (x : Cell) (c5 c6 c7 : Option D) (cl : List Cell), ρ = [some (.ref st), some (.int turns), some (.ref a), some (cD x), some (.ref h), c5, c6, c7] ∧ Grow none S S2 ∧ lstAt S2 a = some (cl.map cD) ∧ lstAt S2 h = some ([(1, 0), (0, 1), (-1, 0), (0, -1)].map cD) ∧ cl.length ≤ 100 * k + 1 ∧ Gr cl ∧ x ∈ cl) ?_ (by omega) ?_ ?_
    · walk_at "ev"
      rw [len_l (g1.lst hst fun z => nomatch z)]
      simp only [ok_ok, List.length_map]
      exact ⟨by first | trivial | rfl, (0, 0), none, none, none, [(0, 0)], rfl, g1, l1, h1, by simp, .one _, by simp⟩
    · rintro ρ S2 ⟨x, c5, c6, c7, cl, rfl, g2, l2, _, h3, h4, _⟩
      exact ⟨_, c5, c6, c7, cl, rfl, g2, l2, by omega, h4⟩
    rintro k ρ S2 hk ⟨x, c5, c6, c7, cl, rfl, g2, l2, h2, h3, h4, h5x⟩
    refine ⟨_, _, rfl, ?_⟩
    simp only [List.set_cons_succ, List.set_cons_zero]
    generalize hv : (k : Int) = v
    refine wp_cut (fun ρ S3 => ∃ y : Cell, ρ = [some (.ref st), some (.int turns), some (.ref a), some (cD x), some (.ref h), some (.int v), some (cD y), c7] ∧ S2 = S3 ∧ y ∈ ([(1, 0), (0, 1), (-1, 0), (0, -1)] : List Cell)) ?_ ?_
    · walk_at "ev"
      rw [mul_ii (.inl (by omega))]
      simp only [ok_ok, int_i]
      rw [mod_ii (by decide)]
      simp only [ok_ok]
      have hm1 := Int.emod_nonneg (turns * v) (show (4 : Int) ≠ 0 by decide)
      have hm2 := Int.emod_lt_of_pos (turns * v) (show (0 : Int) < 4 by decide)
      generalize turns * v % 4 = j at hm1 hm2
      obtain ⟨y, hy⟩ : ∃ y, ([(1, 0), (0, 1), (-1, 0), (0, -1)] : List Cell)[j.toNat]? = some y := ⟨_, List.getElem?_eq_getElem (by simp; omega)⟩
      have hy' : (([(1, 0), (0, 1), (-1, 0), (0, -1)] : List Cell).map cD)[j.toNat]? = some (cD y) := by rw [List.getElem?_map, hy]; rfl
      rw [ix_l h2 hy' (by omega)]
      exact ⟨y, by first | trivial | rfl, by first | trivial | rfl, List.mem_of_getElem? hy⟩
    rintro ρ S3 ⟨y, rfl, rfl, hyd⟩
    have ek : (il.map D.int)[k]? = some (.int il[k]) := by rw [List.getElem?_map, List.getElem?_eq_getElem hk]; rfl
    have hik := hil _ (List.getElem_mem hk)
    generalize il[k] = s at ek hik
    refine wp_rng s.toNat (fun m ρ S2 => ∃ (x : Cell) (c7 : Option D) (cl : List Cell), ρ = [some (.ref st), some (.int turns), some (.ref a), some (cD x), some (.ref h), some (.int v), some (cD y), c7] ∧ Grow none S S2 ∧ lstAt S2 a = some (cl.map cD) ∧ lstAt S2 h = some ([(1, 0), (0, 1), (-1, 0), (0, -1)].map cD) ∧ cl.length ≤ 100 * k + 1 + m ∧ Gr cl ∧ x ∈ cl) ?_ (by omega) ?_ ?_
    · walk_at "ev"
      rw [ix_l (g2.lst hst fun z => nomatch z) ek hv.symm]
      simp only [ok_ok]
      exact ⟨by rw [Int.toNat_of_nonneg hik.1], x, c7, cl, rfl, g2, l2, h2, by omega, h4, h5x⟩
    · rintro ρ S4 ⟨x, c7, cl, rfl, g4, l4, h5, h6, h7, h8⟩
      exact ⟨x, _, _, c7, cl, rfl, g4, l4, h5, by omega, h7, h8⟩
    rintro m ρ S4 hm ⟨x, c7, cl, rfl, g4, l4, h5, h6, h7, h8⟩
    refine ⟨_, _, rfl, ?_⟩
    walk_at "ev"
    simp only [ix_c0, ix_c1, ok_ok, add_ii]
    refine ⟨size1 (by decide), a, _, rfl, l4, ?_⟩
    rw [app_l l4 (by rw [sizeLine_eq, List.length_map]; omega)]
    simp only [ok_ok]
    exact ⟨(x.1 + y.1, x.2 + y.2), _, cl ++ [(x.1 + y.1, x.2 + y.2)], rfl, g4.set (.inl ha), by rw [lst_set (lst_lt l4), List.map_append]; rfl, by rw [lst_set_ne (by omega)]; exact h5, by rw [List.length_append, List.length_singleton]; omega, .snoc h7 h8 (.inl (by
      simp at hyd
      rcases hyd with e | e | e | e <;> subst e <;> simp [bes] <;> omega)), by simp⟩
  rintro ρ S2 ⟨c3, c5, c6, c7, cl, rfl, g2, l2, h3, h4⟩
  walk_at "ev"
  exact ⟨a, cl, rfl, l2, h3, h4, g2⟩
end Lw
end
section
set_option linter.all false
set_option maxRecDepth 100000
set_option maxHeartbeats 2000000
/-! V25: the drawn body: cells. -/
open SX in
local macro_rules | `(tactic| walk_at "ev") => `(tactic| simp only [startE, List.map_cons, List.map_nil, List.length_cons, List.length_nil, List.cons_append, List.nil_append, Nat.reduceAdd, Nat.reduceSub, List.replicate_succ, List.replicate_zero, wp_seq, wp_skip, wp_break, wp_cont, wp_ret, wp_retN, wp_expr, wp_asgN, wp_asg2, wp_fldS, ok_fldD, wp_asgS, wp_if, wp_par, wp_par3, wp_never, ok_v, ok_c, ok_op2, ok_op1, ok_bool, ok_tru, ok_and, ok_or, ok_not, ok_andV, ok_orV, ok_notV, ok_if, ok_nil, ok_cons, ok_tup, ok_lst, ok_call, ok_callF, ok_meth, ok_dm, ok_dnew, ok_sl, ok_partN, ok_partS, ok_seqI, List.getElem?_cons_zero, List.getElem?_cons_succ, List.set_cons_zero, List.set_cons_succ])
namespace SX
open PySem L2 Tie
theorem cut_take {xs : List D} {j : Int} (h : 0 ≤ j) : cutD xs none (some j) = xs.take j.toNat := by
  obtain ⟨n, rfl⟩ : ∃ n : Nat, j = (n : Int) := ⟨j.toNat, by omega⟩
  rw [Int.toNat_natCast]
  by_cases h : n ≤ xs.length
  · exact cut_to h
  · unfold cutD
    rw [HT.sIx_none, HT.sIx_nat, List.drop_zero, Nat.sub_zero, Nat.min_eq_right (by omega), List.take_of_length_le (by omega), List.take_of_length_le (by omega)]
end SX
namespace SX
open PySem L2 Tie
theorem ok_rg3c {gs : SA} {ρ : SX.Env} {S : Sto} {P : Itm → Sto → Prop} (h : Ok (gs ρ S) fun ds S1 => ∃ j : Int, ds = [.int 0, .int j, .int 2] ∧ 5 ≤ j ∧ j ≤ 7 ∧ ∀ n : Nat, n ≤ 4 → 2 * (n : Int) ≤ j + 1 → P ⟨rngListC 0 2 n, fun _ => true⟩ S1) : Ok (iRg3 gs ρ S) P := by
  unfold iRg3
  rw [ok_bind]
  refine h.imp fun ds S1 ⟨j, e, h5, h7, z⟩ => ?_
  subst e
  have hj : j = 5 ∨ j = 6 ∨ j = 7 := by omega
  rcases hj with e | e | e <;> subst e
  · show Ok (if _ then _ else _) P
    rw [if_pos (by decide)]
    exact z 3 (by decide) (by decide)
  · show Ok (if _ then _ else _) P
    rw [if_pos (by decide)]
    exact z 3 (by decide) (by decide)
  · show Ok (if _ then _ else _) P
    rw [if_pos (by decide)]
    exact z 4 (by decide) (by decide)
end SX
namespace Lw
open PySem L2 SX Tie
variable {ga : PySem.Str → Nat} {S : Sto} {p c : Nat}
theorem _root_.Tie.Gr.col {cl : List Cell} (h : Gr cl) {x : Int} (hb : (x, 0) ∈ cl) : ∀ n : Nat, Gr (cl ++ (List.range n).map fun (k : Nat) => (x, 1 + (0 + (k : Int))))
  | 0 => by simpa using h
  | n + 1 => by
    rw [List.range_succ, List.map_append, ← List.append_assoc]
    by_cases h0 : n = 0
    · subst h0
      refine .snoc (b := (x, 0)) (Tie.Gr.col h hb 0) (by simpa using hb) (.inl ?_)
      simp [bes]
    · refine .snoc (b := (x, 1 + (0 + ((n - 1 : Nat) : Int)))) (Tie.Gr.col h hb n) (List.mem_append_right _ (List.mem_map.mpr ⟨n - 1, List.mem_range.mpr (by omega), rfl⟩)) (.inl ?_)
      simp [bes]
      omega
def CellsOut (S : Sto) (p c : Nat) (v : Int) (d : D) (S' : Sto) : Prop := ∃ (a : Nat) (cl : List Cell), d = .ref a ∧ lstAt S' a = some (cl.map cD) ∧ cl.length ≤ v.toNat ∧ Gr cl ∧ Grow (some p) S S' ∧ Pen S' p (c + 100)
theorem cells_ok {v : Int} (hv : 12 ≤ v ∧ v ≤ 18) (pen : Pen S p c) (hc : c < 10000) : Ok (F__law_t2_cells ga [.ref p, .int v] S) (CellsOut S p c v) := by
  unfold F__law_t2_cells
  refine ok_runB ?_
  unfold b__law_t2_cells
  refine wp_cut (fun ρ S1 => ∃ (w : Int) (n : Nat), ρ = [some (.ref p), some (.int v), some (.int w), some (.int ((n : Int) + 1)), none, none, none, none, none] ∧ 0 ≤ w ∧ w < 9 ∧ (n : Int) < v ∧ Grow (some p) S S1 ∧ Pen S1 p (c + 2)) ?_ ?_
  · walk_at "ev"
    refine ⟨by first | trivial | rfl, (draw_ok pen (by omega) (by omega) (by omega)).imp fun d S1 ⟨w, ew, h1, h2, g1, p1⟩ => ?_⟩
    subst ew
    refine ⟨by first | trivial | rfl, (draw_ok p1 (by omega) (by omega) (by omega)).imp fun d S2 ⟨m, em, h3, h4, g2, p2⟩ => ?_⟩
    subst em
    simp only [add_ii, ok_ok]
    refine ⟨w, m.toNat, ?_, h1, h2, by omega, g1.trans g2, p2⟩
    rw [Int.toNat_of_nonneg h3, Int.add_comm]
  rintro ρ S1 ⟨w, n, rfl, hw1, hw2, hn, g1, p1⟩
  generalize hm : (n : Int) + 1 = m
  have hm1 : 1 ≤ m ∧ m ≤ v := by omega
  have hps := pen.lt1
  refine wp_cut (fun ρ S2 => ρ = [some (.ref p), some (.int v), some (.int w), some (.int m), none, none, none, none, none] ∧ S1 = S2 ∧ 5 ≤ w) ?_ ?_
  · walk_at "ev"
    rw [lt_ii]
    simp only [ok_ok]
    by_cases h5 : w < 5
    · rw [if_pos (decide_eq_true h5)]
      refine ⟨size1 (by decide), ?_⟩
      have hx : ([0, 0, 1, 1, 2] : List Int)[w.toNat]? = some (([0, 0, 1, 1, 2] : List Int)[w.toNat]'(by simp; omega)) := List.getElem?_eq_getElem _
      have hx' : (([0, 0, 1, 1, 2] : List Int).map D.int)[w.toNat]? = some (.int (([0, 0, 1, 1, 2] : List Int)[w.toNat]'(by simp; omega))) := by rw [List.getElem?_map, hx]; rfl
      generalize ([0, 0, 1, 1, 2] : List Int)[w.toNat]'(by simp; omega) = taste at hx'
      have gx : Grow none S1 (S1 ++ [SO.lst (([0, 0, 1, 1, 2] : List Int).map D.int)]) := Grow.app _
      rw [show [D.int 0, D.int 0, D.int 1, D.int 1, D.int 2] = ([0, 0, 1, 1, 2] : List Int).map D.int from rfl]
      rw [ix_l (i := w) (n := S1.length) (xs := ([0, 0, 1, 1, 2] : List Int).map D.int) lst_new hx' (by omega)]
      simp only [ok_ok]
      refine ⟨by first | trivial | rfl, (blob_ok (n := n) hm.symm (by omega) (p1.grow gx) (by omega)).imp fun d S2 ⟨a, cl, ed, l2, h1, hg, g2, p2⟩ => ?_⟩
      exact ⟨a, cl, ed, l2, by omega, hg, (g1.trans gx.any).trans g2, p2.more (by omega)⟩
    · rw [if_neg (by simpa using h5)]
      exact ⟨by first | trivial | rfl, by first | trivial | rfl, by omega⟩
  rintro ρ S2 ⟨rfl, rfl, h5⟩
  refine wp_cut (fun ρ S2 => ρ = [some (.ref p), some (.int v), some (.int w), some (.int m), none, none, none, none, none] ∧ S1 = S2) ?_ ?_
  · walk_at "ev"
    rw [eq_ii]
    simp only [ok_ok]
    by_cases h6 : w = 5
    · rw [if_pos (decide_eq_true h6)]
      simp only [dif_ii, ok_ok]
      have gx : Grow none S1 (S1 ++ [SO.lst ([m - 1].map D.int)]) := Grow.app _
      refine ⟨size1 (by decide), by first | trivial | rfl, (draw_ok (p1.grow gx) (by omega) (by omega) (by omega)).imp fun d S2 ⟨t, et, h1, h2, g2, p2⟩ => ?_⟩
      subst et
      have hp1 := p1.lt
      have l2 : lstAt S2 S1.length = some ([m - 1].map D.int) := g2.lst lst_new (fun z => by injection z; omega)
      refine ⟨by first | trivial | rfl, (way_ok l2 (fun x hx => by simp at hx; omega) (by simp) ⟨h1, by omega⟩).imp fun d S3 ⟨a, cl, ed, l3, h3, h4, g3⟩ => ?_⟩
      subst ed
      rw [sl_l l3, cut_take (by omega)]
      refine ⟨S3.length, cl.take m.toNat, rfl, ?_, ?_, h4.take _ (by omega), (((g1.trans gx.any).trans g2).trans g3.any).trans (Grow.app _), ((p2.grow g3).grow (Grow.app _)).more (by omega)⟩
      · rw [lst_new, List.map_take]
      · rw [List.length_take]; omega
    · rw [if_neg (by simpa using h6)]
      exact ⟨by first | trivial | rfl, by first | trivial | rfl⟩
  rintro ρ S2 ⟨rfl, rfl⟩
  have f6 : ∀ (i : Int) (S : Sto), gFdiv (.int i) (.int 6) S = .ok (.int (i / 6)) S := fun i S => fdiv_ii ⟨by decide, by decide⟩
  have f2 : ∀ (i : Int) (S : Sto), gFdiv (.int i) (.int 2) S = .ok (.int (i / 2)) S := fun i S => fdiv_ii ⟨by decide, by decide⟩
  have f3 : ∀ (i : Int) (S : Sto), gFdiv (.int i) (.int 3) S = .ok (.int (i / 3)) S := fun i S => fdiv_ii ⟨by decide, by decide⟩
  refine wp_cut (fun ρ S2 => ρ = [some (.ref p), some (.int v), some (.int w), some (.int m), none, none, none, none, none] ∧ S1 = S2) ?_ ?_
  · walk_at "ev"
    rw [eq_ii]
    simp only [ok_ok]
    by_cases h6 : w = 6
    · rw [if_pos (decide_eq_true h6)]
      simp only [f6, add_ii, ok_ok]
      refine ⟨by first | trivial | rfl, (draw_ok p1 (by omega) (by omega) (by omega)).imp fun d S2 ⟨a, ea, ha1, ha2, g2, p2⟩ => ?_⟩
      subst ea
      simp only [add_ii, ok_ok, f6]
      refine ⟨by first | trivial | rfl, (draw_ok p2 (by omega) (by omega) (by omega)).imp fun d S3 ⟨b, eb, hb1, hb2, g3, p3⟩ => ?_⟩
      subst eb
      simp only [add_ii, ok_ok, List.set_cons_zero, List.set_cons_succ, List.getElem?_cons_zero, List.getElem?_cons_succ]
      refine ⟨size1 (by decide), ?_⟩
      have gx : Grow none S3 (S3 ++ [SO.lst ([2 + a, 2 + b, 2 + a, 2 + b].map D.int)]) := Grow.app _
      refine ⟨by first | trivial | rfl, (way_ok (il := [2 + a, 2 + b, 2 + a, 2 + b]) lst_new (fun x hx => by simp at hx; omega) (by simp) ⟨by decide, by decide⟩).imp fun d S4 ⟨q, cl, ed, l4, h3, h4, g4⟩ => ?_⟩
      subst ed
      rw [mul_ii (.inl (by omega))]
      simp only [ok_ok]
      have p4 := (p3.grow gx).grow g4
      obtain ⟨_, _, _, _, _, _, hpd, _⟩ := p4.ex
      have hqp : q ≠ p := lst_ne_dct l4 hpd
      refine ⟨by first | trivial | rfl, (draw_ok p4 (by omega) (by omega) (by omega)).imp fun d S5 ⟨e, ee, he1, he2, g5, p5⟩ => ?_⟩
      subst ee
      simp only [dif_ii, ok_ok, max_ii]
      have l5 : lstAt S5 q = some (cl.map cD) := g5.lst l4 (fun z => hqp (Option.some.inj z))
      rw [sl_l l5, cut_take (by omega)]
      simp only [ok_ok]
      rw [sl_l lst_new, cut_take (by omega)]
      simp only [ok_ok]
      refine ⟨_, (cl.take (max 2 (2 * (2 + a + (2 + b)) - e)).toNat).take v.toNat, rfl, ?_, ?_, ?_, (((((g1.trans g2).trans g3).trans gx.any).trans g4.any).trans g5).trans ((Grow.app _).trans (Grow.app _)), ((p5.grow (Grow.app _)).grow (Grow.app _)).more (by omega)⟩
      · rw [lst_new, List.map_take, List.map_take]
      · rw [List.length_take]; omega
      · exact (h4.take _ (by omega)).take _ (by omega)
    · rw [if_neg (by simpa using h6)]
      exact ⟨by first | trivial | rfl, by first | trivial | rfl⟩
  rintro ρ S2 ⟨rfl, rfl⟩
  refine wp_cut (fun ρ S2 => ρ = [some (.ref p), some (.int v), some (.int w), some (.int m), none, none, none, none, none] ∧ S1 = S2) ?_ ?_
  · walk_at "ev"
    rw [eq_ii]
    simp only [ok_ok]
    by_cases h7 : w = 7
    · rw [if_pos (decide_eq_true h7)]
      have key : ∀ (x : Int) (S3 : Sto), 0 ≤ x → x ≤ 100 → Ok (sOp2 gMul (sOp2 gFdiv (sOp2 gAdd (sVar 7) (sC (.int 2))) (sC (.int 2))) (sC (.int 2)) [some (.ref p), some (.int v), some (.int w), some (.int m), none, none, none, some (.int x), none] S3) fun d S4 => d = .int ((x + 2) / 2 * 2) ∧ Grow none S3 S4 := by
        intro x S3 h0 h1
        walk_at "ev"
        simp only [add_ii, ok_ok, f2]
        have hm' : gMul (.int ((x + 2) / 2)) (.int 2) S3 = .ok (.int ((x + 2) / 2 * 2)) S3 := mul_ii (.inl ⟨by omega, by omega⟩)
        rw [hm']
        exact ⟨rfl, Grow.refl⟩
      rw [ok_lc, ok_rg1]
      walk_at "ev"
      refine ⟨v, rfl, small_r ⟨by omega, by omega⟩, ?_⟩
      unfold rngList
      refine ok_lcGo (S0 := S1) (enc := fun (k : Nat) => D.int (0 + (k : Int))) (up := fun k => [some (.ref p), some (.int v), some (.int w), some (.int m), none, none, none, some (.int (0 + (k : Int))), none]) (fun _ => true) (fun k => D.int ((0 + (k : Int) + 2) / 2 * 2)) rfl (List.range v.toNat) (fun _ _ _ => rfl) (fun _ _ => rfl) (by rw [sizeLine_eq, List.length_range]; omega) ?_ ?_ ?_
      · intro k S3 _ _
        exact ⟨rfl, Grow.refl⟩
      · intro k S3 hk _ g3
        rw [List.mem_range] at hk
        have hk1 : 0 ≤ 0 + (k : Int) ∧ 0 + (k : Int) ≤ 100 := by omega
        generalize 0 + (k : Int) = x at hk1
        exact key x S3 hk1.1 hk1.2
      · intro S3 g3 l3
        have l3' : lstAt S3 S1.length = some (((List.range v.toNat).map fun (k : Nat) => (0 + (k : Int) + 2) / 2 * 2).map D.int) := by
          rw [l3, List.map_map, List.filter_eq_self.mpr (fun _ _ => rfl)]; rfl
        refine ⟨by first | trivial | rfl, (way_ok l3' (fun x hx => by
          obtain ⟨k, hk, rfl⟩ := List.mem_map.mp hx
          rw [List.mem_range] at hk
          omega) (by rw [List.length_map, List.length_range]; omega) ⟨by decide, by decide⟩).imp fun d S4 ⟨q, cl, ed, l4, h3, h4, g4⟩ => ?_⟩
        subst ed
        rw [sl_l l4, cut_take (by omega)]
        refine ⟨S4.length, cl.take m.toNat, rfl, ?_, ?_, h4.take _ (by omega), ((g1.trans g3.any).trans g4.any).trans (Grow.app _), (((p1.grow g3).grow g4).grow (Grow.app _)).more (by omega)⟩
        · rw [lst_new, List.map_take]
        · rw [List.length_take]; omega
    · rw [if_neg (by simpa using h7)]
      exact ⟨by first | trivial | rfl, by first | trivial | rfl⟩
  rintro ρ S2 ⟨rfl, rfl⟩
  refine wp_cut (fun ρ S2 => ∃ (r : Nat) (n : Nat), ρ = [some (.ref p), some (.int v), some (.int w), some (.int m), none, none, some (.ref r), none, none] ∧ Grow none S1 S2 ∧ lstAt S2 r = some (((List.range n).map fun (k : Nat) => ((k : Int), (0 : Int))).map cD) ∧ (n : Int) = 1 + v / 3) ?_ ?_
  · walk_at "ev"
    rw [ok_lc, ok_rg1]
    walk_at "ev"
    simp only [f3, ok_ok, add_ii]
    refine ⟨_, rfl, small_r ⟨by omega, by omega⟩, ?_⟩
    unfold rngList
    refine ok_lcGo (S0 := S1) (enc := fun (k : Nat) => D.int (0 + (k : Int))) (up := fun k => [some (.ref p), some (.int v), some (.int w), some (.int m), none, none, none, some (.int (0 + (k : Int))), none]) (fun _ => true) (fun k => cD ((k : Int), 0)) rfl (List.range (1 + v / 3).toNat) (fun _ _ _ => rfl) (fun _ _ => rfl) (by rw [sizeLine_eq, List.length_range]; omega) ?_ ?_ ?_
    · intro k S3 _ _
      exact ⟨rfl, Grow.refl⟩
    · intro k S3 hk _ g3
      walk_at "ev"
      refine ⟨size1 (by decide), ?_, Grow.refl⟩
      rw [Int.zero_add]; rfl
    · intro S3 g3 l3
      refine ⟨S1.length, (1 + v / 3).toNat, by first | trivial | rfl, g3, ?_, by omega⟩
      rw [l3, List.map_map, List.filter_eq_self.mpr (fun _ _ => rfl)]; rfl
  rintro ρ S2 ⟨r, nn, rfl, g2, l2, hnn⟩
  have hrow : ∀ k : Nat, k < nn → ((k : Int), (0 : Int)) ∈ (List.range nn).map fun (k : Nat) => ((k : Int), (0 : Int)) := fun k hk => List.mem_map.mpr ⟨k, List.mem_range.mpr hk, rfl⟩
  have hgr0 : ∀ n, 1 ≤ n → Gr ((List.range n).map fun (k : Nat) => ((k : Int), (0 : Int))) := by
    intro n hn
    induction n with
    | zero => omega
    | succ n ih =>
      by_cases h0 : n = 0
      · subst h0; exact .one _
      · rw [List.range_succ, List.map_append]
        refine .snoc (b := (((n - 1 : Nat) : Int), 0)) (ih (by omega)) (List.mem_map.mpr ⟨n - 1, List.mem_range.mpr (by omega), rfl⟩) (.inl ?_)
        simp [bes]
        omega
  refine wp_cut (fun ρ S3 => ∃ (r : Nat) (c7 c8 : Option D) (cl : List Cell), ρ = [some (.ref p), some (.int v), some (.int w), some (.int m), none, none, some (.ref r), c7, c8] ∧ Grow (some p) S S3 ∧ Pen S3 p (c + 2 + 4) ∧ lstAt S3 r = some (cl.map cD) ∧ Gr cl) ?_ ?_
  · rw [wp_for]
    refine ok_rg3c ?_
    walk_at "ev"
    simp only [f3, ok_ok, add_ii]
    refine ⟨1 + v / 3, by first | trivial | rfl, by omega, by omega, fun q hq hq2 => ?_⟩
    unfold rngListC
    refine wp_walk (fun dn ρ S3 => ∃ (r : Nat) (c7 c8 : Option D) (cl : List Cell), ρ = [some (.ref p), some (.int v), some (.int w), some (.int m), none, none, some (.ref r), c7, c8] ∧ Grow (some p) S S3 ∧ Pen S3 p (c + 2 + dn.length) ∧ lstAt S3 r = some (cl.map cD) ∧ Gr cl ∧ cl.length ≤ 7 + 4 * dn.length ∧ ∀ k : Nat, k < nn → ((k : Int), (0 : Int)) ∈ cl) (List.range q) [] _ _ (fun _ _ _ _ => rfl) ?_ ?_ ⟨r, none, none, _, rfl, g1.trans g2.any, p1.grow g2, l2, hgr0 nn (by omega), by rw [List.length_map, List.length_range]; simp; omega, hrow⟩
    · rintro ρ S3 ⟨r, c7, c8, cl, rfl, g3, p3, l3, h3, h4, h5⟩
      rw [List.nil_append, List.length_range] at p3
      exact ⟨r, c7, c8, cl, rfl, g3, p3.more (by omega), l3, h3⟩
    rintro d2 a t2 ρ S3 ea ⟨r, c7, c8, cl, rfl, g3, p3, l3, h3, h4, h5⟩
    refine ⟨_, _, rfl, ?_⟩
    simp only [List.set_cons_succ, List.set_cons_zero]
    rw [List.nil_append] at ea
    have ha : a < q := List.mem_range.mp (by rw [ea]; simp)
    have hbase : (0 + (a : Int) * 2, (0 : Int)) ∈ cl := by
      have := h5 (2 * a) (by omega)
      rw [show ((2 * a : Nat) : Int) = 0 + (a : Int) * 2 by omega] at this
      exact this
    generalize 0 + (a : Int) * 2 = x at hbase
    obtain ⟨_, _, _, _, _, _, hpd, _⟩ := p3.ex
    have rp : r ≠ p := lst_ne_dct l3 hpd
    have hdl : d2.length < q := by
      have := congrArg List.length ea
      rw [List.length_range, List.length_append, List.length_cons] at this
      omega
    walk_at "ev"
    rw [ok_lc, ok_rg1]
    walk_at "ev"
    refine ⟨by first | trivial | rfl, (draw_ok p3 (by omega) (by omega) (by omega)).imp fun d S4 ⟨t, et, ht1, ht2, g4, p4⟩ => ?_⟩
    subst et
    refine ⟨t, rfl, small_r ⟨by omega, by omega⟩, ?_⟩
    unfold rngList
    refine ok_lcGo (S0 := S4) (enc := fun (k : Nat) => D.int (0 + (k : Int))) (up := fun k => [some (.ref p), some (.int v), some (.int w), some (.int m), none, none, some (.ref r), some (.int x), some (.int (0 + (k : Int)))]) (fun _ => true) (fun k => cD (x, 1 + (0 + (k : Int)))) rfl (List.range t.toNat) (fun _ _ _ => rfl) (fun _ _ => rfl) (by rw [sizeLine_eq, List.length_range]; omega) ?_ ?_ ?_
    · intro k S5 _ _
      exact ⟨rfl, Grow.refl⟩
    · intro k S5 hk _ g5
      generalize 0 + (k : Int) = y
      walk_at "ev"
      simp only [add_ii, ok_ok]
      exact ⟨size1 (by decide), rfl, Grow.refl⟩
    · intro S5 g5 l5
      have l4 : lstAt S5 r = some (cl.map cD) := g5.lst (g4.lst l3 (fun z => rp (Option.some.inj z))) (fun z => nomatch z)
      rw [List.filter_eq_self.mpr (fun _ _ => rfl)] at l5
      rw [cat_l l4 l5 (by rw [sizeLine_eq, List.length_map, List.length_map, List.length_range]; omega)]
      simp only [ok_ok]
      refine ⟨_, _, _, cl ++ (List.range t.toNat).map (fun (k : Nat) => (x, 1 + (0 + (k : Int)))), rfl, ((g3.trans g4).trans g5.any).trans (Grow.app _), ((p4.grow g5).grow (Grow.app _)).more (by rw [List.length_append, List.length_singleton]; omega), ?_, ?_, ?_, fun k hk => List.mem_append_left _ (h5 k hk)⟩
      · rw [lst_new, List.map_append, List.map_map]; rfl
      · exact h3.col hbase _
      · rw [List.length_append, List.length_append, List.length_map, List.length_range, List.length_singleton]; omega
  rintro ρ S3 ⟨r, c7, c8, cl, rfl, g3, p3, l3, h3⟩
  walk_at "ev"
  rw [max_ii]
  simp only [ok_ok]
  rw [sl_l l3, cut_take (by omega)]
  refine ⟨_, cl.take (max 1 v).toNat, rfl, ?_, ?_, h3.take _ (by omega), g3.trans (Grow.app _), (p3.grow (Grow.app _)).more (by omega)⟩
  · rw [lst_new, List.map_take]
  · rw [List.length_take]; omega
end Lw
end
section
set_option linter.all false
set_option maxRecDepth 100000
set_option maxHeartbeats 2000000
/-! V26: the drawn body. -/
open SX in
local macro_rules | `(tactic| walk_at "ev") => `(tactic| simp only [startE, List.map_cons, List.map_nil, List.length_cons, List.length_nil, List.cons_append, List.nil_append, Nat.reduceAdd, Nat.reduceSub, List.replicate_succ, List.replicate_zero, wp_seq, wp_skip, wp_break, wp_cont, wp_ret, wp_retN, wp_expr, wp_asgN, wp_asg2, wp_fldS, ok_fldD, wp_asgS, wp_if, wp_par, wp_par3, wp_never, ok_v, ok_c, ok_op2, ok_op1, ok_bool, ok_tru, ok_and, ok_or, ok_not, ok_andV, ok_orV, ok_notV, ok_if, ok_nil, ok_cons, ok_tup, ok_lst, ok_call, ok_callF, ok_meth, ok_dm, ok_dnew, ok_sl, ok_partN, ok_partS, ok_seqI, List.getElem?_cons_zero, List.getElem?_cons_succ, List.set_cons_zero, List.set_cons_succ])
namespace Tie
open SX
theorem Gr.map {cl : List Cell} (h : Gr cl) {f : Cell → Cell} (hf : ∀ a b, a ∈ bes b → f a ∈ bes (f b)) : Gr (cl.map f) := by
  induction h with
  | one c => exact .one _
  | @snoc cl b c g hb hc ih =>
    rw [List.map_append]
    refine .snoc (b := f b) ih (List.mem_map.mpr ⟨b, hb, rfl⟩) ?_
    rcases hc with hc | hc
    · exact .inl (hf _ _ hc)
    · exact .inr (List.mem_map.mpr ⟨c, hc, rfl⟩)
/-- a drawn body -/
structure Bdy (cs : List Cell) (n : Nat) : Prop where
  nd : cs.Nodup
  len : cs.length ≤ n
  cn : Conn fun c => c ∈ cs
  st : ∃ ds, cs = srtC ds
end Tie
namespace Lw
open PySem L2 SX Tie
variable {ga : PySem.Str → Nat} {S : Sto} {p c : Nat}
def place (t : Bool) (b0 b1 : Int) (c : Cell) : Cell := if t = true then (c.2 + b0, c.1 + b1) else (c.1 + b0, c.2 + b1)
theorem place_bes {t : Bool} {b0 b1 : Int} (a b : Cell) (h : a ∈ bes b) : place t b0 b1 a ∈ bes (place t b0 b1 b) := by
  obtain ⟨a1, a2⟩ := a
  obtain ⟨d1, d2⟩ := b
  unfold bes at *
  simp only [List.mem_cons, List.not_mem_nil, or_false, Prod.mk.injEq] at h
  unfold place
  cases t
  · simp only [Bool.false_eq_true, if_false, List.mem_cons, List.not_mem_nil, or_false, Prod.mk.injEq]
    omega
  · simp only [if_true, List.mem_cons, List.not_mem_nil, or_false, Prod.mk.injEq]
    omega
theorem body_ok {v : Int} (hv : 12 ≤ v ∧ v ≤ 18) (pen : Pen S p c) (hc : c < 5000) : Ok (F__law_t2_body ga [.ref p, .int v] S) fun d S' => ∃ cs, d = bD cs ∧ Bdy cs v.toNat ∧ Grow (some p) S S' ∧ Pen S' p (c + 200) := by
  unfold F__law_t2_body
  refine ok_runB ?_
  unfold b__law_t2_body
  have hps := pen.lt1
  refine wp_cut (fun ρ S1 => ∃ (far : Int) (a : Nat) (cl : List Cell), ρ = [some (.ref p), some (.int v), some (.int far), some (.ref a), none, none, none, none, none] ∧ 0 ≤ far ∧ far ≤ 1000000000000000 ∧ lstAt S1 a = some (cl.map cD) ∧ cl.length ≤ v.toNat ∧ Gr cl ∧ Grow (some p) S S1 ∧ Pen S1 p (c + 101)) ?_ ?_
  · walk_at "ev"
    rw [pow_ii ⟨by decide, by decide, by decide⟩]
    simp only [ok_ok]
    refine ⟨size1 (by decide), ?_⟩
    have gx : Grow none S (S ++ [SO.lst ([0, 0, 1, (10 : Int) ^ (15 : Int).toNat].map D.int)]) := Grow.app _
    refine ⟨by first | trivial | rfl, (pick_ok (m := S.length) (ds := [0, 0, 1, (10 : Int) ^ (15 : Int).toNat].map D.int) (pen.grow gx) (by omega) lst_new (by simp) (by simp)).imp fun d S1 ⟨hd, g1, p1⟩ => ?_⟩
    obtain ⟨far, hf, rfl⟩ := List.mem_map.mp hd
    have hfar : 0 ≤ far ∧ far ≤ 1000000000000000 := by
      have e15 : (10 : Int) ^ (15 : Int).toNat = 1000000000000000 := by decide
      rw [e15] at hf
      simp at hf
      omega
    refine ⟨by first | trivial | rfl, (cells_ok hv p1 (by omega)).imp fun d S2 ⟨a, cl, ed, l2, h3, h4, g2, p2⟩ => ?_⟩
    subst ed
    exact ⟨far, a, cl, by first | trivial | rfl, hfar.1, hfar.2, l2, h3, h4, (gx.any.trans g1).trans g2, p2.more (by omega)⟩
  rintro ρ S1 ⟨far, a, cl, rfl, hf1, hf2, l1, hl, hg, g1, p1⟩
  refine wp_cut (fun ρ S2 => ∃ (b0 b1 : Int) (t : Bool), ρ = [some (.ref p), some (.int v), some (.int far), some (.ref a), some (.tup [.int b0, .int b1]), some (.bl t), none, none, none] ∧ lstAt S2 a = some (cl.map cD) ∧ Grow (some p) S S2 ∧ Pen S2 p (c + 104)) ?_ ?_
  · obtain ⟨_, _, _, _, _, _, hpd, _⟩ := p1.ex
    have ap : a ≠ p := lst_ne_dct l1 hpd
    walk_at "ev"
    refine ⟨by first | trivial | rfl, (draw_ok p1 (by omega) (by omega) (by omega)).imp fun d S2 ⟨x, ex, hx1, hx2, g2, p2⟩ => ?_⟩
    subst ex
    have m1 : gMul (.int (x - 4)) (.int far) S2 = .ok (.int ((x - 4) * far)) S2 := mul_ii (.inl ⟨by omega, by omega⟩)
    simp only [dif_ii, ok_ok, m1]
    refine ⟨by first | trivial | rfl, (draw_ok p2 (by omega) (by omega) (by omega)).imp fun d S3 ⟨y, ey, hy1, hy2, g3, p3⟩ => ?_⟩
    subst ey
    have m2 : gMul (.int (y - 4)) (.int far) S3 = .ok (.int ((y - 4) * far)) S3 := mul_ii (.inl ⟨by omega, by omega⟩)
    simp only [dif_ii, ok_ok, m2]
    refine ⟨size1 (by decide), by first | trivial | rfl, (draw_ok p3 (by omega) (by omega) (by omega)).imp fun d S4 ⟨z, ez, hz1, hz2, g4, p4⟩ => ?_⟩
    subst ez
    rw [eq_ii]
    simp only [ok_ok]
    refine ⟨_, _, _, by first | trivial | rfl, g4.lst (g3.lst (g2.lst l1 fun z => ap (Option.some.inj z)) fun z => ap (Option.some.inj z)) fun z => ap (Option.some.inj z), ((g1.trans g2).trans g3).trans g4, p4⟩
  clear g1 p1 l1
  rintro ρ S2 ⟨b0, b1, t, rfl, l2, g2, p2⟩
  refine wp_cut (fun ρ S3 => ∃ (r : Nat), ρ = [some (.ref p), some (.int v), some (.int far), some (.ref a), some (.tup [.int b0, .int b1]), some (.bl t), some (.ref r), none, none] ∧ lstAt S3 r = some [] ∧ S2.length ≤ r ∧ Grow none S2 S3) ?_ ?_
  · walk_at "ev"
    exact ⟨Nat.zero_le _, _, by first | trivial | rfl, lst_new, Nat.le_refl _, Grow.app _⟩
  rintro ρ S3 ⟨r, rfl, l3, hr, g3⟩
  refine wp_cut (fun ρ S3 => ∃ (r : Nat) (c7 c8 : Option D), ρ = [some (.ref p), some (.int v), some (.int far), some (.ref a), some (.tup [.int b0, .int b1]), some (.bl t), some (.ref r), c7, c8] ∧ lstAt S3 r = some ((cl.map (place t b0 b1)).map cD) ∧ Grow (some p) S S3 ∧ Pen S3 p (c + 104)) ?_ ?_
  · have hps2 := p2.lt1
    have hal := lst_lt l2
    refine wp_each2 cD ?_
    simp only [ok_v, List.getElem?_cons_zero, List.getElem?_cons_succ]
    refine ⟨_, cl, fun dn ρ S4 => ∃ (c7 c8 : Option D), ρ = [some (.ref p), some (.int v), some (.int far), some (.ref a), some (.tup [.int b0, .int b1]), some (.bl t), some (.ref r), c7, c8] ∧ lstAt S4 a = some (cl.map cD) ∧ lstAt S4 r = some ((dn.map (place t b0 b1)).map cD) ∧ Grow (some p) S S4 ∧ Pen S4 p (c + 104), Walk.at_, fun _ _ _ ⟨_, _, _, z, _⟩ => z, ?_, ?_, ⟨none, none, rfl, g3.lst l2 (fun z => nomatch z), l3, g2.trans g3.any, p2.grow g3⟩⟩
    · rintro ρ S4 ⟨c7, c8, rfl, _, l4, g4, p4⟩
      exact ⟨r, c7, c8, rfl, l4, g4, p4⟩
    rintro dn x td ρ S4 ex ⟨c7, c8, rfl, la, lr, g4, p4⟩
    refine ⟨_, _, rfl, ?_⟩
    have hdl : dn.length < cl.length := by rw [ex, List.length_append, List.length_cons]; omega
    simp only [List.set_cons_succ, List.set_cons_zero]
    have i0 : gIxA (.tup [.int b0, .int b1]) (.int 0) S4 = .ok (.int b0) S4 := ix_t (q := 0) rfl rfl
    have i1 : gIxA (.tup [.int b0, .int b1]) (.int 1) S4 = .ok (.int b1) S4 := ix_t (q := 1) rfl rfl
    walk_at "ev"
    simp only [truD, i0, i1, ok_ok, add_ii]
    refine ⟨r, _, rfl, lr, ?_⟩
    have hp : ∀ y : Cell, y = place t b0 b1 x → Ok (gAppend (.ref r) [cD y] S4) fun d S5 => ∃ (c7' c8' : Option D), [some (.ref p), some (.int v), some (.int far), some (.ref a), some (.tup [.int b0, .int b1]), some (.bl t), some (.ref r), some (.int x.1), some (.int x.2)] = [some (.ref p), some (.int v), some (.int far), some (.ref a), some (.tup [.int b0, .int b1]), some (.bl t), some (.ref r), c7', c8'] ∧ lstAt S5 a = some (cl.map cD) ∧ lstAt S5 r = some (((dn ++ [x]).map (place t b0 b1)).map cD) ∧ Grow (some p) S S5 ∧ Pen S5 p (c + 104) := by
      intro y hy
      rw [app_l lr (by rw [sizeLine_eq, List.length_map, List.length_map]; omega)]
      refine ⟨_, _, rfl, by rw [lst_set_ne (by omega)]; exact la, by rw [lst_set (lst_lt lr), hy, List.map_append, List.map_append]; rfl, g4.set (.inl (by have := g2.len; omega)), p4.set (by omega) (by omega)⟩
    cases t
    · simp only [Bool.false_eq_true, if_false]
      exact ⟨size1 (by decide), hp _ rfl⟩
    · simp only [if_true]
      exact ⟨size1 (by decide), hp _ rfl⟩
  rintro ρ S3 ⟨r, c7, c8, rfl, l3, g3, p3⟩
  walk_at "ev"
  obtain ⟨ds, e1, h1, h2⟩ := set_cells l3 (by rw [List.length_map]; omega)
  rw [e1]
  simp only [ok_ok]
  rw [sorted_s set_new]
  simp only [ok_ok]
  rw [tup_l lst_new]
  have gg := hg.map (f := place t b0 b1) place_bes
  have gr : Grow none S3 ((S3 ++ [SO.set (ds.map c2k)]) ++ [SO.lst ((srtC ds).map cD)]) := (Grow.app _).trans (Grow.app _)
  refine ⟨srtC ds, rfl, ⟨?_, ?_, ?_, ds, rfl⟩, g3.trans gr.any, (p3.grow gr).more (by omega)⟩
  · unfold srtC
    exact (srtBy_perm eC ds).nodup_iff.mpr h2
  · unfold srtC
    rw [(srtBy_perm eC ds).length_eq]
    have := nodup_len h2 (fun x hx => (h1 x).mp hx)
    rw [List.length_map] at this
    omega
  · refine gg.conn.congr fun x => ?_
    unfold srtC
    rw [(srtBy_perm eC ds).mem_iff]
    exact (h1 x).symm
end Lw
end
section
set_option linter.all false
set_option maxRecDepth 100000
set_option maxHeartbeats 2000000
/-! V27: an order that keeps the ties is a plan with the same end; orders by rounds. -/
namespace Tie
open SX
theorem paps_ms : ∀ {ms : List (Cell × Cell)} {ps : List Paper} {cs : List Cell}, Paps cs ms ps → ms = ps.map fun p => (p.s, p.e)
  | [], [], _, _ => rfl
  | [], _ :: _, _, h => h.elim
  | _ :: _, [], _, h => h.elim
  | m :: ms, p :: ps, cs, ⟨k1, k2⟩ => by
    rw [List.map_cons, ← paps_ms k2, k1.s, k1.e]
theorem good_mv {cs : List Cell} {p : Paper} (g : Good (occ cs) p) (cn : Conn fun c => occ cs c = true) : Mv cs (p.s, p.e) where
  s := occ_iff.mp g.s
  e := occ_not.mp g.e
  sup := ⟨p.u, g.sup⟩
  cn := (g.free cn).congr fun x => by unfold less; rw [occ_iff]
theorem good_tog {cs : List Cell} {p : Paper} (g : Good (occ cs) p) : tog (occ cs) p = occ (doneC cs (p.s, p.e)) := by
  funext c
  have h1 := tog_iff g c
  have h2 : occ (doneC cs (p.s, p.e)) c = true ↔ less (occ cs) p.s c ∨ c = p.e := by
    rw [occ_iff, doneC_mem]
    unfold less
    rw [occ_iff]
  cases e1 : Tie.tog (occ cs) p c <;> cases e2 : occ (doneC cs (p.s, p.e)) c
  · rfl
  · exact absurd (h1.mpr (h2.mp e2)) (by rw [e1]; exact Bool.false_ne_true)
  · exact absurd (h2.mpr (h1.mp e1)) (by rw [e2]; exact Bool.false_ne_true)
  · rfl
theorem good_mvs : ∀ {qs : List Paper} {cs : List Cell}, (Conn fun c => occ cs c = true) → AllGood (occ cs) qs → Mvs cs (qs.map fun p => (p.s, p.e)) ∧ run (occ cs) qs = occ (endC cs (qs.map fun p => (p.s, p.e)))
  | [], _, _, _ => ⟨trivial, rfl⟩
  | p :: qs, cs, cn, ⟨g, ag⟩ => by
    have e := good_tog g
    have cn2 := g.next cn
    rw [e] at ag cn2
    obtain ⟨a, b⟩ := good_mvs cn2 ag
    refine ⟨⟨good_mv g cn, a⟩, ?_⟩
    show run (Tie.tog (occ cs) p) qs = _
    rw [e]; exact b
theorem endC_keep : ∀ {ms : List (Cell × Cell)} {cs : List Cell}, cs.Nodup → (∃ ds, cs = srtC ds) → Mvs cs ms → (endC cs ms).Nodup ∧ ∃ ds, endC cs ms = srtC ds
  | [], cs, nd, st, _ => ⟨nd, st⟩
  | m :: ms, cs, nd, st, ⟨h1, h2⟩ => endC_keep (ms := ms) (doneC_nodup nd h1.e) ⟨_, rfl⟩ h2
theorem occ_eq {A B : List Cell} (h : occ A = occ B) (na : A.Nodup) (nb : B.Nodup) (sa : ∃ ds, A = srtC ds) (sb : ∃ ds, B = srtC ds) : A = B := by
  have pm : A.Perm B := (List.perm_ext_iff_of_nodup na nb).mpr fun c => by rw [← occ_iff, h, occ_iff]
  obtain ⟨da, rfl⟩ := sa
  obtain ⟨db, rfl⟩ := sb
  exact srtC_perm ((srtBy_perm eC da).symm.trans (pm.trans (srtBy_perm eC db)))
def mf (ms : List (Cell × Cell)) (i : Nat) : Cell × Cell := ms[i]?.getD ((0, 0), (0, 0))
theorem mf_at {ms : List (Cell × Cell)} {i : Nat} (h : i < ms.length) : ms[i]? = some (mf ms i) := by
  unfold mf
  rw [List.getElem?_eq_getElem h]; rfl
/-- an order keeps the ties -/
def Keeps (ps : List Paper) (ol : List Nat) : Prop := ∀ a b, a < ps.length → b < ps.length → nf ol a < nf ol b → tied (pf ps (nf ol a)) (pf ps (nf ol b)) → a < b
theorem nf_get {ol : List Nat} {i : Nat} (h : i < ol.length) : ol[i]? = some (nf ol i) := nf_at h
theorem Keeps.pre {ps : List Paper} {ol : List Nat} (pm : ol.Perm (List.range ps.length)) (k : Keeps ps ol) : ∀ (i j : Nat) (pre post : List Nat), i < j → j < ps.length → tied (pf ps i) (pf ps j) → ol = pre ++ j :: post → i ∈ pre := by
  intro i j pre post hij hj ht e
  have oll : ol.length = ps.length := by rw [pm.length_eq, List.length_range]
  have hi : i ∈ ol := pm.mem_iff.mpr (List.mem_range.mpr (by omega))
  obtain ⟨a, ha, ea⟩ := List.getElem_of_mem hi
  have e1 : nf ol a = i := by unfold nf; rw [List.getElem?_eq_getElem ha, ea]; rfl
  have e2 : nf ol pre.length = j := by
    unfold nf
    rw [e]
    simp
  have hb : pre.length < ol.length := by rw [e, List.length_append, List.length_cons]; omega
  have hab := k a pre.length (by omega) (by omega) (by rw [e1, e2]; exact hij) (by rw [e1, e2]; exact ht)
  have : ol[a]? = some i := by rw [List.getElem?_eq_getElem ha, ea]
  rw [e, List.getElem?_append_left hab] at this
  exact List.mem_of_getElem? this
theorem reorder_plan {ms : List (Cell × Cell)} {ps : List Paper} {cs : List Cell} (nd : cs.Nodup) (st : ∃ ds, cs = srtC ds) (cn : Conn fun c => c ∈ cs) (hm : Mvs cs ms) (hp : Paps cs ms ps) {ol : List Nat} (pm : ol.Perm (List.range ps.length)) (k : Keeps ps ol) : Mvs cs (ol.map (mf ms)) ∧ endC cs (ol.map (mf ms)) = endC cs ms := by
  obtain ⟨g1, g2⟩ := paps_good hm hp
  have cn' : Conn fun c => occ cs c = true := cn.congr fun x => occ_iff.symm
  obtain ⟨r1, _, r3⟩ := reorder g1 cn' pm (f := pf ps) (fun i hi => pf_at hi) (k.pre pm)
  obtain ⟨h1, h2⟩ := good_mvs cn' r1
  have em : (ol.map (pf ps)).map (fun p => (p.s, p.e)) = ol.map (mf ms) := by
    rw [List.map_map]
    refine List.map_congr_left fun i hi => ?_
    have hi' : i < ps.length := List.mem_range.mp (pm.mem_iff.mp hi)
    show ((pf ps i).s, (pf ps i).e) = mf ms i
    unfold mf
    rw [paps_ms hp, List.getElem?_map, pf_at hi']
    rfl
  rw [em] at h1 h2
  refine ⟨h1, ?_⟩
  obtain ⟨a1, a2⟩ := endC_keep nd st h1
  obtain ⟨b1, b2⟩ := endC_keep nd st hm
  refine occ_eq ?_ a1 b1 a2 b2
  rw [← h2, r3, g2]
end Tie
namespace Lw
open PySem L2 SX Tie
/-- indexes by rounds: those of the rounds ahead of k -/
structure RO2 (nu : List Nat) (n k : Nat) (o : List Nat) : Prop where
  nd : o.Nodup
  mem : ∀ x, x ∈ o ↔ x < n ∧ nf nu x < k
  srt : o.Pairwise fun x y => nf nu x ≤ nf nu y
theorem roundC_mem {nu : List Nat} {n m x : Nat} : x ∈ roundC nu n m ↔ x < n ∧ nf nu x = m := by
  unfold roundC
  rw [List.mem_filter, List.mem_range]
  simp
theorem roundC_nodup {nu : List Nat} {n m : Nat} : (roundC nu n m).Nodup := List.nodup_range.filter _
theorem RO2.start {nu : List Nat} {n : Nat} : RO2 nu n 0 [] := ⟨List.nodup_nil, fun x => by simp, .nil⟩
theorem RO2.next {nu : List Nat} {n k : Nat} {o l : List Nat} (h : RO2 nu n k o) (hl : l.Perm (roundC nu n k)) : RO2 nu n (k + 1) (o ++ l) where
  nd := by
    rw [List.nodup_append]
    refine ⟨h.nd, hl.nodup_iff.mpr roundC_nodup, fun x hx y hy e => ?_⟩
    subst e
    have := ((h.mem x).mp hx).2
    have := (roundC_mem.mp (hl.mem_iff.mp hy)).2
    omega
  mem := fun x => by
    rw [List.mem_append, h.mem, hl.mem_iff, roundC_mem]
    omega
  srt := by
    rw [List.pairwise_append]
    refine ⟨h.srt, ?_, fun x hx y hy => ?_⟩
    · refine List.Pairwise.imp_of_mem (R := fun _ _ => True) (fun {x y} hx hy _ => ?_) (List.pairwise_of_forall fun _ _ => trivial)
      rw [(roundC_mem.mp (hl.mem_iff.mp hx)).2, (roundC_mem.mp (hl.mem_iff.mp hy)).2]
      exact Nat.le_refl _
    · have := ((h.mem x).mp hx).2
      have := (roundC_mem.mp (hl.mem_iff.mp hy)).2
      omega
theorem RO2.perm {ps : List Paper} {nu o : List Nat} {n K : Nat} (r : RI ps nu n K) (h : RO2 nu n K o) : o.Perm (List.range n) := by
  refine (List.perm_ext_iff_of_nodup h.nd List.nodup_range).mpr fun x => ?_
  rw [h.mem, List.mem_range]
  exact ⟨fun z => z.1, fun z => ⟨z, r.lt x z⟩⟩
theorem RO2.keeps {ps : List Paper} {nu o : List Nat} {K : Nat} (r : RI ps nu ps.length K) (h : RO2 nu ps.length K o) : Keeps ps o := by
  intro a b ha hb hlt ht
  have oll : o.length = ps.length := by rw [(h.perm r).length_eq, List.length_range]
  have mb : nf o b < ps.length := ((h.mem _).mp (List.mem_of_getElem? (nf_get (by omega)))).1
  have h1 := (r.ok _ mb).1 _ hlt ht
  by_cases e : a < b
  · exact e
  have hne : a ≠ b := fun z => by rw [z] at hlt; omega
  have h2 : nf nu (nf o b) ≤ nf nu (nf o a) := by
    have := List.pairwise_iff_getElem.mp h.srt b a (by omega) (by omega) (by omega)
    have e1 : o[b]'(by omega) = nf o b := by unfold nf; rw [List.getElem?_eq_getElem (by omega)]; rfl
    have e2 : o[a]'(by omega) = nf o a := by unfold nf; rw [List.getElem?_eq_getElem (by omega)]; rfl
    rw [e1, e2] at this
    exact this
  omega
end Lw
end
section
set_option linter.all false
set_option maxRecDepth 100000
set_option maxHeartbeats 4000000
/-! V28: the law of rounds. -/
open SX in
local macro_rules | `(tactic| walk_at "ev") => `(tactic| simp only [startE, List.map_cons, List.map_nil, List.length_cons, List.length_nil, List.cons_append, List.nil_append, Nat.reduceAdd, Nat.reduceSub, List.replicate_succ, List.replicate_zero, wp_seq, wp_skip, wp_break, wp_cont, wp_ret, wp_retN, wp_expr, wp_asgN, wp_asg2, wp_fldS, ok_fldD, wp_asgS, wp_if, wp_par, wp_par3, wp_never, ok_v, ok_c, ok_op2, ok_op1, ok_bool, ok_tru, ok_and, ok_or, ok_not, ok_andV, ok_orV, ok_notV, ok_if, ok_nil, ok_cons, ok_tup, ok_lst, ok_call, ok_callF, ok_meth, ok_dm, ok_dnew, ok_sl, ok_partN, ok_partS, ok_seqI, List.getElem?_cons_zero, List.getElem?_cons_succ, List.set_cons_zero, List.set_cons_succ])
namespace Tie
open SX
theorem paps_small : ∀ {ms : List (Cell × Cell)} {ps : List Paper} {cs : List Cell}, cs.length ≤ 40 → Mvs cs ms → Paps cs ms ps → ∀ p ∈ ps, Lw.Small p
  | [], [], _, _, _, _, p, hp => nomatch hp
  | [], _ :: _, _, _, _, h, _, _ => h.elim
  | _ :: _, [], _, _, _, h, _, _ => h.elim
  | m :: ms, q :: ps, cs, hl, ⟨h1, h2⟩, ⟨k1, k2⟩, p, hp => by
    rcases List.mem_cons.mp hp with e | e
    · subst e
      exact ⟨k1.ul, Nat.le_trans k1.wit.len hl⟩
    · exact paps_small (Nat.le_trans (doneC_len h1.s) hl) h2 k2 p e
end Tie
namespace SX
open PySem L2 Tie
/-- numbers of indexes as a dict -/
def nuKv (nu o : List Nat) : List (D × D) := iKv (o.map fun x => (x, nf nu x))
section
variable {S : Sto} {n i : Nat} {nu o : List Nat}
theorem val_nu : valD (nuKv nu o) (nD i) = if i ∈ o then some (nD (nf nu i)) else none := by
  unfold nuKv
  rw [val_iKv]
  induction o with
  | nil => rfl
  | cons a o ih =>
    rw [List.map_cons, List.find?_cons]
    by_cases h : a = i
    · subst h
      rw [decide_eq_true rfl, if_pos List.mem_cons_self]
      rfl
    · rw [decide_eq_false h]
      simp only
      rw [ih]
      by_cases hi : i ∈ o
      · rw [if_pos hi, if_pos (List.mem_cons_of_mem _ hi)]
      · rw [if_neg hi, if_neg fun z => (List.mem_cons.mp z).elim (fun e => h e.symm) hi]
theorem in_nu (h : dctW S n = some (nuKv nu o)) : gInA (nD i) (.ref n) S = .ok (.bl (decide (i ∈ o))) S := by
  unfold gInA
  simp only
  rw [dctW_at h]
  simp only
  rw [if_pos (show clsOk (nuKv nu o) (nD i) = true from cls_iKv), val_nu]
  by_cases hi : i ∈ o
  · rw [if_pos hi, decide_eq_true hi]; rfl
  · rw [if_neg hi, decide_eq_false hi]; rfl
theorem ix_nu (h : dctW S n = some (nuKv nu o)) (hi : i ∈ o) : gIxA (.ref n) (nD i) S = .ok (nD (nf nu i)) S := ix_of h cls_iKv (by rw [val_nu, if_pos hi])
theorem set_nu (h : dctW S n = some (nuKv nu o)) (hi : i ∉ o) (hl : o.length < sizeLine) : gSetIxA (.ref n) (nD i) (nD (nf nu i)) S = some (S.set n (.dct (nuKv nu (o ++ [i])))) := by
  rw [set_of h cls_iKv (by unfold nuKv iKv; rw [List.length_map, List.length_map]; exact hl)]
  unfold nuKv
  rw [put_iKv (fun p hp => by
    obtain ⟨x, hx, rfl⟩ := List.mem_map.mp hp
    exact fun e => hi (e ▸ hx)), List.map_append]
  rfl
theorem list_nu (h : dctW S n = some (nuKv nu o)) : gListA [.ref n] S = .ok (.ref S.length) (S ++ [.lst (o.map nD)]) := by
  unfold gListA
  simp only
  rw [dctW_at h]
  simp only
  unfold nuKv iKv
  rw [List.map_map, List.map_map]
  rfl
theorem max_l {l : List Int} {a : Int} (h : lstAt S n = some ((a :: l).map D.int)) : ∃ m, gMM maxDD [.ref n] S = .ok (.int m) S ∧ m ∈ a :: l ∧ ∀ x ∈ a :: l, x ≤ m := by
  obtain ⟨m, h1, h2, h3⟩ := max_ints l a
  refine ⟨m, ?_, h2, h3⟩
  unfold gMM
  simp only
  rw [h, List.map_cons]
  simp only
  rw [if_pos (show mmOk (D.int a :: l.map D.int) = true from mmOk_ints (l := a :: l)), h1]
theorem sorted_nt {l : List Nat} (h : l.Pairwise (· ≤ ·)) : gSortedA [.tup (l.map nD)] S = .ok (.ref S.length) (S ++ [.lst (l.map nD)]) := by
  have e : l.map nD = (l.map fun (i : Nat) => (i : Int)).map D.int := by rw [List.map_map]; rfl
  rw [e, sorted_t sk_i, srtI_sorted]
  rw [List.pairwise_map]
  exact h.imp fun h => by omega
end
end SX
namespace Lw
open PySem L2 SX Tie
variable {ga : PySem.Str → Nat} {S : Sto}
theorem roundC_sorted {nu : List Nat} {n m : Nat} : (roundC nu n m).Pairwise (· ≤ ·) := (List.pairwise_lt_range.filter _).imp fun h => Nat.le_of_lt h
theorem roundsD_nil {nu : List Nat} {ps : List Paper} {K : Nat} (r : RI ps nu 0 K) : roundsD nu 0 K = .tup [] := by
  have : K = 0 := by
    cases K with
    | zero => rfl
    | succ K =>
      obtain ⟨j, hj, _⟩ := r.hit 0 (by omega)
      omega
  subst this
  rfl
theorem roundsD_get {nu : List Nat} {n K k : Nat} (h : k < K) : ((List.range K).map fun m => D.tup ((roundC nu n m).map nD))[k]? = some (.tup ((roundC nu n k).map nD)) := by
  rw [List.getElem?_map, List.getElem?_range h]; rfl
theorem pl_nat {l : List Nat} : ∀ x ∈ l.map nD, Pl 1 x := fun x hx => by
  obtain ⟨i, _, rfl⟩ := List.mem_map.mp hx
  exact .int _
theorem pl_nil : Pl 2 (D.tup []) := .tup (pl_nat (l := []))
theorem isi_tup {xs : List D} : gIsi [.tup xs, .ty "tuple"] S = .ok (.bl true) S := rfl
theorem law_ok (xs : List Int) : Ok (F_law ga [.rl xs] S) fun d _ => d = .bl true := by
  unfold F_law
  refine ok_runB ?_
  unfold b_law
  refine wp_cut (fun ρ S1 => ∃ p : Nat, ρ = [some (.rl xs), some (.ref p), none, none, none, none, none, none, none, none, none, none, none, none, none, none, none, none, none] ∧ Pen S1 p 0) ?_ ?_
  · walk_at "ev"
    refine ⟨by first | trivial | rfl, (pen_ok xs).imp fun d S1 ⟨p, ed, _, pn⟩ => ?_⟩
    subst ed
    exact ⟨p, by first | trivial | rfl, pn⟩
  rintro ρ S1 ⟨p, rfl, p1⟩
  refine wp_cut (fun ρ S1 => ∃ cs : List Cell, ρ = [some (.rl xs), some (.ref p), some (bD cs), none, none, none, none, none, none, none, none, none, none, none, none, none, none, none, none] ∧ Bdy cs 18 ∧ Pen S1 p 200) ?_ ?_
  · walk_at "ev"
    refine ⟨by first | trivial | rfl, (body_ok (by decide) p1 (by decide)).imp fun d S2 ⟨cs, ed, hb, _, p2⟩ => ?_⟩
    subst ed
    exact ⟨cs, by first | trivial | rfl, hb, p2.more (by omega)⟩
  clear p1
  rintro ρ S2 ⟨cs, rfl, hb, p2⟩
  have hbl : cs.length ≤ 18 := hb.len
  refine wp_cut (fun ρ S1 => ∃ (q1 q2 : Nat) (ms : List (Cell × Cell)) (bs : List (List Cell)), ρ = [some (.rl xs), some (.ref p), some (bD cs), some (.ref q1), some (.ref q2), none, none, none, none, none, none, none, none, none, none, none, none, none, none] ∧ lstAt S1 q1 = some (ms.map pD) ∧ lstAt S1 q2 = some (bs.map bD) ∧ Pen S1 p 300 ∧ Mvs cs ms ∧ ms.length ≤ 17 ∧ bs.getLast? = some (endC cs ms)) ?_ ?_
  · walk_at "ev"
    refine ⟨by first | trivial | rfl, (draw_ok p2 (by omega) (by omega) (by omega)).imp fun d S3 ⟨w, ew, h1, h2, g3, p3⟩ => ?_⟩
    subst ew
    refine ⟨by first | trivial | rfl, (plan_ok (n := w.toNat) (Int.toNat_of_nonneg h1).symm p3 (by omega) hb.nd (by omega)).imp fun d S4 ⟨q1, q2, ms, bs, ed, pb, p4, hm, hml, hbs⟩ => ?_⟩
    exact ⟨_, _, ed, q1, q2, ms, bs, by first | trivial | rfl, pb.l1, pb.l2, p4.more (by omega), hm, by omega, hbs⟩
  clear p2
  rintro ρ S3 ⟨q1, q2, ms, bs, rfl, l1, l2, p3, hm, hml, hbs⟩
  refine wp_cut (fun ρ S4 => ∃ (qp : Nat) (ps : List Paper), ρ = [some (.rl xs), some (.ref p), some (bD cs), some (.ref q1), some (.ref q2), some (.ref qp), none, none, none, none, none, none, none, none, none, none, none, none, none] ∧ Grow none S3 S4 ∧ lstAt S4 qp = some (ps.map papD) ∧ Paps cs ms ps) ?_ ?_
  · walk_at "ev"
    refine ⟨by first | trivial | rfl, (papers_ok hb.nd (by omega) l1 hm (by omega)).imp fun d S4 ⟨q, ps, ed, g4, l4, hp⟩ => ?_⟩
    subst ed
    exact ⟨q, ps, by first | trivial | rfl, g4, l4, hp⟩
  rintro ρ S4 ⟨qp, ps, rfl, g4, l4, hp⟩
  have psl : ps.length = ms.length := paps_len hp
  have hs : ∀ q ∈ ps, Small q := paps_small (by omega) hm hp
  refine wp_cut (fun ρ S5 => ∃ (qs qt : Nat) (ns : List Nat) (ts : List (Nat × Nat)), ρ = [some (.rl xs), some (.ref p), some (bD cs), some (.ref q1), some (.ref q2), some (.ref qp), some (.ref qs), some (.ref qt), none, none, none, none, none, none, none, none, none, none, none] ∧ Grow none S4 S5 ∧ lstAt S5 qs = some (ns.map D.ref) ∧ InsAll S5 (ga "Step") ns ps ∧ lstAt S5 qt = some (ts.map iD) ∧ (∀ i j, (i, j) ∈ ts ↔ i < j ∧ j < ps.length ∧ tied (pf ps i) (pf ps j)) ∧ ts.length ≤ 1000000) ?_ ?_
  · walk_at "ev"
    refine ⟨by first | trivial | rfl, (steps_ok l4 (by omega)).imp fun d S5 ⟨qs, ns, ed, g5, l5, i5⟩ => ?_⟩
    subst ed
    refine ⟨by first | trivial | rfl, (ties_ok (g5.lst l4 fun z => nomatch z) hs (by omega)).imp fun d S6 ⟨qt, ts, ed, g6, l6, h6, h7⟩ => ?_⟩
    subst ed
    exact ⟨qs, qt, ns, ts, by first | trivial | rfl, g5.trans g6, g6.lst l5 (fun z => nomatch z), i5.grow g6, l6, h6, h7⟩
  rintro ρ S5 ⟨qs, qt, ns, ts, rfl, g5, ls5, i5, lt5, hts, htl⟩
  refine wp_cut (fun ρ S6 => ∃ (nu : List Nat) (K qn : Nat) (rd : D), ρ = [some (.rl xs), some (.ref p), some (bD cs), some (.ref q1), some (.ref q2), some (.ref qp), some (.ref qs), some (.ref qt), some rd, some (.ref qn), none, none, none, none, none, none, none, none, none] ∧ rd = roundsD nu ps.length K ∧ Grow none S5 S6 ∧ RI ps nu ps.length K ∧ dctW S6 qn = some (nuKv nu []) ∧ S5.length ≤ qn) ?_ ?_
  · walk_at "ev"
    refine ⟨by first | trivial | rfl, (rounds_ok ls5 i5 hs (by omega)).imp fun d S6 ⟨nu, K, ed, g6, r⟩ => ?_⟩
    subst ed
    exact ⟨Nat.le_of_lt (small_sz (by decide)), _, _, rfl, nu, K, S6.length, _, by first | trivial | rfl, rfl, g6.trans (Grow.app _), r, dct_new, g6.len⟩
  rintro ρ S6 ⟨nu, K, qn, rd, rfl, hrd, g6, r, d6, hqn⟩
  have rIsi : ∀ S : Sto, gIsi [rd, .ty "tuple"] S = .ok (.bl true) S := fun S => by rw [hrd]; rfl
  have rLen : ∀ S : Sto, gLenA [rd] S = .ok (.int (K : Int)) S := fun S => by
    rw [hrd]; unfold roundsD; rw [len_t, List.length_map, List.length_range]
  have rIx : ∀ k, k < K → ∀ S : Sto, gIxA rd (.int (k : Int)) S = .ok (.tup ((roundC nu ps.length k).map nD)) S := fun k hk S => by
    rw [hrd]; exact ix_t (roundsD_get hk) rfl
  have rWk : Walk (fun _ => True) rd ((List.range K).map fun m => D.tup ((roundC nu ps.length m).map nD)) := by rw [hrd]; exact Walk.tup
  clear hrd
  have hK : K ≤ ps.length := by
    cases K with
    | zero => omega
    | succ K =>
      have hh := r.hit
      -- each number is hit by another index
      have hx : ∀ m, m < K + 1 → m ∈ (List.range ps.length).map (nf nu) := fun m hm => by
        obtain ⟨j, hj, e⟩ := hh m hm
        exact List.mem_map.mpr ⟨j, List.mem_range.mpr hj, e⟩
      have := nodup_len (List.nodup_range (n := K + 1)) (fun m hm => hx m (List.mem_range.mp hm))
      rw [List.length_range, List.length_map, List.length_range] at this
      exact this
  refine wp_cut (fun ρ S7 => ρ = [some (.rl xs), some (.ref p), some (bD cs), some (.ref q1), some (.ref q2), some (.ref qp), some (.ref qs), some (.ref qt), some rd, some (.ref qn), none, none, none, none, none, none, none, none, none] ∧ Grow none S6 S7) ?_ ?_
  · walk_at "ev"
    rw [rIsi]
    simp only [ok_ok, truD, Bool.not_true, Bool.false_eq_true, if_false]
    refine ⟨Nat.zero_le _, by first | trivial | rfl, (rounds_ok (ps := []) (ns := []) (q := S6.length) (S := S6 ++ [SO.lst []]) lst_new ⟨rfl, fun i n h => by simp at h⟩ (fun _ z => nomatch z) (by decide)).imp fun d S7 ⟨nu0, K0, ed, g7, r0⟩ => ?_⟩
    rw [ed, show ([] : List Paper).length = 0 from rfl, roundsD_nil r0]
    refine ⟨Nat.zero_le _, ?_⟩
    rw [gNe_pl (n := 2) (m := 2) pl_nil pl_nil (by omega) (by omega)]
    simp only [ok_ok, decide_true, Bool.not_true, Bool.false_eq_true, if_false]
    exact ⟨by first | trivial | rfl, (Grow.app _).trans g7⟩
  rintro ρ S7 ⟨rfl, g7⟩
  have d7 := g7.dct d6 (fun z => nomatch z)
  -- what stays from here on, but for the dict of numbers
  have g37 : Grow none S3 S7 := (((g4.trans g5).trans g6).trans g7)
  have p7 : Pen S7 p 300 := p3.grow g37
  have hqp : qn ≠ p ∧ qn ≠ p + 1 := by
    have := p3.lt1
    have := g4.len
    have := g5.len
    omega
  have lt7 : lstAt S7 qt = some (ts.map iD) := (g6.trans g7).lst lt5 (fun z => nomatch z)
  have l17 : lstAt S7 q1 = some (ms.map pD) := g37.lst l1 (fun z => nomatch z)
  have l27 : lstAt S7 q2 = some (bs.map bD) := g37.lst l2 (fun z => nomatch z)
  have lp7 : lstAt S7 qp = some (ps.map papD) := ((g5.trans g6).trans g7).lst l4 (fun z => nomatch z)
  have ls7 : lstAt S7 qs = some (ns.map D.ref) := (g6.trans g7).lst ls5 (fun z => nomatch z)
  have i7 : InsAll S7 (ga "Step") ns ps := i5.grow (g6.trans g7)
  refine wp_cut (fun ρ S8 => ∃ (c10 c11 : Option D) (o : List Nat), ρ = [some (.rl xs), some (.ref p), some (bD cs), some (.ref q1), some (.ref q2), some (.ref qp), some (.ref qs), some (.ref qt), some rd, some (.ref qn), c10, c11, none, none, none, none, none, none, none] ∧ Grow (some qn) S7 S8 ∧ dctW S8 qn = some (nuKv nu o) ∧ RO2 nu ps.length K o) ?_ ?_
  · refine wp_rng K (fun k ρ S8 => ∃ (c10 c11 : Option D) (o : List Nat), ρ = [some (.rl xs), some (.ref p), some (bD cs), some (.ref q1), some (.ref q2), some (.ref qp), some (.ref qs), some (.ref qt), some rd, some (.ref qn), c10, c11, none, none, none, none, none, none, none] ∧ Grow (some qn) S7 S8 ∧ dctW S8 qn = some (nuKv nu o) ∧ RO2 nu ps.length k o) ?_ (by omega) ?_ ?_
    · walk_at "ev"
      rw [rLen]
      simp only [ok_ok]
      exact ⟨by first | trivial | rfl, none, none, [], by first | trivial | rfl, Grow.refl, d7, .start⟩
    · rintro ρ S8 ⟨c10, c11, o, rfl, g8, d8, ro⟩
      exact ⟨c10, c11, o, rfl, g8, d8, ro⟩
    rintro k ρ S8 hk ⟨c10, c11, o, rfl, g8, d8, ro⟩
    refine ⟨_, _, rfl, ?_⟩
    simp only [List.set_cons_succ, List.set_cons_zero]
    have ixk := rIx k hk
    have nDk : D.int (k : Int) = nD k := rfl
    rw [nDk] at ixk ⊢
    generalize hkd : nD k = kd at ixk
    have rne : (roundC nu ps.length k).map nD ≠ [] := fun z => by
      obtain ⟨j, hj, e⟩ := r.hit k hk
      have : j ∈ roundC nu ps.length k := roundC_mem.mpr ⟨hj, e⟩
      rw [List.map_eq_nil_iff.mp z] at this
      exact nomatch this
    refine wp_cut (fun ρ S9 => ρ = [some (.rl xs), some (.ref p), some (bD cs), some (.ref q1), some (.ref q2), some (.ref qp), some (.ref qs), some (.ref qt), some rd, some (.ref qn), some kd, c11, none, none, none, none, none, none, none] ∧ Grow none S8 S9) ?_ ?_
    · walk_at "ev"
      simp only [ixk, ok_ok]
      rw [isi_tup]
      simp only [ok_ok, truD, Bool.not_true, Bool.false_eq_true, if_false, ixk]
      refine ⟨Nat.zero_le _, ?_⟩
      have he : gEq (.tup ((roundC nu ps.length k).map nD)) (.tup []) S8 = .ok (.bl false) S8 := by
        have h1 : decide (D.tup ((roundC nu ps.length k).map nD) = .tup []) = false := decide_eq_false fun z => rne (D.tup.inj z)
        rw [gEq_pl (n := 2) (m := 2) (.tup pl_nat) pl_nil (by omega) (by omega), h1]
      rw [he]
      simp only [ok_ok, Bool.false_eq_true, if_false, ixk]
      rw [list_t]
      simp only [ok_ok, ixk]
      rw [sorted_nt roundC_sorted]
      simp only [ok_ok]
      have gg : Grow none (S8 ++ [SO.lst ((roundC nu ps.length k).map nD)]) ((S8 ++ [SO.lst ((roundC nu ps.length k).map nD)]) ++ [SO.lst ((roundC nu ps.length k).map nD)]) := Grow.app _
      rw [gNe_lst (n := 3) (m := 3) (gg.lst lst_new fun z => nomatch z) lst_new pl_nats pl_nats (by omega) (by omega)]
      simp only [ok_ok, decide_true, Bool.not_true, Bool.false_eq_true, if_false]
      exact ⟨by first | trivial | rfl, (Grow.app _).trans (Grow.app _)⟩
    rintro ρ S9 ⟨rfl, g9⟩
    refine wp_each2 nD ?_
    walk_at "ev"
    simp only [ixk, ok_ok]
    refine ⟨fun _ => True, roundC nu ps.length k, fun dn ρ S10 => ∃ c11 : Option D, ρ = [some (.rl xs), some (.ref p), some (bD cs), some (.ref q1), some (.ref q2), some (.ref qp), some (.ref qs), some (.ref qt), some rd, some (.ref qn), some kd, c11, none, none, none, none, none, none, none] ∧ Grow (some qn) S7 S10 ∧ dctW S10 qn = some (nuKv nu (o ++ dn)), Walk.tup, fun _ _ _ _ => trivial, ?_, ?_, ⟨c11, by first | trivial | rfl, g8.trans g9.any, by rw [List.append_nil]; exact g9.dct d8 fun z => nomatch z⟩⟩
    · rintro ρ S10 ⟨c11, rfl, g10, d10⟩
      exact ⟨some kd, c11, _, rfl, g10, d10, ro.next (List.Perm.refl _)⟩
    rintro dn x td ρ S10 ex ⟨c11, rfl, g10, d10⟩
    refine ⟨_, _, rfl, ?_⟩
    have hx : x ∉ o ++ dn := by
      have hxr : x ∈ roundC nu ps.length k := by rw [ex]; simp
      rw [List.mem_append]
      rintro (z | z)
      · have := ((ro.mem x).mp z).2
        have := (roundC_mem.mp hxr).2
        omega
      · have nd : (roundC nu ps.length k).Nodup := roundC_nodup
        rw [ex, List.nodup_append] at nd
        exact nd.2.2 x z x List.mem_cons_self rfl
    have hxk : nf nu x = k := by
      have hxr : x ∈ roundC nu ps.length k := by rw [ex]; simp
      exact (roundC_mem.mp hxr).2
    have hlen : (o ++ dn).length < 100000 := by
      have h1 : o.length ≤ ps.length := by
        have := nodup_len ro.nd (fun y hy => List.mem_range.mpr ((ro.mem y).mp hy).1)
        rwa [List.length_range] at this
      have h2 : (roundC nu ps.length k).length ≤ ps.length := roundC_len
      have h3 := congrArg List.length ex
      rw [List.length_append, List.length_cons] at h3
      rw [List.length_append]
      omega
    simp only [List.set_cons_succ, List.set_cons_zero]
    walk_at "ev"
    rw [in_nu d10, decide_eq_false hx]
    simp only [ok_ok, Bool.false_eq_true, if_false]
    have hset := set_nu d10 hx (small_sz hlen)
    rw [hxk, hkd] at hset
    refine ⟨_, hset, some (nD x), by first | trivial | rfl, g10.set (.inr rfl), ?_⟩
    rw [dct_set (dct_lt d10), List.append_assoc]
  rintro ρ S8 ⟨c10, c11, o, rfl, g8, d8, ro⟩
  have opm : o.Perm (List.range ps.length) := ro.perm r
  have nqn : ∀ {a : Nat} {xs : List D}, lstAt S7 a = some xs → some a ≠ some qn := fun h z => lst_ne_dct h d7 (Option.some.inj z)
  have lp8 := g8.lst lp7 (nqn lp7)
  refine wp_cut (fun ρ S9 => ρ = [some (.rl xs), some (.ref p), some (bD cs), some (.ref q1), some (.ref q2), some (.ref qp), some (.ref qs), some (.ref qt), some rd, some (.ref qn), c10, c11, none, none, none, none, none, none, none] ∧ Grow none S8 S9) ?_ ?_
  · walk_at "ev"
    rw [list_nu d8]
    simp only [ok_ok]
    rw [sorted_nats lst_new opm]
    simp only [ok_ok]
    refine ok_lrg1 ?_
    walk_at "ev"
    have gx : Grow none S8 (S8 ++ [SO.lst (o.map nD)]) := Grow.app _
    have gy : Grow none (S8 ++ [SO.lst (o.map nD)]) ((S8 ++ [SO.lst (o.map nD)]) ++ [SO.lst ((List.range ps.length).map nD)]) := Grow.app _
    rw [len_l ((gx.trans gy).lst lp8 fun z => nomatch z)]
    simp only [ok_ok, List.length_map]
    refine ⟨ps.length, rfl, by omega, ?_⟩
    rw [gNe_lst (n := 3) (m := 3) ((Grow.app _ : Grow none ((S8 ++ [SO.lst (o.map nD)]) ++ [SO.lst ((List.range ps.length).map nD)]) _).lst lst_new fun z => nomatch z) lst_new pl_nats pl_nats (by omega) (by omega)]
    simp only [ok_ok, decide_true, Bool.not_true, Bool.false_eq_true, if_false]
    exact ⟨by first | trivial | rfl, (gx.trans gy).trans (Grow.app _)⟩
  rintro ρ S9 ⟨rfl, g9⟩
  have d9 := g9.dct d8 (fun z => nomatch z)
  have g79 : Grow (some qn) S7 S9 := g8.trans g9.any
  clear g9 d8
  refine wp_cut (fun ρ S10 => ∃ (c11 c12 : Option D), ρ = [some (.rl xs), some (.ref p), some (bD cs), some (.ref q1), some (.ref q2), some (.ref qp), some (.ref qs), some (.ref qt), some rd, some (.ref qn), c10, c11, c12, none, none, none, none, none, none] ∧ Grow none S9 S10) ?_ ?_
  · refine wp_rng ps.length (fun k ρ S10 => ∃ (c11 c12 : Option D), ρ = [some (.rl xs), some (.ref p), some (bD cs), some (.ref q1), some (.ref q2), some (.ref qp), some (.ref qs), some (.ref qt), some rd, some (.ref qn), c10, c11, c12, none, none, none, none, none, none] ∧ Grow none S9 S10) ?_ (by omega) ?_ ?_
    · walk_at "ev"
      rw [len_l (g79.lst lp7 (nqn lp7))]
      simp only [ok_ok, List.length_map]
      exact ⟨by first | trivial | rfl, c11, none, by first | trivial | rfl, Grow.refl⟩
    · rintro ρ S10 ⟨c11, c12, rfl, g10⟩
      exact ⟨c11, c12, rfl, g10⟩
    rintro k ρ S10 hk ⟨c11, c12, rfl, g10⟩
    refine ⟨_, _, rfl, ?_⟩
    simp only [List.set_cons_succ, List.set_cons_zero]
    have nDk : D.int (k : Int) = nD k := rfl
    rw [nDk]
    generalize hkd : nD k = kd
    have d10 := g10.dct d9 (fun z => nomatch z)
    have lt10 := g10.lst (g79.lst lt7 (nqn lt7)) (fun z => nomatch z)
    refine wp_cut (fun ρ S11 => ∃ a : Nat, ρ = [some (.rl xs), some (.ref p), some (bD cs), some (.ref q1), some (.ref q2), some (.ref qp), some (.ref qs), some (.ref qt), some rd, some (.ref qn), c10, some kd, some (.ref a), none, none, none, none, none, none] ∧ Grow none S10 S11 ∧ lstAt S11 a = some (((ts.filter fun t => decide (t.2 = k)).map fun t => (nf nu t.1 : Int)).map D.int)) ?_ ?_
    · walk_at "ev"
      rw [ok_lc]
      walk_at "ev"
      rw [itm_l lt10]
      simp only
      refine ok_lcGo (S0 := S10) (enc := iD) (up := fun t => [some (.rl xs), some (.ref p), some (bD cs), some (.ref q1), some (.ref q2), some (.ref qp), some (.ref qs), some (.ref qt), some rd, some (.ref qn), c10, some kd, c12, none, none, none, none, some (nD t.1), some (nD t.2)]) (fun t => decide (t.2 = k)) (fun t => nD (nf nu t.1)) rfl ts (fun _ _ _ => rfl) (fun S11 g11 => decide_eq_true (g11.lst lt10 fun z => nomatch z)) (by rw [sizeLine_eq]; omega) ?_ ?_ ?_
      · intro t S11 _ _
        walk_at "ev"
        rw [← hkd]
        unfold nD
        rw [eq_ii]
        refine ⟨?_, Grow.refl⟩
        by_cases e : t.2 = k
        · rw [decide_eq_true e, decide_eq_true (by rw [e])]
        · rw [decide_eq_false e, decide_eq_false (by omega)]
      · intro t S11 ht _ g11
        walk_at "ev"
        have hi : t.1 ∈ o := by
          have := (hts t.1 t.2).mp ht
          exact opm.mem_iff.mpr (List.mem_range.mpr (by omega))
        rw [ix_nu (g11.dct d10 fun z => nomatch z) hi]
        exact ⟨rfl, Grow.refl⟩
      · intro S11 g11 l11
        refine ⟨S10.length, by first | trivial | rfl, g11, ?_⟩
        rw [l11, List.map_map]
        rfl
    rintro ρ S11 ⟨a, rfl, g11, l11⟩
    walk_at "ev"
    rw [neg_i]
    simp only [ok_ok]
    refine ⟨size1 (by decide), ?_⟩
    obtain ⟨S12, e12⟩ : ∃ S12, S12 = S11 ++ [SO.lst [D.int (-1)]] := ⟨_, rfl⟩
    rw [← e12]
    have gx : Grow none S11 S12 := by rw [e12]; exact Grow.app _
    have lx : lstAt S12 S11.length = some ([(-1 : Int)].map D.int) := by rw [e12]; exact lst_new
    have l12 := gx.lst l11 (fun z => nomatch z)
    have hfl : (ts.filter fun t => decide (t.2 = k)).length ≤ ts.length := List.length_filter_le _ _
    generalize hL : (ts.filter fun t => decide (t.2 = k)).map (fun t => (nf nu t.1 : Int)) = L at l12
    have hLl : L.length ≤ 1000000 := by rw [← hL, List.length_map]; omega
    rw [cat_l lx l12 (by rw [sizeLine_eq, List.length_map, List.length_map]; simp; omega)]
    simp only [ok_ok]
    obtain ⟨S13, e13⟩ : ∃ S13, S13 = S12 ++ [SO.lst (([(-1 : Int)].map D.int) ++ L.map D.int)] := ⟨_, rfl⟩
    have gy : Grow none S12 S13 := by rw [e13]; exact Grow.app _
    have l13 : lstAt S13 S12.length = some ((-1 :: L).map D.int) := by rw [e13]; exact lst_new
    obtain ⟨m, hm1, hm2, hm3⟩ := max_l l13
    have d13 := ((g11.trans gx).trans gy).dct d10 (fun z => nomatch z)
    have hko : k ∈ o := opm.mem_iff.mpr (List.mem_range.mpr hk)
    have hix := ix_nu d13 hko
    rw [hkd] at hix
    have hnu : m + 1 = (nf nu k : Int) := by
      obtain ⟨q1, q2⟩ := r.ok k hk
      have up : m + 1 ≤ (nf nu k : Int) := by
        rcases List.mem_cons.mp hm2 with e | e
        · omega
        · rw [← hL] at e
          obtain ⟨t, ht, e⟩ := List.mem_map.mp e
          rw [List.mem_filter] at ht
          have h2 : t.2 = k := of_decide_eq_true ht.2
          obtain ⟨a1, a2, a3⟩ := (hts t.1 t.2).mp ht.1
          rw [h2] at a1 a3
          have := q1 t.1 a1 a3
          omega
      rcases q2 with e | ⟨i, a1, a2, a3⟩
      · have := hm3 (-1) List.mem_cons_self
        omega
      · have : ((nf nu i : Nat) : Int) ≤ m := hm3 _ (List.mem_cons_of_mem _ (by rw [← hL]; exact List.mem_map.mpr ⟨(i, k), List.mem_filter.mpr ⟨(hts i k).mpr ⟨a1, hk, a2⟩, decide_eq_true rfl⟩, rfl⟩))
        omega
    have hne : ∀ S : Sto, gNe (.int (m + 1)) (nD (nf nu k)) S = .ok (.bl false) S := fun S => by
      rw [hnu]
      unfold nD
      rw [ne_ii, decide_eq_true rfl]
      rfl
    rw [← e13, hm1]
    simp only [ok_ok, add_ii]
    rw [hix]
    simp only [ok_ok]
    rw [hne]
    simp only [ok_ok, Bool.false_eq_true, if_false]
    exact ⟨some kd, _, by first | trivial | rfl, ((g10.trans g11).trans gx).trans gy⟩
  rintro ρ S10 ⟨c11', c12, rfl, g10⟩
  have g7a : Grow (some qn) S7 S10 := g79.trans g10.any
  have p10 : Pen S10 p 300 := by
    obtain ⟨m, xs', a, g, k', f, hd, hl, h0⟩ := p7.ex
    have hm : m = p + 1 := h0.2.2.2.2.2.2
    exact ⟨m, xs', a, g, k', f, g7a.dct hd (fun z => hqp.1 (Option.some.inj z).symm), g7a.lst hl (fun z => hqp.2 (by rw [← hm]; exact (Option.some.inj z).symm)), h0⟩
  have l1a := g7a.lst l17 (nqn l17)
  have l2a := g7a.lst l27 (nqn l27)
  have lsa := g7a.lst ls7 (nqn ls7)
  have ia : InsAll S10 (ga "Step") ns ps := by
    refine ⟨i7.1, fun i n h => ?_⟩
    have := i7.2 i n h
    unfold InsAt at this ⊢
    rw [g7a.at_ n (List.getElem?_eq_some_iff.mp this).1 (fun z => by
      have e := Option.some.inj z
      subst e
      have := dctW_at d7
      unfold dctAt at this
      simp_all)]
    exact this
  clear p7 i7 l17 l27 ls7 lp8 lp7 lt7 g79 d9 g10 ro opm d7 g8
  refine wp_cut (fun ρ S11 => ∃ q : Nat, ρ = [some (.rl xs), some (.ref p), some (bD cs), some (.ref q1), some (.ref q2), some (.ref qp), some (.ref qs), some (.ref qt), some rd, some (.ref qn), c10, c11', c12, some (.ref q), none, none, none, none, none] ∧ Grow none S10 S11 ∧ lstAt S11 q = some [] ∧ S10.length ≤ q) ?_ ?_
  · walk_at "ev"
    exact ⟨Nat.zero_le _, _, by first | trivial | rfl, Grow.app _, lst_new, Nat.le_refl _⟩
  rintro ρ S11 ⟨qo, rfl, g11, l11, hqo⟩
  refine wp_cut (fun ρ S12 => ∃ (q : Nat) (c14 : Option D) (o : List Nat), ρ = [some (.rl xs), some (.ref p), some (bD cs), some (.ref q1), some (.ref q2), some (.ref qp), some (.ref qs), some (.ref qt), some rd, some (.ref qn), c10, c11', c12, some (.ref q), c14, none, none, none, none] ∧ Grow (some p) S11 S12 ∧ Pen S12 p 10000 ∧ lstAt S12 q = some (o.map nD) ∧ RO2 nu ps.length K o) ?_ ?_
  · refine wp_each2 (α := Nat) (fun m => D.tup ((roundC nu ps.length m).map nD)) ?_
    simp only [ok_v, List.getElem?_cons_zero, List.getElem?_cons_succ]
    refine ⟨fun _ => True, List.range K, fun dn ρ S12 => ∃ (q : Nat) (c14 : Option D) (o : List Nat), ρ = [some (.rl xs), some (.ref p), some (bD cs), some (.ref q1), some (.ref q2), some (.ref qp), some (.ref qs), some (.ref qt), some rd, some (.ref qn), c10, c11', c12, some (.ref q), c14, none, none, none, none] ∧ Grow (some p) S11 S12 ∧ Pen S12 p (300 + 20 * dn.length) ∧ lstAt S12 q = some (o.map nD) ∧ RO2 nu ps.length dn.length o, rWk, fun _ _ _ _ => trivial, ?_, ?_, ⟨qo, none, [], by first | trivial | rfl, Grow.refl, p10.grow g11, l11, .start⟩⟩
    · rintro ρ S12 ⟨q, c14, o, rfl, g12, p12, l12, ro⟩
      rw [List.length_range] at p12 ro
      exact ⟨q, c14, o, rfl, g12, p12.more (by omega), l12, ro⟩
    rintro dn k td ρ S12 ek ⟨q, c14, o, rfl, g12, p12, l12, ro⟩
    refine ⟨_, _, rfl, ?_⟩
    simp only [List.set_cons_succ, List.set_cons_zero]
    have hkk : dn.length = k := by
      have h1 : (List.range K)[dn.length]? = some k := by rw [ek]; simp
      have h2 : dn.length < K := by
        have := (List.getElem?_eq_some_iff.mp h1).1
        rwa [List.length_range] at this
      rw [List.getElem?_range h2] at h1
      exact Option.some.inj h1
    have hdk : dn.length < K := by
      have h3 := congrArg List.length ek
      rw [List.length_range, List.length_append, List.length_cons] at h3
      omega
    have hrl : (roundC nu ps.length k).length ≤ ps.length := roundC_len
    obtain ⟨_, _, _, _, _, _, hpd, _⟩ := p12.ex
    have qne : q ≠ p := lst_ne_dct l12 hpd
    walk_at "ev"
    rw [list_t]
    simp only [ok_ok]
    have gx : Grow none S12 (S12 ++ [SO.lst ((roundC nu ps.length k).map nD)]) := Grow.app _
    refine ⟨by first | trivial | rfl, (shuffled_ok (p12.grow gx) lst_new (by omega) (by omega)).imp fun d S13 ⟨q', l', ed, l13, pm, g13, p13⟩ => ?_⟩
    subst ed
    have h1 : o.length ≤ ps.length := by
      have := nodup_len ro.nd (fun y hy => List.mem_range.mpr ((ro.mem y).mp hy).1)
      rwa [List.length_range] at this
    have h2 := pm.length_eq
    rw [cat_l (g13.lst (gx.lst l12 fun z => nomatch z) (fun z => qne (Option.some.inj z))) l13 (by rw [sizeLine_eq, List.length_map, List.length_map]; omega)]
    simp only [ok_ok]
    rw [← hkk] at pm
    refine ⟨_, _, o ++ l', by first | trivial | rfl, ((g12.trans gx.any).trans g13).trans (Grow.app _), (p13.grow (Grow.app _)).more (by rw [List.length_append, List.length_singleton]; omega), ?_, ?_⟩
    · rw [lst_new, List.map_append]
    · rw [List.length_append, List.length_singleton]
      exact ro.next pm
  rintro ρ S12 ⟨q, c14, o, rfl, g12, p12, lo, ro⟩
  have opm : o.Perm (List.range ps.length) := ro.perm r
  have kp : Keeps ps o := ro.keeps r
  have np : ∀ {a : Nat} {xs : List D}, lstAt S11 a = some xs → some a ≠ some p := fun h z => by
    obtain ⟨_, _, _, _, _, _, hpd, _⟩ := (p10.grow g11).ex
    exact lst_ne_dct h hpd (Option.some.inj z)
  have ls11 := g11.lst lsa (fun z => nomatch z)
  have l111 := g11.lst l1a (fun z => nomatch z)
  have l211 := g11.lst l2a (fun z => nomatch z)
  have ls12 := g12.lst ls11 (np ls11)
  have l112 := g12.lst l111 (np l111)
  have l212 := g12.lst l211 (np l211)
  have i11 := ia.grow g11
  have i12 : InsAll S12 (ga "Step") ns ps := by
    refine ⟨i11.1, fun i n h => ?_⟩
    have := i11.2 i n h
    unfold InsAt at this ⊢
    rw [g12.at_ n (List.getElem?_eq_some_iff.mp this).1 (fun z => by
      have e := Option.some.inj z
      subst e
      obtain ⟨_, _, _, _, _, _, hpd, _⟩ := (p10.grow g11).ex
      have := dctW_at hpd
      unfold dctAt at this
      simp_all)]
    exact this
  refine wp_cut (fun ρ S13 => ρ = [some (.rl xs), some (.ref p), some (bD cs), some (.ref q1), some (.ref q2), some (.ref qp), some (.ref qs), some (.ref qt), some rd, some (.ref qn), c10, c11', c12, some (.ref q), c14, none, none, none, none] ∧ Grow none S12 S13) ?_ ?_
  · walk_at "ev"
    refine ⟨by first | trivial | rfl, (first_broken_ok ls12 i12 hs (by omega) lo opm kp).imp fun d S13 ⟨ed, g13⟩ => ?_⟩
    subst ed
    show Ok (Out.ok (D.bl (!decide (D.non = D.non))) S13) _
    simp only [ok_ok, decide_true, Bool.not_true, Bool.false_eq_true, if_false]
    exact ⟨by first | trivial | rfl, g13⟩
  rintro ρ S13 ⟨rfl, g13⟩
  obtain ⟨hm', he'⟩ := reorder_plan hb.nd hb.st hb.cn hm hp opm kp
  have oll : o.length = ps.length := by rw [opm.length_eq, List.length_range]
  have lo13 := g13.lst lo (fun z => nomatch z)
  have l113 := g13.lst l112 (fun z => nomatch z)
  have l213 := g13.lst l212 (fun z => nomatch z)
  refine wp_cut (fun ρ S14 => ∃ (b : Nat) (bs' : List (List Cell)), ρ = [some (.rl xs), some (.ref p), some (bD cs), some (.ref q1), some (.ref q2), some (.ref qp), some (.ref qs), some (.ref qt), some rd, some (.ref qn), c10, c11', c12, some (.ref q), c14, some .non, some (.ref b), none, none] ∧ Grow none S13 S14 ∧ lstAt S14 b = some (bs'.map bD) ∧ bs'.getLast? = some (endC cs ms)) ?_ ?_
  · walk_at "ev"
    rw [ok_lc]
    walk_at "ev"
    rw [itm_l lo13]
    simp only
    refine ok_lcGo (S0 := S13) (enc := nD) (up := fun i => [some (.rl xs), some (.ref p), some (bD cs), some (.ref q1), some (.ref q2), some (.ref qp), some (.ref qs), some (.ref qt), some rd, some (.ref qn), c10, some (nD i), c12, some (.ref q), c14, none, none, none, none]) (fun _ => true) (fun i => pD (mf ms i)) rfl o (fun _ _ _ => rfl) (fun S14 g14 => decide_eq_true (g14.lst lo13 fun z => nomatch z)) (by rw [sizeLine_eq]; omega) ?_ ?_ ?_
    · intro i S14 _ _
      exact ⟨rfl, Grow.refl⟩
    · intro i S14 hi _ g14
      have hi' : i < ps.length := List.mem_range.mp (opm.mem_iff.mp hi)
      have hix : gIxA (.ref q1) (nD i) S14 = .ok (pD (mf ms i)) S14 := ix_l (g14.lst l113 fun z => nomatch z) (q := i) (by rw [List.getElem?_map, mf_at (by omega)]; rfl) rfl
      generalize nD i = x at hix
      walk_at "ev"
      rw [hix]
      exact ⟨rfl, Grow.refl⟩
    · intro S14 g14 l14
      rw [List.filter_eq_self.mpr (fun _ _ => rfl)] at l14
      have l14' : lstAt S14 S13.length = some ((o.map (mf ms)).map pD) := by rw [l14, List.map_map]; rfl
      refine ⟨by first | trivial | rfl, (first_wrong_ok hb.nd (by omega) l14' hm' (by rw [List.length_map]; omega)).imp fun d S15 ⟨b, bs', ed, g15, l15, h15⟩ => ?_⟩
      rw [he'] at h15
      exact ⟨_, _, ed, b, bs', by first | trivial | rfl, g14.trans g15, l15, h15⟩
  rintro ρ S14 ⟨b, bs', rfl, g14, l14, h14⟩
  have l214 := g14.lst l213 (fun z => nomatch z)
  walk_at "ev"
  show Ok (Out.ok (D.bl (decide (D.non = D.non))) S14) _
  simp only [ok_ok, decide_true]
  rw [neg_i]
  simp only [ok_ok]
  rw [ix_last l14 (getLast_map h14)]
  simp only [ok_ok]
  rw [neg_i]
  simp only [ok_ok]
  rw [ix_last l214 (getLast_map hbs)]
  simp only [ok_ok]
  have pb : Pl 2 (bD (endC cs ms)) := .tup pl_cells
  rw [gEq_pl pb pb (by omega) (by omega)]
  simp only [ok_ok, decide_true]
end Lw
end
set_option linter.all false
set_option maxRecDepth 100000
set_option maxHeartbeats 0
namespace Lw
open PySem PySem.Spec PyProof.Rows L2 SX
abbrev theRow : PySem.W.OpenRow := PySem.W.OpenLaw.row PySem.Challenge.rw_slideinto_k48_whole_rounds
abbrev theHook : PySem.W.Hook := He.hookD 4 fa fn
def theOb (s : PySem.W.SharedT) : He.AlD := He.obsDG 4 fa fn (HandSHeadRun.getT s)
theorem theOb_eq (s : PySem.W.SharedT) : theOb s = theHook.obs s.abs := He.obsDG_eq (HandSHeadRun.getT_eq s)
def others : List PySem.Str := ([PySem.Str.ofString "SlideError", PySem.Str.ofString "BadNumber", PySem.Str.ofString "BadCell", PySem.Str.ofString "is_whole", PySem.Str.ofString "is_list", PySem.Str.ofString "is_cell", PySem.Str.ofString "check_cell", PySem.Str.ofString "beside", PySem.Str.ofString "Step", PySem.Str.ofString "reads_of", PySem.Str.ofString "changes", PySem.Str.ofString "ties_of", PySem.Str.ofString "waits_of", PySem.Str.ofString "first_broken", PySem.Str.ofString "rounds_of", PySem.Str.ofString "_law_pen", PySem.Str.ofString "_law_draw", PySem.Str.ofString "_law_pick", PySem.Str.ofString "_law_is_whole", PySem.Str.ofString "_law_shuffled", PySem.Str.ofString "_law_t2_beside", PySem.Str.ofString "_law_t2_parts", PySem.Str.ofString "_law_t2_is_cell", PySem.Str.ofString "_law_t2_blob", PySem.Str.ofString "_law_t2_way", PySem.Str.ofString "_law_t2_cells", PySem.Str.ofString "_law_t2_body", PySem.Str.ofString "_law_t2_squares", PySem.Str.ofString "_law_t2_hangs", PySem.Str.ofString "_law_t2_free", PySem.Str.ofString "_law_t2_supports", PySem.Str.ofString "_law_t2_kind", PySem.Str.ofString "_law_t2_around", PySem.Str.ofString "_law_t2_moves", PySem.Str.ofString "_law_t2_done", PySem.Str.ofString "_law_t2_plan", PySem.Str.ofString "_law_t2_first_wrong", PySem.Str.ofString "_law_t2_witness", PySem.Str.ofString "_law_t2_papers", PySem.Str.ofString "_law_t2_reads"] : List PySem.Str) ++ ([PySem.Str.ofString "_law_t2_tied", PySem.Str.ofString "_law_t2_ties", PySem.Str.ofString "_law_t2_steps"] : List PySem.Str)
theorem theRun (w : World) : HandSHeadRun.RunEq theRow (PySem.W.view theRow.prog [47]) theHook theOb 6000 others w := by
  intro os
  kernel_rfl
theorem okT_of {o : Out D} (h : Ok o fun d _ => d = .bl true) : OkT o := by
  cases o <;> exact h
theorem tp_of {K : PySem.W.Frag} {h : Heap} {mg : PySem.Str → Option Value} (X : K.In h) (G : h.Ns mainGlobals mg) (c : He.SaysD fa fn K) : Tp K mg where
  d := fun i _ e => c.def_ i e
  fa := fun i _ e => c.fact i e
  g := fun _ e => He.glo_ok X G e
  f := fun _ e => He.free_ok X G e
theorem theFacts {P : Program} {w : World} {K : PySem.W.Frag} {h : Heap} {mg : PySem.Str → Option Value} {f : Addr} (X : K.In h) (G : h.Ns mainGlobals mg) (hfa : mg ("law" : PySem.Str) = some (.ref f)) (c : He.SaysD fa fn K) :
    ∃ fd : FuncData, (∀ (s : Shared) (v : Value), BindsTo s fd ⟨[v], []⟩ [("_law_script", v)]) ∧ ∀ base : Heap, K.In base → base.Ns mainGlobals mg → FnOk P w K mg base CX0 9 f fd ["_law_script"] (spF K w 1 (F_law (He.ga K))) := by
  obtain ⟨fd, F⟩ := c.def_ 40 (d := d_law) rfl
  have e := hfa.symm.trans (He.glo_ok X G (c.fact 43 (f := .glo "law") rfl))
  cases e
  have b := FunD.bindsA (ps := ["_law_script"]) F fun _ _ _ _ _ _ us hl => match us, hl with | [_], _ => rfl
  exact ⟨fd, fun s v => b s [v] rfl, fun base _ _ => fn_law (tp_of X G c) F⟩
end Lw
open PySem PySem.W PySem.Calls PyProof.Rows
theorem PySem.Challenge.cw_slideinto_k48_whole_rounds_holds : PySem.Challenge.rw_slideinto_k48_whole_rounds.Holds := by
  w_on; o_law
  refine HandSHeadRun.head_any (r := OpenLaw.row PySem.Challenge.rw_slideinto_k48_whole_rounds) (q := view (OpenLaw.row PySem.Challenge.rw_slideinto_k48_whole_rounds).prog [47]) (H := Lw.theHook) (ob := Lw.theOb) (M := 6000) (loose := Lw.others) (d := HandSHeadRun.topDef (OpenLaw.row PySem.Challenge.rw_slideinto_k48_whole_rounds).prog 47) (kwd := []) Lw.theOb_eq
    (by kernel_rfl) (fun s => by kernel_rfl) Lw.theRun (by kernel_rfl) (by kernel_rfl) (by kernel_rfl) (by rfl) (by first | assumption | decide +kernel) (by decide +kernel) ⟨rfl, rfl, rfl, rfl, rfl, by decide +kernel⟩ ?hw ?hc
  case hw => w_witness2
  case hc =>
    refine L2.walk_ofE (l := PySem.Challenge.rw_slideinto_k48_whole_rounds) (n := 63) (k := 9) (x := "_law_script") (CX := L2.CX0) rfl (by decide) (by kernel_rfl) ⟨rfl, by decide, by decide⟩ ?F (fun _ _ _ _ z => z)
    intro w mg fa h Y G hmg0
    obtain ⟨K, KX, c⟩ := Y
    have hmg : mg ("law" : PySem.Str) = some (.ref fa) := by
      have e : (HandSHeadRun.topDef (OpenLaw.row PySem.Challenge.rw_slideinto_k48_whole_rounds).prog 47).name = ("law" : PySem.Str) := by kernel_rfl
      rw [← e]
      exact hmg0
    obtain ⟨fd, hb, hF⟩ := Lw.theFacts (P := (PySem.Challenge.rw_slideinto_k48_whole_rounds).prog) (w := w) KX G hmg c
    exact ⟨K, fd, _, KX, hb, fun H a ns hl hO hS => SX.law_end (F := Lw.F_law (He.ga K)) (fun xs => Lw.okT_of (Lw.law_ok (S := []) xs)) hO hS, hF⟩
