import PyProof.Rows.All
import Wide.All
import OpenK.AllK
import Wide.FinOn
import HandS.ForMost
import HandS.ForExc
import HandS.Slots
import HandS.Lambda
import HandS.Star
import HandS.CallSlots
import HandS.Wide
import HandS.Gcd
import HandS.TupAny
import HandS.TupMul
import HandS.Zip
import HandS.Conv
import HandS.DictTup
import HandS.DictComp
import HandS.Style
import HandS.Flow
import HandS.IsInst
import HandS.RaiseMore
import HandS.ExcSuper
import HandS.ExcField
import HandS.TryMany
import HandS.HeadWalk
import HandS.HeadHook4
import HandS.Head3
import HandS.More
import HandS.Small
import HandS.CallLocal
import HandS.ClsMeth
import HandS.TupLe
import HandS.FStrTup
import HandS.Defaults
import KE.KExcSuper
import KE.KExcInit
import KE.DataMinMax
import HandS.Head0
import HandS.Head1
import HandS.Head2
import HandS.HeadEnd
import PySem.Challenge.RW_deepcounts_k38_errors_of_forms
set_option Elab.async false
set_option linter.all false
set_option maxRecDepth 100000
set_option maxHeartbeats 0
/-! Dc0: values by content, objects by number, outcomes. -/
namespace DC
open PySem PySem.Spec PyProof.Rows L2

/-- a value by its content; lists, dicts, instances by their number; lsq: a list that nobody writes -/
inductive D where
  | non | bl (b : Bool) | int (i : Int) | str (x : List Nat)
  | tup (xs : List D) | lsq (xs : List D) | obj (n : Nat) | fn (g : Nat) | cls (c : Nat)
/-- an object -/
inductive AO where
  | lst (xs : List D)
  | dct (t : Bool) (kvs : List (D × D))
  | ins (c : Nat) (fs : List (Option D))
abbrev AH := List AO
abbrev En := List (Option D)
/-- how an expression ends: a value; an exception of the class c with what it keeps; not known -/
inductive Out (α : Type) where
  | ok (a : α) (h : AH)
  | exc (c : Nat) (v : Option D) (h : AH)
  | bad
@[inline] def Out.bind {α β : Type} (o : Out α) (f : α → AH → Out β) : Out β := match o with
  | .ok a h => f a h
  | .exc c v h => .exc c v h
  | .bad => .bad
theorem Out.bind_assoc {α β γ : Type} (o : Out α) (f : α → AH → Out β) (g : β → AH → Out γ) : (o.bind f).bind g = o.bind fun a h => (f a h).bind g := by
  cases o <;> rfl
/-- how a statement ends -/
inductive SOut where
  | nx (e : En) (h : AH)
  | rt (d : D) (h : AH)
  | bk (e : En) (h : AH)
  | ct (e : En) (h : AH)
  | exc (c : Nat) (v : Option D) (h : AH)
  | bad

/-- addresses: of defs, of classes; what each class of exceptions keeps; the tables of code objects -/
structure Tb where
  fa : Nat → Addr
  ca : Nat → Addr
  ek : Nat → Option Str
  tabs : List (Addr × Str)

/-! ### what stands for what -/
/-- a list that is known and not written -/
def SqF (K : PySem.W.Frag) (H : Hp) (a : Addr) (xs : List V) : Prop := (∃ o, H a = some (.frz o (.lst xs))) ∨
    ∃ (o : Obj) (its : Array Value) (n : Nat), K.lookup a = some o ∧ o.cls = .type "list" ∧ o.dict = none ∧ o.data = .seq its n ∧ its.size ≤ sizeLine ∧ Vals xs its.toList
theorem SqF.seq {K : PySem.W.Frag} {H : Hp} {a : Addr} {xs : List V} (h : SqF K H a xs) : SqL K H a xs := h.elim (fun z => .inl (.inr z)) .inr
mutual
inductive Rep (T : Tb) (K : PySem.W.Frag) (ρ : List Addr) (H : Hp) : D → V → Prop
  | non : Rep T K ρ H .non .non
  | bl {b} : Rep T K ρ H (.bl b) (.bl b)
  | int {i} : Rep T K ρ H (.int i) (.int i)
  | str {x} : Rep T K ρ H (.str x) (.str ⟨x.toArray⟩)
  | tup {xs a ys} : SqT K H a ys → Reps T K ρ H xs ys → Rep T K ρ H (.tup xs) (.ref a)
  | lsq {xs a ys} : SqF K H a ys → Reps T K ρ H xs ys → Rep T K ρ H (.lsq xs) (.ref a)
  | obj {n a} : ρ[n]? = some a → Rep T K ρ H (.obj n) (.ref a)
  | fn {g} : Rep T K ρ H (.fn g) (.ref (T.fa g))
  | cls {c} : Rep T K ρ H (.cls c) (.ref (T.ca c))
inductive Reps (T : Tb) (K : PySem.W.Frag) (ρ : List Addr) (H : Hp) : List D → List V → Prop
  | nil : Reps T K ρ H [] []
  | cons {x v xs vs} : Rep T K ρ H x v → Reps T K ρ H xs vs → Reps T K ρ H (x :: xs) (v :: vs)
end

section
variable {T : Tb} {K : PySem.W.Frag} {ρ ρ' : List Addr} {H H' : Hp}
mutual
theorem Rep.mono (hp : ∀ (n : Nat) (a : Addr), ρ[n]? = some a → ρ'[n]? = some a) (ht : ∀ a ys, SqT K H a ys → SqT K H' a ys) (hq : ∀ a ys, SqF K H a ys → SqF K H' a ys) : ∀ {d : D} {v : V}, Rep T K ρ H d v → Rep T K ρ' H' d v
  | _, _, .non => .non
  | _, _, .bl => .bl
  | _, _, .int => .int
  | _, _, .str => .str
  | _, _, .tup h r => .tup (ht _ _ h) (Reps.mono hp ht hq r)
  | _, _, .lsq h r => .lsq (hq _ _ h) (Reps.mono hp ht hq r)
  | _, _, .obj h => .obj (hp _ _ h)
  | _, _, .fn => .fn
  | _, _, .cls => .cls
theorem Reps.mono (hp : ∀ (n : Nat) (a : Addr), ρ[n]? = some a → ρ'[n]? = some a) (ht : ∀ a ys, SqT K H a ys → SqT K H' a ys) (hq : ∀ a ys, SqF K H a ys → SqF K H' a ys) : ∀ {d : List D} {v : List V}, Reps T K ρ H d v → Reps T K ρ' H' d v
  | _, _, .nil => .nil
  | _, _, .cons h r => .cons (Rep.mono hp ht hq h) (Reps.mono hp ht hq r)
end
theorem Reps.length : ∀ {d : List D} {v : List V}, Reps T K ρ H d v → d.length = v.length
  | _, _, .nil => rfl
  | _, _, .cons _ r => by simp [Reps.length r]
theorem Reps.get : ∀ {d : List D} {v : List V} {i : Nat} {x : D}, Reps T K ρ H d v → d[i]? = some x → ∃ y, v[i]? = some y ∧ Rep T K ρ H x y
  | _, _, _, _, .nil, e => by simp at e
  | _, _, 0, _, .cons r _, e => by simp at e; subst e; exact ⟨_, rfl, r⟩
  | _, _, i + 1, _, .cons _ t, e => by
    obtain ⟨u, h1, h2⟩ := Reps.get (i := i) t (by simpa using e)
    exact ⟨u, by simpa using h1, h2⟩
theorem Reps.getV : ∀ {d : List D} {v : List V} {i : Nat} {y : V}, Reps T K ρ H d v → v[i]? = some y → ∃ x, d[i]? = some x ∧ Rep T K ρ H x y
  | _, _, _, _, .nil, e => by simp at e
  | _, _, 0, _, .cons r _, e => by simp at e; subst e; exact ⟨_, rfl, r⟩
  | _, _, i + 1, _, .cons _ t, e => by
    obtain ⟨u, h1, h2⟩ := Reps.getV (i := i) t (by simpa using e)
    exact ⟨u, by simpa using h1, h2⟩
theorem Reps.append : ∀ {d e : List D} {v w : List V}, Reps T K ρ H d v → Reps T K ρ H e w → Reps T K ρ H (d ++ e) (v ++ w)
  | _, _, _, _, .nil, s => s
  | _, _, _, _, .cons r t, s => .cons r (Reps.append t s)
theorem Reps.set {x : D} {u : V} (r : Rep T K ρ H x u) : ∀ {xs : List D} {us : List V} (i : Nat), Reps T K ρ H xs us → Reps T K ρ H (xs.set i x) (us.set i u)
  | _, _, _, .nil => .nil
  | _, _, 0, .cons _ t => .cons r t
  | _, _, i + 1, .cons q t => .cons q (Reps.set r i t)
theorem Reps.take : ∀ {xs : List D} {us : List V} (n : Nat), Reps T K ρ H xs us → Reps T K ρ H (xs.take n) (us.take n)
  | _, _, 0, _ => .nil
  | _, _, _ + 1, .nil => .nil
  | _, _, n + 1, .cons r t => .cons r (Reps.take n t)
theorem Reps.drop : ∀ {xs : List D} {us : List V} (n : Nat), Reps T K ρ H xs us → Reps T K ρ H (xs.drop n) (us.drop n)
  | _, _, 0, r => r
  | _, _, _ + 1, .nil => .nil
  | _, _, n + 1, .cons _ t => Reps.drop n t
theorem Reps.reverse : ∀ {xs : List D} {us : List V}, Reps T K ρ H xs us → Reps T K ρ H xs.reverse us.reverse
  | _, _, .nil => .nil
  | _, _, .cons r t => by
    rw [List.reverse_cons, List.reverse_cons]
    exact (Reps.reverse t).append (.cons r .nil)
theorem Reps.replicate {xs : List D} {us : List V} (r : Reps T K ρ H xs us) : ∀ n : Nat, Reps T K ρ H (List.replicate n xs).flatten (List.replicate n us).flatten
  | 0 => .nil
  | n + 1 => by
    rw [List.replicate_succ, List.replicate_succ, List.flatten_cons, List.flatten_cons]
    exact r.append (r.replicate n)
/-- ints alone -/
theorem Reps.ints : ∀ {xs : List Int}, Reps T K ρ H (xs.map D.int) (xs.map V.int)
  | [] => .nil
  | _ :: _ => .cons .int Reps.ints
end

/-! ### objects -/
/-- slots of an instance -/
def FRep (T : Tb) (K : PySem.W.Frag) (ρ : List Addr) (H : Hp) (fs : List (Option D)) (vs : List (Option V)) : Prop := ∀ (i : Nat) (d : D), fs[i]? = some (some d) → ∃ v, vs[i]? = some (some v) ∧ Rep T K ρ H d v
/-- pairs of a dict -/
def PRep (T : Tb) (K : PySem.W.Frag) (ρ : List Addr) (H : Hp) (kvs : List (D × D)) (ps : List (V × V)) : Prop := Reps T K ρ H (kvs.map (·.1)) (ps.map (·.1)) ∧ Reps T K ρ H (kvs.map (·.2)) (ps.map (·.2))
/-- keys -/
def keyD : Key → D
  | .inl i => .int i
  | .inr x => .str x.cps.toList
def ORep (T : Tb) (K : PySem.W.Frag) (ρ : List Addr) (H : Hp) (a : Addr) : AO → Prop
  | .lst xs => ∃ ys, H a = some (.lst ys) ∧ Reps T K ρ H xs ys
  | .dct t kvs => (∃ ks : List (Key × V), t = false ∧ H a = some (.dK ks) ∧ kvs.map (·.1) = ks.map (fun q => keyD q.1) ∧ (ks.map (·.1)).Nodup ∧ Reps T K ρ H (kvs.map (·.2)) (ks.map (·.2))) ∨
      (∃ ks : List (List Key × V), t = true ∧ H a = some (.dT ks) ∧ kvs.map (·.1) = ks.map (fun q => D.tup (q.1.map keyD)) ∧ (ks.map (·.1)).Nodup ∧ Reps T K ρ H (kvs.map (·.2)) (ks.map (·.2)))
  | .ins c fs => ∃ dx vs, SlX.Slt H a (T.ca c) dx vs ∧ dx ≠ a ∧ FRep T K ρ H fs vs
structure HRel (T : Tb) (K : PySem.W.Frag) (ρ : List Addr) (h : AH) (H : Hp) : Prop where
  len : ρ.length = h.length
  nd : ρ.Nodup
  obj : ∀ (n : Nat) (a : Addr) (o : AO), ρ[n]? = some a → h[n]? = some o → ORep T K ρ H a o
  tabs : LamX.Tabs T.tabs H
theorem HRel.own {T : Tb} {K : PySem.W.Frag} {ρ : List Addr} {h : AH} {H : Hp} (_ : HRel T K ρ h H) : True := True.intro
def ERel (T : Tb) (K : PySem.W.Frag) (ρ : List Addr) (H : Hp) (env : En) (σ : L2.St) : Prop := env.length = σ.length ∧ ∀ (i : Nat) (d : D), env[i]? = some (some d) → ∃ v, σ[i]? = some (some v) ∧ Rep T K ρ H d v
/-- a later state -/
structure Fut (K : PySem.W.Frag) (ρ : List Addr) (H : Hp) (ρ' : List Addr) (H' : Hp) : Prop where
  pre : ∀ (n : Nat) (a : Addr), ρ[n]? = some a → ρ'[n]? = some a
  tup : ∀ a ys, SqT K H a ys → SqT K H' a ys
  lsq : ∀ a ys, SqF K H a ys → SqF K H' a ys
  frm : ∀ b o, H b = some o → b ∉ ρ → (∀ x, o ≠ .own x) → (∀ ps, o ≠ .tbl ps) → H' b = some o
  new : ∀ x ∈ ρ', x ∉ ρ → ∀ o, H x = some o → (∃ ps, o = .tbl ps) ∨ ∃ y, o = .own y
theorem Fut.refl {K : PySem.W.Frag} {ρ : List Addr} {H : Hp} : Fut K ρ H ρ H := ⟨fun _ _ h => h, fun _ _ h => h, fun _ _ h => h, fun _ _ h _ _ _ => h, fun x h n => absurd h n⟩
theorem Fut.mem {K : PySem.W.Frag} {ρ ρ' : List Addr} {H H' : Hp} (f : Fut K ρ H ρ' H') {x : Addr} (h : x ∈ ρ) : x ∈ ρ' := by
  obtain ⟨i, hi, e⟩ := List.mem_iff_getElem.mp h
  exact List.mem_of_getElem? (f.pre i x (by rw [List.getElem?_eq_getElem hi, e]))
theorem Fut.trans {K : PySem.W.Frag} {ρ ρ1 ρ2 : List Addr} {H H1 H2 : Hp} (ow : True) (f : Fut K ρ H ρ1 H1) (g : Fut K ρ1 H1 ρ2 H2) : Fut K ρ H ρ2 H2 where
  pre n a h := g.pre n a (f.pre n a h)
  tup a ys h := g.tup a ys (f.tup a ys h)
  lsq a ys h := g.lsq a ys (f.lsq a ys h)
  frm b o h n1 n2 n3 := by
    have h1 := f.frm b o h n1 n2 n3
    refine g.frm b o h1 (fun z => ?_) n2 n3
    rcases f.new b z n1 o h with ⟨ps, e⟩ | ⟨y, e⟩
    · exact n3 ps e
    · exact n2 y e
  new x h n o e := by
    by_cases q : x ∈ ρ1
    · exact f.new x q n o e
    · by_cases t : ∃ ps, o = .tbl ps
      · exact .inl t
      · by_cases w : ∃ y, o = .own y
        · exact .inr w
        · exact g.new x h q o (f.frm x o e n (fun y z => w ⟨y, z⟩) (fun ps z => t ⟨ps, z⟩))
theorem Rep.fut {T : Tb} {K : PySem.W.Frag} {ρ ρ' : List Addr} {H H' : Hp} {d : D} {v : V} (f : Fut K ρ H ρ' H') (r : Rep T K ρ H d v) : Rep T K ρ' H' d v := r.mono f.pre f.tup f.lsq
theorem Reps.fut {T : Tb} {K : PySem.W.Frag} {ρ ρ' : List Addr} {H H' : Hp} {d : List D} {v : List V} (f : Fut K ρ H ρ' H') (r : Reps T K ρ H d v) : Reps T K ρ' H' d v := r.mono f.pre f.tup f.lsq
theorem ERel.fut {T : Tb} {K : PySem.W.Frag} {ρ ρ' : List Addr} {H H' : Hp} {env : En} {σ : L2.St} (f : Fut K ρ H ρ' H') (r : ERel T K ρ H env σ) : ERel T K ρ' H' env σ := ⟨r.1, fun i d e => by
  obtain ⟨v, h1, h2⟩ := r.2 i d e
  exact ⟨v, h1, h2.fut f⟩⟩
theorem FRep.fut {T : Tb} {K : PySem.W.Frag} {ρ ρ' : List Addr} {H H' : Hp} {fs : List (Option D)} {vs : List (Option V)} (f : Fut K ρ H ρ' H') (r : FRep T K ρ H fs vs) : FRep T K ρ' H' fs vs := fun i d e => by
  obtain ⟨v, h1, h2⟩ := r i d e
  exact ⟨v, h1, h2.fut f⟩

/-! ### what is wanted behind -/
/-- what an exception of the class c keeps -/
def XRep (T : Tb) (K : PySem.W.Frag) (ρ : List Addr) (H : Hp) (c : Nat) (v : Option D) (dd : Option Addr) : Prop := match v with
  | none => True
  | some d => ∃ f a u, T.ek c = some f ∧ dd = some a ∧ H a = some (.xd [(f, u)]) ∧ Rep T K ρ H d u
/-- how it ends, what stands for what told by rep -/
def PostG {α β : Type} (rep : List Addr → Hp → α → β → Prop) (T : Tb) (K : PySem.W.Frag) (W : WX) (σ : L2.St) (ρ : List Addr) (H : Hp) (o : Out α) (Q : β → Hp → Prop) : Prop := match o with
  | .ok d h' => ∀ ρ' H' v, Fut K ρ H ρ' H' → HRel T K ρ' h' H' → rep ρ' H' d v → Q v H'
  | .exc c x h' => ∀ ρ' H' dd, Fut K ρ H ρ' H' → HRel T K ρ' h' H' → XRep T K ρ' H' c x dd → W (.ref (T.ca c)) dd σ H'
  | .bad => False
abbrev Post (T : Tb) (K : PySem.W.Frag) (W : WX) (σ : L2.St) (ρ : List Addr) (H : Hp) (o : Out D) (Q : VK) : Prop := PostG (Rep T K) T K W σ ρ H o Q
abbrev PostA (T : Tb) (K : PySem.W.Frag) (W : WX) (σ : L2.St) (ρ : List Addr) (H : Hp) (o : Out (List D)) (Q : List V → Hp → Prop) : Prop := PostG (Reps T K) T K W σ ρ H o Q
/-- a truth stands for itself -/
def BRep : List Addr → Hp → Bool → Bool → Prop := fun _ _ b c => b = c
abbrev PostT (T : Tb) (K : PySem.W.Frag) (W : WX) (σ : L2.St) (ρ : List Addr) (H : Hp) (o : Out Bool) (Q : Bool → Hp → Prop) : Prop := PostG BRep T K W σ ρ H o Q
/-- the readings -/
def RG {α β : Type} (rep : List Addr → Hp → α → β → Prop) (T : Tb) (K : PySem.W.Frag) (W : WX) (f : En → AH → Out α) : L2.St → Hp → (β → Hp → Prop) → Prop := fun σ H Q => ∃ ρ env h, HRel T K ρ h H ∧ ERel T K ρ H env σ ∧ PostG rep T K W σ ρ H (f env h) Q
abbrev RE (T : Tb) (K : PySem.W.Frag) (W : WX) (f : En → AH → Out D) : TE := RG (Rep T K) T K W f
abbrev RA (T : Tb) (K : PySem.W.Frag) (W : WX) (f : En → AH → Out (List D)) : TA := RG (Reps T K) T K W f
abbrev RT (T : Tb) (K : PySem.W.Frag) (W : WX) (f : En → AH → Out Bool) : TT := RG BRep T K W f
def PostS (T : Tb) (K : PySem.W.Frag) (W : WX) (σ : L2.St) (ρ : List Addr) (H : Hp) (o : SOut) (E : Ends) : Prop := match o with
  | .nx e h' => ∀ ρ' σ' H', Fut K ρ H ρ' H' → HRel T K ρ' h' H' → ERel T K ρ' H' e σ' → E.nx σ' H'
  | .bk e h' => ∀ ρ' σ' H', Fut K ρ H ρ' H' → HRel T K ρ' h' H' → ERel T K ρ' H' e σ' → E.bk σ' H'
  | .ct e h' => ∀ ρ' σ' H', Fut K ρ H ρ' H' → HRel T K ρ' h' H' → ERel T K ρ' H' e σ' → E.ct σ' H'
  | .rt d h' => ∀ ρ' H' v, Fut K ρ H ρ' H' → HRel T K ρ' h' H' → Rep T K ρ' H' d v → E.rt v H'
  | .exc c x h' => ∀ ρ' H' dd σ', Fut K ρ H ρ' H' → HRel T K ρ' h' H' → XRep T K ρ' H' c x dd → W (.ref (T.ca c)) dd σ' H'
  | .bad => False
def RS (T : Tb) (K : PySem.W.Frag) (W : WX) (f : En → AH → SOut) : TS := fun E σ H => ∃ ρ env h, HRel T K ρ h H ∧ ERel T K ρ H env σ ∧ PostS T K W σ ρ H (f env h) E
end DC
/-! Dc1: how the heaps go along. -/
namespace DC
open PySem PySem.Spec PyProof.Rows L2
theorem nd_ix {α : Type} : ∀ {l : List α}, l.Nodup → ∀ {i j : Nat} {x : α}, l[i]? = some x → l[j]? = some x → i = j
  | [], _, i, _, _, h, _ => by simp at h
  | y :: r, nd, 0, 0, _, _, _ => rfl
  | y :: r, nd, 0, j + 1, x, h1, h2 => by
    simp at h1 h2
    exact absurd (h1 ▸ List.mem_of_getElem? h2) (List.nodup_cons.mp nd).1
  | y :: r, nd, i + 1, 0, x, h1, h2 => by
    simp at h1 h2
    exact absurd (h2 ▸ List.mem_of_getElem? h1) (List.nodup_cons.mp nd).1
  | y :: r, nd, i + 1, j + 1, x, h1, h2 => by
    simp at h1 h2
    rw [nd_ix (List.nodup_cons.mp nd).2 h1 h2]
section
variable {T : Tb} {K : PySem.W.Frag} {ρ : List Addr} {h : AH} {H : Hp} {a p : Addr} {u w : HO}
/-- an object that may be written, or is none of those that others lean on -/
structure Soft (u : HO) : Prop where
  tup : ∀ xs, u ≠ .tup xs
  frz : ∀ o x, u ≠ .frz o x
  own : ∀ x, u ≠ .own x
  tbl : ∀ ps, u ≠ .tbl ps
  code : ∀ c q, u ≠ LamX.CodeO c q
  xd : ∀ fs, u ≠ .xd fs
theorem soft_lst {xs : List V} : Soft (.lst xs) := ⟨fun _ z => (nomatch z), fun _ _ z => (nomatch z), fun _ z => (nomatch z), fun _ z => (nomatch z), fun _ _ z => (by unfold LamX.CodeO at z; cases z), fun _ z => (nomatch z)⟩
theorem soft_dK {xs : List (Key × V)} : Soft (.dK xs) := ⟨fun _ z => (nomatch z), fun _ _ z => (nomatch z), fun _ z => (nomatch z), fun _ z => (nomatch z), fun _ _ z => (by unfold LamX.CodeO at z; cases z), fun _ z => (nomatch z)⟩
theorem soft_dT {xs : List (List Key × V)} : Soft (.dT xs) := ⟨fun _ z => (nomatch z), fun _ _ z => (nomatch z), fun _ z => (nomatch z), fun _ z => (nomatch z), fun _ _ z => (by unfold LamX.CodeO at z; cases z), fun _ z => (nomatch z)⟩
theorem soft_ins {C dx : Addr} {fs} : Soft (.ins C dx fs) := ⟨fun _ z => (nomatch z), fun _ _ z => (nomatch z), fun _ z => (nomatch z), fun _ z => (nomatch z), fun _ _ z => (by unfold LamX.CodeO at z; cases z), fun _ z => (nomatch z)⟩
theorem soft_slO {x C dx : Addr} {vs} : Soft (SlX.SlO x C dx vs) := by
  refine ⟨fun _ z => ?_, fun _ _ z => ?_, fun _ z => ?_, fun _ z => ?_, fun c q z => ?_, fun _ z => ?_⟩
  · unfold SlX.SlO at z; cases z
  · unfold SlX.SlO at z; cases z
  · unfold SlX.SlO at z; cases z
  · unfold SlX.SlO at z; cases z
  · unfold SlX.SlO LamX.CodeO at z
    injection z with z
    have e := congrFun z (⟨Array.replicate (x + c + 1) { PySem.W.instObj C dx with slots := (vs.map fun o => o.bind fun _ => (none : Option Value)).toArray }, {}⟩ : Heap)
    have e2 := congrFun z (⟨Array.replicate (x + c + 1) { cls := .none, data := .fields #[.none, .str q 0] }, {}⟩ : Heap)
    have g : ∀ (o : Obj) (b : Nat), b < x + c + 1 → o.data ≠ .freed → (⟨Array.replicate (x + c + 1) o, {}⟩ : Heap).get? b = some o := fun o b hb hf => by
      unfold Heap.get?
      have q : (Array.replicate (x + c + 1) o)[b]? = some o := by simp [hb]
      show (match (Array.replicate (x + c + 1) o)[b]? with | some ⟨_, _, .freed, _⟩ => none | o => o) = _
      rw [q]
      obtain ⟨o1, o2, o3, o4⟩ := o
      cases o3 <;> first | rfl | exact absurd rfl hf
    have r2 := e2.mpr ⟨_, _, 0, g _ c (Nat.lt_succ_of_le (Nat.le_add_left _ _)) (by intro z; cases z), rfl, rfl⟩
    obtain ⟨sl, r2, _⟩ := r2
    rw [g _ x (Nat.lt_succ_of_le (Nat.le_add_right _ _)) (by intro z; cases z)] at r2
    have r3 := congrArg Obj.data (Option.some.inj r2)
    cases r3
  · unfold SlX.SlO at z; cases z

theorem sqT_upd (hu : H a = some u) (s : Soft u) {b : Addr} {ys : List V} (hs : SqT K H b ys) : SqT K (upd H a w) b ys := by
  rcases hs with (hb | ⟨o, hb⟩) | hk
  · exact .inl (.inl (by rw [upd_ne (fun z => by rw [z, hu] at hb; exact s.tup ys (Option.some.inj hb))]; exact hb))
  · exact .inl (.inr ⟨o, by rw [upd_ne (fun z => by rw [z, hu] at hb; exact s.frz _ _ (Option.some.inj hb))]; exact hb⟩)
  · exact .inr hk
theorem sqT_new (hn : H p = none) {b : Addr} {ys : List V} (hs : SqT K H b ys) : SqT K (upd H p w) b ys := by
  rcases hs with (hb | ⟨o, hb⟩) | hk
  · exact .inl (.inl (by rw [upd_ne (ne_of_none hb hn)]; exact hb))
  · exact .inl (.inr ⟨o, by rw [upd_ne (ne_of_none hb hn)]; exact hb⟩)
  · exact .inr hk
theorem tabs_upd (hu : H a = some u) (s : Soft u) {tb : List (Addr × Str)} (t : LamX.Tabs tb H) : LamX.Tabs tb (upd H a w) := fun q hq => by
  obtain ⟨ps, h1, h2, h3⟩ := t q hq
  refine ⟨ps, by rw [upd_ne (fun z => by rw [z, hu] at h1; exact s.tbl ps (Option.some.inj h1))]; exact h1, h2, fun pos cv hc => ?_⟩
  obtain ⟨c, e1, e2⟩ := h3 pos cv hc
  exact ⟨c, e1, by rw [upd_ne (fun z => by rw [z, hu] at e2; exact s.code _ _ (Option.some.inj e2))]; exact e2⟩
theorem tabs_new (hn : H p = none) {tb : List (Addr × Str)} (t : LamX.Tabs tb H) : LamX.Tabs tb (upd H p w) := t.ext fun b o e => by rw [upd_ne (ne_of_none e hn)]; exact e
theorem sqF_upd (hu : H a = some u) (s : Soft u) {b : Addr} {ys : List V} (hs : SqF K H b ys) : SqF K (upd H a w) b ys := by
  rcases hs with ⟨o, hb⟩ | hk
  · exact .inl ⟨o, by rw [upd_ne (fun z => by rw [z, hu] at hb; exact s.frz _ _ (Option.some.inj hb))]; exact hb⟩
  · exact .inr hk
theorem sqF_new (hn : H p = none) {b : Addr} {ys : List V} (hs : SqF K H b ys) : SqF K (upd H p w) b ys := by
  rcases hs with ⟨o, hb⟩ | hk
  · exact .inl ⟨o, by rw [upd_ne (ne_of_none hb hn)]; exact hb⟩
  · exact .inr hk
theorem upd_dom {b : Addr} (h : H b ≠ none) : upd H a w b ≠ none := by
  by_cases e : b = a
  · rw [e, upd_same]; simp
  · rw [upd_ne e]; exact h

/-! ### a new object -/
/-- an object that is not numbered -/
theorem fut_new (hn : H p = none) : Fut K ρ H ρ (upd H p w) :=
  ⟨fun _ _ e => e, fun _ _ e => sqT_new hn e, fun _ _ e => sqF_new hn e, fun b o e _ _ _ => by rw [upd_ne (ne_of_none e hn)]; exact e, fun x h n => absurd h n⟩
theorem HRel.notin (R : HRel T K ρ h H) (hn : H p = none) : p ∉ ρ := fun hm => by
  obtain ⟨i, hi, e⟩ := List.mem_iff_getElem.mp hm
  have h1 : ρ[i]? = some p := by rw [List.getElem?_eq_getElem hi, e]
  have hi2 : i < h.length := by rw [← R.len]; exact hi
  have q := R.obj i p h[i] h1 (by rw [List.getElem?_eq_getElem hi2])
  generalize h[i] = o at q
  cases o with
  | lst xs => obtain ⟨ys, z, _⟩ := q; rw [hn] at z; cases z
  | dct tg kvs => rcases q with ⟨ks, et, z, _⟩ | ⟨ks, et, z, _⟩ <;> (rw [hn] at z; cases z)
  | ins c fs =>
    obtain ⟨dx, vs, z, _⟩ := q
    rcases z with ⟨z, _⟩ | ⟨z, _⟩ <;> (rw [hn] at z; cases z)
theorem HRel.obj_at (R : HRel T K ρ h H) {x : Addr} (hm : x ∈ ρ) : ∃ o, H x = some o ∧ (∀ ps, o ≠ .tbl ps) ∧ ∀ y, o ≠ .own y := by
  obtain ⟨i, hi, e⟩ := List.mem_iff_getElem.mp hm
  have h1 : ρ[i]? = some x := by rw [List.getElem?_eq_getElem hi, e]
  have hi2 : i < h.length := by rw [← R.len]; exact hi
  have q := R.obj i x h[i] h1 (by rw [List.getElem?_eq_getElem hi2])
  generalize h[i] = o at q
  cases o with
  | lst xs => obtain ⟨ys, z, _⟩ := q; exact ⟨_, z, (fun _ w => nomatch w), (fun _ w => nomatch w)⟩
  | dct tg kvs => rcases q with ⟨ks, et, z, _⟩ | ⟨ks, et, z, _⟩ <;> exact ⟨_, z, (fun _ w => nomatch w), (fun _ w => nomatch w)⟩
  | ins c fs =>
    obtain ⟨dx, vs, z, _⟩ := q
    rcases z with ⟨z, _⟩ | ⟨z, _⟩
    · exact ⟨_, z, (fun _ w => nomatch w), (fun _ w => nomatch w)⟩
    · exact ⟨_, z, (fun ps w => soft_slO.tbl ps w), (fun y w => soft_slO.own y w)⟩
theorem orep_new {b : Addr} {o : AO} (f : Fut K ρ H ρ (upd H p w)) (hn : H p = none) (q : ORep T K ρ H b o) (hb : b ≠ p) : ORep T K ρ (upd H p w) b o := by
  cases o with
  | lst xs => obtain ⟨ys, z, r⟩ := q; exact ⟨ys, by rw [upd_ne hb]; exact z, r.fut f⟩
  | dct tg kvs =>
    rcases q with ⟨ks, et, z, e, nd, r⟩ | ⟨ks, et, z, e, nd, r⟩
    · exact .inl ⟨ks, et, by rw [upd_ne hb]; exact z, e, nd, r.fut f⟩
    · exact .inr ⟨ks, et, by rw [upd_ne hb]; exact z, e, nd, r.fut f⟩
  | ins c fs =>
    obtain ⟨dx, vs, z, ne, r⟩ := q
    refine ⟨dx, vs, ?_, ne, r.fut f⟩
    rcases z with ⟨z, e⟩ | ⟨z, z2⟩
    · exact .inl ⟨by rw [upd_ne hb]; exact z, e⟩
    · exact .inr ⟨by rw [upd_ne hb]; exact z, by rw [upd_ne (ne_of_none z2 hn)]; exact z2⟩
theorem HRel.unnum (R : HRel T K ρ h H) (hn : H p = none) (hw : ∀ x, w ≠ .own x) : HRel T K ρ h (upd H p w) where
  len := R.len
  nd := R.nd
  obj n b o h1 h2 := orep_new (fut_new hn) hn (R.obj n b o h1 h2) (fun z => R.notin hn (z ▸ List.mem_of_getElem? h1))
  tabs := tabs_new hn R.tabs
/-- a numbered one -/
theorem fut_num (hn : H p = none) (f : Fut K ρ H ρ (upd H p w)) : Fut K ρ H (ρ ++ [p]) (upd H p w) where
  pre n a e := by
    have : n < ρ.length := by
      by_cases q : n < ρ.length
      · exact q
      · rw [List.getElem?_eq_none_iff.mpr (by omega)] at e; cases e
    rw [List.getElem?_append_left this]; exact e
  tup := f.tup
  lsq := f.lsq
  frm := f.frm
  new x hx n := by
    rcases List.mem_append.mp hx with q | q
    · exact absurd q n
    · intro o e
      rw [List.mem_singleton.mp q, hn] at e; cases e
theorem HRel.num {o : AO} (R : HRel T K ρ h H) (hn : H p = none) (hw : ∀ x, w ≠ .own x) (q : ORep T K (ρ ++ [p]) (upd H p w) p o) : HRel T K (ρ ++ [p]) (h ++ [o]) (upd H p w) where
  len := by simp [R.len]
  nd := by
    rw [List.nodup_append]
    refine ⟨R.nd, by simp, fun x hx y hy => ?_⟩
    rw [List.mem_singleton.mp hy]
    exact fun z => R.notin hn (z ▸ hx)
  obj n b o' h1 h2 := by
    by_cases hlt : n < ρ.length
    · rw [List.getElem?_append_left hlt] at h1
      rw [List.getElem?_append_left (by rw [← R.len]; exact hlt)] at h2
      have f := fut_num hn (fut_new (K := K) (ρ := ρ) (w := w) hn)
      have q2 := orep_new (w := w) (fut_new hn) hn (R.obj n b o' h1 h2) (fun z => R.notin hn (z ▸ List.mem_of_getElem? h1))
      have m : ∀ {d : List D} {v : List V}, Reps T K ρ (upd H p w) d v → Reps T K (ρ ++ [p]) (upd H p w) d v := fun r => r.mono f.pre (fun _ _ e => e) fun _ _ e => e
      cases o' with
      | lst xs => obtain ⟨ys, z, r⟩ := q2; exact ⟨ys, z, m r⟩
      | dct tg kvs =>
        rcases q2 with ⟨ks, et, z, e, nd, r⟩ | ⟨ks, et, z, e, nd, r⟩
        · exact .inl ⟨ks, et, z, e, nd, m r⟩
        · exact .inr ⟨ks, et, z, e, nd, m r⟩
      | ins c fs =>
        obtain ⟨dx, vs, z, ne, r⟩ := q2
        exact ⟨dx, vs, z, ne, fun i d e => by
          obtain ⟨v, e1, e2⟩ := r i d e
          exact ⟨v, e1, e2.mono f.pre (fun _ _ e => e) fun _ _ e => e⟩⟩
    · have hl : n = ρ.length := by
        have : n < (ρ ++ [p]).length := by
          by_cases q : n < (ρ ++ [p]).length
          · exact q
          · rw [List.getElem?_eq_none_iff.mpr (by omega)] at h1; cases h1
        simp at this; omega
      subst hl
      rw [List.getElem?_append_right (Nat.le_refl _)] at h1
      rw [R.len, List.getElem?_append_right (Nat.le_refl _)] at h2
      simp at h1 h2
      subst h1 h2
      exact q
  tabs := tabs_new hn R.tabs

/-! ### a written object -/
theorem fut_upd (hu : H a = some u) (s : Soft u) (hm : a ∈ ρ) : Fut K ρ H ρ (upd H a w) :=
  ⟨fun _ _ e => e, fun _ _ e => sqT_upd hu s e, fun _ _ e => sqF_upd hu s e, fun b o e n1 _ _ => by rw [upd_ne (fun z => n1 (by rw [z]; exact hm))]; exact e, fun x h n => absurd h n⟩
theorem orep_upd {b : Addr} {o : AO} (f : Fut K ρ H ρ (upd H a w)) (hu : H a = some u) (s : Soft u) (q : ORep T K ρ H b o) (hb : b ≠ a) : ORep T K ρ (upd H a w) b o := by
  cases o with
  | lst xs => obtain ⟨ys, z, r⟩ := q; exact ⟨ys, by rw [upd_ne hb]; exact z, r.fut f⟩
  | dct tg kvs =>
    rcases q with ⟨ks, et, z, e, nd, r⟩ | ⟨ks, et, z, e, nd, r⟩
    · exact .inl ⟨ks, et, by rw [upd_ne hb]; exact z, e, nd, r.fut f⟩
    · exact .inr ⟨ks, et, by rw [upd_ne hb]; exact z, e, nd, r.fut f⟩
  | ins c fs =>
    obtain ⟨dx, vs, z, ne, r⟩ := q
    refine ⟨dx, vs, ?_, ne, r.fut f⟩
    rcases z with ⟨z, e⟩ | ⟨z, z2⟩
    · exact .inl ⟨by rw [upd_ne hb]; exact z, e⟩
    · exact .inr ⟨by rw [upd_ne hb]; exact z, by rw [upd_ne (fun e => by rw [e, hu] at z2; exact s.xd _ (Option.some.inj z2))]; exact z2⟩
theorem HRel.upd {n : Nat} {o : AO} (R : HRel T K ρ h H) (hn : ρ[n]? = some a) (hu : H a = some u) (s : Soft u) (hw : ∀ x, w ≠ .own x) (q : ORep T K ρ (upd H a w) a o) : HRel T K ρ (h.set n o) (L2.upd H a w) where
  len := by rw [List.length_set]; exact R.len
  nd := R.nd
  obj m b o' h1 h2 := by
    by_cases e : m = n
    · subst e
      rw [hn] at h1
      cases h1
      have hl : m < h.length := by
        rw [← R.len]
        by_cases q : m < ρ.length
        · exact q
        · rw [List.getElem?_eq_none_iff.mpr (by omega)] at hn; cases hn
      rw [List.getElem?_set_self hl] at h2
      cases h2
      exact q
    · rw [List.getElem?_set_ne (Ne.symm e)] at h2
      refine orep_upd (fut_upd hu s (List.mem_of_getElem? hn)) hu s (R.obj m b o' h1 h2) fun z => e ?_
      subst z
      exact nd_ix R.nd h1 hn
  tabs := tabs_upd hu s R.tabs
end
end DC
namespace DC
open PySem PySem.Spec PyProof.Rows L2
section
variable {T : Tb} {K : PySem.W.Frag} {ρ : List Addr} {h : AH} {H : Hp} {a C dx : Addr} {vs vs' : List (Option V)}
/-! ### a slot stored -/
theorem slt_soft (hs : SlX.Slt H a C dx vs) : ∃ u, H a = some u ∧ Soft u := by
  rcases hs with ⟨z, _⟩ | ⟨z, _⟩
  · exact ⟨_, z, soft_ins⟩
  · exact ⟨_, z, soft_slO⟩
theorem slt_dx (hs : SlX.Slt H a C dx vs) (ne : dx ≠ a) : (vs = [] ∧ H a = some (.ins C dx [])) ∨ H dx = some (.xd []) := by
  rcases hs with ⟨z, e⟩ | ⟨_, z⟩
  · exact .inl ⟨e, z⟩
  · exact .inr z
theorem fut_slot (hs : SlX.Slt H a C dx vs) (hd : H dx = some (.own a) ∨ H dx = some (.xd [])) (hm : a ∈ ρ) : Fut K ρ H ρ (SlX.slH H a C dx vs') := by
  obtain ⟨u, hu, s⟩ := slt_soft hs
  have keep : ∀ b o, H b = some o → b ≠ a → b ≠ dx → SlX.slH H a C dx vs' b = some o := fun b o e h1 h2 => by rw [SlX.slH_ne h1 h2]; exact e
  have nd : ∀ b o, H b = some o → o ≠ .own a → o ≠ .xd [] → b ≠ dx := fun b o e h1 h2 z => by
    rw [z] at e
    rcases hd with q | q <;> rw [q] at e
    · exact h1 (Option.some.inj e).symm
    · exact h2 (Option.some.inj e).symm
  have na : ∀ b o, H b = some o → o ≠ u → b ≠ a := fun b o e h1 z => by
    rw [z, hu] at e
    exact h1 (Option.some.inj e).symm
  refine ⟨fun _ _ e => e, fun b ys e => ?_, fun b ys e => ?_, fun b o e n1 n2 n3 => ?_, fun x h n => absurd h n⟩
  · rcases e with (z | ⟨o, z⟩) | z
    · exact .inl (.inl (keep b _ z (na b _ z fun q => s.tup _ q.symm) (nd b _ z (fun q => nomatch q) fun q => nomatch q)))
    · exact .inl (.inr ⟨o, keep b _ z (na b _ z fun q => s.frz _ _ q.symm) (nd b _ z (fun q => nomatch q) fun q => nomatch q)⟩)
    · exact .inr z
  · rcases e with ⟨o, z⟩ | z
    · exact .inl ⟨o, keep b _ z (na b _ z fun q => s.frz _ _ q.symm) (nd b _ z (fun q => nomatch q) fun q => nomatch q)⟩
    · exact .inr z
  · have h1 : b ≠ a := fun z => n1 (by rw [z]; exact hm)
    by_cases h2 : b = dx
    · rw [h2] at e ⊢
      rcases hd with q | q
      · rw [q] at e
        exact absurd (Option.some.inj e).symm (n2 a)
      · rw [q] at e
        cases e
        unfold SlX.slH
        rw [upd_ne (fun z => h1 (h2.trans z)), upd_same]
    · exact keep b o e h1 h2
/-- the dict of a fresh instance -/
def DxOk (H : Hp) (a dx : Addr) : Prop := H dx = some (.own a) ∨ H dx = some (.xd [])
theorem HRel.slot {n c : Nat} {fs : List (Option D)} (R : HRel T K ρ h H) (hn : ρ[n]? = some a) (hs : SlX.Slt H a (T.ca c) dx vs) (ne : dx ≠ a) (hd : DxOk H a dx) (q : FRep T K ρ (SlX.slH H a (T.ca c) dx vs') fs vs') :
    HRel T K ρ (h.set n (.ins c fs)) (SlX.slH H a (T.ca c) dx vs') := by
  have f : Fut K ρ H ρ (SlX.slH H a (T.ca c) dx vs') := fut_slot hs hd (List.mem_of_getElem? hn)
  obtain ⟨u, hu, s⟩ := slt_soft hs
  refine ⟨by rw [List.length_set]; exact R.len, R.nd, fun m b o' h1 h2 => ?_, fun p hp => ?_⟩
  · by_cases e : m = n
    · subst e
      rw [hn] at h1
      cases h1
      have hl : m < h.length := by
        rw [← R.len]
        by_cases q : m < ρ.length
        · exact q
        · rw [List.getElem?_eq_none_iff.mpr (by omega)] at hn; cases hn
      rw [List.getElem?_set_self hl] at h2
      cases h2
      exact ⟨dx, vs', SlX.slH_slt ne, ne, q⟩
    · rw [List.getElem?_set_ne (Ne.symm e)] at h2
      have hb : b ≠ a := fun z => e (by subst z; exact nd_ix R.nd h1 hn)
      have q := R.obj m b o' h1 h2
      have nb : ∀ o, H b = some o → o ≠ .own a → o ≠ .xd [] → SlX.slH H a (T.ca c) dx vs' b = some o := fun o e h1 h2 => by
        rw [SlX.slH_ne hb (fun z => ?_)]
        · exact e
        · rw [z] at e
          rcases hd with q | q <;> rw [q] at e
          · exact h1 (Option.some.inj e).symm
          · exact h2 (Option.some.inj e).symm
      cases o' with
      | lst xs => obtain ⟨ys, z, r⟩ := q; exact ⟨ys, nb _ z (fun q => nomatch q) (fun q => nomatch q), r.fut f⟩
      | dct tg kvs =>
        rcases q with ⟨ks, et, z, e, nd, r⟩ | ⟨ks, et, z, e, nd, r⟩
        · exact .inl ⟨ks, et, nb _ z (fun q => nomatch q) (fun q => nomatch q), e, nd, r.fut f⟩
        · exact .inr ⟨ks, et, nb _ z (fun q => nomatch q) (fun q => nomatch q), e, nd, r.fut f⟩
      | ins c2 fs2 =>
        obtain ⟨dx2, vs2, z, ne2, r⟩ := q
        refine ⟨dx2, vs2, ?_, ne2, r.fut f⟩
        rcases z with ⟨z, e⟩ | ⟨z, z2⟩
        · exact .inl ⟨nb _ z (fun q => nomatch q) (fun q => nomatch q), e⟩
        · refine .inr ⟨nb _ z (fun q => (soft_slO (x := b)).own _ q) (fun q => (soft_slO (x := b)).xd _ q), ?_⟩
          by_cases h3 : dx2 = dx
          · rw [h3]; unfold SlX.slH; rw [upd_ne ne, upd_same]
          · rw [SlX.slH_ne (fun w => by rw [w, hu] at z2; exact s.xd _ (Option.some.inj z2)) h3]; exact z2
  · obtain ⟨ps, h1, h2, h3⟩ := R.tabs p hp
    have nb : ∀ b o, H b = some o → o ≠ u → o ≠ .own a → o ≠ .xd [] → SlX.slH H a (T.ca c) dx vs' b = some o := fun b o e h0 h1 h2 => by
      rw [SlX.slH_ne (fun z => by rw [z, hu] at e; exact h0 (Option.some.inj e).symm) (fun z => ?_)]
      · exact e
      · rw [z] at e
        rcases hd with q | q <;> rw [q] at e
        · exact h1 (Option.some.inj e).symm
        · exact h2 (Option.some.inj e).symm
    refine ⟨ps, nb _ _ h1 (fun z => s.tbl _ z.symm) (fun z => nomatch z) (fun z => nomatch z), h2, fun pos cv hc => ?_⟩
    obtain ⟨c0, e1, e2⟩ := h3 pos cv hc
    exact ⟨c0, e1, nb _ _ e2 (fun z => s.code _ _ z.symm) (fun z => by unfold LamX.CodeO at z; cases z) (fun z => by unfold LamX.CodeO at z; cases z)⟩
end
end DC
/-! Dc2: what a call sees: the objects that its arguments reach, numbered anew; what comes back. -/
namespace DC
open PySem PySem.Spec PyProof.Rows L2
/-- the values that an object holds -/
def content : AO → List D
  | .lst xs => xs
  | .dct _ kvs => kvs.map (·.2)
  | .ins _ fs => fs.filterMap fun o => o
/-- the numbers of the objects that some values reach, in the order of a walk -/
def reach : Nat → AH → List D → List Nat → Option (List Nat)
  | 0, _, _, _ => none
  | f + 1, h, w, seen => match w with
    | [] => some seen
    | d :: w => match d with
      | .tup xs => reach f h (xs ++ w) seen
      | .obj n => (match seen.contains n with
        | true => reach f h w seen
        | false => (match h[n]? with
          | some o => reach f h (content o ++ w) (seen ++ [n])
          | none => none))
      | _ => reach f h w seen
/-- the objects' numbers put in others' places -/
def ren (m : Nat → Option Nat) : D → Option D
  | .tup xs => (match rens m xs with | some ys => some (.tup ys) | none => none)
  | .lsq xs => (match rens m xs with | some ys => some (.lsq ys) | none => none)
  | .obj n => (match m n with | some k => some (.obj k) | none => none)
  | d => some d
where rens (m : Nat → Option Nat) : List D → Option (List D)
  | [] => some []
  | d :: r => (match ren m d with
    | some d' => (match rens m r with | some r' => some (d' :: r') | none => none)
    | none => none)
def renF (m : Nat → Option Nat) : List (Option D) → Option (List (Option D))
  | [] => some []
  | none :: r => (match renF m r with | some r' => some (none :: r') | none => none)
  | some d :: r => (match ren m d with
    | some d' => (match renF m r with | some r' => some (some d' :: r') | none => none)
    | none => none)
def renP (m : Nat → Option Nat) : List (D × D) → Option (List (D × D))
  | [] => some []
  | (k, v) :: r => (match ren m v with
    | some v' => (match renP m r with | some r' => some ((k, v') :: r') | none => none)
    | none => none)
def renO (m : Nat → Option Nat) : AO → Option AO
  | .lst xs => (match ren.rens m xs with | some ys => some (.lst ys) | none => none)
  | .dct tg kvs => (match renP m kvs with | some ys => some (.dct tg ys) | none => none)
  | .ins c fs => (match renF m fs with | some ys => some (.ins c ys) | none => none)
/-- the place of a number in a list -/
def place : List Nat → Nat → Nat → Option Nat
  | [], _, _ => none
  | x :: r, n, i => match Nat.beq x n with
    | true => some i
    | false => place r n (i + 1)
/-- the objects at some numbers, renumbered -/
def cut (m : Nat → Option Nat) (h : AH) : List Nat → Option AH
  | [] => some []
  | n :: r => (match h[n]? with
    | some o => (match renO m o with
      | some o' => (match cut m h r with | some r' => some (o' :: r') | none => none)
      | none => none)
    | none => none)
/-- objects laid back at their numbers -/
def back : AH → List Nat → List AO → AH
  | h, [], _ => h
  | h, n :: r, o :: os => back (h.set n o) r os
  | h, _ :: _, [] => h
/-- what was reached behind a call goes back into the caller's heap: ids the caller's numbers, m how many there were -/
def home (fl : Nat) (h : AH) (ids : List Nat) (ds : List D) (h1 : AH) : Option (List D × AH) :=
  match reach fl h1 (ds ++ (h1.take ids.length).flatMap content) (List.range ids.length) with
  | none => none
  | some js =>
    let nw := js.drop ids.length
    let m := fun j => match Nat.blt j ids.length with
      | true => ids[j]?
      | false => (match place nw j 0 with | some i => some (h.length + i) | none => none)
    match ren.rens m ds, cut m h1 (List.range ids.length), cut m h1 nw with
    | some ds', some olds, some news => some (ds', back h ids olds ++ news)
    | _, _, _ => none
/-- what a call gives back -/
def came (fl : Nat) (h : AH) (ids : List Nat) : Out D → Out D
  | .ok d h1 => (match home fl h ids [d] h1 with
    | some ([d'], h') => .ok d' h'
    | _ => .bad)
  | .exc c none h1 => (match home fl h ids [] h1 with
    | some (_, h') => .exc c none h'
    | _ => .bad)
  | .exc c (some d) h1 => (match home fl h ids [d] h1 with
    | some ([d'], h') => .exc c (some d') h'
    | _ => .bad)
  | .bad => .bad
/-- a call over the objects that its arguments reach -/
def gc (fl : Nat) (body : List D → AH → Out D) (args : List D) (h : AH) : Out D :=
  match reach fl h args [] with
  | none => .bad
  | some ids => match ren.rens (fun n => place ids n 0) args, cut (fun n => place ids n 0) h ids with
    | some args', some h0 => came fl h ids (body args' h0)
    | _, _ => .bad
end DC
/-! Dc3: the call over what is reached is right. -/
namespace DC
open PySem PySem.Spec PyProof.Rows L2
theorem reach_pre {h : AH} : ∀ {f : Nat} {w : List D} {seen r : List Nat}, reach f h w seen = some r → (∃ t, r = seen ++ t) ∧ (seen.Nodup → r.Nodup)
  | 0, _, _, _, e => by unfold reach at e; cases e
  | f + 1, w, seen, r, e => by
    unfold reach at e
    cases w with
    | nil => cases e; exact ⟨⟨[], by simp⟩, fun z => z⟩
    | cons d w =>
      cases d with
      | obj n =>
        simp only at e
        cases hc : seen.contains n with
        | true => rw [hc] at e; exact reach_pre e
        | false =>
          rw [hc] at e
          simp only at e
          cases ho : h[n]? with
          | none => rw [ho] at e; cases e
          | some o =>
            rw [ho] at e
            obtain ⟨⟨t, e1⟩, e2⟩ := reach_pre e
            refine ⟨⟨n :: t, by rw [e1]; simp⟩, fun nd => e2 ?_⟩
            rw [List.nodup_append]
            refine ⟨nd, by simp, fun a ha b hb => ?_⟩
            rw [List.mem_singleton.mp hb]
            rintro rfl
            have : seen.contains a = true := List.contains_iff_mem.mpr ha
            rw [hc] at this; cases this
      | tup xs => exact reach_pre e
      | non => exact reach_pre e
      | bl b => exact reach_pre e
      | int i => exact reach_pre e
      | str x => exact reach_pre e
      | lsq x => exact reach_pre e
      | fn x => exact reach_pre e
      | cls x => exact reach_pre e
theorem place_some : ∀ {l : List Nat} {n i k : Nat}, place l n i = some k → i ≤ k ∧ l[k - i]? = some n
  | [], _, _, _, e => by unfold place at e; cases e
  | x :: r, n, i, k, e => by
    unfold place at e
    cases q : Nat.beq x n with
    | true =>
      rw [q] at e
      cases e
      have := Nat.eq_of_beq_eq_true q
      simp [this]
    | false =>
      rw [q] at e
      obtain ⟨h1, h2⟩ := place_some (l := r) e
      refine ⟨by omega, ?_⟩
      obtain ⟨j, hj⟩ : ∃ j, k - i = j + 1 := ⟨k - i - 1, by omega⟩
      rw [hj]
      rw [show k - (i + 1) = j by omega] at h2
      simpa using h2
section
variable {T : Tb} {K : PySem.W.Frag} {ρ ρ' : List Addr} {H : Hp} {m : Nat → Option Nat}
mutual
theorem rep_ren (hm : ∀ n k, m n = some k → ∀ a, ρ[n]? = some a → ρ'[k]? = some a) : ∀ {d d' : D} {v : V}, Rep T K ρ H d v → ren m d = some d' → Rep T K ρ' H d' v
  | .non, d', _, r, e => by cases r; unfold ren at e; cases e; exact .non
  | .bl _, d', _, r, e => by cases r; unfold ren at e; cases e; exact .bl
  | .int _, d', _, r, e => by cases r; unfold ren at e; cases e; exact .int
  | .str _, d', _, r, e => by cases r; unfold ren at e; cases e; exact .str
  | .fn _, d', _, r, e => by cases r; unfold ren at e; cases e; exact .fn
  | .cls _, d', _, r, e => by cases r; unfold ren at e; cases e; exact .cls
  | .obj n, d', _, .obj h, e => by
    unfold ren at e
    cases q : m n with
    | none => rw [q] at e; cases e
    | some k => rw [q] at e; cases e; exact .obj (hm n k q _ h)
  | .tup xs, d', _, .tup h r, e => by
    unfold ren at e
    cases q : ren.rens m xs with
    | none => rw [q] at e; cases e
    | some ys => rw [q] at e; cases e; exact .tup h (reps_ren hm r q)
  | .lsq xs, d', _, .lsq h r, e => by
    unfold ren at e
    cases q : ren.rens m xs with
    | none => rw [q] at e; cases e
    | some ys => rw [q] at e; cases e; exact .lsq h (reps_ren hm r q)
theorem reps_ren (hm : ∀ n k, m n = some k → ∀ a, ρ[n]? = some a → ρ'[k]? = some a) : ∀ {d d' : List D} {v : List V}, Reps T K ρ H d v → ren.rens m d = some d' → Reps T K ρ' H d' v
  | [], d', _, .nil, e => by unfold ren.rens at e; cases e; exact .nil
  | x :: xs, d', _, .cons h r, e => by
    unfold ren.rens at e
    cases q : ren m x with
    | none => rw [q] at e; cases e
    | some y =>
      rw [q] at e
      cases q2 : ren.rens m xs with
      | none => rw [q2] at e; cases e
      | some ys => rw [q2] at e; cases e; exact .cons (rep_ren hm h q) (reps_ren hm r q2)
end
theorem frep_ren (hm : ∀ n k, m n = some k → ∀ a, ρ[n]? = some a → ρ'[k]? = some a) : ∀ {fs fs' : List (Option D)} {vs : List (Option V)}, FRep T K ρ H fs vs → renF m fs = some fs' → FRep T K ρ' H fs' vs
  | [], fs', vs, r, e => by unfold renF at e; cases e; intro i d q; simp at q
  | none :: fs, fs', vs, r, e => by
    unfold renF at e
    cases q : renF m fs with
    | none => rw [q] at e; cases e
    | some ys =>
      rw [q] at e; cases e
      intro i d z
      cases i with
      | zero => simp at z
      | succ i =>
        have r2 : FRep T K ρ H fs (vs.drop 1) := fun j d z => by
          obtain ⟨v, h1, h2⟩ := r (j + 1) d (by simpa using z)
          exact ⟨v, by rw [List.getElem?_drop, Nat.add_comm]; exact h1, h2⟩
        obtain ⟨v, h1, h2⟩ := frep_ren hm r2 q i d (by simpa using z)
        exact ⟨v, by rw [List.getElem?_drop, Nat.add_comm] at h1; exact h1, h2⟩
  | some x :: fs, fs', vs, r, e => by
    unfold renF at e
    cases q0 : ren m x with
    | none => rw [q0] at e; cases e
    | some y =>
      rw [q0] at e
      cases q : renF m fs with
      | none => rw [q] at e; cases e
      | some ys =>
        rw [q] at e; cases e
        intro i d z
        cases i with
        | zero =>
          simp at z; subst z
          obtain ⟨v, h1, h2⟩ := r 0 x rfl
          exact ⟨v, h1, rep_ren hm h2 q0⟩
        | succ i =>
          have r2 : FRep T K ρ H fs (vs.drop 1) := fun j d z => by
            obtain ⟨v, h1, h2⟩ := r (j + 1) d (by simpa using z)
            exact ⟨v, by rw [List.getElem?_drop, Nat.add_comm]; exact h1, h2⟩
          obtain ⟨v, h1, h2⟩ := frep_ren hm r2 q i d (by simpa using z)
          exact ⟨v, by rw [List.getElem?_drop, Nat.add_comm] at h1; exact h1, h2⟩
theorem prep_ren (hm : ∀ n k, m n = some k → ∀ a, ρ[n]? = some a → ρ'[k]? = some a) : ∀ {kvs kvs' : List (D × D)} {vs : List V}, Reps T K ρ H (kvs.map (·.2)) vs → renP m kvs = some kvs' → Reps T K ρ' H (kvs'.map (·.2)) vs ∧ kvs'.map (·.1) = kvs.map (·.1)
  | [], kvs', vs, r, e => by unfold renP at e; cases e; cases r; exact ⟨.nil, rfl⟩
  | (k, x) :: kvs, kvs', vs, r, e => by
    unfold renP at e
    cases q0 : ren m x with
    | none => rw [q0] at e; cases e
    | some y =>
      rw [q0] at e
      cases q : renP m kvs with
      | none => rw [q] at e; cases e
      | some ys =>
        rw [q] at e; cases e
        cases r with
        | cons h r =>
          obtain ⟨r1, r2⟩ := prep_ren hm r q
          exact ⟨.cons (rep_ren hm h q0) r1, by simp [r2]⟩
theorem orep_ren {a : Addr} {o o' : AO} (hm : ∀ n k, m n = some k → ∀ a, ρ[n]? = some a → ρ'[k]? = some a) (q : ORep T K ρ H a o) (e : renO m o = some o') : ORep T K ρ' H a o' := by
  cases o with
  | lst xs =>
    obtain ⟨ys, z, r⟩ := q
    simp only [renO] at e
    cases q : ren.rens m xs with
    | none => rw [q] at e; cases e
    | some zs => rw [q] at e; cases e; exact ⟨ys, z, reps_ren hm r q⟩
  | dct tg kvs =>
    simp only [renO] at e
    cases q0 : renP m kvs with
    | none => rw [q0] at e; cases e
    | some zs =>
      rw [q0] at e; cases e
      rcases q with ⟨ks, et, z, e, nd, r⟩ | ⟨ks, et, z, e, nd, r⟩
      · obtain ⟨r1, r2⟩ := prep_ren hm r q0
        exact .inl ⟨ks, et, z, r2.trans e, nd, r1⟩
      · obtain ⟨r1, r2⟩ := prep_ren hm r q0
        exact .inr ⟨ks, et, z, r2.trans e, nd, r1⟩
  | ins c fs =>
    obtain ⟨dx, vs, z, ne, r⟩ := q
    simp only [renO] at e
    cases q : renF m fs with
    | none => rw [q] at e; cases e
    | some zs => rw [q] at e; cases e; exact ⟨dx, vs, z, ne, frep_ren hm r q⟩
end
theorem cut_some {m : Nat → Option Nat} {h : AH} : ∀ {ids : List Nat} {h0 : AH}, cut m h ids = some h0 → h0.length = ids.length ∧ ∀ (i n : Nat), ids[i]? = some n → ∃ o o', h[n]? = some o ∧ renO m o = some o' ∧ h0[i]? = some o'
  | [], h0, e => by unfold cut at e; cases e; exact ⟨rfl, fun i n q => by simp at q⟩
  | n :: r, h0, e => by
    unfold cut at e
    cases q0 : h[n]? with
    | none => rw [q0] at e; cases e
    | some o =>
      rw [q0] at e
      simp only at e
      cases q1 : renO m o with
      | none => rw [q1] at e; cases e
      | some o' =>
        rw [q1] at e
        simp only at e
        cases q2 : cut m h r with
        | none => rw [q2] at e; cases e
        | some r' =>
          rw [q2] at e
          cases e
          obtain ⟨h1, h2⟩ := cut_some q2
          refine ⟨by simp [h1], fun i n' z => ?_⟩
          cases i with
          | zero => simp at z; subst z; exact ⟨o, o', q0, q1, rfl⟩
          | succ i =>
            obtain ⟨a, b, c1, c2, c3⟩ := h2 i n' (by simpa using z)
            exact ⟨a, b, c1, c2, by simpa using c3⟩
theorem back_length : ∀ {ids : List Nat} {os : List AO} {h : AH}, (back h ids os).length = h.length
  | [], _, h => by unfold back; rfl
  | _ :: _, [], h => by unfold back; rfl
  | n :: r, o :: os, h => by unfold back; rw [back_length, List.length_set]
theorem back_out : ∀ {ids : List Nat} {os : List AO} {h : AH} {n : Nat}, n ∉ ids → (back h ids os)[n]? = h[n]?
  | [], _, h, n, _ => by unfold back; rfl
  | _ :: _, [], h, n, _ => by unfold back; rfl
  | k :: r, o :: os, h, n, hn => by
    unfold back
    rw [back_out (fun z => hn (List.mem_cons_of_mem _ z)), List.getElem?_set_ne (fun z => hn (by rw [z]; exact List.mem_cons_self))]
theorem back_in : ∀ {ids : List Nat} {os : List AO} {h : AH} {i n : Nat}, ids.Nodup → os.length = ids.length → ids[i]? = some n → n < h.length → (back h ids os)[n]? = os[i]?
  | [], _, _, _, _, _, _, e, _ => by simp at e
  | k :: r, [], _, _, _, _, hl, _, _ => by simp at hl
  | k :: r, o :: os, h, 0, n, nd, hl, e, hn => by
    simp at e
    subst e
    unfold back
    rw [back_out (List.nodup_cons.mp nd).1, List.getElem?_set_self hn]
    rfl
  | k :: r, o :: os, h, i + 1, n, nd, hl, e, hn => by
    unfold back
    rw [back_in (i := i) (List.nodup_cons.mp nd).2 (by simpa using hl) (by simpa using e) (by rw [List.length_set]; exact hn)]
    simp
section
variable {T : Tb} {K : PySem.W.Frag} {ρ ρ0 ρ1 ρ' : List Addr} {H H1 : Hp} {h h0 h1 : AH} {ids : List Nat}
theorem HRel.some_at (R : HRel T K ρ h H) {a : Addr} (ha : a ∈ ρ) : H a ≠ none := fun hn => R.notin hn ha
theorem HRel.not_xd (R : HRel T K ρ h H) {a : Addr} (ha : a ∈ ρ) (xs : List (Str × V)) : H a ≠ some (.xd xs) := fun hn => by
  obtain ⟨i, hi, e⟩ := List.mem_iff_getElem.mp ha
  have h1 : ρ[i]? = some a := by rw [List.getElem?_eq_getElem hi, e]
  have hi2 : i < h.length := by rw [← R.len]; exact hi
  have q := R.obj i a h[i] h1 (by rw [List.getElem?_eq_getElem hi2])
  generalize h[i] = o at q
  cases o with
  | lst xs => obtain ⟨ys, z, _⟩ := q; rw [hn] at z; cases z
  | dct tg kvs => rcases q with ⟨ks, et, z, _⟩ | ⟨ks, et, z, _⟩ <;> (rw [hn] at z; cases z)
  | ins c fs =>
    obtain ⟨dx, vs, z, _⟩ := q
    rcases z with ⟨z, _⟩ | ⟨z, _⟩
    · rw [hn] at z; cases z
    · rw [hn] at z
      exact absurd (Option.some.inj z).symm (soft_slO.xd xs)
/-- what lies out of the callee's sight -/
theorem orep_frame {a : Addr} {o : AO} (R : HRel T K ρ h H) (sub : ∀ x ∈ ρ0, x ∈ ρ) (f : Fut K ρ0 H ρ1 H1) (hp : ∀ (n : Nat) (a : Addr), ρ[n]? = some a → ρ'[n]? = some a) (ha : a ∉ ρ0) (q : ORep T K ρ H a o) : ORep T K ρ' H1 a o := by
  have m : ∀ {d : List D} {v : List V}, Reps T K ρ H d v → Reps T K ρ' H1 d v := fun r => r.mono hp f.tup f.lsq
  have fr : ∀ {b : Addr} {u : HO}, H b = some u → b ∉ ρ0 → (∀ x, u ≠ .own x) → (∀ ps, u ≠ .tbl ps) → H1 b = some u := fun e n1 n2 n3 => f.frm _ _ e n1 n2 n3
  cases o with
  | lst xs => obtain ⟨ys, z, r⟩ := q; exact ⟨ys, fr z ha (fun _ z => nomatch z) (fun _ z => nomatch z), m r⟩
  | dct tg kvs =>
    rcases q with ⟨ks, et, z, e, nd, r⟩ | ⟨ks, et, z, e, nd, r⟩
    · exact .inl ⟨ks, et, fr z ha (fun _ z => nomatch z) (fun _ z => nomatch z), e, nd, m r⟩
    · exact .inr ⟨ks, et, fr z ha (fun _ z => nomatch z) (fun _ z => nomatch z), e, nd, m r⟩
  | ins c fs =>
    obtain ⟨dx, vs, z, ne, r⟩ := q
    refine ⟨dx, vs, ?_, ne, fun i d e => ?_⟩
    · rcases z with ⟨z, e⟩ | ⟨z, z2⟩
      · exact .inl ⟨fr z ha (fun _ z => nomatch z) (fun _ z => nomatch z), e⟩
      · exact .inr ⟨fr z ha (fun x => soft_slO.own x) (fun x => soft_slO.tbl x), fr z2 (fun w => R.not_xd (sub _ w) _ z2) (fun _ z => nomatch z) (fun _ z => nomatch z)⟩
    · obtain ⟨v, e1, e2⟩ := r i d e
      exact ⟨v, e1, e2.mono hp f.tup f.lsq⟩
/-- the callee's view -/
theorem HRel.cut {ds ds' : List D} {vs : List V} (R : HRel T K ρ h H) (nd : ids.Nodup) (e1 : ren.rens (fun n => place ids n 0) ds = some ds') (e2 : cut (fun n => place ids n 0) h ids = some h0) (r : Reps T K ρ H ds vs) :
    ∃ ρ0 : List Addr, HRel T K ρ0 h0 H ∧ Reps T K ρ0 H ds' vs ∧ (∀ x ∈ ρ0, x ∈ ρ) ∧ ρ0.length = ids.length ∧ ∀ (i n : Nat), ids[i]? = some n → ∃ a, ρ[n]? = some a ∧ ρ0[i]? = some a := by
  obtain ⟨hl, hc⟩ := cut_some e2
  have hin : ∀ n ∈ ids, n < ρ.length := fun n hn => by
    obtain ⟨i, hi, e⟩ := List.mem_iff_getElem.mp hn
    obtain ⟨o, o', q, _⟩ := hc i n (by rw [List.getElem?_eq_getElem hi, e])
    rw [R.len]
    exact (List.getElem?_eq_some_iff.mp q).1
  have h0i : ∀ (i n : Nat), ids[i]? = some n → ∃ a, ρ[n]? = some a ∧ (ids.map fun n => ρ.getD n 0)[i]? = some a := fun i n e => by
    have hn := hin n (List.mem_of_getElem? e)
    refine ⟨ρ[n], List.getElem?_eq_getElem hn, ?_⟩
    rw [List.getElem?_map, e]
    simp [List.getD, List.getElem?_eq_getElem hn]
  have hm : ∀ n k, place ids n 0 = some k → ∀ a, ρ[n]? = some a → (ids.map fun n => ρ.getD n 0)[k]? = some a := fun n k e a ha => by
    obtain ⟨_, q⟩ := place_some e
    obtain ⟨b, h1, h2⟩ := h0i k n q
    rw [ha] at h1
    cases h1
    exact h2
  refine ⟨ids.map fun n => ρ.getD n 0, ⟨by rw [List.length_map, hl], ?_, fun i a o q1 q2 => ?_, R.tabs⟩, reps_ren hm r e1, fun x hx => ?_, by simp, h0i⟩
  · rw [List.nodup_iff_pairwise_ne, List.pairwise_map]
    refine (List.nodup_iff_pairwise_ne.mp nd).imp_of_mem fun {a b} ha hb hne e => hne ?_
    have q1 := List.getElem?_eq_getElem (hin a ha)
    have q2 := List.getElem?_eq_getElem (hin b hb)
    simp only [List.getD, q1, q2, Option.getD_some] at e
    exact nd_ix R.nd q1 (by rw [q2, e])
  · have hi : i < ids.length := by rw [← hl]; exact (List.getElem?_eq_some_iff.mp q2).1
    obtain ⟨o1, o2, z1, z2, z3⟩ := hc i ids[i] (List.getElem?_eq_getElem hi)
    rw [q2] at z3
    cases z3
    obtain ⟨b, y1, y2⟩ := h0i i ids[i] (List.getElem?_eq_getElem hi)
    rw [q1] at y2
    cases y2
    exact orep_ren hm (R.obj _ _ _ y1 z1) z2
  · obtain ⟨n, hn, e⟩ := List.mem_map.mp hx
    rw [← e]
    simp only [List.getD, List.getElem?_eq_getElem (hin n hn), Option.getD_some]
    exact List.getElem_mem _

/-- back in the caller's heap -/
theorem home_ok {fl : Nat} {ds ds' : List D} {vs : List V} {h' : AH} (R : HRel T K ρ h H) (nd : ids.Nodup) (R0 : HRel T K ρ0 h0 H) (sub : ∀ x ∈ ρ0, x ∈ ρ) (hl : ρ0.length = ids.length) (hi : ∀ (i n : Nat), ids[i]? = some n → ∃ a, ρ[n]? = some a ∧ ρ0[i]? = some a)
    (f : Fut K ρ0 H ρ1 H1) (R1 : HRel T K ρ1 h1 H1) (r : Reps T K ρ1 H1 ds vs) (e : home fl h ids ds h1 = some (ds', h')) :
    ∃ ρ' : List Addr, Fut K ρ H ρ' H1 ∧ HRel T K ρ' h' H1 ∧ Reps T K ρ' H1 ds' vs := by
  unfold home at e
  cases q0 : reach fl h1 (ds ++ (h1.take ids.length).flatMap content) (List.range ids.length) with
  | none => rw [q0] at e; cases e
  | some js =>
    rw [q0] at e
    simp only at e
    generalize hm0 : (fun j => match Nat.blt j ids.length with
      | true => ids[j]?
      | false => (match place (js.drop ids.length) j 0 with | some i => some (h.length + i) | none => none)) = m at e
    cases q1 : ren.rens m ds with
    | none => rw [q1] at e; cases e
    | some ds1 =>
      rw [q1] at e
      cases q2 : cut m h1 (List.range ids.length) with
      | none => rw [q2] at e; cases e
      | some olds =>
        rw [q2] at e
        cases q3 : cut m h1 (js.drop ids.length) with
        | none => rw [q3] at e; cases e
        | some news =>
          rw [q3] at e
          cases e
          obtain ⟨⟨t, ht⟩, hn⟩ := reach_pre q0
          have ndj := hn List.nodup_range
          have hnw : js.drop ids.length = t := by rw [ht]; simp
          rw [hnw] at q3 hm0
          rw [ht, List.nodup_append] at ndj
          obtain ⟨_, ndt, dis⟩ := ndj
          have tge : ∀ j ∈ t, ids.length ≤ j := fun j hj => by
            by_cases z : j < ids.length
            · exact absurd rfl (dis j (List.mem_range.mpr z) j hj)
            · omega
          obtain ⟨lo, co⟩ := cut_some q2
          obtain ⟨ln, cn⟩ := cut_some q3
          rw [List.length_range] at lo
          have tlt : ∀ j ∈ t, j < ρ1.length := fun j hj => by
            obtain ⟨i, hi', e⟩ := List.mem_iff_getElem.mp hj
            obtain ⟨o, o', q, _⟩ := cn i j (by rw [List.getElem?_eq_getElem hi', e])
            rw [R1.len]
            exact (List.getElem?_eq_some_iff.mp q).1
          have hlt : ∀ n ∈ ids, n < ρ.length := fun n hn => by
            obtain ⟨i, hi', e⟩ := List.mem_iff_getElem.mp hn
            obtain ⟨a, q, _⟩ := hi i n (by rw [List.getElem?_eq_getElem hi', e])
            exact (List.getElem?_eq_some_iff.mp q).1
          -- the new addresses
          have nwat : ∀ (i j : Nat), t[i]? = some j → (t.map fun j => ρ1.getD j 0)[i]? = ρ1[j]? := fun i j q => by
            have hj := tlt j (List.mem_of_getElem? q)
            rw [List.getElem?_map, q, List.getElem?_eq_getElem hj]
            simp [List.getD, List.getElem?_eq_getElem hj]
          have old1 : ∀ (i n : Nat), ids[i]? = some n → ∃ a, ρ[n]? = some a ∧ ρ1[i]? = some a := fun i n q => by
            obtain ⟨a, h1, h2⟩ := hi i n q
            exact ⟨a, h1, f.pre i a h2⟩
          have nwnot : ∀ (j : Nat) (a : Addr), j ∈ t → ρ1[j]? = some a → a ∉ ρ0 := fun j a hj q hm => by
            obtain ⟨i, hi', e⟩ := List.mem_iff_getElem.mp hm
            have q2 := f.pre i a (by rw [List.getElem?_eq_getElem hi', e])
            have := nd_ix R1.nd q q2
            have := tge j hj
            omega
          have nwno : ∀ x ∈ t.map (fun j => ρ1.getD j 0), x ∉ ρ ∧ (∀ o, H x = some o → (∃ ps, o = .tbl ps) ∨ ∃ y, o = .own y) ∧ x ∈ ρ1 := fun x hx => by
            obtain ⟨j, hj, e⟩ := List.mem_map.mp hx
            have hl := tlt j hj
            have q : ρ1[j]? = some x := by
              rw [List.getElem?_eq_getElem hl, ← e]
              simp [List.getD, List.getElem?_eq_getElem hl]
            have xn := f.new x (List.mem_of_getElem? q) (nwnot j x hj q)
            refine ⟨fun z => ?_, xn, List.mem_of_getElem? q⟩
            obtain ⟨o, h1, h2, h3⟩ := R.obj_at z
            rcases xn o h1 with ⟨ps, w⟩ | ⟨y, w⟩
            · exact h2 ps w
            · exact h3 y w
          have mm : ∀ j k, m j = some k → ∀ a, ρ1[j]? = some a → (ρ ++ t.map fun j => ρ1.getD j 0)[k]? = some a := fun j k e a ha => by
            rw [← hm0] at e
            simp only at e
            cases hb : Nat.blt j ids.length with
            | true =>
              rw [hb] at e
              simp only at e
              obtain ⟨b, z1, z2⟩ := old1 j k e
              rw [ha] at z2
              cases z2
              rw [List.getElem?_append_left (hlt k (List.mem_of_getElem? e))]
              exact z1
            | false =>
              rw [hb] at e
              simp only at e
              cases hp : place t j 0 with
              | none => rw [hp] at e; cases e
              | some i =>
                rw [hp] at e
                cases e
                obtain ⟨_, q⟩ := place_some hp
                rw [← R.len, List.getElem?_append_right (by omega), show ρ.length + i - ρ.length = i by omega, nwat i j q]
                exact ha
          refine ⟨ρ ++ t.map fun j => ρ1.getD j 0, ⟨fun n a q => ?_, f.tup, f.lsq, fun b o q n1 n2 n3 => f.frm b o q (fun z => n1 (sub b z)) n2 n3, fun x hx n => ?_⟩, ⟨?_, ?_, fun n a o q1 q2 => ?_, R1.tabs⟩, reps_ren mm r q1⟩
          · have : n < ρ.length := (List.getElem?_eq_some_iff.mp q).1
            rw [List.getElem?_append_left this]
            exact q
          · rcases List.mem_append.mp hx with z | z
            · exact absurd z n
            · exact (nwno x z).2.1
          · simp [back_length, R.len, ln]
          · rw [List.nodup_append]
            refine ⟨R.nd, ?_, fun x hx y hy e => (nwno y hy).1 (e ▸ hx)⟩
            rw [List.nodup_iff_pairwise_ne, List.pairwise_map]
            refine (List.nodup_iff_pairwise_ne.mp ndt).imp_of_mem fun {a b} ha hb hne e => hne ?_
            have z1 := List.getElem?_eq_getElem (tlt a ha)
            have z2 := List.getElem?_eq_getElem (tlt b hb)
            simp only [List.getD, z1, z2, Option.getD_some] at e
            exact nd_ix R1.nd z1 (by rw [z2, e])
          · by_cases hlt2 : n < ρ.length
            · rw [List.getElem?_append_left hlt2] at q1
              rw [List.getElem?_append_left (by rw [back_length, ← R.len]; exact hlt2)] at q2
              by_cases hid : n ∈ ids
              · obtain ⟨i, hi', e⟩ := List.mem_iff_getElem.mp hid
                have hie : ids[i]? = some n := by rw [List.getElem?_eq_getElem hi', e]
                rw [back_in nd lo hie (by rw [← R.len]; exact hlt2)] at q2
                obtain ⟨o1, o2, z1, z2, z3⟩ := co i i (by rw [List.getElem?_range hi'])
                rw [q2] at z3
                cases z3
                obtain ⟨b, y1, y2⟩ := old1 i n hie
                rw [q1] at y1
                cases y1
                exact orep_ren mm (R1.obj _ _ _ y2 z1) z2
              · rw [back_out hid] at q2
                refine orep_frame R sub f (fun n a q => ?_) (fun hm => hid ?_) (R.obj n a o q1 q2)
                · have : n < ρ.length := (List.getElem?_eq_some_iff.mp q).1
                  rw [List.getElem?_append_left this]
                  exact q
                · obtain ⟨i, hi', e⟩ := List.mem_iff_getElem.mp hm
                  have hii : i < ids.length := by rw [← hl]; exact hi'
                  obtain ⟨b, y1, y2⟩ := hi i ids[i] (List.getElem?_eq_getElem hii)
                  rw [List.getElem?_eq_getElem hi', e] at y2
                  cases y2
                  rw [nd_ix R.nd q1 y1]
                  exact List.getElem_mem _
            · rw [List.getElem?_append_right (by omega)] at q1
              rw [List.getElem?_append_right (by rw [back_length, ← R.len]; omega), back_length, ← R.len] at q2
              have hn' : n - ρ.length < t.length := by rw [← ln]; exact (List.getElem?_eq_some_iff.mp q2).1
              obtain ⟨o1, o2, z1, z2, z3⟩ := cn (n - ρ.length) t[n - ρ.length] (List.getElem?_eq_getElem hn')
              rw [q2] at z3
              cases z3
              rw [nwat _ _ (List.getElem?_eq_getElem hn')] at q1
              exact orep_ren mm (R1.obj _ _ _ q1 z1) z2
end
/-- how a call ends -/
def PostF (T : Tb) (K : PySem.W.Frag) (ρ : List Addr) (H : Hp) (o : Out D) (Q : VK) (E : XK) : Prop := match o with
  | .ok d h' => ∀ ρ' H' v, Fut K ρ H ρ' H' → HRel T K ρ' h' H' → Rep T K ρ' H' d v → Q v H'
  | .exc c x h' => ∀ ρ' H' dd, Fut K ρ H ρ' H' → HRel T K ρ' h' H' → XRep T K ρ' H' c x dd → E (.ref (T.ca c)) dd H'
  | .bad => False
/-- THE CALL over what is reached -/
theorem gc_ok {T : Tb} {K : PySem.W.Frag} {ρ : List Addr} {h : AH} {H : Hp} {fl : Nat} {body : List D → AH → Out D} {args : List D} {vs : List V} {Q : VK} {E : XK} (R : HRel T K ρ h H) (r : Reps T K ρ H args vs) (p : PostF T K ρ H (gc fl body args h) Q E) :
    ∃ ρ0 h0 args', HRel T K ρ0 h0 H ∧ Reps T K ρ0 H args' vs ∧ args'.length = args.length ∧ PostF T K ρ0 H (body args' h0) Q E := by
  unfold gc at p
  cases q0 : reach fl h args [] with
  | none => rw [q0] at p; exact False.elim p
  | some ids =>
    rw [q0] at p
    simp only at p
    have nd : ids.Nodup := (reach_pre q0).2 List.nodup_nil
    cases q1 : ren.rens (fun n => place ids n 0) args with
    | none => rw [q1] at p; exact False.elim p
    | some args' =>
      rw [q1] at p
      cases q2 : cut (fun n => place ids n 0) h ids with
      | none => rw [q2] at p; exact False.elim p
      | some h0 =>
        rw [q2] at p
        have p : PostF T K ρ H (came fl h ids (body args' h0)) Q E := p
        obtain ⟨ρ0, R0, r0, sub, hl, hi⟩ := R.cut nd q1 q2 r
        refine ⟨ρ0, h0, args', R0, r0, by rw [r0.length, r.length], ?_⟩
        cases q3 : body args' h0 with
        | bad => rw [q3] at p; exact p
        | ok d h1 =>
          rw [q3] at p
          intro ρ1 H1 v f R1 rv
          simp only [came] at p
          cases q4 : home fl h ids [d] h1 with
          | none => rw [q4] at p; exact False.elim p
          | some x =>
            obtain ⟨ds, h'⟩ := x
            rw [q4] at p
            obtain ⟨ρ', f', R', r'⟩ := home_ok R nd R0 sub hl hi f R1 (.cons rv .nil) q4
            cases r' with
            | cons a b =>
              cases b
              exact p ρ' H1 v f' R' a
        | exc c x h1 =>
          rw [q3] at p
          intro ρ1 H1 dd f R1 rx
          cases x with
          | none =>
            simp only [came] at p
            cases q4 : home fl h ids [] h1 with
            | none => rw [q4] at p; exact False.elim p
            | some x =>
              obtain ⟨ds, h'⟩ := x
              rw [q4] at p
              obtain ⟨ρ', f', R', r'⟩ := home_ok R nd R0 sub hl hi f R1 .nil q4
              exact p ρ' H1 dd f' R' trivial
          | some d =>
            simp only [came] at p
            cases q4 : home fl h ids [d] h1 with
            | none => rw [q4] at p; exact False.elim p
            | some x =>
              obtain ⟨ds, h'⟩ := x
              rw [q4] at p
              obtain ⟨fn, a, u, e1, e2, e3, e4⟩ := rx
              obtain ⟨ρ', f', R', r'⟩ := home_ok R nd R0 sub hl hi f R1 (.cons e4 .nil) q4
              cases r' with
              | cons y z =>
                cases z
                exact p ρ' H1 dd f' R' ⟨fn, a, u, e1, e2, e3, y⟩
end DC
namespace DC
open PySem PySem.Spec PyProof.Rows L2
/-- parameters without * -/
def plainPar (p : Arguments) : Bool := p.posonlyargs.isEmpty && p.vararg.isNone && p.kwonlyargs.isEmpty && p.kwarg.isNone
def parNames (p : Arguments) : List Str := p.args.map (·.arg)
theorem lookup_zip_none {x : Str} : ∀ {ps : List Str} {us : List Value}, x ∉ ps.take us.length → (ps.zip us).lookup x = none
  | [], _, _ => by simp
  | _ :: _, [], _ => by simp
  | p :: ps, u :: us, h => by
    rw [List.zip_cons_cons, List.lookup_cons]
    rw [List.length_cons, List.take_succ_cons] at h
    have h1 : (x == p) = false := beq_eq_false_iff_ne.mpr fun e => h (by rw [e]; exact List.mem_cons_self)
    rw [h1]
    exact lookup_zip_none fun z => h (List.mem_cons_of_mem _ z)
theorem lookup_zip_some {x : Str} : ∀ {ps : List Str} {us : List Value}, x ∈ ps.take us.length → ((ps.zip us).lookup x).isSome = true
  | [], _, h => by simp at h
  | _ :: _, [], h => by simp at h
  | p :: ps, u :: us, h => by
    rw [List.zip_cons_cons, List.lookup_cons]
    rw [List.length_cons, List.take_succ_cons] at h
    cases e : x == p with
    | true => rfl
    | false => exact lookup_zip_some ((List.mem_cons.mp h).resolve_left fun z => by rw [z] at e; simp at e)
theorem filterMap_zip : ∀ {ps : List Str} {us : List Value}, ps.Nodup → us.length = ps.length → ∀ (pre : List (Str × Value)), (∀ n ∈ ps, pre.lookup n = none) → (ps.filterMap fun n => ((pre ++ ps.zip us).lookup n).map fun v => (n, v)) = ps.zip us
  | [], us, _, h, _, _ => by cases us <;> simp
  | p :: ps, [], _, h, _, _ => by simp at h
  | p :: ps, u :: us, nd, h, pre, hp => by
    obtain ⟨n1, n2⟩ := List.nodup_cons.mp nd
    have lk : (pre ++ (p, u) :: ps.zip us).lookup p = some u := by
      rw [List.lookup_append, hp p List.mem_cons_self]
      simp
    rw [List.zip_cons_cons, List.filterMap_cons, lk]
    have e : pre ++ (p, u) :: ps.zip us = (pre ++ [(p, u)]) ++ ps.zip us := by simp
    rw [e, filterMap_zip n2 (by simpa using h) (pre ++ [(p, u)]) fun n hn => by
      rw [List.lookup_append, hp n (List.mem_cons_of_mem _ hn)]
      have : (n == p) = false := beq_eq_false_iff_ne.mpr fun z => n1 (by rw [← z]; exact hn)
      simp only [List.lookup_cons, this, List.lookup_nil, Option.none_or]]
    rfl
theorem binds_all {fd : FuncData} (hp : plainPar fd.params = true) (nd : (parNames fd.params).Nodup) {us : List Value} (hl : us.length = (parNames fd.params).length) (hd : fd.defaults = .none) :
    bindArgs fd ⟨us, []⟩ = pure ((parNames fd.params).zip us) := by
  unfold plainPar at hp
  simp only [Bool.and_eq_true, List.isEmpty_iff, Option.isNone_iff_eq_none] at hp
  obtain ⟨⟨⟨h1, h2⟩, h3⟩, h4⟩ := hp
  unfold bindArgs
  have a1 : notAStandIn Value.none = pure () := rfl
  unfold parNames at nd hl ⊢
  simp only [h1, h2, h3, h4, hd, List.map_nil, List.nil_append, List.append_nil, List.forIn_nil, pure_bind, seqItems?, a1]
  generalize List.map (fun x => x.arg) fd.params.args = ps at nd hl ⊢
  have e1 : (decide (us.length > ps.length) && (none : Option Arg).isNone) = false := by
    rw [decide_eq_false (by omega)]; rfl
  have e2 : List.filter (fun n => (List.lookup n (ps.zip us)).isNone) ps = [] := by
    rw [List.filter_eq_nil_iff]
    intro n hn
    have := lookup_zip_some (us := us) (x := n) (ps := ps) (by rw [hl, List.take_length]; exact hn)
    rw [Option.isSome_iff_ne_none] at this
    simpa using this
  have e3 := filterMap_zip nd hl [] (fun _ _ => rfl)
  rw [List.nil_append] at e3
  simp only [e1, Option.getD_none, List.drop_nil, List.length_nil, Nat.sub_zero, List.take_length, e2, List.drop_length, List.zip_nil_right, List.forIn_nil, pure_bind, List.isEmpty_nil, Bool.not_true, Bool.false_eq_true, if_false, Nat.zero_sub]
  exact congrArg pure e3
end DC
namespace DC
open PySem PySem.Spec PyProof.Rows L2
section
open PySem.W PySem.Calls Builtin Builtin.ObjectAttr
variable {prog : Program} {w : World} {A : Around} {E : Value → Shared → Prop} {R : Result → Shared → Prop} {h hp : Heap} {g : Array GenState} {d dr : Drawn} {t tk : Nat} {os : OsState}
variable {nm q : Str} {C N : Addr} {bs bm bmB : List Value} {hdct : Bool} {sn : List Str} {sub : List Value} {ab : Bool} {col : Option Bool} {dd : Option Addr} {k0 k1 k2 k3 k5 : Option Value} {B newId initId : String}
/-- the bound __init__ called -/
theorem call_mw (FB : ExcBaseFacts B newId initId bmB) {u e t0 : Addr} {rest : List Value} {Q : Value → Shared → Prop}
    (hC : h.get? C = some (excClassObj nm q C N bs bm hdct sn sub ab col dd k0 k1 k2 k3 k5 newId)) (he : h.get? e = some (HandSPX.excO C t0)) (hu : h.get? u = some (kxs_mw initId e)) (hrest : rest.length ≤ sizeLine)
    (hq : ∀ h' t1, (∀ b o, b ≠ e → h.get? b = some o → h'.get? b = some o) → h'.get? e = some (HandSPX.excO C t1) → Q .none ⟨h', g, d, t, os⟩) :
    wpAny (model prog w) A (call (.ref u) rest) Q E ⟨h, g, d, t, os⟩ := by
  refine wpAny_call (codeAny_of_tree ?_)
  show wpAny _ A.in1 (callAny (.ref u) ⟨rest, []⟩) _ _ _
  simp only [callAny]
  refine wpAny_bind (wpAny_load hu ?_)
  simp only [kxs_mw, show (Value.type "method-wrapper" == Value.type "method" || Value.type "method-wrapper" == Value.type "builtin_function_or_method" || Value.type "method-wrapper" == Value.type "method-wrapper") = true by decide, if_true]
  refine W.KFB.if_so (by decide) ?_
  refine wpAny_bind (check_bound_init FB.toExcCallFacts hC he rfl ?_)
  refine wpAny_bind (wpAny_pure (wpAny_pure ?_))
  refine ⟨plainId_quiet FB.init.plain _, codeAny_builtin FB.initEntry ?_⟩
  rw [Around.under_plainId FB.init.plain _]
  wp_walk
  refine hq _ h.objs.size (fun b o hb ho => ?_) ?_
  · rw [Heap.get?_update_other _ _ (Ne.symm hb)]
    exact Heap.get?_push_of_some _ ho
  · rw [Heap.get?_update_self _ (Heap.get?_push_of_some _ he) rfl]
    rfl
/-- self.f = v, the first field -/
theorem osaB {K : W.Frag} {name : Str} {tk : Tok} {v : Value} {x : Addr} {fv : Array Value} {cd : ClassData} (SF : StoreFacts B bmB "object.__setattr__" "object")
    (X : K.In hp) (hx : hp.get? x = some { cls := .ref C, data := .fields fv }) (hcd : W.clsIn K C = some cd) (hm : cd.mro = .ref C :: bmB) (hh : cd.hasDict = true) (ha : W.findIn K (.ref C) name = some none)
    (hq : ∀ h' tk' dx, (∀ b o, b ≠ x → hp.get? b = some o → h'.get? b = some o) → hp.objs.size ≤ dx → dx ≠ x → h'.get? x = some { cls := .ref C, dict := some dx, data := .fields fv } →
      h'.Ns1 dx (fun y => if y = name then some v else none) → R (.ok (.ret .none)) ⟨h', g, d, tk', os⟩) :
    codeAny (model prog w) A (.call (.builtin "object.__setattr__") ⟨[.ref x, .str name tk, v], []⟩) R ⟨hp, g, d, t, os⟩ := by
  have I : W.InstAt hp x { cls := .ref C, data := .fields fv } C none := ⟨hx, rfl, rfl, trivial⟩
  have SO := F.store_object
  have hob : (Value.ref C :: bmB).contains (.type "object") = true := by rw [List.contains_cons, SF.hasOwner, Bool.or_true]
  have hxs : x ≠ hp.objs.size := Nat.ne_of_lt (Heap.lt_size hx)
  have sub : W.Looks (model prog w) hp (isInstance (.ref x) (.type "object")) true := I.type.andThen (W.looks_mroIn X (by unfold W.mroIn; rw [hcd, Option.bind_some, hm, if_neg (show ¬ (List.isEmpty (Value.ref C :: bmB) = true) from Bool.false_ne_true), hob]))
  refine codeAny_call_builtin SO.slot.plain SO.entry (@W.check_slot (model prog w) _ _ ⟨hp, g, d, t, os⟩ "object.__setattr__" "object" "__setattr__" (.ref x) [.str name tk, v] [] _ SO.kind SO.split sub (SO.args (.ref x) (.str name tk) v) ?_)
  have hmr : W.Looks (model prog w) hp (mroOf (.ref C)) cd.mro := (W.looks_clsIn X hcd).andThen .now
  have L3 : W.Looks (model prog w) hp (storeTaker? none) none := .now
  have hcls : W.Looks (model prog w) hp (classData C) cd := W.looks_clsIn X hcd
  have hpass : refuseLoop (.ref x) "__setattr__" cd.mro = pure () := by
    rw [hm, refuseLoop_ref]
    exact SF.passes _
  rw [W.osa_eq, refuse_eq]
  refine wpAny_bind (wpAny_bind (I.type.at (wpAny_bind (hmr.at ?_))))
  rw [hpass]
  refine wpAny_pure (wpAny_bind (I.type.at (wpAny_bind ((W.looks_findIn X ha).at (wpAny_bind (L3.at ?_))))))
  show wpAny _ _ (storeInOwnDict (.ref x) (.ref C) (.str name tk) name v false) _ _ _
  obtain ⟨nm, bs, mro, ns, qn, hd, sn, sb, ab, col, del⟩ := cd
  dsimp only at hh
  subst hh
  unfold storeInOwnDict Builtin.ObjectAttr.ownDictForStores
  repeat (first | with_reducible refine HandSPX.store_in_new ?_ ?_ | with_reducible refine wpAny_loadPart_at hx ?_ | with_reducible refine hcls.at ?_ | wp_step)
  · exact ⟨_, #[], _, (Heap.get?_update_ne _ _ _ _ hxs.symm).trans (Heap.get?_push_at rfl rfl), rfl, fun e he => absurd he (by simp), fun _ => rfl⟩
  · intro h' tk' hn' hs
    have hx₁ : (hp.push { cls := .type "dict", data := .dict #[] }).get? x = some { cls := .ref C, data := .fields fv } := Heap.get?_push_of_some _ hx
    refine hq h' tk' hp.objs.size (fun b o hb ho => ?_) (Nat.le_refl _) hxs.symm ?_ hn'
    · exact (hs.2 b (Nat.ne_of_lt (Heap.lt_size ho))).trans ((Heap.get?_update_ne _ _ _ _ hb).trans (Heap.get?_push_of_some _ ho))
    · exact (hs.2 x hxs).trans (Heap.get?_update_self _ hx₁ rfl)
end
/-- a method call on one line -/
theorem ev_meth {o : Expr} {m : Str} {apos pos : Pos} {env : Env} {args : List Expr} (hf : methodCallForm args.length (backTo pos (starEach args env)) [] = true) (hl : (apos.endLine == pos.line) = true) :
    eval (.Call (.Attribute o m apos) args [] pos) env = (do
      let ov ← attributeBase o m env (eval o env)
      standAt apos.atName
      let (f, first) ← holding [ov] (getMethod ov m (plainOf o env))
      callWith pos f first (backTo pos (starEach args env)) []) := by
  rw [arm_eval_Call]
  have e : ∀ ov, methodCall o m apos pos env ov (args.length + ([] : List Keyword).length) (backTo pos (starEach args env)) (backToKw pos (keywordEach [] env)) = (do
      let (f, first) ← holding [ov] (getMethod ov m (plainOf o env))
      callWith pos f first (backTo pos (starEach args env)) []) := fun ov => mcall_line hf hl
  simp only [e]
/-- what the text says of an own exception class that keeps what it is given: __init__(self, v): super().__init__(text); self.f = v -/
structure EiW (P : Program) (K : PySem.W.Frag) (C : Addr) (f : Str) (B newId initId : String) (bmB : List Value) (cd : ClassData) (fI cda cc : Addr) (fd : FuncData) (od : Option Addr) (osl : Array (Option Value)) (sf gv : Str) (m : Str) (j : Nat) (p0 p1 p2 p3 p4 p5 p6 p7 p8 p9 : Pos)
    (ar : Arg) (ccl cl : Value) (cdd cld : Option Addr) (vs : Array Value) (ccs csl : Array (Option Value)) (file : Str) (tf : Tok) : Prop where
  FB : ExcBaseFacts B newId initId bmB
  KF : PySem.W.KxsFacts B initId
  SF : StoreFacts B bmB "object.__setattr__" "object"
  q : PySem.W.excInitIn K C bmB newId = true
  hcl : PySem.W.clsIn K C = some cd
  hm : cd.mro = .ref C :: bmB
  hh : cd.hasDict = true
  iC : PySem.W.findIn K (.ref C) "__init__" = some (some (.ref fI))
  tI : PySem.W.typeIn K (.ref fI) = some (.type "function")
  lk : K.lookup fI = some ⟨.type "function", od, .func fd, osl⟩
  body : fd.body = .stmts [.Expr (.Call (.Attribute (.Call (.Name "super" p0) [] [] p1) "__init__" p2) [.Constant (.str m) j p3] [] p4) p5, .Assign [.Attribute (.Name sf p6) f p7] (.Name gv p8) p9]
  hcode : PySem.W.codeIn K fd.code fd.qualname = true
  code : fd.code = .ref cda
  par : plainPar fd.params = true
  pn : parNames fd.params = [sf, gv]
  nd : [sf, gv].Nodup
  dfl : fd.defaults = .none
  arg : fd.params.args.head? = some ar
  glob : fd.globals = mainGlobals
  blt : fd.builtins = builtinsNs
  clo : fd.closure.lookup ("__class__" : Str) = some cc
  kind : fd.scope.kind = .function
  co : fd.scope.isCoroutine = false
  gen : fd.scope.isGenerator = false
  nocell : ∀ x ∈ fd.scope.names, x.2 ≠ .cell
  ls : fd.scope.names.lookup sf = some .local
  lg : fd.scope.names.lookup gv = some .local
  lsu : fd.scope.names.lookup ("super" : Str) = some .globalImplicit
  lcl : fd.scope.names.lookup ("__class__" : Str) = some .free
  ds : (sf == ("__debug__" : Str)) = false
  dg : (gv == ("__debug__" : Str)) = false
  hcda : K.lookup cda = some ⟨ccl, cdd, .fields vs, ccs⟩
  hvs : vs[2]? = some (.str file tf)
  hfile : ((P.main.file : Str) == file) = true
  htop : (P.main.scope.names.lookup ("super" : Str)).isSome = false
  hcell : K.lookup cc = some ⟨cl, cld, .cell (some (.ref C)), csl⟩
  nsup : PySem.W.nsIn K mainGlobals "super" = some none
  third : PySem.W.nsIn K cStatics "thirdparty.any" = some none
  mroC : PySem.W.mroIn K C (.ref C) = some true
  along : PySem.W.alongIn K "__init__" bmB = some (some (.builtin initId))
  subB : PySem.W.subIn K (.ref C) (.type B) = some true
  sa : PySem.W.findIn K (.ref C) "__setattr__" = some (some (.builtin "object.__setattr__"))
  nof : PySem.W.findIn K (.ref C) f = some none
  exC : PySem.W.subIn K (.ref C) (.type "BaseException") = some true
  tyC : PySem.W.typeIn K (.ref C) = some (.type "type")
  kC : PySem.W.keepIn K (.ref C) = true
  line : (p2.endLine == p4.line) = true
section
open PySem.W PySem.Calls
variable {P : Program} {w : World} {A : Around} {E : Value → Shared → Prop} {K : PySem.W.Frag} {C : Addr} {f : Str} {B newId initId : String} {bmB : List Value} {cd : ClassData} {fI cda cc : Addr} {fd : FuncData} {od : Option Addr} {osl : Array (Option Value)} {sf gv : Str} {m : Str} {j : Nat} {p0 p1 p2 p3 p4 p5 p6 p7 p8 p9 : Pos}
    {ar : Arg} {ccl cl : Value} {cdd cld : Option Addr} {vs : Array Value} {ccs csl : Array (Option Value)} {file : Str} {tf : Tok}
theorem ei_call (T : EiW P K C f B newId initId bmB cd fI cda cc fd od osl sf gv m j p0 p1 p2 p3 p4 p5 p6 p7 p8 p9 ar ccl cl cdd cld vs ccs csl file tf) {hp : Heap} {g : Array GenState} {dr : Drawn} {tk : Nat} {os : OsState} {mg mb : Str → Option Value} (X : K.In hp) (lim : hp.NoLimit)
    (hG : hp.Ns mainGlobals mg) (hB : hp.Ns builtinsNs mb) (hbb : ∀ x : Str, x ≠ "__name__" → mb x = bootBuiltins x) (hroom : A.depth + 5 < recursionLimit) {u : Value} {Q : Value → Shared → Prop}
    (h : ∀ h2 tk2 a d t0, (∀ b o, hp.get? b = some o → h2.get? b = some o) → hp.objs.size ≤ a → hp.objs.size ≤ d → d ≠ a → h2.get? a = some ({ cls := .ref C, dict := some d, data := .fields #[.ref t0, .none, .none, .none, .bool false, .none] } : Obj) →
      h2.Ns1 d (fun y => if y = f then some u else none) → Q (.ref a) ⟨h2, g, dr, tk2, os⟩) : wpAny (model P w) A (call (.ref C) [u]) Q E ⟨hp, g, dr, tk, os⟩ := by
  obtain ⟨nm, N, qn, bs, bm, hdct, sn, sub, ab, col, dd, k0, k1, k2, k3, k5, hC, hT⟩ := excInit_of X T.q
  refine wpAny_call (HandSPX.call_own T.FB hT hC (looks_findIn X T.iC) (fun self => bind_fn X self T.tI) (by show 1 ≤ sizeLine; rw [sizeLine_eq]; omega) ?_)
  generalize h1d : (hp.push (kdv_tup [u])).push (HandSPX.excO C hp.objs.size) = h1
  have k1' : ∀ b o, hp.get? b = some o → h1.get? b = some o := fun b o e => by rw [← h1d]; exact Heap.get?_push_of_some _ (Heap.get?_push_of_some _ e)
  have X1 : K.In h1 := X.keeps k1'
  have he1 : h1.get? (hp.objs.size + 1) = some (HandSPX.excO C hp.objs.size) := by rw [← h1d]; heap_get
  have hbind : BindsTo (⟨h1, g, dr, tk, os⟩ : Shared) fd ⟨[.ref (hp.objs.size + 1), u], []⟩ [(sf, .ref (hp.objs.size + 1)), (gv, u)] := by
    have z := binds_all (fd := fd) (us := [.ref (hp.objs.size + 1), u]) T.par (by rw [T.pn]; exact T.nd) (by rw [T.pn]; rfl) T.dfl
    rw [T.pn] at z
    exact .of_eq z
  refine ks_codeAny_call_defAt (fd := fd) (by show _ < _; rw [make_depth]; omega) (X1 _ _ T.lk) rfl (lim.keeps k1') (codeRec_of X1 T.hcode) T.body hbind T.nocell (fun x hx => ?_) (fun h2 hns2 k2' => ?_) T.co T.gen T.kind
  · rcases List.mem_cons.mp hx with rfl | hx
    · exact T.ls
    · rcases List.mem_cons.mp hx with rfl | hx
      · exact T.lg
      · cases hx
  · generalize hL : h1.objs.size = L at hns2
    generalize hen : callEnv fd L fI = env
    have X2 : K.In h2 := X1.keeps k2'
    have ek : env.scope.kind = .function := by rw [← hen]; exact T.kind
    have hL1 : ∀ b o, h1.get? b = some o → b ≠ L := fun b o e => by rw [← hL]; exact Nat.ne_of_lt (Heap.lt_size e)
    have he2 := k2' _ _ he1
    have nav : ∀ y, (env.kindOf y) = fd.scope.names.lookup y := fun y => by rw [← hen]; rfl
    have eC : ∀ {hh : Heap}, K.In hh → ∃ oD, hh.get? C = some oD ∧ oD.data = .cls cd := fun {hh} XX => by
      have := T.hcl
      unfold clsIn at this
      split at this
      · rename_i c d cd' sl ho
        cases this
        exact ⟨_, XX _ _ ho, rfl⟩
      · cases this
    have neC : hp.objs.size + 1 ≠ C := fun z => by
      have h9 : hp.objs.size + 1 < hp.objs.size := by rw [z]; exact Heap.lt_size hC
      exact Nat.lt_irrefl _ (Nat.lt_of_succ_lt h9)
    have mrC : ∀ {hh : Heap}, K.In hh → Looks (model P w) hh (mroOf (.ref C)) (.ref C :: bmB) := fun {hh} XX => by rw [← T.hm]; exact (looks_clsIn XX T.hcl).andThen .now
    have inB : ∀ {hh : Heap} {t1 : Addr}, K.In hh → hh.get? (hp.objs.size + 1) = some (HandSPX.excO C t1) → Looks (model P w) hh (isInstance (.ref (hp.objs.size + 1)) (.type B)) true := fun {hh t1} XX e =>
      (show InstAt hh (hp.objs.size + 1) (HandSPX.excO C t1) C none from ⟨e, rfl, rfl, trivial⟩).type.andThen (looks_subIn XX T.subB)
    refine ks_wpAt_execs_cons (ks_wpAt_Expr_any (ks_wpAt_MethodCall (ks_wpAt_super_base (ar := ar) ?_ ?_ (by decide) ?_ (X2 _ _ T.lk) rfl ?_ ?_ (X2 _ _ T.hcda) rfl T.hvs T.hfile T.htop ?_) (ev_meth (by rfl) T.line)) ?_ (by rfl))
    · rw [nav]; exact T.lsu
    · rw [nav]; exact T.lcl
    · rw [← hen]; rfl
    · have := T.par
      unfold plainPar at this
      simp only [Bool.and_eq_true, List.isEmpty_iff, Option.isNone_iff_eq_none] at this
      rw [this.1.1.1, List.nil_append]
      exact T.arg
    · rw [← hen]; exact T.code
    · have arg : ar.arg = sf := by
        have h1 := T.arg
        have h2 := T.pn
        unfold parNames at h2
        cases hh : fd.params.args with
        | nil => rw [hh] at h1; cases h1
        | cons a l =>
          rw [hh] at h1 h2
          cases h1
          rw [List.map_cons] at h2
          exact (List.cons.inj h2).1
      have hG2 := (hG.keeps k1').keeps k2'
      have hB2 := (hB.keeps k1').keeps k2'
      refine ks_loadName_global ek (by rw [nav]; exact T.lsu) (loadGlobal_builtin (env := env) (mg := mg) (mb := mb) (by rw [← hen]; show Heap.Ns _ fd.globals _; rw [T.glob]; exact hG2) (mg_none_of X hG T.nsup) (by rw [← hen]; show Heap.Ns _ fd.builtins _; rw [T.blt]; exact hB2) ((hbb _ (by decide +kernel)).trans (show bootBuiltins "super" = some (.type "super") by kernel_rfl)) ⟨rfl, ?_⟩)
      refine wpAny_loadName_free (c := cc) ek (by rw [nav]; exact T.lcl) (by rw [← hen]; exact T.clo) ⟨_, X2 _ _ T.hcell, rfl⟩ ?_
      rw [arg]
      refine wpAny_loadName_local ek (by rw [nav]; exact T.ls) (by rw [← hen]; exact hns2) (v := .ref (hp.objs.size + 1)) ?_ ?_
      · have nn : sf ≠ gv := by have := T.nd; simp at this; exact this
        have e1 : (sf == gv) = false := beq_eq_false_iff_ne.mpr nn
        simp [List.lookup_cons, e1]
      obtain ⟨oD, d1, d2⟩ := eC X2
      refine ks_wpAny_isType_cls d1 d2 ⟨rfl, ?_⟩
      refine ks_wpAny_call_super d1 d2 he2 rfl (fun c e => by cases e) (looks_mroIn X2 T.mroC) (fun h3 e3 k3 => ?_)
      have X3 : K.In h3 := X2.keeps k3
      have he3 := k3 _ _ he2
      refine kxs_getMethod T.KF e3 (looks_opaque X3 T.third) (mrC X3) (ESX.drop_own C bmB) X3 T.along (inB X3 he3) neC (by decide) ?_
      refine kxs_callWith (i := initId) (x := hp.objs.size + 1) (by rfl) ?_
      refine evalArgs_plain (Calls.spliced_cons (Calls.Constant_str (k := j) (pos := p3) (Calls.spliced_nil ?_)))
      generalize h4d : h3.push (kxs_mw initId (hp.objs.size + 1)) = h4
      have k4 : ∀ b o, h3.get? b = some o → h4.get? b = some o := fun b o e => by rw [← h4d]; exact Heap.get?_push_of_some _ e
      have X4 : K.In h4 := X3.keeps k4
      have e4 : h4.get? h3.objs.size = some (kxs_mw initId (hp.objs.size + 1)) := by rw [← h4d]; exact Heap.get?_push_at rfl rfl
      refine ⟨e4, ?_⟩
      obtain ⟨nm', N', qn', bs', bm', hdct', sn', sub', ab', col', dd', k0', k1'', k2'', k3'', k5', hC4, _⟩ := excInit_of X4 T.q
      refine call_mw T.FB hC4 (k4 _ _ he3) e4 (by show 1 ≤ sizeLine; rw [sizeLine_eq]; omega) fun h5 t1 k5 e5 => ?_
      have k15 : ∀ b o, b ≠ hp.objs.size + 1 → h2.get? b = some o → h5.get? b = some o := fun b o nb e => k5 b o nb (k4 _ _ (k3 _ _ e))
      have neK : ∀ b o, K.lookup b = some o → b ≠ hp.objs.size + 1 := fun b o e => Nat.ne_of_lt (Nat.lt_succ_of_lt (Heap.lt_size (X _ _ e)))
      have X5 : K.In h5 := fun b o e => k15 b o (neK b o e) (X2 _ _ e)
      have neL : L ≠ hp.objs.size + 1 := fun z => hL1 _ _ he1 z.symm
      have hns5 : h5.Ns L (fun x => [(sf, Value.ref (hp.objs.size + 1)), (gv, u)].reverse.lookup x) := hns2.at' fun o e => k15 L o neL e
      have nn : sf ≠ gv := by have := T.nd; simp at this; exact this
      have e1 : (sf == gv) = false := beq_eq_false_iff_ne.mpr nn
      refine wpAt_of_wpAny (wpAny_execs_cons ?_)
      refine plainObj_wpAny_Assign_Attribute (wpAny_Name (wpAny_loadName_local ek (by rw [nav]; exact T.lg) (by rw [← hen]; exact hns5) (v := u) (by simp [List.lookup_cons]) ?_) T.dg) (by rfl)
      refine wpAny_Name (wpAny_loadName_local ek (by rw [nav]; exact T.ls) (by rw [← hen]; exact hns5) (v := .ref (hp.objs.size + 1)) (by simp [List.lookup_cons, e1]) ?_) T.ds
      refine set_plain X5 (ox := HandSPX.excO C t1) (od := none) ⟨e5, rfl, rfl, trivial⟩ T.sa (osaB T.SF X5 e5 T.hcl T.hm T.hh T.nof fun h6 tk6 dx k6 l6 n6 x6 ns6 => ?_)
      refine wpAny_execs_nil ⟨rfl, ?_⟩
      refine h h6 tk6 (hp.objs.size + 1) dx t1 (fun b o e => ?_) (by omega) ?_ n6 x6 ns6
      · have nb : b ≠ hp.objs.size + 1 := Nat.ne_of_lt (Nat.lt_succ_of_lt (Heap.lt_size e))
        exact k6 b o nb (k15 b o nb (k2' _ _ (k1' _ _ e)))
      · exact Nat.le_trans (Nat.le_of_lt (Nat.lt_of_succ_lt (Heap.lt_size e5))) l6
    · simp [interactive, ek]
end
/-- some such class -/
def EiX (P : Program) (K : PySem.W.Frag) (C : Addr) (f : Str) : Prop := ∃ (B newId initId : String) (bmB : List Value) (cd : ClassData) (fI cda cc : Addr) (fd : FuncData) (od : Option Addr) (osl : Array (Option Value)) (sf gv : Str) (m : Str) (j : Nat) (p0 p1 p2 p3 p4 p5 p6 p7 p8 p9 : Pos)
    (ar : Arg) (ccl cl : Value) (cdd cld : Option Addr) (vs : Array Value) (ccs csl : Array (Option Value)) (file : Str) (tf : Tok), EiW P K C f B newId initId bmB cd fI cda cc fd od osl sf gv m j p0 p1 p2 p3 p4 p5 p6 p7 p8 p9 ar ccl cl cdd cld vs ccs csl file tf
/-- an own exception class without own __init__ -/
def TxC (K : PySem.W.Frag) (C : Addr) : Prop := ∃ (B newId initId : String) (bmB : List Value), ExcBaseFacts B newId initId bmB ∧ PySem.W.excIn K C bmB newId = true ∧ PySem.W.keepIn K (.ref C) = true ∧ PySem.W.subIn K (.ref C) (.type "BaseException") = some true ∧ PySem.W.typeIn K (.ref C) = some (.type "type")
end DC
/-! Dc4: one after another; names, constants, operators. -/
namespace DC
open PySem PySem.Spec PyProof.Rows L2
/-- what a run has at hand: turns for loops, calls (of the level, or of lower ones), the level -/
structure Rc where
  n : Nat
  call : Nat → Nat → List D → AH → Out D
  lv : Nat
abbrev Ev := Rc → En → AH → Out D
abbrev Tv := Rc → En → AH → Out Bool
abbrev Av := Rc → En → AH → Out (List D)
abbrev Sv := Rc → En → AH → SOut

section
variable {α β γ δ : Type} {rep : List Addr → Hp → α → β → Prop} {rep2 : List Addr → Hp → γ → δ → Prop} {T : Tb} {K : PySem.W.Frag} {W : WX} {σ : L2.St} {ρ ρ' : List Addr} {H H' : Hp} {h : AH}
/-- a later start asks less -/
theorem PostG.later {o : Out α} {Q : β → Hp → Prop} (R : HRel T K ρ h H) (f : Fut K ρ H ρ' H') (p : PostG rep T K W σ ρ H o Q) : PostG rep T K W σ ρ' H' o Q := by
  cases o with
  | ok d h1 => exact fun ρ2 H2 v g R2 r => p ρ2 H2 v (f.trans R.own g) R2 r
  | exc c x h1 => exact fun ρ2 H2 dd g R2 r => p ρ2 H2 dd (f.trans R.own g) R2 r
  | bad => exact p
/-- at once -/
theorem PostG.now {d : α} {v : β} {h1 : AH} {Q : β → Hp → Prop} (p : PostG rep T K W σ ρ H (.ok d h1) Q) (f : Fut K ρ H ρ' H') (R : HRel T K ρ' h1 H') (r : rep ρ' H' d v) : Q v H' := p ρ' H' v f R r
/-- first this, then that -/
theorem PostG.bind {o : Out α} {k : α → AH → Out γ} {Q : δ → Hp → Prop} (R : HRel T K ρ h H) (p : PostG rep2 T K W σ ρ H (o.bind k) Q) :
    PostG rep T K W σ ρ H o (fun x H1 => ∃ ρ1 h1 d, Fut K ρ H ρ1 H1 ∧ HRel T K ρ1 h1 H1 ∧ rep ρ1 H1 d x ∧ PostG rep2 T K W σ ρ1 H1 (k d h1) Q) := by
  cases o with
  | ok d h1 => exact fun ρ1 H1 v f R1 r => ⟨ρ1, h1, d, f, R1, r, p.later R f⟩
  | exc c x h1 => exact p
  | bad => exact p
theorem RG.bind {e : En → AH → Out α} {k : En → α → AH → Out γ} {Q : δ → Hp → Prop} (p : RG rep2 T K W (fun env h => (e env h).bind (k env)) σ H Q) :
    RG rep T K W e σ H (fun x H1 => ∃ ρ1 env h1 d, HRel T K ρ1 h1 H1 ∧ ERel T K ρ1 H1 env σ ∧ rep ρ1 H1 d x ∧ PostG rep2 T K W σ ρ1 H1 (k env d h1) Q) := by
  obtain ⟨ρ, env, h, R, E, q⟩ := p
  refine ⟨ρ, env, h, R, E, ?_⟩
  have z := PostG.bind (rep := rep) R q
  cases o : e env h with
  | ok d h1 =>
    rw [o] at z
    intro ρ1 H1 v f R1 r
    obtain ⟨ρ2, h2, d2, f2, R2, r2, q2⟩ := z ρ1 H1 v f R1 r
    exact ⟨ρ2, env, h2, d2, R2, E.fut f2, r2, q2⟩
  | exc c x h1 => rw [o] at z; exact z
  | bad => rw [o] at z; exact z
theorem PostG.imp {o : Out α} {Q Q' : β → Hp → Prop} (p : PostG rep T K W σ ρ H o Q) (i : ∀ v H, Q v H → Q' v H) : PostG rep T K W σ ρ H o Q' := by
  cases o with
  | ok d h1 => exact fun ρ1 H1 v f R1 r => i _ _ (p ρ1 H1 v f R1 r)
  | exc c x h1 => exact p
  | bad => exact p
end

/-! ### what is known of the module -/
inductive Gk where
  | fn (g : Nat) | cls (c : Nat) | val (d : D) | bf (id : String) | abs
/-- a class: its slots, its methods, its properties -/
structure ClI where
  slots : List (Str × Nat)
  meths : List (Str × Nat)
  props : List (Str × Nat)
  init : Option Nat
/-- the text: what its names stand for; how many values each def takes, its defaults -/
structure Gx where
  nm : Str → Option Gk
  ar : Nat → Option Nat
  df : Nat → List D
  cl : Nat → Option ClI
  ex : Nat → Option (Option Str)
  sb : Nat → Nat → Option Bool
  fd : Nat → Option He.DefD := fun _ => none
  ncl : Nat := 0
def RepK (T : Tb) (K : PySem.W.Frag) (d : D) (v : V) : Prop := ∀ ρ H, Rep T K ρ H d v
/-- a def's promise by a function -/
def spC (T : Tb) (K : PySem.W.Frag) (a : Nat) (f : List D → AH → Out D) : Sp := fun vs H Q E => vs.length = a ∧ ∃ ρ h ds, HRel T K ρ h H ∧ Reps T K ρ H ds vs ∧ PostF T K ρ H (f ds h) Q E
/-- a def's promise where nothing is under way that repr would ask for -/
structure FnG (P : Program) (w : World) (K : PySem.W.Frag) (mg : Str → Option Value) (base : Heap) (k : Nat) (f : Addr) (fd : FuncData) (ps : List Str) (sp : Sp) : Prop where
  len : ∀ vs H Q E, sp vs H Q E → vs.length = ps.length
  run : ∀ (A : Around) (outer : List Env) (s : Shared) (H : Hp) (args : Args) (us : List Value) (vs : List V) (Q : VK) (E : XK), Room k A → A.guards = some [] → Env0 P w K mg base A outer s H → BindsTo s fd args (ps.zip us) → Vals vs us → sp vs H Q E →
    codeAny (model P w) A (.call (.ref f) args) (CR (L2.CX P w) outer P w H s Q E) s
structure FnP (G : Gx) (T : Tb) (P : Program) (w : World) (K : PySem.W.Frag) (mg : Str → Option Value) (base : Heap) (k g a : Nat) (f : List D → AH → Out D) : Prop where
  ok : ∃ fd ps, ps.length = a ∧ FnG P w K mg base k (T.fa g) fd ps (spC T K a f) ∧ Binds K fd ps [] ∧
    ∀ m, m ≤ (G.df g).length → ∃ dvs ds, Binds K fd ps ds ∧ Vals dvs ds ∧ dvs.length = m ∧ ∀ ρ H, Reps T K ρ H ((G.df g).drop ((G.df g).length - m)) dvs
  kp : PySem.W.keepIn K (.ref (T.fa g)) = true
  fn : PySem.W.isFn K (.ref (T.fa g)) = true
structure GOk (G : Gx) (T : Tb) (P : Program) (w : World) (K : PySem.W.Frag) (mg : Str → Option Value) (base : Heap) (k : Nat) (call : Nat → Nat → List D → AH → Out D) : Prop where
  nm : ∀ x, match G.nm x with
    | none => True
    | some .abs => mg x = none
    | some (.fn g) => mg x = some (.ref (T.fa g))
    | some (.cls c) => mg x = some (.ref (T.ca c))
    | some (.val d) => ∃ v u, mg x = some u ∧ RelV v u ∧ RepK T K d v
    | some (.bf id) => mg x = some (.builtin id)
  low : ∀ j, k < j → ∀ g ds h, call j g ds h = .bad
  fns : ∀ j, j ≤ k → ∀ g a, G.ar g = some a → FnP G T P w K mg base (k - j) g a (call j g)
  cls : ∀ c i, G.cl c = some i → SlX.SCls K (T.ca c) ∧ (∀ f n, i.slots.lookup f = some n → ∃ p, SlX.Slot1 K (T.ca c) f p n) ∧ (∀ f g, i.meths.lookup f = some g → Meth K (T.ca c) f (T.fa g)) ∧
    (∀ g, i.init = some g → Mk K (T.ca c) (T.fa g))
  exc : ∀ c, match G.ex c with
    | none => True
    | some none => TxC K (T.ca c)
    | some (some f) => T.ek c = some f ∧ EiX P K (T.ca c) f
  ek : ∀ c f, T.ek c = some f → XfC K (T.ca c) ∧ PySem.W.findIn K (.ref (T.ca c)) f = some none ∧ G.ex c = some (some f)
  sb : ∀ c d b, G.sb c d = some b → PySem.W.exmOne K (.ref (T.ca c)) (.ref (T.ca d)) = some b
  fd : ∀ g d, G.fd g = some d → ∃ fd, FunD K d.name d.qual d.params d.body d.scope [] [] (T.fa g) fd
/-- where something stands: the names' places, the scope -/
structure Cc where
  N : List Str
  sc : List (Str × NameKind)
  lam : Bool
  top : Bool
structure Ok (G : Gx) (T : Tb) (c : Cc) (X : Cx) (k : Nat) (rc : Rc) (W : WX) : Prop where
  calm : X.calm = true
  room : Room k X.A
  gu : X.A.guards = some []
  tk : Takes X W
  po : c.top = true → PassesOwn (model X.prog X.w) X.A X.env X.xe
  kin : c.top = true → X.env.scope.kind = .function ∧ X.env.scope.names = c.sc
  fre : ∀ x, c.sc.lookup x = some .free → X.env.scope.names.lookup x = some .cell ∨ X.env.scope.names.lookup x = some .free
  N : X.N = c.N
  nd : c.N.Nodup
  loc : ∀ x, c.sc.lookup x = some .local → X.env.scope.names.lookup x = some .local
  vis : ∀ x kd, c.sc.lookup x = some kd → kd = .local ∨ kd = .cell ∨ kd = .free → Vis X.env.scope x
  cel : ∀ x, c.sc.lookup x = some .cell → X.env.scope.names.lookup x = some .cell ∧ X.fn x = true
  glo : ∀ x, c.sc.lookup x = some .globalImplicit → Gl X x
  gok : GOk G T X.prog X.w X.K X.mg X.base k rc.call
  tab : c.lam = true → ∃ cd P, X.env.code = .ref cd ∧ LamX.TabB X.base X.mg cd P ∧ (P, X.env.qual ++ "<lambda>") ∈ T.tabs ∧ ∀ p ∈ T.tabs, p.1 = P → p.2 = X.env.qual ++ "<lambda>"
  rk : rc.lv = k
  stk : c.top = true → X.stack = X.env :: X.outer ∧ X.env.frame = some X.env.locals

/-! ### names, constants -/
def vVar (i : Nat) : Ev := fun _ env h => match env[i]? with
  | some (some d) => .ok d h
  | _ => .bad
def vC (d : D) : Ev := fun _ _ h => .ok d h
section
variable {G : Gx} {T : Tb} {c : Cc} {X : Cx} {k : Nat} {rc : Rc} {W : WX}
theorem se_var (ok : Ok G T c X k rc W) {i : Nat} {x : Str} {pos : Pos} {kd : NameKind} (hN : c.N[i]? = some x) (hk : c.sc.lookup x = some kd) (hv : kd = .local ∨ kd = .cell ∨ kd = .free) (hd : (x == ("__debug__" : Str)) = false) (hcd : (x == ("__classdict__" : Str)) = false) :
    PE X (.Name x pos) (RE T X.K W (vVar i rc)) := by
  refine ⟨fun pins s σ H Q I h => ?_⟩
  refine (pe_var (X := X) (i := i) (pos := pos) (by rw [ok.N]; exact hN) (ok.vis x kd hk hv) hd hcd).run pins s σ H Q I ?_
  obtain ⟨ρ, env, h, R, E, p⟩ := h
  unfold vVar at p
  cases e : env[i]? with
  | none => rw [e] at p; exact p.elim
  | some o =>
    rw [e] at p
    cases o with
    | none => exact p.elim
    | some d =>
      obtain ⟨v, h1, h2⟩ := E.2 i d e
      exact ⟨v, h1, p.now Fut.refl R h2⟩
theorem se_const {e : Expr} {d : D} {v : V} (h : PE X e (tC v)) (r : ∀ ρ H, Rep T X.K ρ H d v) : PE X e (RE T X.K W (vC d rc)) := by
  refine ⟨fun pins s σ H Q I hq => h.run pins s σ H Q I ?_⟩
  obtain ⟨ρ, env, h, R, E, p⟩ := hq
  exact p.now Fut.refl R (r ρ H)
theorem se_int {i j pos} : PE X (.Constant (.int i) j pos) (RE T X.K W (vC (.int i) rc)) := se_const pe_int fun _ _ => .int
theorem se_bl {b j pos} : PE X (.Constant (.bool b) j pos) (RE T X.K W (vC (.bl b) rc)) := se_const pe_bl fun _ _ => .bl
theorem se_non {j pos} : PE X (.Constant .none j pos) (RE T X.K W (vC .non rc)) := se_const pe_non fun _ _ => .non
theorem se_str {x : Str} {j pos} : PE X (.Constant (.str x) j pos) (RE T X.K W (vC (.str x.cps.toList) rc)) := se_const pe_str fun ρ H => by
  have : Rep T X.K ρ H (.str x.cps.toList) (.str ⟨x.cps.toList.toArray⟩) := .str
  simpa using this
theorem se_glob (ok : Ok G T c X k rc W) {x : Str} {d : D} {pos : Pos} (hk : c.sc.lookup x = some .globalImplicit) (hg : G.nm x = some (.val d)) (hd : (x == ("__debug__" : Str)) = false) : PE X (.Name x pos) (RE T X.K W (vC d rc)) := by
  have q := ok.gok.nm x
  rw [hg] at q
  obtain ⟨v, u, h1, h2, h3⟩ := q
  exact se_const (pe_glob (ok.glo x hk) h1 h2 hd) h3
theorem se_gfn (ok : Ok G T c X k rc W) {x : Str} {g : Nat} {pos : Pos} (hk : c.sc.lookup x = some .globalImplicit) (hg : G.nm x = some (.fn g)) (hd : (x == ("__debug__" : Str)) = false) : PE X (.Name x pos) (RE T X.K W (vC (.fn g) rc)) := by
  have q := ok.gok.nm x
  rw [hg] at q
  exact se_const (pe_glob (v := .ref (T.fa g)) (ok.glo x hk) q rfl hd) fun _ _ => .fn
theorem se_gcls (ok : Ok G T c X k rc W) {x : Str} {g : Nat} {pos : Pos} (hk : c.sc.lookup x = some .globalImplicit) (hg : G.nm x = some (.cls g)) (hd : (x == ("__debug__" : Str)) = false) : PE X (.Name x pos) (RE T X.K W (vC (.cls g) rc)) := by
  have q := ok.gok.nm x
  rw [hg] at q
  exact se_const (pe_glob (v := .ref (T.ca g)) (ok.glo x hk) q rfl hd) fun _ _ => .cls

/-! ### two places -/
def vB (f : D → D → AH → Out D) (a b : Ev) : Ev := fun rc env h => (a rc env h).bind fun x h1 => (b rc env h1).bind fun y h2 => f x y h2
def vU (f : D → AH → Out D) (a : Ev) : Ev := fun rc env h => (a rc env h).bind fun x h1 => f x h1
/-- an operation by contents -/
def OpD (T : Tb) (X : Cx) (W : WX) (f : Value → Value → Sem Value) (g : D → D → AH → Out D) : Prop :=
  ∀ (pins : List (Addr × Obj)) (s : Shared) (σ : L2.St) (ρ : List Addr) (h : AH) (H : Hp) (x y : V) (dx dy : D) (v u : Value) (Q : VK), Inv X pins σ H s → HRel T X.K ρ h H → Rep T X.K ρ H dx x → Rep T X.K ρ H dy y → RelV x v → RelV y u →
    Post T X.K W σ ρ H (g dx dy h) Q → wpAny (model X.prog X.w) X.A (f v u) (EP X pins σ Q) X.xe s
def UnD (T : Tb) (X : Cx) (W : WX) (f : Value → Sem Value) (g : D → AH → Out D) : Prop :=
  ∀ (pins : List (Addr × Obj)) (s : Shared) (σ : L2.St) (ρ : List Addr) (h : AH) (H : Hp) (x : V) (dx : D) (v : Value) (Q : VK), Inv X pins σ H s → HRel T X.K ρ h H → Rep T X.K ρ H dx x → RelV x v →
    Post T X.K W σ ρ H (g dx h) Q → wpAny (model X.prog X.w) X.A (f v) (EP X pins σ Q) X.xe s
/-- what stands between two -/
theorem RG.bind2 {α β : Type} {rep : List Addr → Hp → α → β → Prop} {ea eb : En → AH → Out D} {f : D → D → AH → Out α} {K : PySem.W.Frag} {σ : L2.St} {H : Hp} {Q : β → Hp → Prop}
    (p : RG rep T K W (fun env h => (ea env h).bind fun x h1 => (eb env h1).bind fun y h2 => f x y h2) σ H Q) :
    RE T K W ea σ H fun x H1 => RE T K W eb σ H1 fun y H2 => ∃ ρ h dx dy, HRel T K ρ h H2 ∧ Rep T K ρ H2 dx x ∧ Rep T K ρ H2 dy y ∧ PostG rep T K W σ ρ H2 (f dx dy h) Q := by
  obtain ⟨ρ, env, h, R, E, q⟩ := RG.bind (rep := Rep T K) (k := fun env x h1 => (eb env h1).bind fun y h2 => f x y h2) p
  refine ⟨ρ, env, h, R, E, q.imp fun x H1 => ?_⟩
  rintro ⟨ρ1, env1, h1, dx, R1, E1, r1, q1⟩
  refine ⟨ρ1, env1, h1, R1, E1, (PostG.bind (rep := Rep T K) R1 q1).imp fun y H2 => ?_⟩
  rintro ⟨ρ2, h2, dy, f2, R2, r2, q2⟩
  exact ⟨ρ2, h2, dx, dy, R2, r1.fut f2, r2, q2⟩
theorem se_bin {op : Operator} {g : D → D → AH → Out D} {a b : Expr} {ea eb : Ev} {pos : Pos} (ho : OpD T X W (binaryOp op) g) (ha : PE X a (RE T X.K W (ea rc))) (hb : PE X b (RE T X.K W (eb rc))) : PE X (.BinOp a op b pos) (RE T X.K W (vB g ea eb rc)) := by
  refine ⟨fun pins s σ H Q I h => ?_⟩
  exact wpAny_BinOp (binT ha hb I (RG.bind2 h) fun v u s2 x y H2 I2 rx ry ⟨ρ, h, dx, dy, R, r1, r2, q⟩ => ho pins s2 σ ρ h H2 x y dx dy v u Q I2 R r1 r2 rx ry q)
theorem se_un {op : UnaryOp} {g : D → AH → Out D} {a : Expr} {ea : Ev} {pos : Pos} (ho : UnD T X W (unaryOp op) g) (ha : PE X a (RE T X.K W (ea rc))) : PE X (.UnaryOp op a pos) (RE T X.K W (vU g ea rc)) := by
  refine ⟨fun pins s σ H Q I h => ?_⟩
  refine UnaryOp_ (thn (ha.run pins s σ H _ I (RG.bind (rep := Rep T X.K) (k := fun _ x h1 => g x h1) h)) fun v s1 ⟨x, H1, I1, r1, q1⟩ => ?_)
  obtain ⟨ρ, env, h, d, R, E, r, q⟩ := q1
  exact ho pins s1 σ ρ h H1 x d v Q I1 R r r1 q
theorem se_cmp {op : CmpOp} {g : D → D → AH → Out D} {a b : Expr} {ea eb : Ev} {pos : Pos} (ho : OpD T X W (compareOp op) g) (ha : PE X a (RE T X.K W (ea rc))) (hb : PE X b (RE T X.K W (eb rc))) (hm : behindInMarks op b = false) : PE X (.Compare a [op] [b] pos) (RE T X.K W (vB g ea eb rc)) := by
  refine ⟨fun pins s σ H Q I h => ?_⟩
  exact wpAny_Compare1 (binT ha hb I (RG.bind2 h) fun v u s2 x y H2 I2 rx ry ⟨ρ, h, dx, dy, R, r1, r2, q⟩ => ho pins s2 σ ρ h H2 x y dx dy v u Q I2 R r1 r2 rx ry q) hm
end
end DC
/-! Dc5: tests, and, or, not, if; displays, subscripts. -/
namespace DC
open PySem PySem.Spec PyProof.Rows L2
/-- the items of a list or a tuple -/
def items (d : D) (h : AH) : Option (List D) := match d with
  | .tup xs => some xs
  | .lsq xs => some xs
  | .obj n => (match h[n]? with
    | some (.lst xs) => some xs
    | _ => none)
  | _ => none
def isTup : D → Bool
  | .tup _ => true
  | _ => false
section
variable {T : Tb} {K : PySem.W.Frag} {ρ : List Addr} {h : AH} {H : Hp}
theorem items_tup {d : D} {x : V} {xs : List D} (r : Rep T K ρ H d x) (e : items d h = some xs) (ht : isTup d = true) : ∃ a ys, x = .ref a ∧ SqT K H a ys ∧ Reps T K ρ H xs ys := by
  cases d <;> first | cases ht | skip
  cases e
  cases r with
  | tup hs rs => exact ⟨_, _, rfl, hs, rs⟩
theorem items_lst {d : D} {x : V} {xs : List D} (R : HRel T K ρ h H) (r : Rep T K ρ H d x) (e : items d h = some xs) (ht : isTup d = false) : ∃ a ys, x = .ref a ∧ SqL K H a ys ∧ Reps T K ρ H xs ys := by
  cases d with
  | tup _ => cases ht
  | lsq ys =>
    cases e
    cases r with
    | lsq hs rs => exact ⟨_, _, rfl, hs.seq, rs⟩
  | obj n =>
    cases r with
    | obj hn =>
      rename_i a
      simp only [items] at e
      cases q : h[n]? with
      | none => rw [q] at e; cases e
      | some o =>
        rw [q] at e
        cases o with
        | lst ys =>
          cases e
          obtain ⟨zs, z, rs⟩ := R.obj n a _ hn q
          exact ⟨a, zs, rfl, SqL.of z, rs⟩
        | dct _ _ => cases e
        | ins _ _ => cases e
  | _ => cases e
theorem items_any {d : D} {x : V} {xs : List D} (R : HRel T K ρ h H) (r : Rep T K ρ H d x) (e : items d h = some xs) : ∃ a ys, x = .ref a ∧ (SqT K H a ys ∨ SqL K H a ys) ∧ Reps T K ρ H xs ys := by
  cases ht : isTup d with
  | true => obtain ⟨a, ys, h1, h2, h3⟩ := items_tup r e ht; exact ⟨a, ys, h1, .inl h2, h3⟩
  | false => obtain ⟨a, ys, h1, h2, h3⟩ := items_lst R r e ht; exact ⟨a, ys, h1, .inr h2, h3⟩
end

/-! ### truth -/
/-- a truth read off a value -/
def truth (d : D) (h : AH) : Option Bool := match d with
  | .non => some false
  | .bl b => some b
  | .int i => some (i != 0)
  | .str x => (match Nat.ble x.length 16777216 with | true => some (!x.isEmpty) | false => none)
  | .tup xs => some (!xs.isEmpty)
  | .lsq xs => some (!xs.isEmpty)
  | .obj n => (match h[n]? with
    | some (.lst xs) => some (!xs.isEmpty)
    | _ => none)
  | _ => none
def vTru (a : Ev) : Tv := fun rc env h => (a rc env h).bind fun d h1 => match truth d h1 with
  | some b => .ok b h1
  | none => .bad
/-- a truth value as a test -/
def vBl (a : Ev) : Tv := fun rc env h => (a rc env h).bind fun d h1 => match d with
  | .bl b => .ok b h1
  | _ => .bad
def vNotT (a : Tv) : Tv := fun rc env h => (a rc env h).bind fun b h1 => .ok (!b) h1
def vAndT (a b : Tv) : Tv := fun rc env h => (a rc env h).bind fun c h1 => match c with
  | true => b rc env h1
  | false => .ok false h1
def vOrT (a b : Tv) : Tv := fun rc env h => (a rc env h).bind fun c h1 => match c with
  | true => .ok true h1
  | false => b rc env h1
def vAnd (a b : Ev) : Ev := fun rc env h => (a rc env h).bind fun c h1 => match c with
  | .bl true => b rc env h1
  | .bl false => .ok (.bl false) h1
  | _ => .bad
def vOr (a b : Ev) : Ev := fun rc env h => (a rc env h).bind fun c h1 => match c with
  | .bl true => .ok (.bl true) h1
  | .bl false => b rc env h1
  | _ => .bad
def vNot (a : Ev) : Ev := fun rc env h => (a rc env h).bind fun c h1 => match c with
  | .bl b => .ok (.bl (!b)) h1
  | _ => .bad
def vIf (c : Tv) (a b : Ev) : Ev := fun rc env h => (c rc env h).bind fun c h1 => match c with
  | true => a rc env h1
  | false => b rc env h1
section
variable {G : Gx} {T : Tb} {c : Cc} {X : Cx} {k : Nat} {rc : Rc} {W : WX}
theorem truth_ok {σ : L2.St} {H : Hp} {ρ : List Addr} {h : AH} {d : D} {x : V} {b : Bool} (R : HRel T X.K ρ h H) (r : Rep T X.K ρ H d x) (e : truth d h = some b) : TruV X.K x H b := by
  cases d with
  | non => cases r; cases e; exact rfl
  | bl b => cases r; cases e; exact rfl
  | int i => cases r; cases e; exact rfl
  | str z =>
    cases r
    simp only [truth] at e
    cases q : Nat.ble z.length 16777216 with
    | false => rw [q] at e; cases e
    | true =>
      rw [q] at e
      cases e
      have hl := Nat.le_of_ble_eq_true q
      have hs := sizeLine_eq
      refine ⟨by show z.toArray.size ≤ sizeLine; rw [List.size_toArray]; omega, ?_⟩
      show (!z.isEmpty) = (((z.toArray.size : Nat) : Int) != 0)
      rw [List.size_toArray]
      cases z with
      | nil => rfl
      | cons a l =>
        have : (((a :: l).length : Nat) : Int) ≠ 0 := by simp only [List.length_cons]; omega
        exact (bne_iff_ne.mpr this).symm
  | tup xs =>
    cases r with
    | tup hs rs =>
      cases e
      refine .inr (.inl ⟨_, hs, ?_⟩)
      cases rs <;> rfl
  | lsq xs =>
    cases r with
    | lsq hs rs =>
      cases e
      refine .inl ⟨_, hs.seq, ?_⟩
      cases rs <;> rfl
  | obj n =>
    cases r with
    | obj hn =>
      simp only [truth] at e
      cases q : h[n]? with
      | none => rw [q] at e; cases e
      | some o =>
        rw [q] at e
        cases o with
        | lst ys =>
          cases e
          obtain ⟨zs, z, rs⟩ := R.obj n _ _ hn q
          refine .inl ⟨zs, SqL.of z, ?_⟩
          cases rs <;> rfl
        | dct _ _ => cases e
        | ins _ _ => cases e
  | fn _ => cases e
  | cls _ => cases e
theorem st_tru {e : Expr} {a : Ev} (ha : PE X e (RE T X.K W (a rc))) (he : ∀ whole, isTrue e X.env whole = (do let v ← whole; standAt e.pos; holding [v] (truthy v))) : PT X e (RT T X.K W (vTru a rc)) := by
  refine ⟨fun pins s σ H Q I h => ?_⟩
  refine (pt_truth ha he).run pins s σ H Q I ?_
  obtain ⟨ρ, env, h, R, E, q⟩ := RG.bind (rep := Rep T X.K) (k := fun _ d h1 => match truth d h1 with | some b => .ok b h1 | none => .bad) h
  refine ⟨ρ, env, h, R, E, q.imp fun x H1 => ?_⟩
  rintro ⟨ρ1, env1, h1, d, R1, E1, r1, q1⟩
  cases t : truth d h1 with
  | none => rw [t] at q1; exact q1.elim
  | some b =>
    rw [t] at q1
    exact ⟨b, truth_ok (σ := σ) R1 r1 t, q1.now Fut.refl R1 rfl⟩
theorem st_cmp {op : CmpOp} {g : D → D → AH → Out D} {a b : Expr} {ea eb : Ev} {pos : Pos} (ho : OpD T X W (compareOp op) g) (ha : PE X a (RE T X.K W (ea rc))) (hb : PE X b (RE T X.K W (eb rc))) (hm : behindInMarks op b = false) : PT X (.Compare a [op] [b] pos) (RT T X.K W (vBl (vB g ea eb) rc)) := by
  refine ⟨fun pins s σ H Q I h => ?_⟩
  have h2 : RG BRep T X.K W (fun env h => (ea rc env h).bind fun x h1 => (eb rc env h1).bind fun y h2 => (g x y h2).bind fun d h3 => match d with | D.bl b => .ok b h3 | _ => .bad) σ H Q := by
    obtain ⟨ρ, env, h0, R, E, p⟩ := h
    refine ⟨ρ, env, h0, R, E, ?_⟩
    simp only [vBl, vB, Out.bind_assoc] at p
    exact p
  have h3 := RG.bind2 (f := fun x y h2 => (g x y h2).bind fun d h3 => match d with | D.bl b => .ok b h3 | _ => .bad) h2
  refine wpAny_isTrue_Compare1 (thn (ha.run pins s σ H _ I h3) fun v s1 ⟨x, H1, I1, r1, q1⟩ => thn (hb.run pins s1 σ H1 _ I1 q1) fun u s2 ⟨y, H2, I2, r2, q2⟩ => ?_) hm
  obtain ⟨ρ, h, dx, dy, R, rx, ry, q⟩ := q2
  refine thn (ho pins s2 σ ρ h H2 x y dx dy v u _ I2 R rx ry r1 r2 (PostG.bind (rep := Rep T X.K) R q)) fun cv s3 ⟨z, H3, I3, r3, q3⟩ => ?_
  obtain ⟨ρ3, h3, d3, f3, R3, rz, q3⟩ := q3
  cases d3 with
  | bl b =>
    cases rz
    cases r3
    exact wpAny_truthy_bool ⟨H3, I3, q3.now Fut.refl R3 rfl⟩
  | _ => exact q3.elim
theorem st_not {e : Expr} {a : Tv} {pos : Pos} (ha : PT X e (RT T X.K W (a rc))) : PT X (.UnaryOp .Not e pos) (RT T X.K W (vNotT a rc)) := by
  refine ⟨fun pins s σ H Q I h => (pt_not ha).run pins s σ H Q I ?_⟩
  obtain ⟨ρ, env, h, R, E, q⟩ := RG.bind (rep := BRep) (k := fun _ b h1 => .ok (!b) h1) h
  refine ⟨ρ, env, h, R, E, q.imp fun x H1 => ?_⟩
  rintro ⟨ρ1, env1, h1, d, R1, E1, r1, q1⟩
  cases r1
  exact q1.now Fut.refl R1 rfl
theorem RG.bindB {α β : Type} {rep : List Addr → Hp → α → β → Prop} {K : PySem.W.Frag} {σ : L2.St} {H : Hp} {Q : β → Hp → Prop} {e : En → AH → Out Bool} {k1 k2 : En → AH → Out α} (p : RG rep T K W (fun env h => (e env h).bind fun c h1 => match c with | true => k1 env h1 | false => k2 env h1) σ H Q) :
    RT T K W e σ H fun b H1 => if b = true then RG rep T K W k1 σ H1 Q else RG rep T K W k2 σ H1 Q := by
  obtain ⟨ρ, env, h, R, E, q⟩ := RG.bind (rep := BRep) (k := fun env c h1 => match c with | true => k1 env h1 | false => k2 env h1) p
  refine ⟨ρ, env, h, R, E, q.imp fun x H1 => ?_⟩
  rintro ⟨ρ1, env1, h1, d, R1, E1, r1, q1⟩
  have e : d = x := r1
  subst e
  cases d with
  | true => exact ⟨ρ1, env1, h1, R1, E1, q1⟩
  | false => exact ⟨ρ1, env1, h1, R1, E1, q1⟩
theorem RG.retB {K : PySem.W.Frag} {σ : L2.St} {H : Hp} {Q : Bool → Hp → Prop} {b : Bool} (p : RG BRep T K W (fun _ h => .ok b h) σ H Q) : Q b H := by
  obtain ⟨ρ, env, h, R, E, q⟩ := p
  exact q.now Fut.refl R rfl
theorem st_and {a b : Expr} {rest : List Expr} {pos : Pos} {ta tb : Tv} (ha : PT X a (RT T X.K W (ta rc))) (hb : PW X (.BoolOp .And (b :: rest) pos) (RT T X.K W (tb rc))) : PW X (.BoolOp .And (a :: b :: rest) pos) (RT T X.K W (vAndT ta tb rc)) := by
  refine ⟨fun whole pins s σ H Q I h => (pw_and ha hb).run whole pins s σ H Q I ?_⟩
  obtain ⟨ρ, env, h0, R, E, q⟩ := RG.bindB (k1 := tb rc) (k2 := fun _ h => .ok false h) h
  refine ⟨ρ, env, h0, R, E, q.imp fun x H1 z => ?_⟩
  cases x with
  | true => exact z
  | false => exact RG.retB z
theorem st_and1 {a : Expr} {pos : Pos} {ta : Tv} (ha : PT X a (RT T X.K W (ta rc))) : PW X (.BoolOp .And [a] pos) (RT T X.K W (ta rc)) := pw_and1 ha
theorem st_or {a b : Expr} {rest : List Expr} {pos : Pos} {ta tb : Tv} (ha : PT X a (RT T X.K W (ta rc))) (hb : PW X (.BoolOp .Or (b :: rest) pos) (RT T X.K W (tb rc))) : PW X (.BoolOp .Or (a :: b :: rest) pos) (RT T X.K W (vOrT ta tb rc)) := by
  refine ⟨fun whole pins s σ H Q I h => (pw_or ha hb).run whole pins s σ H Q I ?_⟩
  obtain ⟨ρ, env, h0, R, E, q⟩ := RG.bindB (k1 := fun _ h => .ok true h) (k2 := tb rc) h
  refine ⟨ρ, env, h0, R, E, q.imp fun x H1 z => ?_⟩
  cases x with
  | true => exact RG.retB z
  | false => exact z
theorem st_or1 {a : Expr} {pos : Pos} {ta : Tv} (ha : PT X a (RT T X.K W (ta rc))) : PW X (.BoolOp .Or [a] pos) (RT T X.K W (ta rc)) := pw_or1 ha
theorem se_and {a b : Expr} {rest : List Expr} {pos : Pos} {ta tb : Ev} (ha : PE X a (RE T X.K W (ta rc))) (hb : PE X (.BoolOp .And (b :: rest) pos) (RE T X.K W (tb rc))) : PE X (.BoolOp .And (a :: b :: rest) pos) (RE T X.K W (vAnd ta tb rc)) := by
  refine ⟨fun pins s σ H Q I h => (pe_and ha hb).run pins s σ H Q I ?_⟩
  obtain ⟨ρ, env, h0, R, E, q⟩ := RG.bind (rep := Rep T X.K) (k := fun env c h1 => match c with | D.bl true => tb rc env h1 | D.bl false => .ok (D.bl false) h1 | _ => .bad) h
  refine ⟨ρ, env, h0, R, E, q.imp fun x H1 => ?_⟩
  rintro ⟨ρ1, env1, h1, d, R1, E1, r1, q1⟩
  cases d with
  | bl b =>
    cases r1
    refine ⟨b, rfl, ?_⟩
    cases b with
    | true => exact ⟨ρ1, env1, h1, R1, E1, q1⟩
    | false => exact q1.now Fut.refl R1 .bl
  | _ => exact q1.elim
theorem se_or {a b : Expr} {rest : List Expr} {pos : Pos} {ta tb : Ev} (ha : PE X a (RE T X.K W (ta rc))) (hb : PE X (.BoolOp .Or (b :: rest) pos) (RE T X.K W (tb rc))) : PE X (.BoolOp .Or (a :: b :: rest) pos) (RE T X.K W (vOr ta tb rc)) := by
  refine ⟨fun pins s σ H Q I h => (pe_or ha hb).run pins s σ H Q I ?_⟩
  obtain ⟨ρ, env, h0, R, E, q⟩ := RG.bind (rep := Rep T X.K) (k := fun env c h1 => match c with | D.bl true => .ok (D.bl true) h1 | D.bl false => tb rc env h1 | _ => .bad) h
  refine ⟨ρ, env, h0, R, E, q.imp fun x H1 => ?_⟩
  rintro ⟨ρ1, env1, h1, d, R1, E1, r1, q1⟩
  cases d with
  | bl b =>
    cases r1
    refine ⟨b, rfl, ?_⟩
    cases b with
    | true => exact q1.now Fut.refl R1 .bl
    | false => exact ⟨ρ1, env1, h1, R1, E1, q1⟩
  | _ => exact q1.elim
theorem se_one {op} {a : Expr} {pos : Pos} {ta : Ev} (ha : PE X a (RE T X.K W (ta rc))) : PE X (.BoolOp op [a] pos) (RE T X.K W (ta rc)) := pe_one ha
theorem se_not {a : Expr} {pos : Pos} {ta : Ev} (ha : PE X a (RE T X.K W (ta rc))) : PE X (.UnaryOp .Not a pos) (RE T X.K W (vNot ta rc)) := by
  refine ⟨fun pins s σ H Q I h => (pe_not ha).run pins s σ H Q I ?_⟩
  obtain ⟨ρ, env, h0, R, E, q⟩ := RG.bind (rep := Rep T X.K) (k := fun env c h1 => match c with | D.bl b => .ok (D.bl (!b)) h1 | _ => .bad) h
  refine ⟨ρ, env, h0, R, E, q.imp fun x H1 => ?_⟩
  rintro ⟨ρ1, env1, h1, d, R1, E1, r1, q1⟩
  cases d with
  | bl b =>
    cases r1
    exact ⟨b, rfl, q1.now Fut.refl R1 .bl⟩
  | _ => exact q1.elim
theorem se_if {c a b : Expr} {pos : Pos} {tc : Tv} {ta tb : Ev} (hc : PT X c (RT T X.K W (tc rc))) (ha : PE X a (RE T X.K W (ta rc))) (hb : PE X b (RE T X.K W (tb rc))) : PE X (.IfExp c a b pos) (RE T X.K W (vIf tc ta tb rc)) := by
  refine ⟨fun pins s σ H Q I h => (pe_ifExp hc ha hb).run pins s σ H Q I ?_⟩
  exact RG.bindB (k1 := ta rc) (k2 := tb rc) h

/-! ### displays -/
def aNil : Av := fun _ _ h => .ok [] h
def aCons (a : Ev) (r : Av) : Av := fun rc env h => (a rc env h).bind fun x h1 => (r rc env h1).bind fun xs h2 => .ok (x :: xs) h2
def aStar (a : Ev) (r : Av) : Av := fun rc env h => (a rc env h).bind fun x h1 => match items x h1 with
  | some xs => (r rc env h1).bind fun ys h2 => .ok (xs ++ ys) h2
  | none => .bad
theorem sa_nil : PA X [] (RA T X.K W (aNil rc)) := by
  refine ⟨fun pos pins s σ H Q I h => pa_nil.run pos pins s σ H Q I ?_⟩
  obtain ⟨ρ, env, h, R, E, q⟩ := h
  exact q.now Fut.refl R .nil
theorem sa_cons {e : Expr} {es : List Expr} {a : Ev} {r : Av} (ha : PE X e (RE T X.K W (a rc))) (hr : PA X es (RA T X.K W (r rc))) (hs : starEach (e :: es) X.env = (false, eval e X.env) :: starEach es X.env) : PA X (e :: es) (RA T X.K W (aCons a r rc)) := by
  refine ⟨fun pos pins s σ H Q I h => (pa_cons ha hr hs).run pos pins s σ H Q I ?_⟩
  obtain ⟨ρ, env, h0, R, E, q⟩ := RG.bind (rep := Rep T X.K) (k := fun env x h1 => (r rc env h1).bind fun xs h2 => .ok (x :: xs) h2) h
  refine ⟨ρ, env, h0, R, E, q.imp fun x H1 => ?_⟩
  rintro ⟨ρ1, env1, h1, d, R1, E1, r1, q1⟩
  refine ⟨ρ1, env1, h1, R1, E1, (PostG.bind (rep := Reps T X.K) R1 q1).imp fun xs H2 => ?_⟩
  rintro ⟨ρ2, h2, ds, f2, R2, r2, q2⟩
  exact q2.now Fut.refl R2 (.cons (r1.fut f2) r2)
theorem sa_star {e : Expr} {es : List Expr} {a : Ev} {r : Av} {p : Pos} (ha : PE X e (RE T X.K W (a rc))) (hr : PA X es (RA T X.K W (r rc))) : PA X (.Starred e p :: es) (RA T X.K W (aStar a r rc)) := by
  refine ⟨fun pos pins s σ H Q I h => (StX.pa_star ha hr).run pos pins s σ H Q I ?_⟩
  obtain ⟨ρ, env, h0, R, E, q⟩ := RG.bind (rep := Rep T X.K) (k := fun env x h1 => match items x h1 with | some xs => (r rc env h1).bind fun ys h2 => .ok (xs ++ ys) h2 | none => .bad) h
  refine ⟨ρ, env, h0, R, E, q.imp fun x H1 => ?_⟩
  rintro ⟨ρ1, env1, h1, d, R1, E1, r1, q1⟩
  cases e1 : items d h1 with
  | none => rw [e1] at q1; exact q1.elim
  | some xs =>
    rw [e1] at q1
    obtain ⟨p, ys, ex, hs, rs⟩ := items_any R1 r1 e1
    refine ⟨p, ys, ex, hs, ρ1, env1, h1, R1, E1, (PostG.bind (rep := Reps T X.K) R1 q1).imp fun zs H2 => ?_⟩
    rintro ⟨ρ2, h2, ds, f2, R2, r2, q2⟩
    exact q2.now Fut.refl R2 ((rs.fut f2).append r2)
def tupO (xs : List D) (h : AH) : Out D := match Nat.ble xs.length 16777216 with
  | true => .ok (.tup xs) h
  | false => .bad
def lstO (xs : List D) (h : AH) : Out D := match Nat.ble xs.length 16777216 with
  | true => .ok (.obj h.length) (h ++ [.lst xs])
  | false => .bad
def vTup (a : Av) : Ev := fun rc env h => (a rc env h).bind tupO
def vLst (a : Av) : Ev := fun rc env h => (a rc env h).bind lstO
/-- a new tuple -/
theorem post_tup {σ : L2.St} {K : PySem.W.Frag} {ρ : List Addr} {h : AH} {H : Hp} {xs : List D} {ys : List V} {Q : VK} (R : HRel T K ρ h H) (r : Reps T K ρ H xs ys) (p : Post T K W σ ρ H (tupO xs h) Q) : ys.length ≤ sizeLine ∧ ∀ p, H p = none → Q (.ref p) (upd H p (.tup ys)) := by
  unfold tupO at p
  cases e : Nat.ble xs.length 16777216 with
  | false => rw [e] at p; exact p.elim
  | true =>
    rw [e] at p
    have hl := Nat.le_of_ble_eq_true e
    refine ⟨by rw [← r.length, sizeLine_eq]; exact hl, fun a hn => ?_⟩
    have f : Fut K ρ H ρ (upd H a (.tup ys)) := fut_new hn
    exact p.now f (R.unnum hn (fun _ z => nomatch z)) (.tup (SqT.of upd_same) (r.fut f))
/-- a new list -/
theorem post_lst {σ : L2.St} {K : PySem.W.Frag} {ρ : List Addr} {h : AH} {H : Hp} {xs : List D} {ys : List V} {Q : VK} (R : HRel T K ρ h H) (r : Reps T K ρ H xs ys) (p : Post T K W σ ρ H (lstO xs h) Q) : ys.length ≤ sizeLine ∧ ∀ p, H p = none → Q (.ref p) (upd H p (.lst ys)) := by
  unfold lstO at p
  cases e : Nat.ble xs.length 16777216 with
  | false => rw [e] at p; exact p.elim
  | true =>
    rw [e] at p
    have hl := Nat.le_of_ble_eq_true e
    refine ⟨by rw [← r.length, sizeLine_eq]; exact hl, fun a hn => ?_⟩
    have f : Fut K ρ H (ρ ++ [a]) (upd H a (.lst ys)) := fut_num hn (fut_new hn)
    exact p.now f (R.num hn (fun _ z => nomatch z) ⟨ys, upd_same, r.fut f⟩) (.obj (by rw [← R.len]; simp))
theorem se_tup {es : List Expr} {k : Nat} {pos : Pos} {a : Av} (ha : PA X es (RA T X.K W (a rc))) : PE X (.Tuple es k pos) (RE T X.K W (vTup a rc)) := by
  refine ⟨fun pins s σ H Q I h => (pe_tup ha).run pins s σ H Q I ?_⟩
  obtain ⟨ρ, env, h0, R, E, q⟩ := RG.bind (rep := Reps T X.K) (k := fun _ => tupO) h
  refine ⟨ρ, env, h0, R, E, q.imp fun x H1 => ?_⟩
  rintro ⟨ρ1, env1, h1, d, R1, E1, r1, q1⟩
  exact post_tup R1 r1 q1
theorem se_lst {es : List Expr} {pos : Pos} {a : Av} (ha : PA X es (RA T X.K W (a rc))) : PE X (.List es pos) (RE T X.K W (vLst a rc)) := by
  refine ⟨fun pins s σ H Q I h => (pe_lst ha).run pins s σ H Q I ?_⟩
  obtain ⟨ρ, env, h0, R, E, q⟩ := RG.bind (rep := Reps T X.K) (k := fun _ => lstO) h
  refine ⟨ρ, env, h0, R, E, q.imp fun x H1 => ?_⟩
  rintro ⟨ρ1, env1, h1, d, R1, E1, r1, q1⟩
  exact post_lst R1 r1 q1

/-! ### subscripts -/
theorem atI_map {α β : Type} {xs : List α} {ys : List β} {i : Int} {x : α} (hl : xs.length = ys.length) (e : atI xs i = some x) : ∃ j : Nat, xs[j]? = some x ∧ ∀ y, ys[j]? = some y → atI ys i = some y := by
  unfold atI at e ⊢
  rw [hl] at e
  cases q : ixN ys.length i with
  | none => rw [q] at e; cases e
  | some j => rw [q] at e; exact ⟨j, e, fun y hy => hy⟩
theorem Reps.at {T : Tb} {K : PySem.W.Frag} {ρ : List Addr} {H : Hp} {xs : List D} {ys : List V} {i : Int} {d : D} (r : Reps T K ρ H xs ys) (e : atI xs i = some d) : ∃ v, atI ys i = some v ∧ Rep T K ρ H d v := by
  obtain ⟨j, h1, h2⟩ := atI_map r.length e
  obtain ⟨v, h3, h4⟩ := r.get h1
  exact ⟨v, h2 v h3, h4⟩
/-- o[i] -/
def ixO (x y : D) (h : AH) : Out D := match y with
  | .int i => (match x with
    | .str z => (match Nat.ble z.length 16777216 with
      | true => (match atI z i with | some c => .ok (.str [c]) h | none => .bad)
      | false => .bad)
    | _ => (match items x h with
      | some xs => (match atI xs i with | some d => .ok d h | none => .bad)
      | none => .bad))
  | _ => .bad
theorem ix_ok {σ : L2.St} {K : PySem.W.Frag} {ρ : List Addr} {h : AH} {H : Hp} {dx dy : D} {x y : V} {Q : VK} (R : HRel T K ρ h H) (rx : Rep T K ρ H dx x) (ry : Rep T K ρ H dy y) (p : Post T K W σ ρ H (ixO dx dy h) Q) : rIx K x y H Q := by
  unfold ixO at p
  cases dy with
  | int i =>
    cases ry
    have go : (∀ z, dx ≠ .str z) → rIx K x (.int i) H Q := fun hz => by
      have p2 : Post T K W σ ρ H (match items dx h with | some xs => (match atI xs i with | some d => .ok d h | none => .bad) | none => .bad) Q := by
        cases dx <;> first | exact p | exact absurd rfl (hz _)
      cases e1 : items dx h with
      | none => rw [e1] at p2; exact p2.elim
      | some xs =>
        rw [e1] at p2
        simp only at p2
        cases e2 : atI xs i with
        | none => rw [e2] at p2; exact p2.elim
        | some d =>
          rw [e2] at p2
          cases ht : isTup dx with
          | true =>
            obtain ⟨a, ys, ex, hs, rs⟩ := items_tup rx e1 ht
            obtain ⟨v, e3, r3⟩ := rs.at e2
            exact .inr (.inl ⟨a, ys, i, v, ex, rfl, hs, e3, p2.now Fut.refl R r3⟩)
          | false =>
            obtain ⟨a, ys, ex, hs, rs⟩ := items_lst R rx e1 ht
            obtain ⟨v, e3, r3⟩ := rs.at e2
            exact .inl ⟨a, ys, i, v, ex, rfl, hs, e3, p2.now Fut.refl R r3⟩
    cases dx with
    | str z =>
      cases rx
      simp only at p
      cases q : Nat.ble z.length 16777216 with
      | false => rw [q] at p; exact p.elim
      | true =>
        rw [q] at p
        have hl := Nat.le_of_ble_eq_true q
        simp only at p
        cases e2 : atI z i with
        | none => rw [e2] at p; exact p.elim
        | some ch =>
          rw [e2] at p
          refine .inr (.inr ⟨⟨z.toArray⟩, i, ch, rfl, rfl, ?_, e2, p.now Fut.refl R .str⟩)
          show z.toArray.size ≤ sizeLine
          rw [List.size_toArray, sizeLine_eq]; exact hl
    | _ => exact go (fun _ z => nomatch z)
  | _ => exact p.elim
theorem se_ix {a b : Expr} {ea eb : Ev} {pos : Pos} (ha : PE X a (RE T X.K W (ea rc))) (hb : PE X b (RE T X.K W (eb rc))) (hs : PlainIx b) : PE X (.Subscript a b pos) (RE T X.K W (vB ixO ea eb rc)) := by
  refine ⟨fun pins s σ H Q I h => ?_⟩
  exact Subscript_ (binT ha hb I (RG.bind2 h) fun v u s2 x y H2 I2 rx ry ⟨ρ, h, dx, dy, R, r1, r2, q⟩ => ix_seq a b pins s2 σ H2 x y v u Q I2 rx ry (ix_ok R r1 r2 q) (hs _ _))
end
end DC
/-! Dc6: operators by contents. -/
namespace DC
open PySem PySem.Spec PyProof.Rows L2
/-! ### ints -/
def intO (c : Bool) (i : Int) (h : AH) : Out D := match c with
  | true => .ok (.int i) h
  | false => .bad
section
variable {T : Tb} {X : Cx} {W : WX} {pins : List (Addr × Obj)} {s : Shared} {σ : L2.St} {ρ : List Addr} {h : AH} {H : Hp} {x y : V} {v u : Value} {Q : VK}
theorem int_case {f : Value → Value → Sem Value} {c : Bool} {z i j : Int} (I : Inv X pins σ H s) (R : HRel T X.K ρ h H) (rx : Rep T X.K ρ H (.int i) x) (ry : Rep T X.K ρ H (.int j) y) (rv : RelV x v) (ru : RelV y u) (p : Post T X.K W σ ρ H (intO c z h) Q)
    (rule : ∀ (t t' : Tok) (s : Shared) (Q : Value → Shared → Prop) (E : Value → Shared → Prop), c = true → Q (.int z s.toks) { s with toks := s.toks + 1 } → wpAny (model X.prog X.w) X.A (f (.int i t) (.int j t')) Q E s) :
    wpAny (model X.prog X.w) X.A (f v u) (EP X pins σ Q) X.xe s := by
  cases rx
  cases ry
  obtain ⟨t, rfl⟩ := rv
  obtain ⟨t', rfl⟩ := ru
  cases c with
  | false => exact p.elim
  | true => exact rule t t' s _ _ rfl ⟨.int z, H, I.tok _, ⟨_, rfl⟩, p.now Fut.refl R .int⟩
theorem bool_case {f : Value → Value → Sem Value} {z : Bool} {i j : Int} (I : Inv X pins σ H s) (R : HRel T X.K ρ h H) (rx : Rep T X.K ρ H (.int i) x) (ry : Rep T X.K ρ H (.int j) y) (rv : RelV x v) (ru : RelV y u) (p : Post T X.K W σ ρ H (.ok (.bl z) h) Q)
    (rule : ∀ (t t' : Tok) (s : Shared) (Q : Value → Shared → Prop) (E : Value → Shared → Prop), Q (.bool z) s → wpAny (model X.prog X.w) X.A (f (.int i t) (.int j t')) Q E s) :
    wpAny (model X.prog X.w) X.A (f v u) (EP X pins σ Q) X.xe s := by
  cases rx
  cases ry
  obtain ⟨t, rfl⟩ := rv
  obtain ⟨t', rfl⟩ := ru
  exact rule t t' s _ _ ⟨.bl z, H, I, rfl, p.now Fut.refl R .bl⟩
/-- an operation by a rule of values -/
theorem by_rule {f : Value → Value → Sem Value} {r : R2} (ho : OpR X f r) (I : Inv X pins σ H s) (rv : RelV x v) (ru : RelV y u) (q : r x y H Q) : wpAny (model X.prog X.w) X.A (f v u) (EP X pins σ Q) X.xe s := ho pins s σ H x y v u Q I rv ru q
end
def subO (x y : D) (h : AH) : Out D := match x, y with
  | .int i, .int j => .ok (.int (i - j)) h
  | _, _ => .bad
def mulC (i j : Int) : Bool := Nat.blt (i.natAbs.log2 + j.natAbs.log2) 1000000
def divC (j : Int) : Bool := (j != 0) && Nat.blt j.natAbs.log2 9000
def powC (i j : Int) : Bool := decide (0 ≤ j) && decide ((Builtin.Int.intBits i : Int) * j ≤ 2 ^ 27)
def fdivO (x y : D) (h : AH) : Out D := match x, y with
  | .int i, .int j => intO (divC j) (i.fdiv j) h
  | _, _ => .bad
def modO (x y : D) (h : AH) : Out D := match x, y with
  | .int i, .int j => intO (j != 0) (i.fmod j) h
  | _, _ => .bad
def powO (x y : D) (h : AH) : Out D := match x, y with
  | .int i, .int j => intO (powC i j) (i ^ j.toNat) h
  | _, _ => .bad
def imulO (x y : D) (h : AH) : Out D := match x, y with
  | .int i, .int j => intO (mulC i j) (i * j) h
  | _, _ => .bad
def iaddO (x y : D) (h : AH) : Out D := match x, y with
  | .int i, .int j => .ok (.int (i + j)) h
  | _, _ => .bad
def negO (x : D) (h : AH) : Out D := match x with
  | .int i => .ok (.int (-i)) h
  | _ => .bad
def ltO (x y : D) (h : AH) : Out D := match x, y with
  | .int i, .int j => .ok (.bl (decide (i < j))) h
  | _, _ => .bad
def leO (x y : D) (h : AH) : Out D := match x, y with
  | .int i, .int j => .ok (.bl (decide (i ≤ j))) h
  | _, _ => .bad
def gtO (x y : D) (h : AH) : Out D := match x, y with
  | .int i, .int j => .ok (.bl (decide (j < i))) h
  | _, _ => .bad
def geO (x y : D) (h : AH) : Out D := match x, y with
  | .int i, .int j => .ok (.bl (decide (j ≤ i))) h
  | _, _ => .bad
def isNone : D → Bool
  | .non => true
  | _ => false
def isO (x y : D) (h : AH) : Out D := match y with
  | .non => .ok (.bl (isNone x)) h
  | _ => .bad
def isNotO (x y : D) (h : AH) : Out D := match y with
  | .non => .ok (.bl (!isNone x)) h
  | _ => .bad
/-- the whole of a list, where it may be added to another: it is an object -/
def lstAt (x : D) (h : AH) : Option (List D) := match x with
  | .obj n => (match h[n]? with
    | some (.lst xs) => some xs
    | _ => none)
  | _ => none
def addO (x y : D) (h : AH) : Out D := match x, y with
  | .int i, .int j => .ok (.int (i + j)) h
  | .str i, .str j => (match Nat.ble (i.length + j.length) 16777216 with
    | true => .ok (.str (i ++ j)) h
    | false => .bad)
  | .tup i, .tup j => (match Nat.ble (i.length + j.length) 16777216 with
    | true => .ok (.tup (i ++ j)) h
    | false => .bad)
  | .obj n, .obj m => (match lstAt (.obj n) h, lstAt (.obj m) h with
    | some i, some j => lstO (i ++ j) h
    | _, _ => .bad)
  | _, _ => .bad
def mulO (x y : D) (h : AH) : Out D := match x, y with
  | .int i, .int j => intO (mulC i j) (i * j) h
  | .obj n, .int k => (match lstAt (.obj n) h with
    | some xs => (match decide (-(2 ^ 63) ≤ k) && decide (k < 2 ^ 63) && Nat.ble (xs.length * k.toNat) 16777216 with
      | true => lstO (List.replicate k.toNat xs).flatten h
      | false => .bad)
    | none => .bad)
  | .tup xs, .int k => (match decide (2 ≤ k) && decide (k ≤ 1000) && Nat.ble xs.length 1000 && !xs.isEmpty with
    | true => .ok (.tup (List.replicate k.toNat xs).flatten) h
    | false => .bad)
  | _, _ => .bad
section
variable {T : Tb} {X : Cx} {W : WX}
theorem lstAt_ok {K : PySem.W.Frag} {ρ : List Addr} {h : AH} {H : Hp} {d : D} {x : V} {xs : List D} (R : HRel T K ρ h H) (r : Rep T K ρ H d x) (e : lstAt d h = some xs) : ∃ n a ys, d = .obj n ∧ x = .ref a ∧ ρ[n]? = some a ∧ h[n]? = some (.lst xs) ∧ H a = some (.lst ys) ∧ Reps T K ρ H xs ys := by
  cases d with
  | obj n =>
    cases r with
    | obj hn =>
      simp only [lstAt] at e
      cases q : h[n]? with
      | none => rw [q] at e; cases e
      | some o =>
        rw [q] at e
        cases o with
        | lst ys =>
          cases e
          obtain ⟨zs, z, rs⟩ := R.obj n _ _ hn q
          exact ⟨n, _, zs, rfl, rfl, hn, q, z, rs⟩
        | dct _ _ => cases e
        | ins _ _ => cases e
  | _ => cases e
theorem od_sub : OpD T X W (binaryOp .Sub) subO := fun pins s σ ρ h H x y dx dy v u Q I R rx ry rv ru p => by
  cases dx with
  | int i => cases dy with
    | int j => exact int_case (c := true) I R rx ry rv ru p fun t t' s Q E _ q => sub_int q
    | _ => exact p.elim
  | _ => exact p.elim
theorem od_isub : OpD T X W (inplaceOp .Sub) subO := fun pins s σ ρ h H x y dx dy v u Q I R rx ry rv ru p => by
  cases dx with
  | int i => cases dy with
    | int j => exact int_case (c := true) I R rx ry rv ru p fun t t' s Q E _ q => isub_int q
    | _ => exact p.elim
  | _ => exact p.elim
theorem od_iadd : OpD T X W (inplaceOp .Add) iaddO := fun pins s σ ρ h H x y dx dy v u Q I R rx ry rv ru p => by
  cases dx with
  | int i => cases dy with
    | int j => exact int_case (c := true) I R rx ry rv ru p fun t t' s Q E _ q => iadd_int q
    | _ => exact p.elim
  | _ => exact p.elim
theorem mulC_ok {i j : Int} (h : mulC i j = true) : IntMulOk i j := CMulW.ok (show i.natAbs.log2 + j.natAbs.log2 < 1000000 from by
  unfold mulC at h
  exact Nat.blt_eq.mp h)
theorem divC_ok {j : Int} (h : divC j = true) : j ≠ 0 ∧ j.natAbs.log2 < 9000 := by
  unfold divC at h
  obtain ⟨h1, h2⟩ := Bool.and_eq_true_iff.mp h
  exact ⟨bne_iff_ne.mp h1, Nat.blt_eq.mp h2⟩
theorem od_imul : OpD T X W (inplaceOp .Mult) imulO := fun pins s σ ρ h H x y dx dy v u Q I R rx ry rv ru p => by
  cases dx with
  | int i => cases dy with
    | int j => exact int_case I R rx ry rv ru p fun t t' s Q E c q => imul_int q (mulC_ok c)
    | _ => exact p.elim
  | _ => exact p.elim
theorem od_fdiv : OpD T X W (binaryOp .FloorDiv) fdivO := fun pins s σ ρ h H x y dx dy v u Q I R rx ry rv ru p => by
  cases dx with
  | int i => cases dy with
    | int j => exact int_case I R rx ry rv ru p fun t t' s Q E c q => floordiv_int (divC_ok c).1 q (.inl (PyProof.noPylong_of_log2 (divC_ok c).2))
    | _ => exact p.elim
  | _ => exact p.elim
theorem od_ifdiv : OpD T X W (inplaceOp .FloorDiv) fdivO := fun pins s σ ρ h H x y dx dy v u Q I R rx ry rv ru p => by
  cases dx with
  | int i => cases dy with
    | int j => exact int_case I R rx ry rv ru p fun t t' s Q E c q => ifloordiv_int (divC_ok c).1 q (.inl (PyProof.noPylong_of_log2 (divC_ok c).2))
    | _ => exact p.elim
  | _ => exact p.elim
theorem od_mod : OpD T X W (binaryOp .Mod) modO := fun pins s σ ρ h H x y dx dy v u Q I R rx ry rv ru p => by
  cases dx with
  | int i => cases dy with
    | int j => exact int_case I R rx ry rv ru p fun t t' s Q E c q => mod_int (bne_iff_ne.mp c) q
    | _ => exact p.elim
  | _ => exact p.elim
theorem od_imod : OpD T X W (inplaceOp .Mod) modO := fun pins s σ ρ h H x y dx dy v u Q I R rx ry rv ru p => by
  cases dx with
  | int i => cases dy with
    | int j => exact int_case I R rx ry rv ru p fun t t' s Q E c q => imod_int (bne_iff_ne.mp c) q
    | _ => exact p.elim
  | _ => exact p.elim
theorem od_pow : OpD T X W (binaryOp .Pow) powO := fun pins s σ ρ h H x y dx dy v u Q I R rx ry rv ru p => by
  cases dx with
  | int i => cases dy with
    | int j =>
      refine int_case I R rx ry rv ru p fun t t' s Q E c q => ?_
      unfold powC at c
      obtain ⟨c1, c2⟩ := Bool.and_eq_true_iff.mp c
      exact pow_int (of_decide_eq_true c1) (of_decide_eq_true c2) q
    | _ => exact p.elim
  | _ => exact p.elim
theorem ud_neg : UnD T X W (unaryOp .USub) negO := fun pins s σ ρ h H x dx v Q I R rx rv p => by
  cases dx with
  | int i =>
    cases rx
    exact un_neg pins s σ H _ v Q I rv ⟨i, rfl, p.now Fut.refl R .int⟩
  | _ => exact p.elim
theorem od_lt : OpD T X W (compareOp .Lt) ltO := fun pins s σ ρ h H x y dx dy v u Q I R rx ry rv ru p => by
  cases dx with
  | int i => cases dy with
    | int j => exact bool_case I R rx ry rv ru p fun t t' s Q E q => lt_int q
    | _ => exact p.elim
  | _ => exact p.elim
theorem od_le : OpD T X W (compareOp .LtE) leO := fun pins s σ ρ h H x y dx dy v u Q I R rx ry rv ru p => by
  cases dx with
  | int i => cases dy with
    | int j => exact bool_case I R rx ry rv ru p fun t t' s Q E q => le_int q
    | _ => exact p.elim
  | _ => exact p.elim
theorem od_gt : OpD T X W (compareOp .Gt) gtO := fun pins s σ ρ h H x y dx dy v u Q I R rx ry rv ru p => by
  cases dx with
  | int i => cases dy with
    | int j => exact bool_case I R rx ry rv ru p fun t t' s Q E q => gt_int q
    | _ => exact p.elim
  | _ => exact p.elim
theorem od_ge : OpD T X W (compareOp .GtE) geO := fun pins s σ ρ h H x y dx dy v u Q I R rx ry rv ru p => by
  cases dx with
  | int i => cases dy with
    | int j => exact bool_case I R rx ry rv ru p fun t t' s Q E q => ge_int q
    | _ => exact p.elim
  | _ => exact p.elim
theorem isNone_ok {K : PySem.W.Frag} {ρ : List Addr} {H : Hp} {d : D} {x : V} (r : Rep T K ρ H d x) : decide (x = V.non) = isNone d := by
  cases r <;> rfl
theorem od_is : OpD T X W (compareOp .Is) isO := fun pins s σ ρ h H x y dx dy v u Q I R rx ry rv ru p => by
  cases dy with
  | non => cases ry; exact by_rule op_isN I rv ru ⟨rfl, by rw [isNone_ok rx]; exact p.now Fut.refl R .bl⟩
  | _ => exact p.elim
theorem od_isNot : OpD T X W (compareOp .IsNot) isNotO := fun pins s σ ρ h H x y dx dy v u Q I R rx ry rv ru p => by
  cases dy with
  | non => cases ry; exact by_rule op_notN I rv ru ⟨rfl, by rw [isNone_ok rx]; exact p.now Fut.refl R .bl⟩
  | _ => exact p.elim
theorem od_add : OpD T X W (binaryOp .Add) addO := fun pins s σ ρ h H x y dx dy v u Q I R rx ry rv ru p => by
  cases dx with
  | int i => cases dy with
    | int j => exact int_case (c := true) I R rx ry rv ru p fun t t' s Q E _ q => add_int q
    | _ => exact p.elim
  | str i => cases dy with
    | str j =>
      cases rx
      cases ry
      simp only [addO] at p
      cases q : Nat.ble (i.length + j.length) 16777216 with
      | false => rw [q] at p; exact p.elim
      | true =>
        rw [q] at p
        have hl := Nat.le_of_ble_eq_true q
        refine by_rule op_add_str I rv ru ⟨_, _, rfl, rfl, ?_, ?_⟩
        · show i.toArray.size + j.toArray.size ≤ sizeLine
          rw [List.size_toArray, List.size_toArray, sizeLine_eq]; exact hl
        · have e : (⟨i.toArray⟩ : Str) ++ ⟨j.toArray⟩ = ⟨(i ++ j).toArray⟩ := by
            show (⟨i.toArray ++ j.toArray⟩ : Str) = _
            simp
          rw [e]
          exact p.now Fut.refl R .str
    | _ => exact p.elim
  | tup i => cases dy with
    | tup j =>
      cases rx with
      | tup hx rx =>
        cases ry with
        | tup hy ry =>
          simp only [addO] at p
          cases q : Nat.ble (i.length + j.length) 16777216 with
          | false => rw [q] at p; exact p.elim
          | true =>
            rw [q] at p
            have hl := Nat.le_of_ble_eq_true q
            refine by_rule op_catA I rv ru ⟨_, _, _, _, rfl, rfl, hx, hy, by rw [← rx.length, ← ry.length, sizeLine_eq]; exact hl, fun e => ?_, fun e1 e2 => ?_, fun e1 e2 a hn => ?_⟩
            · subst e
              cases rx
              exact p.now Fut.refl R (.tup hy ry)
            · subst e2
              cases ry
              exact p.now Fut.refl R (.tup hx (by simpa using rx))
            · exact p.now (fut_new hn) (R.unnum hn (fun _ z => nomatch z)) (.tup (SqT.of upd_same) ((rx.append ry).mono (fun _ _ e => e) (fun _ _ e => sqT_new hn e) (fun _ _ e => sqF_new hn e)))
    | _ => exact p.elim
  | obj n => cases dy with
    | obj m =>
      simp only [addO] at p
      cases e1 : lstAt (.obj n) h with
      | none => rw [e1] at p; exact p.elim
      | some i =>
        rw [e1] at p
        cases e2 : lstAt (.obj m) h with
        | none => rw [e2] at p; exact p.elim
        | some j =>
          rw [e2] at p
          obtain ⟨_, a, ys, _, ex, _, _, hx, rx'⟩ := lstAt_ok R rx e1
          obtain ⟨_, b, zs, _, ey, _, _, hy, ry'⟩ := lstAt_ok R ry e2
          obtain ⟨h1, h2⟩ := post_lst R (rx'.append ry') p
          exact by_rule op_cat I rv ru ⟨a, b, ys, zs, ex, ey, hx, hy, by rw [List.length_append] at h1; exact h1, h2⟩
    | _ => exact p.elim
  | _ => exact p.elim
theorem od_mul : OpD T X W (binaryOp .Mult) mulO := fun pins s σ ρ h H x y dx dy v u Q I R rx ry rv ru p => by
  cases dx with
  | int i => cases dy with
    | int j => exact int_case I R rx ry rv ru p fun t t' s Q E c q => mul_int q (mulC_ok c)
    | _ => exact p.elim
  | obj n => cases dy with
    | int k =>
      cases ry
      simp only [mulO] at p
      cases e1 : lstAt (.obj n) h with
      | none => rw [e1] at p; exact p.elim
      | some i =>
        rw [e1] at p
        simp only at p
        cases q : decide (-(2 ^ 63) ≤ k) && decide (k < 2 ^ 63) && Nat.ble (i.length * k.toNat) 16777216 with
        | false => rw [q] at p; exact p.elim
        | true =>
          rw [q] at p
          obtain ⟨q1, q3⟩ := Bool.and_eq_true_iff.mp q
          obtain ⟨q1, q2⟩ := Bool.and_eq_true_iff.mp q1
          obtain ⟨_, a, ys, _, ex, _, _, hx, rx'⟩ := lstAt_ok R rx e1
          obtain ⟨h1, h2⟩ := post_lst R (rx'.replicate k.toNat) p
          exact by_rule op_rep I rv ru ⟨a, k, ys, ex, rfl, hx, of_decide_eq_true q1, of_decide_eq_true q2, by rw [← rx'.length, sizeLine_eq]; exact Nat.le_of_ble_eq_true q3, h2⟩
    | _ => exact p.elim
  | tup i => cases dy with
    | int k =>
      cases ry
      cases rx with
      | tup hx rx =>
        simp only [mulO] at p
        cases q : decide (2 ≤ k) && decide (k ≤ 1000) && Nat.ble i.length 1000 && !i.isEmpty with
        | false => rw [q] at p; exact p.elim
        | true =>
          rw [q] at p
          obtain ⟨q, q4⟩ := Bool.and_eq_true_iff.mp q
          obtain ⟨q, q3⟩ := Bool.and_eq_true_iff.mp q
          obtain ⟨q1, q2⟩ := Bool.and_eq_true_iff.mp q
          refine by_rule op_repT I rv ru ⟨_, k, _, rfl, rfl, hx, ?_, of_decide_eq_true q1, of_decide_eq_true q2, by rw [← rx.length]; exact Nat.le_of_ble_eq_true q3, fun a hn => ?_⟩
          · rintro rfl
            cases rx
            cases q4
          · exact p.now (fut_new hn) (R.unnum hn (fun _ z => nomatch z)) (.tup (SqT.of upd_same) ((rx.replicate k.toNat).mono (fun _ _ e => e) (fun _ _ e => sqT_new hn e) (fun _ _ e => sqF_new hn e)))
    | _ => exact p.elim
  | _ => exact p.elim
end

/-! ### ==, in -/
/-- all of a list -/
def allP (g : D → Option PyData) : List D → Option (List PyData)
  | [] => some []
  | d :: r => (match g d with
    | some y => (match allP g r with | some ys => some (y :: ys) | none => none)
    | none => none)
/-- a value as data -/
def toP : Nat → AH → D → Option PyData
  | 0, _, _ => none
  | f + 1, h, d => match d with
    | .non => some .none
    | .bl b => some (.bool b)
    | .int i => some (.int i)
    | .str x => some (.str ⟨x.toArray⟩)
    | .tup xs => (match allP (toP f h) xs with | some ys => some (.tuple ys) | none => none)
    | .lsq xs => (match allP (toP f h) xs with | some ys => some (.list ys) | none => none)
    | .obj n => (match h[n]? with
      | some (.lst xs) => (match allP (toP f h) xs with | some ys => some (.list ys) | none => none)
      | _ => none)
    | _ => none
theorem toP_ok {T : Tb} {K : PySem.W.Frag} {ρ : List Addr} {h : AH} {H : Hp} (R : HRel T K ρ h H) : ∀ {f : Nat} {d : D} {x : V} {y : PyData}, Rep T K ρ H d x → toP f h d = some y → Dp K H x y
  | 0, _, _, _, _, e => by
    unfold toP at e
    exact nomatch e
  | f + 1, d, x, y, r, e => by
    have al : ∀ {xs : List D} {vs : List V} {ys : List PyData}, Reps T K ρ H xs vs → allP (toP f h) xs = some ys → DpAll K H vs ys := by
      intro xs
      induction xs with
      | nil => intro vs ys r e; cases r; unfold allP at e; cases e; exact .nil
      | cons x xs ih =>
        intro vs ys r e
        cases r with
        | cons r rs =>
          unfold allP at e
          cases q : toP f h x with
          | none => rw [q] at e; cases e
          | some z =>
            rw [q] at e
            cases q2 : allP (toP f h) xs with
            | none => rw [q2] at e; cases e
            | some zs => rw [q2] at e; cases e; exact .cons (toP_ok R r q) (ih rs q2)
    cases d with
    | non => cases r; unfold toP at e; cases e; exact .non
    | bl b => cases r; unfold toP at e; cases e; exact .bl _
    | int i => cases r; unfold toP at e; cases e; exact .int _
    | str z => cases r; unfold toP at e; cases e; exact .str _
    | tup xs =>
      cases r with
      | tup hs rs =>
        simp only [toP] at e
        cases q : allP (toP f h) xs with
        | none => rw [q] at e; cases e
        | some zs => rw [q] at e; cases e; exact .tup hs (al rs q)
    | lsq xs =>
      cases r with
      | lsq hs rs =>
        simp only [toP] at e
        cases q : allP (toP f h) xs with
        | none => rw [q] at e; cases e
        | some zs => rw [q] at e; cases e; exact .lst hs.seq (al rs q)
    | obj n =>
      cases r with
      | obj hn =>
        simp only [toP] at e
        cases q0 : h[n]? with
        | none => rw [q0] at e; cases e
        | some o =>
          rw [q0] at e
          cases o with
          | lst xs =>
            obtain ⟨vs, z, rs⟩ := R.obj n _ _ hn q0
            simp only at e
            cases q : allP (toP f h) xs with
            | none => rw [q] at e; cases e
            | some zs => rw [q] at e; cases e; exact .lst (SqL.of z) (al rs q)
          | dct _ _ => cases e
          | ins _ _ => cases e
    | fn _ => unfold toP at e; cases e
    | cls _ => unfold toP at e; cases e
def eqB (x y : D) (h : AH) : Option Bool := match x, y with
  | .int i, .int j => some (i == j)
  | x, y => (match toP 66 h x, toP 66 h y with
    | some d, some e => (match SeqAt.shaped d && SeqAt.shaped e with
      | true => some (PyData.eqv d e)
      | false => none)
    | _, _ => none)
def eqO (x y : D) (h : AH) : Out D := match eqB x y h with
  | some b => .ok (.bl b) h
  | none => .bad
def neO (x y : D) (h : AH) : Out D := match eqB x y h with
  | some b => .ok (.bl (!b)) h
  | none => .bad
/-- == of flat contents -/
def eqF : D → D → Option Bool
  | .int i, .int j => some (i == j)
  | .str x, .str y => some (x == y)
  | .non, .non => some true
  | .bl a, .bl b => some (a == b)
  | .bl a, .int b => some ((if a then 1 else 0) == b)
  | .int a, .bl b => some (a == (if b then 1 else 0))
  | .non, .bl _ => some false
  | .non, .int _ => some false
  | .non, .str _ => some false
  | .bl _, .non => some false
  | .bl _, .str _ => some false
  | .int _, .non => some false
  | .int _, .str _ => some false
  | .str _, .non => some false
  | .str _, .bl _ => some false
  | .str _, .int _ => some false
  | _, _ => none
/-- whether a flat content is among flat ones; all are looked at -/
def inF (x : D) : List D → Option Bool
  | [] => (match eqF x x with | some _ => some false | none => none)
  | y :: r => (match eqF y x with
    | some b => (match inF x r with | some c => some (b || c) | none => none)
    | none => none)
def inO (x y : D) (h : AH) : Out D := match items y h with
  | some xs => (match inF x xs with | some b => .ok (.bl b) h | none => .bad)
  | none => .bad
def notInO (x y : D) (h : AH) : Out D := match items y h with
  | some xs => (match inF x xs with | some b => .ok (.bl (!b)) h | none => .bad)
  | none => .bad
section
variable {T : Tb} {X : Cx} {W : WX}
theorem eqF_ok {K : PySem.W.Frag} {ρ : List Addr} {H : Hp} {d e : D} {x y : V} {b : Bool} (rx : Rep T K ρ H d x) (ry : Rep T K ρ H e y) (q : eqF d e = some b) : flatV x = true ∧ flatV y = true ∧ eqV x y = b := by
  cases rx <;> cases ry <;> first | cases q | skip
  all_goals first | exact ⟨rfl, rfl, rfl⟩ | skip
  all_goals
    refine ⟨rfl, rfl, ?_⟩
    rename_i z w
    show ((⟨z.toArray⟩ : Str) == ⟨w.toArray⟩) = (z == w)
    rw [Bool.eq_iff_iff, beq_iff_eq, beq_iff_eq]
    constructor
    · intro e
      injection e with e
      simpa using congrArg Array.toList e
    · rintro rfl
      rfl
theorem inF_ok {K : PySem.W.Frag} {ρ : List Addr} {H : Hp} {d : D} {x : V} (rx : Rep T K ρ H d x) : ∀ {xs : List D} {ys : List V} {b : Bool}, Reps T K ρ H xs ys → inF d xs = some b → flatV x = true ∧ ys.all flatV = true ∧ inV x ys = b
  | [], ys, b, r, q => by
    cases r
    unfold inF at q
    cases e : eqF d d with
    | none => rw [e] at q; cases q
    | some c => rw [e] at q; cases q; exact ⟨(eqF_ok rx rx e).1, rfl, rfl⟩
  | y :: xs, ys, b, r, q => by
    cases r with
    | cons r rs =>
      unfold inF at q
      cases e : eqF y d with
      | none => rw [e] at q; cases q
      | some c =>
        rw [e] at q
        cases e2 : inF d xs with
        | none => rw [e2] at q; cases q
        | some c2 =>
          rw [e2] at q
          cases q
          obtain ⟨h1, h2, h3⟩ := eqF_ok r rx e
          obtain ⟨h4, h5, h6⟩ := inF_ok rx rs e2
          refine ⟨h4, by rw [List.all_cons, h1, h5]; rfl, ?_⟩
          unfold inV at h6 ⊢
          rw [List.any_cons, h3, h6]
theorem eqB_data {K : PySem.W.Frag} {ρ : List Addr} {h : AH} {H : Hp} {d e : D} {x y : V} {b : Bool} (R : HRel T K ρ h H) (rx : Rep T K ρ H d x) (ry : Rep T K ρ H e y) (q : eqB d e h = some b) :
    ∃ p r, Dp K H x p ∧ Dp K H y r ∧ SeqAt.shaped p = true ∧ SeqAt.shaped r = true ∧ PyData.eqv p r = b := by
  have go : (match toP 66 h d, toP 66 h e with | some d, some e => (match SeqAt.shaped d && SeqAt.shaped e with | true => some (PyData.eqv d e) | false => none) | _, _ => none) = some b → ∃ p r, Dp K H x p ∧ Dp K H y r ∧ SeqAt.shaped p = true ∧ SeqAt.shaped r = true ∧ PyData.eqv p r = b := fun q => by
    cases e1 : toP 66 h d with
    | none => rw [e1] at q; cases q
    | some p =>
      rw [e1] at q
      cases e2 : toP 66 h e with
      | none => rw [e2] at q; cases q
      | some r =>
        rw [e2] at q
        simp only at q
        cases e3 : SeqAt.shaped p && SeqAt.shaped r with
        | false => rw [e3] at q; cases q
        | true =>
          rw [e3] at q
          obtain ⟨s1, s2⟩ := Bool.and_eq_true_iff.mp e3
          exact ⟨p, r, toP_ok R rx e1, toP_ok R ry e2, s1, s2, Option.some.inj q⟩
  cases d with
  | int i =>
    cases e with
    | int j =>
      cases rx
      cases ry
      refine ⟨.int i, .int j, .int i, .int j, ?_, ?_, ?_⟩
      · with_unfolding_all rfl
      · with_unfolding_all rfl
      · unfold PyData.eqv
        exact Option.some.inj q
    | _ => exact go q
  | _ => exact go q
theorem od_eq (hu : X.A.units + 64 < cLine) : OpD T X W (compareOp .Eq) eqO := fun pins s σ ρ h H x y dx dy v u Q I R rx ry rv ru p => by
  simp only [eqO] at p
  cases e : eqB dx dy h with
  | none => rw [e] at p; exact p.elim
  | some b =>
    rw [e] at p
    obtain ⟨d, r, h1, h2, h3, h4, h5⟩ := eqB_data R rx ry e
    exact by_rule (op_eqD hu) I rv ru ⟨d, r, h1, h2, h3, h4, by rw [h5]; exact p.now Fut.refl R .bl⟩
theorem od_ne (hu : X.A.units + 64 < cLine) : OpD T X W (compareOp .NotEq) neO := fun pins s σ ρ h H x y dx dy v u Q I R rx ry rv ru p => by
  simp only [neO] at p
  cases e : eqB dx dy h with
  | none => rw [e] at p; exact p.elim
  | some b =>
    rw [e] at p
    obtain ⟨d, r, h1, h2, h3, h4, h5⟩ := eqB_data R rx ry e
    exact by_rule (op_neD hu) I rv ru ⟨d, r, h1, h2, h3, h4, by rw [h5]; exact p.now Fut.refl R .bl⟩
theorem od_in : OpD T X W (compareOp .In) inO := fun pins s σ ρ h H x y dx dy v u Q I R rx ry rv ru p => by
  simp only [inO] at p
  cases e : items dy h with
  | none => rw [e] at p; exact p.elim
  | some xs =>
    rw [e] at p
    simp only at p
    cases e2 : inF dx xs with
    | none => rw [e2] at p; exact p.elim
    | some b =>
      rw [e2] at p
      obtain ⟨a, ys, ey, hs, rs⟩ := items_any R ry e
      obtain ⟨h1, h2, h3⟩ := inF_ok rx rs e2
      exact by_rule op_in_seq I rv ru ⟨a, ys, ey, hs.symm, h1, h2, by rw [if_neg Bool.false_ne_true, h3]; exact p.now Fut.refl R .bl⟩
theorem od_notIn : OpD T X W (compareOp .NotIn) notInO := fun pins s σ ρ h H x y dx dy v u Q I R rx ry rv ru p => by
  simp only [notInO] at p
  cases e : items dy h with
  | none => rw [e] at p; exact p.elim
  | some xs =>
    rw [e] at p
    simp only at p
    cases e2 : inF dx xs with
    | none => rw [e2] at p; exact p.elim
    | some b =>
      rw [e2] at p
      obtain ⟨a, ys, ey, hs, rs⟩ := items_any R ry e
      obtain ⟨h1, h2, h3⟩ := inF_ok rx rs e2
      exact by_rule op_notIn_seq I rv ru ⟨a, ys, ey, hs.symm, h1, h2, by rw [if_pos rfl, h3]; exact p.now Fut.refl R .bl⟩
end
end DC
/-! Dc7: statements, loops, comprehensions. -/
namespace DC
open PySem PySem.Spec PyProof.Rows L2
def Out.toS {α : Type} (o : Out α) (k : α → AH → SOut) : SOut := match o with
  | .ok a h => k a h
  | .exc c v h => .exc c v h
  | .bad => .bad
section
variable {α β : Type} {rep : List Addr → Hp → α → β → Prop} {T : Tb} {K : PySem.W.Frag} {W : WX} {σ : L2.St} {ρ ρ' : List Addr} {H H' : Hp} {h : AH}
theorem PostS.later {o : SOut} {E : Ends} (R : HRel T K ρ h H) (f : Fut K ρ H ρ' H') (p : PostS T K W σ ρ H o E) : PostS T K W σ ρ' H' o E := by
  cases o with
  | nx e h1 => exact fun ρ2 σ2 H2 g R2 r => p ρ2 σ2 H2 (f.trans R.own g) R2 r
  | bk e h1 => exact fun ρ2 σ2 H2 g R2 r => p ρ2 σ2 H2 (f.trans R.own g) R2 r
  | ct e h1 => exact fun ρ2 σ2 H2 g R2 r => p ρ2 σ2 H2 (f.trans R.own g) R2 r
  | rt d h1 => exact fun ρ2 H2 v g R2 r => p ρ2 H2 v (f.trans R.own g) R2 r
  | exc c x h1 => exact fun ρ2 H2 dd σ2 g R2 r => p ρ2 H2 dd σ2 (f.trans R.own g) R2 r
  | bad => exact p
theorem RS.bind {e : En → AH → Out α} {k : En → α → AH → SOut} {D : Ends} (p : RS T K W (fun env h => (e env h).toS (k env)) D σ H) :
    RG rep T K W e σ H fun x H1 => ∃ ρ1 env h1 d, HRel T K ρ1 h1 H1 ∧ ERel T K ρ1 H1 env σ ∧ rep ρ1 H1 d x ∧ PostS T K W σ ρ1 H1 (k env d h1) D := by
  obtain ⟨ρ, env, h, R, E, q⟩ := p
  refine ⟨ρ, env, h, R, E, ?_⟩
  simp only at q
  cases o : e env h with
  | ok d h1 =>
    rw [o] at q
    exact fun ρ1 H1 v f R1 r => ⟨ρ1, env, h1, d, R1, E.fut f, r, PostS.later R f q⟩
  | exc c x h1 =>
    rw [o] at q
    exact fun ρ1 H1 dd f R1 r => q ρ1 H1 dd σ f R1 r
  | bad => rw [o] at q; exact q
theorem RS.nxt {e : En} {h1 : AH} {D : Ends} {σ' : L2.St} (p : PostS T K W σ ρ H (.nx e h1) D) (f : Fut K ρ H ρ' H') (R : HRel T K ρ' h1 H') (r : ERel T K ρ' H' e σ') : D.nx σ' H' := p ρ' σ' H' f R r
end

/-! ### one after another -/
def sNil : Sv := fun _ env h => .nx env h
def sSeq (f g : Sv) : Sv := fun rc env h => match f rc env h with
  | .nx e h1 => g rc e h1
  | .rt d h1 => .rt d h1
  | .bk e h1 => .bk e h1
  | .ct e h1 => .ct e h1
  | .exc c v h1 => .exc c v h1
  | .bad => .bad
def sEx (a : Ev) : Sv := fun rc env h => (a rc env h).toS fun _ h1 => .nx env h1
def sRet (a : Ev) : Sv := fun rc env h => (a rc env h).toS fun d h1 => .rt d h1
def sRetN : Sv := fun _ _ h => .rt .non h
def sBk : Sv := fun _ env h => .bk env h
def sCt : Sv := fun _ env h => .ct env h
def sIf (c : Tv) (f g : Sv) : Sv := fun rc env h => (c rc env h).toS fun b h1 => match b with
  | true => f rc env h1
  | false => g rc env h1
section
variable {G : Gx} {T : Tb} {c : Cc} {X : Cx} {k : Nat} {rc : Rc} {W : WX}
theorem ss_nil : PSs X [] (RS T X.K W (sNil rc)) := by
  refine ⟨fun pins s σ H D I h => pss_nil.run pins s σ H D I ?_⟩
  obtain ⟨ρ, env, h, R, E, q⟩ := h
  exact RS.nxt q Fut.refl R E
theorem ss_cons {st : Stmt} {rest : List Stmt} {f g : Sv} (h1 : PS X st (RS T X.K W (f rc))) (h2 : PSs X rest (RS T X.K W (g rc))) : PSs X (st :: rest) (RS T X.K W (sSeq f g rc)) := by
  refine ⟨fun pins s σ H D I h => (pss_cons h1 h2).run pins s σ H D I ?_⟩
  obtain ⟨ρ, env, h, R, E, q⟩ := h
  refine ⟨ρ, env, h, R, E, ?_⟩
  simp only [sSeq] at q
  cases o : f rc env h with
  | nx e h1 =>
    rw [o] at q
    exact fun ρ2 σ2 H2 fu R2 r => ⟨ρ2, e, h1, R2, r, PostS.later (σ := σ) R fu q⟩
  | rt d h1 => rw [o] at q; exact q
  | bk d h1 => rw [o] at q; exact q
  | ct d h1 => rw [o] at q; exact q
  | exc c x h1 => rw [o] at q; exact q
  | bad => rw [o] at q; exact q
theorem ss_one {st : Stmt} {f : Sv} (h : PS X st (RS T X.K W (f rc))) : PSs X [st] (RS T X.K W (f rc)) := pss_one h
theorem ss_pass {pos : Pos} : PS X (.Pass pos) (RS T X.K W (sNil rc)) := by
  refine ⟨fun pins s σ H D I h => ps_pass.run pins s σ H D I ?_⟩
  obtain ⟨ρ, env, h, R, E, q⟩ := h
  exact RS.nxt q Fut.refl R E
theorem ss_bk {pos : Pos} : PS X (.Break pos) (RS T X.K W (sBk rc)) := by
  refine ⟨fun pins s σ H D I h => ps_break.run pins s σ H D I ?_⟩
  obtain ⟨ρ, env, h, R, E, q⟩ := h
  exact q ρ σ H Fut.refl R E
theorem ss_ct {pos : Pos} : PS X (.Continue pos) (RS T X.K W (sCt rc)) := by
  refine ⟨fun pins s σ H D I h => ps_continue.run pins s σ H D I ?_⟩
  obtain ⟨ρ, env, h, R, E, q⟩ := h
  exact q ρ σ H Fut.refl R E
theorem ss_ex {e : Expr} {a : Ev} {pos : Pos} (he : PE X e (RE T X.K W (a rc))) (hs : swapsWith e none pos.line X.env = pure false) : PS X (.Expr e pos) (RS T X.K W (sEx a rc)) := by
  refine ⟨fun pins s σ H D I h => (ps_expr he hs).run pins s σ H D I ?_⟩
  obtain ⟨ρ, env, h0, R, E, q⟩ := RS.bind (rep := Rep T X.K) (k := fun env _ h1 => .nx env h1) h
  refine ⟨ρ, env, h0, R, E, q.imp fun x H1 => ?_⟩
  rintro ⟨ρ1, env1, h1, d, R1, E1, r1, q1⟩
  exact RS.nxt q1 Fut.refl R1 E1
theorem ss_ret {e : Expr} {a : Ev} {pos : Pos} (he : PE X e (RE T X.K W (a rc))) : PS X (.Return (some e) pos) (RS T X.K W (sRet a rc)) := by
  refine ⟨fun pins s σ H D I h => (ps_ret he).run pins s σ H D I ?_⟩
  obtain ⟨ρ, env, h0, R, E, q⟩ := RS.bind (rep := Rep T X.K) (k := fun env d h1 => .rt d h1) h
  refine ⟨ρ, env, h0, R, E, q.imp fun x H1 => ?_⟩
  rintro ⟨ρ1, env1, h1, d, R1, E1, r1, q1⟩
  exact q1 ρ1 H1 x Fut.refl R1 r1
theorem ss_retN {pos : Pos} : PS X (.Return none pos) (RS T X.K W (sRetN rc)) := by
  refine ⟨fun pins s σ H D I h => ps_retN.run pins s σ H D I ?_⟩
  obtain ⟨ρ, env, h, R, E, q⟩ := h
  exact q ρ H .non Fut.refl R .non
theorem ss_if {e : Expr} {a b : List Stmt} {t : Tv} {f g : Sv} {pos : Pos} (hc : PT X e (RT T X.K W (t rc))) (ha : PSs X a (RS T X.K W (f rc))) (hb : PSs X b (RS T X.K W (g rc))) : PS X (.If e a b pos) (RS T X.K W (sIf t f g rc)) := by
  refine ⟨fun pins s σ H D I h => (ps_if hc ha hb).run pins s σ H D I ?_⟩
  obtain ⟨ρ, env, h0, R, E, q⟩ := RS.bind (rep := BRep) (k := fun env b h1 => match b with | true => f rc env h1 | false => g rc env h1) h
  refine ⟨ρ, env, h0, R, E, q.imp fun x H1 => ?_⟩
  rintro ⟨ρ1, env1, h1, d, R1, E1, r1, q1⟩
  have e : d = x := r1
  subst e
  cases d with
  | true => exact ⟨ρ1, env1, h1, R1, E1, q1⟩
  | false => exact ⟨ρ1, env1, h1, R1, E1, q1⟩
end

/-! ### targets -/
abbrev Gv := Rc → D → En → AH → SOut
abbrev Gsv := Rc → List D → En → AH → SOut
/-- only the slots is change -/
def Onl (is : List Nat) (σ σ' : L2.St) : Prop := ∀ vs : List Nat, (∀ i ∈ is, i ∈ vs) → wipe σ' vs = wipe σ vs
theorem wipe_set1 {σ : L2.St} {i : Nat} {x : Option V} : ∀ vs : List Nat, (wipe (σ.set i x) vs).set i none = (wipe σ vs).set i none
  | [] => by unfold wipe; rw [List.set_set]
  | v :: vs => by
    unfold wipe
    by_cases e : v = i
    · subst e
      rw [wipe_set1 vs]
    · rw [List.set_comm _ _ e, wipe_set1 vs, List.set_comm _ _ (Ne.symm e)]
theorem wipe_set {σ : L2.St} {i : Nat} {x : Option V} : ∀ {vs : List Nat}, i ∈ vs → wipe (σ.set i x) vs = wipe σ vs
  | [], h => by cases h
  | v :: vs, h => by
    unfold wipe
    by_cases e : i = v
    · subst e
      exact wipe_set1 vs
    · rw [wipe_set ((List.mem_cons.mp h).resolve_left e)]
theorem Onl.refl {is : List Nat} {σ : L2.St} : Onl is σ σ := fun _ _ => rfl
theorem Onl.set {i : Nat} {σ : L2.St} {x : Option V} : Onl [i] σ (σ.set i x) := fun vs h => wipe_set (h i (by simp))
theorem Onl.trans {is js : List Nat} {σ σ1 σ2 : L2.St} (a : Onl is σ σ1) (b : Onl js σ1 σ2) : Onl (is ++ js) σ σ2 := fun vs h => (b vs fun i hi => h i (List.mem_append_right _ hi)).trans (a vs fun i hi => h i (List.mem_append_left _ hi))
def nxE (Q : L2.St → Hp → Prop) : Ends := ⟨Q, fun _ _ => False, fun _ _ => False, fun _ _ => False⟩
def RGt (T : Tb) (K : PySem.W.Frag) (W : WX) (is : List Nat) (f : D → En → AH → SOut) : TG := fun v σ H Q => ∃ ρ env h d, HRel T K ρ h H ∧ ERel T K ρ H env σ ∧ Rep T K ρ H d v ∧ PostS T K W σ ρ H (f d env h) (nxE fun σ' H' => Onl is σ σ' → Q σ' H')
def RGs (T : Tb) (K : PySem.W.Frag) (W : WX) (is : List Nat) (f : List D → En → AH → SOut) : TGs := fun v σ H Q => ∃ ρ env h d, HRel T K ρ h H ∧ ERel T K ρ H env σ ∧ Reps T K ρ H d v ∧ PostS T K W σ ρ H (f d env h) (nxE fun σ' H' => Onl is σ σ' → Q σ' H')
theorem ERel.set {T : Tb} {K : PySem.W.Frag} {ρ : List Addr} {H : Hp} {env : En} {σ : L2.St} {i : Nat} {d : D} {v : V} (E : ERel T K ρ H env σ) (r : Rep T K ρ H d v) : ERel T K ρ H (env.set i (some d)) (σ.set i (some v)) := by
  refine ⟨by rw [List.length_set, List.length_set]; exact E.1, fun j x hx => ?_⟩
  by_cases e : i = j
  · subst e
    have hl : i < env.length := by
      have := List.getElem?_eq_some_iff.mp hx
      obtain ⟨h1, _⟩ := this
      rw [List.length_set] at h1; exact h1
    rw [List.getElem?_set_self hl] at hx
    cases hx
    exact ⟨v, by rw [List.getElem?_set_self (by rw [← E.1]; exact hl)], r⟩
  · rw [List.getElem?_set_ne e] at hx
    obtain ⟨u, h1, h2⟩ := E.2 j x hx
    exact ⟨u, by rw [List.getElem?_set_ne e]; exact h1, h2⟩
def gNm (i : Nat) : Gv := fun _ d env h => .nx (env.set i (some d)) h
def gsNil : Gsv := fun _ ds env h => match ds with
  | [] => .nx env h
  | _ => .bad
def gsCons (g : Gv) (r : Gsv) : Gsv := fun rc ds env h => match ds with
  | [] => .bad
  | d :: ds => match g rc d env h with
    | .nx e h1 => r rc ds e h1
    | .exc c v h1 => .exc c v h1
    | _ => .bad
def gTp (n : Nat) (gs : Gsv) : Gv := fun rc d env h => match d with
  | .tup xs => match Nat.beq xs.length n with
    | true => gs rc xs env h
    | false => .bad
  | _ => .bad
section
variable {G : Gx} {T : Tb} {c : Cc} {X : Cx} {k : Nat} {rc : Rc} {W : WX}
/-- a name that may be stored -/
structure Sto (c : Cc) (i : Nat) (x : Str) : Prop where
  ix : c.N[i]? = some x
  kd : c.sc.lookup x = some .local ∨ c.sc.lookup x = some .cell
theorem Sto.loc {i : Nat} {x : Str} (s : Sto c i x) (ok : Ok G T c X k rc W) : X.N[i]? = some x ∧ Loc X.env.scope x ∧ (X.fn x = true ∨ X.env.scope.names.lookup x = some .local) := by
  refine ⟨by rw [ok.N]; exact s.ix, ?_⟩
  rcases s.kd with e | e
  · exact ⟨.inl (ok.loc x e), .inr (ok.loc x e)⟩
  · exact ⟨.inr (ok.cel x e).1, .inl (ok.cel x e).2⟩
theorem Ok.xnd (ok : Ok G T c X k rc W) : X.N.Nodup := by rw [ok.N]; exact ok.nd
theorem sg_name (ok : Ok G T c X k rc W) {i : Nat} {x : Str} {pos : Pos} (s : Sto c i x) : PG X (.Name x pos) (RGt T X.K W [i] (gNm i rc)) := by
  obtain ⟨h1, h2, h3⟩ := s.loc ok
  refine ⟨fun pins s σ H v u Q I r h => (pg_name (i := i) ok.xnd h1 h2 h3).run pins s σ H v u Q I r ?_⟩
  obtain ⟨ρ, env, h, d, R, E, rd, q⟩ := h
  exact RS.nxt q Fut.refl R (E.set rd) Onl.set
theorem sg_nil : PGs X [] (RGs T X.K W [] (gsNil rc)) := by
  refine ⟨fun pins s σ H vs us Q I r h => pgs_nil.run pins s σ H vs us Q I r ?_⟩
  obtain ⟨ρ, env, h, d, R, E, rd, q⟩ := h
  cases rd with
  | nil => exact ⟨rfl, RS.nxt q Fut.refl R E Onl.refl⟩
  | cons _ _ => exact q.elim
theorem sg_cons {e : Expr} {es : List Expr} {is js : List Nat} {g : Gv} {r : Gsv} (h1 : PG X e (RGt T X.K W is (g rc))) (h2 : PGs X es (RGs T X.K W js (r rc)))
    (hs : (assignEach (e :: es) X.env).map (·.2) = assign e X.env :: (assignEach es X.env).map (·.2)) : PGs X (e :: es) (RGs T X.K W (is ++ js) (gsCons g r rc)) := by
  refine ⟨fun pins s σ H vs us Q I rr h => (pgs_cons h1 h2 hs).run pins s σ H vs us Q I rr ?_⟩
  obtain ⟨ρ, env, h, d, R, E, rd, q⟩ := h
  cases rd with
  | nil => exact q.elim
  | cons rd rds =>
    rename_i x v xs vs
    refine ⟨v, vs, rfl, ρ, env, h, x, R, E, rd, ?_⟩
    simp only [gsCons] at q
    cases o : g rc x env h with
    | nx e1 h1 =>
      rw [o] at q
      exact fun ρ1 σ1 H1 f R1 E1 on1 => ⟨ρ1, e1, h1, xs, R1, E1, rds.fut f, by
        have q2 := PostS.later (σ := σ) R f q
        simp only at q2
        generalize hr : r rc xs e1 h1 = o2 at q2 ⊢
        cases o2 with
        | nx e2 h2 => exact fun ρ2 σ2 H2 f2 R2 E2 on2 => q2 ρ2 σ2 H2 f2 R2 E2 (on1.trans on2)
        | rt d h2 => exact fun ρ2 H2 v f2 R2 E2 => q2 ρ2 H2 v f2 R2 E2
        | bk d h2 => exact fun ρ2 σ2 H2 f2 R2 E2 => q2 ρ2 σ2 H2 f2 R2 E2
        | ct d h2 => exact fun ρ2 σ2 H2 f2 R2 E2 => q2 ρ2 σ2 H2 f2 R2 E2
        | exc c v h2 => exact q2
        | bad => exact q2⟩
    | exc c v h1 => rw [o] at q; exact q
    | rt _ _ => rw [o] at q; exact q.elim
    | bk _ _ => rw [o] at q; exact q.elim
    | ct _ _ => rw [o] at q; exact q.elim
    | bad => rw [o] at q; exact q.elim
theorem sg_tup (ok : Ok G T c X k rc W) {es : List Expr} {j : Nat} {n : Nat} {is : List Nat} {gs : Gsv} {pos : Pos} (h : PGs X es (RGs T X.K W is (gs rc))) (hn : (assignEach es X.env).length = n) (hst : (assignEach es X.env).findIdx? (·.1) = none) :
    PG X (.Tuple es j pos) (RGt T X.K W is (gTp n gs rc)) := by
  refine ⟨fun pins s σ H v u Q I r hw => (pg_tup ok.calm h hn hst).run pins s σ H v u Q I r ?_⟩
  obtain ⟨ρ, env, h, d, R, E, rd, q⟩ := hw
  cases d with
  | tup xs =>
    cases rd with
    | tup hx rx =>
      simp only [gTp] at q
      cases e : Nat.beq xs.length n with
      | false => rw [e] at q; exact q.elim
      | true =>
        rw [e] at q
        exact ⟨_, _, rfl, hx, by rw [← rx.length]; exact Nat.eq_of_beq_eq_true e, ρ, env, h, xs, R, E, rx, q⟩
  | _ => exact q.elim
end
/-! ### assignments -/
def sAsg (a : Ev) (g : Gv) : Sv := fun rc env h => (a rc env h).toS fun d h1 => g rc d env h1
section
variable {G : Gx} {T : Tb} {c : Cc} {X : Cx} {k : Nat} {rc : Rc} {W : WX}
theorem PostS.drop {σ : L2.St} {ρ : List Addr} {H : Hp} {o : SOut} {D : Ends} {is : List Nat} (p : PostS T X.K W σ ρ H o D) (hr : ∀ d h, o ≠ .rt d h) (hb : ∀ d h, o ≠ .bk d h) (hc : ∀ d h, o ≠ .ct d h) : PostS T X.K W σ ρ H o (nxE fun σ' H' => Onl is σ σ' → D.nx σ' H') := by
  cases o with
  | nx e h => exact fun ρ1 σ1 H1 f R1 E1 _ => p ρ1 σ1 H1 f R1 E1
  | rt d h => exact absurd rfl (hr d h)
  | bk d h => exact absurd rfl (hb d h)
  | ct d h => exact absurd rfl (hc d h)
  | exc c x h => exact p
  | bad => exact p
/-- a store goes on, or raises -/
def Plg (g : Gv) : Prop := ∀ rc d env h, (∀ d' h', g rc d env h ≠ .rt d' h') ∧ (∀ d' h', g rc d env h ≠ .bk d' h') ∧ (∀ d' h', g rc d env h ≠ .ct d' h')
def Plgs (g : Gsv) : Prop := ∀ rc d env h, (∀ d' h', g rc d env h ≠ .rt d' h') ∧ (∀ d' h', g rc d env h ≠ .bk d' h') ∧ (∀ d' h', g rc d env h ≠ .ct d' h')
theorem plg_nm {i : Nat} : Plg (gNm i) := fun _ _ _ _ => ⟨fun _ _ z => (nomatch z), fun _ _ z => (nomatch z), fun _ _ z => (nomatch z)⟩
theorem plg_nil : Plgs gsNil := fun _ ds _ _ => by
  cases ds <;> exact ⟨fun _ _ z => (nomatch z), fun _ _ z => (nomatch z), fun _ _ z => (nomatch z)⟩
theorem plg_cons {g : Gv} {r : Gsv} (p : Plg g) (q : Plgs r) : Plgs (gsCons g r) := fun rc ds env h => by
  cases ds with
  | nil => exact ⟨fun _ _ z => (nomatch z), fun _ _ z => (nomatch z), fun _ _ z => (nomatch z)⟩
  | cons d ds =>
    simp only [gsCons]
    cases o : g rc d env h with
    | nx e h1 => exact q rc ds e h1
    | _ => exact ⟨fun _ _ z => (nomatch z), fun _ _ z => (nomatch z), fun _ _ z => (nomatch z)⟩
theorem plg_tp {n : Nat} {gs : Gsv} (p : Plgs gs) : Plg (gTp n gs) := fun rc d env h => by
  cases d with
  | tup xs =>
    simp only [gTp]
    cases Nat.beq xs.length n with
    | true => exact p rc xs env h
    | false => exact ⟨fun _ _ z => (nomatch z), fun _ _ z => (nomatch z), fun _ _ z => (nomatch z)⟩
  | _ => exact ⟨fun _ _ z => (nomatch z), fun _ _ z => (nomatch z), fun _ _ z => (nomatch z)⟩
theorem asg_go {e tg : Expr} {a : Ev} {g : Gv} {is : List Nat} {D : Ends} {σ : L2.St} {H : Hp} (pl : Plg g) (h : RS T X.K W (sAsg a g rc) D σ H) : RE T X.K W (a rc) σ H fun x H1 => RGt T X.K W is (g rc) x σ H1 D.nx := by
  obtain ⟨ρ, env, h0, R, E, q⟩ := RS.bind (rep := Rep T X.K) (k := fun env d h1 => g rc d env h1) h
  refine ⟨ρ, env, h0, R, E, q.imp fun x H1 => ?_⟩
  rintro ⟨ρ1, env1, h1, d, R1, E1, r1, q1⟩
  obtain ⟨p1, p2, p3⟩ := pl rc d env1 h1
  exact ⟨ρ1, env1, h1, d, R1, E1, r1, PostS.drop q1 p1 p2 p3⟩
theorem ss_asg {tg e : Expr} {a : Ev} {g : Gv} {is : List Nat} {pos : Pos} (he : PE X e (RE T X.K W (a rc))) (hg : PG X tg (RGt T X.K W is (g rc))) (pl : Plg g) (hs : swapsWithSole [tg] e pos.line X.env = pure false) (hw : swappedStores [tg] e X.env = pure none)
    (h1 : (assignEach [tg] X.env).map (·.2) = [assign tg X.env]) : PS X (.Assign [tg] e pos) (RS T X.K W (sAsg a g rc)) :=
  ⟨fun pins s σ H D I h => (ps_asg he hg hs hw h1).run pins s σ H D I (asg_go (e := e) (tg := tg) pl h)⟩
theorem ss_set (ok : Ok G T c X k rc W) {i : Nat} {x : Str} {e : Expr} {a : Ev} {pos pos' : Pos} (s : Sto c i x) (he : PE X e (RE T X.K W (a rc))) (hs : swapsWith e (some (.Name x pos')) pos.line X.env = pure false) :
    PS X (.Assign [.Name x pos'] e pos) (RS T X.K W (sAsg a (gNm i) rc)) := by
  obtain ⟨h1, h2, h3⟩ := s.loc ok
  refine ⟨fun pins s σ H D I h => (ps_set (i := i) ok.xnd h1 h2 he hs h3).run pins s σ H D I ?_⟩
  obtain ⟨ρ, env, h0, R, E, q⟩ := RS.bind (rep := Rep T X.K) (k := fun env d h1 => gNm i rc d env h1) h
  refine ⟨ρ, env, h0, R, E, q.imp fun x H1 => ?_⟩
  rintro ⟨ρ1, env1, h1, d, R1, E1, r1, q1⟩
  exact RS.nxt q1 Fut.refl R1 (E1.set r1)
def sPar (i j : Nat) (a : Av) : Sv := fun rc env h => (a rc env h).toS fun ds h1 => match ds with
  | [x, y] => .nx ((env.set i (some x)).set j (some y)) h1
  | _ => .bad
def sPar3 (i j l : Nat) (a : Av) : Sv := fun rc env h => (a rc env h).toS fun ds h1 => match ds with
  | [x, y, z] => .nx (((env.set i (some x)).set j (some y)).set l (some z)) h1
  | _ => .bad
theorem ss_par (ok : Ok G T c X k rc W) {i j : Nat} {x y : Str} {a b : Expr} {va : Av} {px py pt pos : Pos} {kt k2 pt2} (sx : Sto c i x) (sy : Sto c j y) (hij : i ≠ j) (lx : c.sc.lookup x = some .local) (ly : c.sc.lookup y = some .local) (ha : PA X [a, b] (RA T X.K W (va rc)))
    (hw : swappedStores [.Tuple [.Name x px, .Name y py] kt pt] (.Tuple [a, b] k2 pt2) X.env = pure (some [x, y])) :
    PS X (.Assign [.Tuple [.Name x px, .Name y py] kt pt] (.Tuple [a, b] k2 pt2) pos) (RS T X.K W (sPar i j va rc)) := by
  obtain ⟨h1, _⟩ := sx.loc ok
  obtain ⟨h2, _⟩ := sy.loc ok
  refine ⟨fun pins s σ H D I h => (ps_par ok.calm ok.xnd h1 h2 hij (ok.loc x lx) (ok.loc y ly) ha hw).run pins s σ H D I ?_⟩
  obtain ⟨ρ, env, h0, R, E, q⟩ := RS.bind (rep := Reps T X.K) (k := fun env ds h1 => match ds with | [x, y] => .nx ((env.set i (some x)).set j (some y)) h1 | _ => .bad) h
  refine ⟨ρ, env, h0, R, E, q.imp fun vs H1 => ?_⟩
  rintro ⟨ρ1, env1, h1, d, R1, E1, r1, q1⟩
  cases r1 with
  | nil => exact q1.elim
  | cons ra r1 => cases r1 with
    | nil => exact q1.elim
    | cons rb r1 => cases r1 with
      | cons _ _ => exact q1.elim
      | nil => exact ⟨_, _, rfl, RS.nxt q1 Fut.refl R1 ((E1.set ra).set rb)⟩
theorem ss_par3 (ok : Ok G T c X k rc W) {i j l : Nat} {x y z : Str} {a b d : Expr} {va : Av} {px py pz pt pos : Pos} {kt k2 pt2} (sx : Sto c i x) (sy : Sto c j y) (sz : Sto c l z) (hij : i ≠ j) (hil : i ≠ l) (hjl : j ≠ l) (lx : c.sc.lookup x = some .local) (ly : c.sc.lookup y = some .local) (lz : c.sc.lookup z = some .local) (ha : PA X [a, b, d] (RA T X.K W (va rc)))
    (hw : swappedStores [.Tuple [.Name x px, .Name y py, .Name z pz] kt pt] (.Tuple [a, b, d] k2 pt2) X.env = pure (some [x, y, z])) :
    PS X (.Assign [.Tuple [.Name x px, .Name y py, .Name z pz] kt pt] (.Tuple [a, b, d] k2 pt2) pos) (RS T X.K W (sPar3 i j l va rc)) := by
  obtain ⟨h1, _⟩ := sx.loc ok
  obtain ⟨h2, _⟩ := sy.loc ok
  obtain ⟨h3, _⟩ := sz.loc ok
  refine ⟨fun pins s σ H D I h => (ps_par3 ok.calm ok.xnd h1 h2 h3 hij hil hjl (ok.loc x lx) (ok.loc y ly) (ok.loc z lz) ha hw).run pins s σ H D I ?_⟩
  obtain ⟨ρ, env, h0, R, E, q⟩ := RS.bind (rep := Reps T X.K) (k := fun env ds h1 => match ds with | [x, y, z] => .nx (((env.set i (some x)).set j (some y)).set l (some z)) h1 | _ => .bad) h
  refine ⟨ρ, env, h0, R, E, q.imp fun vs H1 => ?_⟩
  rintro ⟨ρ1, env1, h1, d, R1, E1, r1, q1⟩
  cases r1 with
  | nil => exact q1.elim
  | cons ra r1 => cases r1 with
    | nil => exact q1.elim
    | cons rb r1 => cases r1 with
      | nil => exact q1.elim
      | cons rc r1 => cases r1 with
        | cons _ _ => exact q1.elim
        | nil => exact ⟨_, _, _, rfl, RS.nxt q1 Fut.refl R1 (((E1.set ra).set rb).set rc)⟩
end
end DC
/-! Dc8: loops, comprehensions. -/
namespace DC
open PySem PySem.Spec PyProof.Rows L2
/-- what stands at turn i: none: not known; some none: the end -/
abbrev AJ := Nat → AH → Option (Option D)
abbrev Iv := Rc → En → AH → Out AJ
def JOk (T : Tb) (K : PySem.W.Frag) (ρ0 : List Addr) (H0 : Hp) (aj : AJ) (J : It) : Prop := ∀ (ρ : List Addr) (h : AH) (H : Hp) (i : Nat), Fut K ρ0 H0 ρ H → HRel T K ρ h H → match aj i h with
  | none => True
  | some none => J.stop i H
  | some (some x) => J.go i H ∧ ∀ v H', J.yld i H v H' → Fut K ρ H ρ H' ∧ HRel T K ρ h H' ∧ Rep T K ρ H' x v
abbrev RI (T : Tb) (K : PySem.W.Frag) (W : WX) (f : En → AH → Out AJ) : TI := RG (JOk T K) T K W f
def ajSeq (d : D) : AJ := fun i h => match items d h with
  | some xs => some xs[i]?
  | none => none
def ajEnum (d : D) : AJ := fun i h => match items d h with
  | some xs => (match xs[i]? with
    | some x => some (some (.tup [.int (i : Nat), x]))
    | none => some none)
  | none => none
def ajZip (d e : D) : AJ := fun i h => match items d h with
  | some xs => (match items e h with
    | some ys => (match xs[i]? with
      | some x => (match ys[i]? with
        | some y => some (some (.tup [x, y]))
        | none => some none)
      | none => some none)
    | none => none)
  | none => none
def ajRng (lo : Int) (n : Nat) : AJ := fun i _ => match Nat.blt i n with
  | true => some (some (.int (lo + (i : Nat))))
  | false => some none
def iSeq (a : Ev) : Iv := fun rc env h => (a rc env h).bind fun d h1 => match items d h1 with
  | some _ => .ok (ajSeq d) h1
  | none => .bad
def iEnum (a : Av) : Iv := fun rc env h => (a rc env h).bind fun ds h1 => match ds with
  | [d] => (match isTup d with
    | true => .bad
    | false => (match items d h1 with
      | some _ => .ok (ajEnum d) h1
      | none => .bad))
  | _ => .bad
def iZip (a : Av) : Iv := fun rc env h => (a rc env h).bind fun ds h1 => match ds with
  | [d, e] => (match isTup d == isTup e with
    | false => .bad
    | true => (match items d h1 with
      | some _ => (match items e h1 with
        | some _ => .ok (ajZip d e) h1
        | none => .bad)
      | none => .bad))
  | _ => .bad
/-- fits range -/
def rgOk (i : Int) : Bool := decide (-(2 ^ 62) ≤ i) && decide (i < 2 ^ 62)
def iRng1 (a : Av) : Iv := fun rc env h => (a rc env h).bind fun ds h1 => match ds with
  | [.int j] => (match rgOk j with
    | true => .ok (ajRng 0 j.toNat) h1
    | false => .bad)
  | _ => .bad
def iRng2 (a : Av) : Iv := fun rc env h => (a rc env h).bind fun ds h1 => match ds with
  | [.int i, .int j] => (match rgOk i && rgOk j with
    | true => .ok (ajRng i (j - i).toNat) h1
    | false => .bad)
  | _ => .bad
section
variable {T : Tb} {K : PySem.W.Frag} {ρ : List Addr} {H : Hp} {h : AH}
theorem jok_rng {lo : Int} {n : Nat} : JOk T K ρ H (ajRng lo n) (Itr lo n) := fun ρ1 h1 H1 i f R => by
  unfold ajRng
  cases e : Nat.blt i n with
  | true =>
    have hl : i < n := by simpa [Nat.blt_eq] using e
    refine ⟨hl, fun v H' y => ?_⟩
    obtain ⟨e1, e2⟩ := y
    subst e1 e2
    exact ⟨Fut.refl, R, .int⟩
  | false =>
    have hl : ¬ i < n := fun z => by rw [Nat.blt_eq.mpr z] at e; cases e
    exact Nat.le_of_not_lt hl
theorem jok_lst {d : D} {a : Addr} (r : Rep T K ρ H d (.ref a)) (ht : isTup d = false) : JOk T K ρ H (ajSeq d) (Itl K a) := fun ρ1 h1 H1 i f R => by
  unfold ajSeq
  cases e : items d h1 with
  | none => trivial
  | some xs =>
    obtain ⟨b, ys, e1, hs, rs⟩ := items_lst R (r.fut f) e ht
    cases e1
    simp only
    cases e2 : xs[i]? with
    | none =>
      refine ⟨ys, hs, ?_⟩
      rw [← rs.length]
      exact List.getElem?_eq_none_iff.mp e2
    | some x =>
      obtain ⟨v, h2, r2⟩ := rs.get e2
      refine ⟨⟨ys, v, hs, h2⟩, fun u H' y => ?_⟩
      obtain ⟨e3, y⟩ := y
      subst e3
      have := y ys hs
      rw [h2] at this
      cases this
      exact ⟨Fut.refl, R, r2⟩
theorem jok_tup {d : D} {a : Addr} (r : Rep T K ρ H d (.ref a)) (ht : isTup d = true) : JOk T K ρ H (ajSeq d) (Itt K a) := fun ρ1 h1 H1 i f R => by
  unfold ajSeq
  cases e : items d h1 with
  | none => trivial
  | some xs =>
    obtain ⟨b, ys, e1, hs, rs⟩ := items_tup (r.fut f) e ht
    cases e1
    simp only
    cases e2 : xs[i]? with
    | none =>
      refine ⟨ys, hs, ?_⟩
      rw [← rs.length]
      exact List.getElem?_eq_none_iff.mp e2
    | some x =>
      obtain ⟨v, h2, r2⟩ := rs.get e2
      refine ⟨⟨ys, v, hs, h2⟩, fun u H' y => ?_⟩
      obtain ⟨e3, y⟩ := y
      subst e3
      have := y ys hs
      rw [h2] at this
      cases this
      exact ⟨Fut.refl, R, r2⟩
theorem new_tup {p : Addr} {vs : List V} {ds : List D} (R : HRel T K ρ h H) (hn : H p = none) (rs : Reps T K ρ H ds vs) : Fut K ρ H ρ (upd H p (.tup vs)) ∧ HRel T K ρ h (upd H p (.tup vs)) ∧ Rep T K ρ (upd H p (.tup vs)) (.tup ds) (.ref p) :=
  ⟨fut_new hn, R.unnum hn (fun _ z => nomatch z), .tup (SqT.of upd_same) (rs.mono (fun _ _ e => e) (fun _ _ e => sqT_new hn e) (fun _ _ e => sqF_new hn e))⟩
theorem jok_enum {d : D} {a : Addr} (r : Rep T K ρ H d (.ref a)) (ht : isTup d = false) : JOk T K ρ H (ajEnum d) (Ite K a) := fun ρ1 h1 H1 i f R => by
  unfold ajEnum
  cases e : items d h1 with
  | none => trivial
  | some xs =>
    obtain ⟨b, ys, e1, hs, rs⟩ := items_lst R (r.fut f) e ht
    cases e1
    simp only
    cases e2 : xs[i]? with
    | none =>
      refine ⟨ys, hs, ?_⟩
      rw [← rs.length]
      exact List.getElem?_eq_none_iff.mp e2
    | some x =>
      obtain ⟨v, h2, r2⟩ := rs.get e2
      refine ⟨⟨ys, v, hs, h2⟩, fun u H' y => ?_⟩
      obtain ⟨p, z, e3, hn, e4, y⟩ := y
      have := y ys hs
      rw [h2] at this
      cases this
      subst e3 e4
      exact new_tup R hn (.cons .int (.cons r2 .nil))
theorem jok_zip {d e : D} {a b : Addr} (r : Rep T K ρ H d (.ref a)) (s : Rep T K ρ H e (.ref b)) (hd : isTup d = false) (he : isTup e = false) : JOk T K ρ H (ajZip d e) (Itz K a b) := fun ρ1 h1 H1 i f R => by
  unfold ajZip
  cases e1 : items d h1 with
  | none => trivial
  | some xs =>
    cases e2 : items e h1 with
    | none => trivial
    | some zs =>
      obtain ⟨_, ys, z, hs, rs⟩ := items_lst R (r.fut f) e1 hd
      cases z
      obtain ⟨_, us, z, hu, ru⟩ := items_lst R (s.fut f) e2 he
      cases z
      simp only
      cases e3 : xs[i]? with
      | none => exact ⟨ys, us, hs, hu, .inl (by rw [← rs.length]; exact List.getElem?_eq_none_iff.mp e3)⟩
      | some x =>
        cases e4 : zs[i]? with
        | none => exact ⟨ys, us, hs, hu, .inr (by rw [← ru.length]; exact List.getElem?_eq_none_iff.mp e4)⟩
        | some w =>
          obtain ⟨v, h2, r2⟩ := rs.get e3
          obtain ⟨v', h3, r3⟩ := ru.get e4
          refine ⟨⟨ys, us, v, v', hs, hu, h2, h3⟩, fun u H' y => ?_⟩
          obtain ⟨p, q, q', e5, hn, e6, y, y'⟩ := y
          have t1 := y ys hs
          have t2 := y' us hu
          rw [h2] at t1
          rw [h3] at t2
          cases t1
          cases t2
          subst e5 e6
          exact new_tup R hn (.cons r2 (.cons r3 .nil))
theorem jok_zipT {d e : D} {a b : Addr} (r : Rep T K ρ H d (.ref a)) (s : Rep T K ρ H e (.ref b)) (hd : isTup d = true) (he : isTup e = true) : JOk T K ρ H (ajZip d e) (RZ.ItzT K a b) := fun ρ1 h1 H1 i f R => by
  unfold ajZip
  cases e1 : items d h1 with
  | none => trivial
  | some xs =>
    cases e2 : items e h1 with
    | none => trivial
    | some zs =>
      obtain ⟨_, ys, z, hs, rs⟩ := items_tup (r.fut f) e1 hd
      cases z
      obtain ⟨_, us, z, hu, ru⟩ := items_tup (s.fut f) e2 he
      cases z
      simp only
      cases e3 : xs[i]? with
      | none => exact ⟨ys, us, hs, hu, .inl (by rw [← rs.length]; exact List.getElem?_eq_none_iff.mp e3)⟩
      | some x =>
        cases e4 : zs[i]? with
        | none => exact ⟨ys, us, hs, hu, .inr (by rw [← ru.length]; exact List.getElem?_eq_none_iff.mp e4)⟩
        | some w =>
          obtain ⟨v, h2, r2⟩ := rs.get e3
          obtain ⟨v', h3, r3⟩ := ru.get e4
          refine ⟨⟨ys, us, v, v', hs, hu, h2, h3⟩, fun u H' y => ?_⟩
          obtain ⟨p, q, q', e5, hn, e6, y, y'⟩ := y
          have t1 := y ys hs
          have t2 := y' us hu
          rw [h2] at t1
          rw [h3] at t2
          cases t1
          cases t2
          subst e5 e6
          exact new_tup R hn (.cons r2 (.cons r3 .nil))
end

/-! ### the iterators -/
def iAnyT (K : PySem.W.Frag) (tl : TE) : TI := fun σ H R => tl σ H fun x H1 => (∃ a, x = .ref a ∧ (∃ xs, SqL K H1 a xs) ∧ R (Itl K a) H1) ∨ (∃ a, x = .ref a ∧ (∃ xs, SqT K H1 a xs) ∧ R (Itt K a) H1)
theorem pi_any {X : Cx} {tg l : Expr} {tl : TE} (hl : PE X l tl) : PI X tg l (iAnyT X.K tl) := by
  refine ⟨fun pins s σ H R I h => ?_⟩
  refine thn (hl.run pins s σ H _ I h) fun v s1 ⟨x, H1, I1, r1, q1⟩ => ?_
  rcases q1 with ⟨a, e, ⟨xs, hq⟩, q⟩ | ⟨a, e, ⟨xs, hq⟩, q⟩
  · subst e
    cases r1
    obtain ⟨its, rv, p, hz⟩ := I1.list hq
    refine wpAny_pyIter_list p.isList ?_
    refine ⟨s1.heap.objs.size, [s1.heap.objs.size], _, _, H1, rfl, I1.kept (t' := s1.toks) fun b o e => Heap.get?_push_of_some _ e, turn_list a _, ⟨_, Heap.get?_push_size _ rfl, rfl, rfl⟩, fun b hb => ?_, q⟩
    have e : b = s1.heap.objs.size := by simpa using hb
    subst e
    exact I1.fpOk (Nat.le_refl _) (I1.hok.fresh (Nat.le_refl _))
  · subst e
    cases r1
    obtain ⟨its, rv, p, hz⟩ := I1.tuple hq
    refine wpAny_pyIter_tuple (show s1.heap.IsTuple a its.toArray from p) ?_
    refine ⟨s1.heap.objs.size, [s1.heap.objs.size], _, _, H1, rfl, I1.kept (t' := s1.toks) fun b o e => Heap.get?_push_of_some _ e, turn_tuple a _, ⟨_, Heap.get?_push_size _ rfl, rfl, rfl⟩, fun b hb => ?_, q⟩
    have e : b = s1.heap.objs.size := by simpa using hb
    subst e
    exact I1.fpOk (Nat.le_refl _) (I1.hok.fresh (Nat.le_refl _))
section
variable {G : Gx} {T : Tb} {c : Cc} {X : Cx} {k : Nat} {rc : Rc} {W : WX}
theorem si_seq {tg e : Expr} {a : Ev} (he : PE X e (RE T X.K W (a rc))) : PI X tg e (RI T X.K W (iSeq a rc)) := by
  refine ⟨fun pins s σ H Rr I h => (pi_any he).run pins s σ H Rr I ?_⟩
  obtain ⟨ρ, env, h0, R, E, q⟩ := RG.bind (rep := Rep T X.K) (k := fun _ d h1 => match items d h1 with | some _ => .ok (ajSeq d) h1 | none => .bad) h
  refine ⟨ρ, env, h0, R, E, q.imp fun x H1 => ?_⟩
  rintro ⟨ρ1, env1, h1, d, R1, E1, r1, q1⟩
  cases e1 : items d h1 with
  | none => rw [e1] at q1; exact q1.elim
  | some xs =>
    rw [e1] at q1
    cases ht : isTup d with
    | true =>
      obtain ⟨a, ys, ex, hs, rs⟩ := items_tup r1 e1 ht
      subst ex
      exact .inr ⟨a, rfl, ⟨ys, hs⟩, q1.now Fut.refl R1 (jok_tup r1 ht)⟩
    | false =>
      obtain ⟨a, ys, ex, hs, rs⟩ := items_lst R1 r1 e1 ht
      subst ex
      exact .inl ⟨a, rfl, ⟨ys, hs⟩, q1.now Fut.refl R1 (jok_lst r1 ht)⟩
theorem si_enum {e : Expr} {elts : List Expr} {kk : Nat} {tpos p pos : Pos} {a : Av} (hg : Gl X "enumerate") (hm : X.mg "enumerate" = none) (ha : PA X [e] (RA T X.K W (a rc))) (hs : starEach [e] X.env = [(false, eval e X.env)]) :
    PI X (.Tuple elts kk tpos) (.Call (.Name "enumerate" p) [e] [] pos) (RI T X.K W (iEnum a rc)) := by
  refine ⟨fun pins s σ H Rr I h => (pi_enum hg hm ha hs).run pins s σ H Rr I ?_⟩
  obtain ⟨ρ, env, h0, R, E, q⟩ := RG.bind (rep := Reps T X.K) (k := fun _ ds h1 => match ds with
    | [d] => (match isTup d with
      | true => .bad
      | false => (match items d h1 with
        | some _ => .ok (ajEnum d) h1
        | none => .bad))
    | _ => .bad) h
  refine ⟨ρ, env, h0, R, E, q.imp fun x H1 => ?_⟩
  rintro ⟨ρ1, env1, h1, d, R1, E1, r1, q1⟩
  cases r1 with
  | nil => exact q1.elim
  | cons r1 rr => cases rr with
    | cons _ _ => exact q1.elim
    | nil =>
      rename_i d v
      simp only at q1
      cases ht : isTup d with
      | true => rw [ht] at q1; exact q1.elim
      | false =>
        rw [ht] at q1
        simp only at q1
        cases e1 : items d h1 with
        | none => rw [e1] at q1; exact q1.elim
        | some xs =>
          rw [e1] at q1
          obtain ⟨a, ys, ex, hs, rs⟩ := items_lst R1 r1 e1 ht
          subst ex
          exact ⟨a, ys, rfl, hs, q1.now Fut.refl R1 (jok_enum r1 ht)⟩
theorem si_zip {e e2 : Expr} {elts : List Expr} {kk : Nat} {tpos p pos : Pos} {a : Av} (hg : Gl X "zip") (hm : X.mg "zip" = none) (ha : PA X [e, e2] (RA T X.K W (a rc)))
    (hs : starEach [e, e2] X.env = (false, eval e X.env) :: starEach [e2] X.env) (hpl : (backTo pos (starEach [e2] X.env)).any (·.1) = false) :
    PI X (.Tuple elts kk tpos) (.Call (.Name "zip" p) [e, e2] [] pos) (RI T X.K W (iZip a rc)) := by
  refine ⟨fun pins s σ H Rr I h => (RZ.pi_zipA hg hm ha hs hpl).run pins s σ H Rr I ?_⟩
  obtain ⟨ρ, env, h0, R, E, q⟩ := RG.bind (rep := Reps T X.K) (k := fun _ ds h1 => match ds with
    | [d, e] => (match isTup d == isTup e with
      | false => .bad
      | true => (match items d h1 with
        | some _ => (match items e h1 with
          | some _ => .ok (ajZip d e) h1
          | none => .bad)
        | none => .bad))
    | _ => .bad) h
  refine ⟨ρ, env, h0, R, E, q.imp fun x H1 => ?_⟩
  rintro ⟨ρ1, env1, h1, d, R1, E1, r1, q1⟩
  cases r1 with
  | nil => exact q1.elim
  | cons r1 rr => cases rr with
    | nil => exact q1.elim
    | cons r2 rr => cases rr with
      | cons _ _ => exact q1.elim
      | nil =>
        rename_i d v d' v'
        simp only at q1
        cases ht : isTup d == isTup d' with
        | false => rw [ht] at q1; exact q1.elim
        | true =>
          rw [ht] at q1
          have he := eq_of_beq ht
          simp only at q1
          cases e1 : items d h1 with
          | none => rw [e1] at q1; exact q1.elim
          | some xs =>
            rw [e1] at q1
            simp only at q1
            cases e2 : items d' h1 with
            | none => rw [e2] at q1; exact q1.elim
            | some xs' =>
              rw [e2] at q1
              cases hd : isTup d with
              | true =>
                rw [hd] at he
                obtain ⟨a, ys, ex, hs, rs⟩ := items_tup r1 e1 hd
                obtain ⟨a', ys', ex', hs', rs'⟩ := items_tup r2 e2 he.symm
                subst ex ex'
                exact ⟨a, a', ys, ys', rfl, .inr ⟨hs, hs', q1.now Fut.refl R1 (jok_zipT r1 r2 hd he.symm)⟩⟩
              | false =>
                rw [hd] at he
                obtain ⟨a, ys, ex, hs, rs⟩ := items_lst R1 r1 e1 hd
                obtain ⟨a', ys', ex', hs', rs'⟩ := items_lst R1 r2 e2 he.symm
                subst ex ex'
                exact ⟨a, a', ys, ys', rfl, .inl ⟨hs, hs', q1.now Fut.refl R1 (jok_zip r1 r2 hd he.symm)⟩⟩
theorem rgOk_is {i : Int} (h : rgOk i = true) : -(2 ^ 62) ≤ i ∧ i < 2 ^ 62 := by
  obtain ⟨a, b⟩ := Bool.and_eq_true_iff.mp h
  exact ⟨of_decide_eq_true a, of_decide_eq_true b⟩
theorem si_rng1 {e tg : Expr} {p pos : Pos} {a : Av} (hg : Gl X "range") (hm : X.mg "range" = none) (ha : PA X [e] (RA T X.K W (a rc))) (hs : starEach [e] X.env = [(false, eval e X.env)]) :
    PI X tg (.Call (.Name "range" p) [e] [] pos) (RI T X.K W (iRng1 a rc)) := by
  refine ⟨fun pins s σ H Rr I h => (pi_range1 hg hm ha hs).run pins s σ H Rr I ?_⟩
  obtain ⟨ρ, env, h0, R, E, q⟩ := RG.bind (rep := Reps T X.K) (k := fun _ ds h1 => match ds with
    | [D.int j] => (match rgOk j with
      | true => .ok (ajRng 0 j.toNat) h1
      | false => .bad)
    | _ => .bad) h
  refine ⟨ρ, env, h0, R, E, q.imp fun x H1 => ?_⟩
  rintro ⟨ρ1, env1, h1, d, R1, E1, r1, q1⟩
  cases r1 with
  | nil => exact q1.elim
  | cons r1 rr =>
    rename_i d v ds vs
    cases rr with
    | cons _ _ => cases d <;> exact q1.elim
    | nil =>
      cases d with
      | int j =>
        cases r1
        simp only at q1
        cases e1 : rgOk j with
        | false => rw [e1] at q1; exact q1.elim
        | true =>
          rw [e1] at q1
          obtain ⟨b1, b2⟩ := rgOk_is e1
          exact ⟨j, rfl, b1, b2, q1.now Fut.refl R1 jok_rng⟩
      | _ => exact q1.elim
theorem si_rng2 {e e2 tg : Expr} {p pos : Pos} {a : Av} (hg : Gl X "range") (hm : X.mg "range" = none) (ha : PA X [e, e2] (RA T X.K W (a rc))) (hs : starEach [e, e2] X.env = [(false, eval e X.env), (false, eval e2 X.env)]) (hs2 : starEach [e2] X.env = [(false, eval e2 X.env)]) :
    PI X tg (.Call (.Name "range" p) [e, e2] [] pos) (RI T X.K W (iRng2 a rc)) := by
  refine ⟨fun pins s σ H Rr I h => (pi_range2 hg hm ha hs hs2).run pins s σ H Rr I ?_⟩
  obtain ⟨ρ, env, h0, R, E, q⟩ := RG.bind (rep := Reps T X.K) (k := fun _ ds h1 => match ds with
    | [D.int i, D.int j] => (match rgOk i && rgOk j with
      | true => .ok (ajRng i (j - i).toNat) h1
      | false => .bad)
    | _ => .bad) h
  refine ⟨ρ, env, h0, R, E, q.imp fun x H1 => ?_⟩
  rintro ⟨ρ1, env1, h1, d, R1, E1, r1, q1⟩
  cases r1 with
  | nil => exact q1.elim
  | cons r1 rr =>
    rename_i d v ds vs
    cases rr with
    | nil => cases d <;> exact q1.elim
    | cons r2 rr =>
      rename_i d2 v2 ds2 vs2
      cases rr with
      | cons _ _ => cases d <;> first | exact q1.elim | (cases d2 <;> exact q1.elim)
      | nil =>
        cases d with
        | int i => cases d2 with
          | int j =>
            cases r1
            cases r2
            simp only at q1
            cases e1 : rgOk i && rgOk j with
            | false => rw [e1] at q1; exact q1.elim
            | true =>
              rw [e1] at q1
              obtain ⟨c1, c2⟩ := Bool.and_eq_true_iff.mp e1
              obtain ⟨b1, b2⟩ := rgOk_is c1
              obtain ⟨b3, b4⟩ := rgOk_is c2
              exact ⟨i, j, rfl, ⟨b1, b2, b3, b4⟩, q1.now Fut.refl R1 jok_rng⟩
          | _ => exact q1.elim
        | _ => exact q1.elim
end

/-! ### for, while -/
def forF (aj : AJ) (g : D → En → AH → SOut) (b : En → AH → SOut) : Nat → Nat → En → AH → SOut
  | 0, _, _, _ => .bad
  | n + 1, i, env, h => match aj i h with
    | none => .bad
    | some none => .nx env h
    | some (some x) => (match g x env h with
      | .nx e1 h1 => (match b e1 h1 with
        | .nx e2 h2 => forF aj g b n (i + 1) e2 h2
        | .ct e2 h2 => forF aj g b n (i + 1) e2 h2
        | .bk e2 h2 => .nx e2 h2
        | .rt d h2 => .rt d h2
        | .exc c v h2 => .exc c v h2
        | .bad => .bad)
      | .exc c v h2 => .exc c v h2
      | .rt _ _ => .bad
      | .bk _ _ => .bad
      | .ct _ _ => .bad
      | .bad => .bad)
def sFor (it : Iv) (g : Gv) (b : Sv) : Sv := fun rc env h => (it rc env h).toS fun aj h1 => forF aj (g rc) (b rc) rc.n 0 env h1
/-- a test that may store -/
abbrev Wv := Rc → En → AH → Out (Bool × En)
def RTw (T : Tb) (K : PySem.W.Frag) (W : WX) (f : En → AH → Out (Bool × En)) : TTw := fun σ H Q => ∃ ρ env h, HRel T K ρ h H ∧ ERel T K ρ H env σ ∧ match f env h with
  | .ok (b, e) h1 => ∀ ρ' σ' H', Fut K ρ H ρ' H' → HRel T K ρ' h1 H' → ERel T K ρ' H' e σ' → Q b σ' H'
  | .exc c x h1 => ∀ ρ' H' dd σ', Fut K ρ H ρ' H' → HRel T K ρ' h1 H' → XRep T K ρ' H' c x dd → W (.ref (T.ca c)) dd σ' H'
  | .bad => False
def wT (t : Tv) : Wv := fun rc env h => (t rc env h).bind fun b h1 => .ok (b, env) h1
/-- (x := a) is not None -/
def wNotN (i : Nat) (a : Ev) : Wv := fun rc env h => (a rc env h).bind fun d h1 => .ok (match d with | .non => false | _ => true, env.set i (some d)) h1
def whF (c : En → AH → Out (Bool × En)) (b : En → AH → SOut) : Nat → En → AH → SOut
  | 0, _, _ => .bad
  | n + 1, env, h => match c env h with
    | .ok (true, e1) h1 => (match b e1 h1 with
      | .nx e2 h2 => whF c b n e2 h2
      | .ct e2 h2 => whF c b n e2 h2
      | .bk e2 h2 => .nx e2 h2
      | .rt d h2 => .rt d h2
      | .exc c v h2 => .exc c v h2
      | .bad => .bad)
    | .ok (false, e1) h1 => .nx e1 h1
    | .exc c v h1 => .exc c v h1
    | .bad => .bad
def sWh (c : Wv) (b : Sv) : Sv := fun rc env h => whF (c rc) (b rc) rc.n env h
section
variable {G : Gx} {T : Tb} {c : Cc} {X : Cx} {k : Nat} {rc : Rc} {W : WX}
theorem ss_for (ok : Ok G T c X k rc W) (top : c.top = true) {tg iter : Expr} {body : List Stmt} {it : Iv} {is : List Nat} {g : Gv} {b : Sv} {pos : Pos} (hi : PI X tg iter (RI T X.K W (it rc))) (hg : PG X tg (RGt T X.K W is (g rc))) (hb : PSs X body (RS T X.K W (b rc)))
    (hs : ∀ x, foldedSetIterable iter X.env x = pure x) : PS X (.For tg iter body [] pos) (RS T X.K W (sFor it g b rc)) := by
  refine ⟨fun pins s σ H E I h => (ps_for (ok.po top) ok.calm hi hg hb hs).run pins s σ H E I ?_⟩
  obtain ⟨ρ, env, h0, R, Er, q⟩ := RS.bind (rep := JOk T X.K) (k := fun env aj h1 => forF aj (g rc) (b rc) rc.n 0 env h1) h
  refine ⟨ρ, env, h0, R, Er, q.imp fun J H1 => ?_⟩
  rintro ⟨ρ1, env1, h1, aj, R1, E1, jo, q1⟩
  refine ⟨fun i m σ' H' => ∃ ρ' env' h', Fut X.K ρ1 H1 ρ' H' ∧ HRel T X.K ρ' h' H' ∧ ERel T X.K ρ' H' env' σ' ∧ PostS T X.K W σ' ρ' H' (forF aj (g rc) (b rc) m i env' h') E, ⟨rc.n, ρ1, env1, h1, Fut.refl, R1, E1, q1⟩, ?_⟩
  rintro i m σ' H' ⟨ρ', env', h', f, R', E', p⟩
  cases m with
  | zero => exact p.elim
  | succ m =>
    have j := jo ρ' h' H' i f R'
    unfold forF at p
    cases e1 : aj i h' with
    | none => rw [e1] at p; exact p.elim
    | some o =>
      rw [e1] at p j
      cases o with
      | none => exact .inl ⟨j, RS.nxt p Fut.refl R' E'⟩
      | some x =>
        simp only at p j
        obtain ⟨jg, jy⟩ := j
        refine .inr ⟨jg, _, fun σ2 H2 z => ⟨m, Nat.lt_succ_self m, z⟩, fun v H2 y => ?_⟩
        obtain ⟨f2, R2, rx⟩ := jy v H2 y
        have p2 := PostS.later (σ := σ') R' f2 p
        refine ⟨ρ', env', h', x, R2, E'.fut f2, rx, ?_⟩
        cases e2 : g rc x env' h' with
        | nx e3 h3 =>
          rw [e2] at p2
          refine fun ρ3 σ3 H3 f3 R3 E3 _ => ⟨ρ3, e3, h3, R3, E3, ?_⟩
          have p3 := PostS.later (σ := σ') R2 f3 p2
          simp only at p3
          cases e4 : b rc e3 h3 with
          | nx e5 h5 =>
            rw [e4] at p3
            exact fun ρ5 σ5 H5 f5 R5 E5 => ⟨ρ5, e5, h5, f.trans R1.own (f2.trans R'.own (f3.trans R2.own f5)), R5, E5, PostS.later (σ := σ') R3 f5 p3⟩
          | ct e5 h5 =>
            rw [e4] at p3
            exact fun ρ5 σ5 H5 f5 R5 E5 => ⟨ρ5, e5, h5, f.trans R1.own (f2.trans R'.own (f3.trans R2.own f5)), R5, E5, PostS.later (σ := σ') R3 f5 p3⟩
          | bk e5 h5 => rw [e4] at p3; exact p3
          | rt d h5 => rw [e4] at p3; exact p3
          | exc c v h5 => rw [e4] at p3; exact p3
          | bad => rw [e4] at p3; exact p3
        | exc c v h3 => rw [e2] at p2; exact p2
        | rt _ _ => rw [e2] at p2; exact p2.elim
        | bk _ _ => rw [e2] at p2; exact p2.elim
        | ct _ _ => rw [e2] at p2; exact p2.elim
        | bad => rw [e2] at p2; exact p2.elim
theorem sw_t {e : Expr} {t : Tv} (h : PT X e (RT T X.K W (t rc))) : PTw X e (RTw T X.K W (wT t rc)) := by
  refine ⟨fun pins s σ H Q I hw => (ptw_of h).run pins s σ H Q I ?_⟩
  obtain ⟨ρ, env, h, R, E, q⟩ := hw
  refine ⟨ρ, env, h, R, E, ?_⟩
  simp only [DC.wT] at q
  cases o : t rc env h with
  | ok b h1 =>
    rw [o] at q
    intro ρ' H' v f R' r
    have e : b = v := r
    subst e
    exact q ρ' σ H' f R' (E.fut f)
  | exc c x h1 => rw [o] at q; exact fun ρ' H' dd f R' x => q ρ' H' dd σ f R' x
  | bad => rw [o] at q; exact q
theorem sw_notN (ok : Ok G T c X k rc W) {e : Expr} {x : Str} {p pos p2 p3 : Pos} {j : Nat} {i : Nat} {a : Ev} (s : Sto c i x) (h : PE X e (RE T X.K W (a rc))) : PTw X (.Compare (.NamedExpr (.Name x p) e pos) [.IsNot] [.Constant .none j p2] p3) (RTw T X.K W (wNotN i a rc)) := by
  obtain ⟨h1, h2, h3⟩ := s.loc ok
  refine ⟨fun pins s σ H Q I hw => (ptw_cmp op_notN (pew_named ok.xnd h1 h2 (pew_of h) h3) pe_non (nomark _)).run pins s σ H Q I ?_⟩
  obtain ⟨ρ, env, h0, R, E, q⟩ := hw
  refine ⟨ρ, env, h0, R, E, ?_⟩
  simp only [wNotN] at q
  cases o : a rc env h0 with
  | ok d h1 =>
    rw [o] at q
    intro ρ' H' v f R' r
    have z := q ρ' _ H' f R' ((E.fut f).set (i := i) r)
    refine ⟨rfl, _, rfl, ?_⟩
    cases r <;> exact z
  | exc c x h1 => rw [o] at q; exact fun ρ' H' dd f R' x => q ρ' H' dd σ f R' x
  | bad => rw [o] at q; exact q
theorem ss_while (ok : Ok G T c X k rc W) (top : c.top = true) {e : Expr} {body : List Stmt} {t : Wv} {b : Sv} {pos : Pos} (hc : PTw X e (RTw T X.K W (t rc))) (hb : PSs X body (RS T X.K W (b rc))) : PS X (.While e body [] pos) (RS T X.K W (sWh t b rc)) := by
  refine ⟨fun pins s σ H E I h => (ps_whileW (ok.po top) hc hb pss_nil).run pins s σ H E I ?_⟩
  obtain ⟨ρ, env, h0, R, Er, q⟩ := h
  refine ⟨fun m σ' H' => ∃ ρ' env' h', HRel T X.K ρ' h' H' ∧ ERel T X.K ρ' H' env' σ' ∧ PostS T X.K W σ' ρ' H' (whF (t rc) (b rc) m env' h') E, ⟨rc.n, ρ, env, h0, R, Er, q⟩, ?_⟩
  rintro m σ' H' ⟨ρ', env', h', R', E', p⟩
  cases m with
  | zero => exact p.elim
  | succ m =>
    unfold whF at p
    refine ⟨ρ', env', h', R', E', ?_⟩
    cases e1 : t rc env' h' with
    | ok be h1 =>
      obtain ⟨bb, e2⟩ := be
      rw [e1] at p
      intro ρ1 σ1 H1 f1 R1 E1
      cases bb with
      | false => exact RS.nxt p f1 R1 E1
      | true =>
        simp only [if_true] at p ⊢
        have p2 := PostS.later (σ := σ') R' f1 p
        refine ⟨_, fun σ2 H2 z => ⟨m, Nat.lt_succ_self m, z⟩, ρ1, e2, h1, R1, E1, ?_⟩
        cases e4 : b rc e2 h1 with
        | nx e5 h5 =>
          rw [e4] at p2
          exact fun ρ5 σ5 H5 f5 R5 E5 => ⟨ρ5, e5, h5, R5, E5, PostS.later (σ := σ') R1 f5 p2⟩
        | ct e5 h5 =>
          rw [e4] at p2
          exact fun ρ5 σ5 H5 f5 R5 E5 => ⟨ρ5, e5, h5, R5, E5, PostS.later (σ := σ') R1 f5 p2⟩
        | bk e5 h5 => rw [e4] at p2; exact p2
        | rt d h5 => rw [e4] at p2; exact p2
        | exc c v h5 => rw [e4] at p2; exact p2
        | bad => rw [e4] at p2; exact p2
    | exc c x h1 => rw [e1] at p; exact p
    | bad => rw [e1] at p; exact p.elim
end

/-! ### comprehensions -/
def wipeE (env : En) : List Nat → En
  | [] => env
  | v :: vs => (wipeE env vs).set v none
theorem ERel.setN {T : Tb} {K : PySem.W.Frag} {ρ : List Addr} {H : Hp} {env : En} {σ : L2.St} {i : Nat} (E : ERel T K ρ H env σ) : ERel T K ρ H (env.set i none) (σ.set i none) := by
  refine ⟨by rw [List.length_set, List.length_set]; exact E.1, fun j x hx => ?_⟩
  by_cases e : i = j
  · subst e
    have hl : i < env.length := by
      have := List.getElem?_eq_some_iff.mp hx
      obtain ⟨h1, _⟩ := this
      rw [List.length_set] at h1; exact h1
    rw [List.getElem?_set_self hl] at hx
    cases hx
  · rw [List.getElem?_set_ne e] at hx
    obtain ⟨u, h1, h2⟩ := E.2 j x hx
    exact ⟨u, by rw [List.getElem?_set_ne e]; exact h1, h2⟩
theorem ERel.wipe {T : Tb} {K : PySem.W.Frag} {ρ : List Addr} {H : Hp} {env : En} {σ : L2.St} (E : ERel T K ρ H env σ) : ∀ vs : List Nat, ERel T K ρ H (wipeE env vs) (wipe σ vs)
  | [] => E
  | v :: vs => (E.wipe vs).setN
abbrev W0 : WX := fun _ _ _ _ => False
/-- D's list grown -/
def grow (m : Nat) (y : D) (h : AH) : Option AH := match h[m]? with
  | some (.lst acc) => (match Nat.blt acc.length 16777216 with
    | true => some (h.set m (.lst (acc ++ [y])))
    | false => none)
  | _ => none
def lcF (aj : AJ) (g : D → En → AH → SOut) (t : En → AH → Out Bool) (e : En → AH → Out D) (env : En) (m : Nat) : Nat → Nat → AH → Option AH
  | 0, _, _ => none
  | n + 1, i, h => match aj i h with
    | none => none
    | some none => some h
    | some (some x) => (match g x env h with
      | .nx e1 h1 => (match t e1 h1 with
        | .ok true h2 => (match e e1 h2 with
          | .ok y h3 => (match grow m y h3 with
            | some h4 => lcF aj g t e env m n (i + 1) h4
            | none => none)
          | _ => none)
        | .ok false h2 => lcF aj g t e env m n (i + 1) h2
        | _ => none)
      | _ => none)
def vLc (it : Iv) (g : Gv) (t : Tv) (e : Ev) (vs : List Nat) : Ev := fun rc env h => (it rc env h).bind fun aj h1 => match lcF aj (g rc) (t rc) (e rc) (wipeE env vs) h1.length rc.n 0 (h1 ++ [.lst []]) with
  | some h2 => .ok (.obj h1.length) h2
  | none => .bad
def tT : Tv := fun _ _ h => .ok true h
section
variable {G : Gx} {T : Tb} {c : Cc} {X : Cx} {k : Nat} {rc : Rc} {W : WX}
theorem st_nil : PTs X [] (RT T X.K W (tT rc)) := by
  refine ⟨fun pins s σ H Q I h => pts_nil.run pins s σ H Q I ?_⟩
  obtain ⟨ρ, env, h, R, E, q⟩ := h
  exact q.now Fut.refl R rfl
theorem st_one {e : Expr} {t : Tv} (h : PT X e (RT T X.K W (t rc))) : PTs X [e] (RT T X.K W (t rc)) := pts_one h
/-- the new list at its number -/
theorem new_lst {ρ : List Addr} {H : Hp} {h : AH} {p : Addr} {vs : List V} {ds : List D} (R : HRel T X.K ρ h H) (hn : H p = none) (rs : Reps T X.K ρ H ds vs) : Fut X.K ρ H (ρ ++ [p]) (upd H p (.lst vs)) ∧ HRel T X.K (ρ ++ [p]) (h ++ [.lst ds]) (upd H p (.lst vs)) ∧ (ρ ++ [p])[h.length]? = some p := by
  have f := fut_num (K := X.K) (ρ := ρ) hn (fut_new (K := X.K) (ρ := ρ) (w := .lst vs) hn)
  exact ⟨f, R.num hn (fun _ z => nomatch z) ⟨_, upd_same, rs.fut f⟩, by rw [← R.len]; simp⟩
theorem grow_ok {ρ : List Addr} {H : Hp} {h h' : AH} {p : Addr} {n : Nat} {y : D} {v : V} (R : HRel T X.K ρ h H) (hp : ρ[n]? = some p) (ry : Rep T X.K ρ H y v) (e : grow n y h = some h') : ∃ acc, H p = some (.lst acc) ∧ acc.length < sizeLine ∧ Fut X.K ρ H ρ (upd H p (.lst (acc ++ [v]))) ∧ HRel T X.K ρ h' (upd H p (.lst (acc ++ [v]))) := by
  unfold grow at e
  cases o : h[n]? with
  | none => rw [o] at e; cases e
  | some ob =>
    rw [o] at e
    cases ob with
    | lst acc =>
      simp only at e
      cases q : Nat.blt acc.length 16777216 with
      | false => rw [q] at e; cases e
      | true =>
        rw [q] at e
        cases e
        obtain ⟨ys, hy, ry'⟩ := R.obj n p _ hp o
        have f := fut_upd (K := X.K) (ρ := ρ) (w := .lst (ys ++ [v])) hy soft_lst (List.mem_of_getElem? hp)
        exact ⟨ys, hy, by rw [sizeLine_eq, ← ry'.length]; simpa [Nat.blt_eq] using q, f, R.upd hp hy soft_lst (fun _ z => nomatch z) ⟨_, upd_same, (ry'.append (.cons ry .nil)).fut f⟩⟩
    | dct _ _ => cases e
    | ins _ _ => cases e
theorem W0.post {α β : Type} {rep : List Addr → Hp → α → β → Prop} {σ : L2.St} {ρ : List Addr} {H : Hp} {o : Out α} {a : α} {h : AH} {Q : β → Hp → Prop} (e : o = .ok a h) (q : ∀ ρ' H' v, Fut X.K ρ H ρ' H' → HRel T X.K ρ' h H' → rep ρ' H' a v → Q v H') : PostG rep T X.K W0 σ ρ H o Q := by
  subst e; exact q
theorem lc_go {it : Iv} {is : List Nat} {g : Gv} {t : Tv} {e : Ev} {vs : List Nat} {σ : L2.St} {H : Hp} {Q : VK} (his : ∀ i ∈ is, i ∈ vs) (h : RE T X.K W (vLc it g t e vs rc) σ H Q) :
    tLc (RI T X.K W (it rc)) (RGt T X.K W0 is (g rc)) (RT T X.K W0 (t rc)) (RE T X.K W0 (e rc)) vs σ H Q := by
  obtain ⟨ρ, env, h0, R, Er, q⟩ := RG.bind (rep := JOk T X.K) (k := fun env aj h1 => match lcF aj (g rc) (t rc) (e rc) (wipeE env vs) h1.length rc.n 0 (h1 ++ [.lst []]) with | some h2 => .ok (D.obj h1.length) h2 | none => .bad) h
  refine ⟨ρ, env, h0, R, Er, q.imp fun J H1 => ?_⟩
  rintro ⟨ρ1, env1, h1, aj, R1, E1, jo, q1⟩ p hp
  cases e0 : lcF aj (g rc) (t rc) (e rc) (wipeE env1 vs) h1.length rc.n 0 (h1 ++ [.lst []]) with
  | none => rw [e0] at q1; exact q1.elim
  | some hE =>
    rw [e0] at q1
    obtain ⟨f0, R0, px⟩ := new_lst R1 hp .nil
    refine ⟨fun i m H' => ∃ ρ' h', Fut X.K (ρ1 ++ [p]) (upd H1 p (.lst [])) ρ' H' ∧ HRel T X.K ρ' h' H' ∧ lcF aj (g rc) (t rc) (e rc) (wipeE env1 vs) h1.length m i h' = some hE, ⟨rc.n, _, _, Fut.refl, R0, e0⟩, ?_⟩
    rintro i m H' ⟨ρ', h', f, R', el⟩
    have fa := f0.trans R1.own f
    cases m with
    | zero => unfold lcF at el; cases el
    | succ m =>
      have j := jo ρ' h' H' i fa R'
      unfold lcF at el
      cases e1 : aj i h' with
      | none => rw [e1] at el; cases el
      | some o =>
        rw [e1] at el j
        cases o with
        | none =>
          cases el
          exact .inl ⟨j, q1.now fa R' (.obj (f.pre _ _ px))⟩
        | some x =>
          simp only at el j
          obtain ⟨jg, jy⟩ := j
          refine .inr ⟨jg, _, fun H2 z => ⟨m, Nat.lt_succ_self m, z⟩, fun v H2 y => ?_⟩
          obtain ⟨f2, R2, rx⟩ := jy v H2 y
          refine ⟨ρ', wipeE env1 vs, h', x, R2, (((E1.fut fa).wipe vs).fut f2), rx, ?_⟩
          cases e2 : g rc x (wipeE env1 vs) h' with
          | nx e3 h3 =>
            rw [e2] at el
            refine fun ρ3 σ3 H3 f3 R3 E3 on => ⟨?_, ρ3, e3, h3, R3, E3, ?_⟩
            · have := on vs his
              rw [this]
              have idem : ∀ (us : List Nat) (τ : L2.St), wipe (wipe τ us) us = wipe τ us := by
                intro us
                induction us with
                | nil => intro τ; rfl
                | cons u us ih =>
                  intro τ
                  show (wipe ((wipe τ us).set u none) us).set u none = _
                  rw [wipe_set1, ih]
                  rfl
              exact idem vs σ
            · simp only at el
              cases e4 : t rc e3 h3 with
              | ok b h4 =>
                rw [e4] at el
                intro ρ4 H4 b' f4 R4 rb
                have eb : b = b' := rb
                subst eb
                have back : ∀ {ρ5 H5}, Fut X.K ρ4 H4 ρ5 H5 → Fut X.K (ρ1 ++ [p]) (upd H1 p (.lst [])) ρ5 H5 := fun f5 => f.trans R0.own (f2.trans R'.own (f3.trans R2.own (f4.trans R3.own f5)))
                cases b with
                | false =>
                  simp only at el
                  exact ⟨ρ4, h4, back Fut.refl, R4, el⟩
                | true =>
                  simp only [if_true] at el ⊢
                  refine ⟨ρ4, e3, h4, R4, E3.fut f4, ?_⟩
                  cases e5 : e rc e3 h4 with
                  | ok y h5 =>
                    rw [e5] at el
                    intro ρ5 H5 w f5 R5 ry
                    simp only at el
                    cases e6 : grow h1.length y h5 with
                    | none => rw [e6] at el; cases el
                    | some h6 =>
                      rw [e6] at el
                      obtain ⟨acc, hacc, hl, f6, R6⟩ := grow_ok R5 ((back f5).pre _ _ px) ry e6
                      exact ⟨acc, hacc, hl, ρ5, h6, back (f5.trans R4.own f6), R6, el⟩
                  | exc _ _ _ => rw [e5] at el; cases el
                  | bad => rw [e5] at el; cases el
              | exc _ _ _ => rw [e4] at el; cases el
              | bad => rw [e4] at el; cases el
          | exc c v h3 => rw [e2] at el; cases el
          | rt _ _ => rw [e2] at el; cases el
          | bk _ _ => rw [e2] at el; cases el
          | ct _ _ => rw [e2] at el; cases el
          | bad => rw [e2] at el; cases el
end
end DC
/-! Dc9: comprehensions' blocks; two clauses. -/
namespace DC
open PySem PySem.Spec PyProof.Rows L2
/-- what a block's scope is known by -/
def blk (c : Cc) (scope : Scope) : Cc := ⟨c.N, scope.names, false, false⟩
structure BlkB (c : Cc) (scope : Scope) (own : List (Str × Nat)) : Prop where
  kind : scope.kind = .function
  uniq : ∀ y ∈ scope.names, scope.names.lookup y.1 = some y.2
  ix : ∀ p ∈ own, c.N[p.2]? = some p.1
  free : ∀ y ∈ scope.names, y.2 = .free → c.sc.lookup y.1 = some .cell ∨ c.sc.lookup y.1 = some .free
  own : ∀ y ∈ scope.names, y.2 = .local ∨ y.2 = .cell → y.1 ∈ own.map (·.1) ∨ y.1 ∉ c.N
def blkB (c : Cc) (scope : Scope) (own : List (Str × Nat)) : Bool :=
  (match scope.kind with | .function => true | _ => false) && (scope.names.all fun y => decide (scope.names.lookup y.1 = some y.2)) && (own.all fun p => decide (c.N[p.2]? = some p.1)) &&
    (scope.names.all fun y => match y.2 with
      | .free => (match c.sc.lookup y.1 with | some .cell => true | some .free => true | _ => false)
      | .local => decide (y.1 ∈ own.map (·.1)) || decide (y.1 ∉ c.N)
      | .cell => decide (y.1 ∈ own.map (·.1)) || decide (y.1 ∉ c.N)
      | _ => true)
theorem blkB_by {c : Cc} {scope : Scope} {own : List (Str × Nat)} (h : blkB c scope own = true) : BlkB c scope own := by
  unfold blkB at h
  simp only [Bool.and_eq_true, List.all_eq_true, decide_eq_true_eq] at h
  obtain ⟨⟨⟨h1, h2⟩, h3⟩, h4⟩ := h
  refine ⟨?_, h2, h3, fun y hy e => ?_, fun y hy e => ?_⟩
  · split at h1
    · assumption
    · cases h1
  · have q := h4 y hy
    simp only [e] at q
    split at q <;> first | exact .inl (by assumption) | exact .inr (by assumption) | cases q
  · have q := h4 y hy
    rcases e with e | e <;> (simp only [e, Bool.or_eq_true, decide_eq_true_eq] at q; exact q)
section
variable {G : Gx} {T : Tb} {c : Cc} {X : Cx} {k : Nat} {rc : Rc} {W : WX}
theorem BlkB.ok (ok : Ok G T c X k rc W) {scope : Scope} {own : List (Str × Nat)} (b : BlkB c scope own) : BlkOk X.N X.env.scope scope own := by
  refine ⟨b.kind, b.uniq, by rw [ok.N]; exact b.ix, fun y hy e => ?_, by rw [ok.N]; exact b.own⟩
  rcases b.free y hy e with h | h
  · exact .inl (ok.cel _ h).1
  · exact ok.fre _ h
theorem Ok.blk (ok : Ok G T c X k rc W) {scope : Scope} {own : List (Str × Nat)} (b : BlkB c scope own) (s : Shared) (H : Hp) (C : Addr) (cl : List (Str × Addr)) (fp : List Addr) :
    Ok G T (DC.blk c scope) (X.blk s H scope (compEnvC scope cl C X.env) fp) k rc W0 := by
  have keep : ∀ (x : Str) (kd : NameKind), kd ≠ .free → scope.names.lookup x = some kd → (compEnvC scope cl C X.env).scope.names.lookup x = some kd := fun x kd h e => lookup_relS_keep h e
  have fre : ∀ x, scope.names.lookup x = some .free → (compEnvC scope cl C X.env).scope.names.lookup x = some .cell ∨ (compEnvC scope cl C X.env).scope.names.lookup x = some .free := fun x e => by
    have go : ∀ (l : List (Str × NameKind)), l.lookup x = some .free → (l.map fun (n, k) => if (k == NameKind.free && X.env.scope.kind == .function && X.env.scope.names.lookup n == some .cell) then (n, NameKind.cell) else (n, k)).lookup x = some .cell ∨ (l.map fun (n, k) => if (k == NameKind.free && X.env.scope.kind == .function && X.env.scope.names.lookup n == some .cell) then (n, NameKind.cell) else (n, k)).lookup x = some .free := by
      intro l
      induction l with
      | nil => intro h; cases h
      | cons p r ih =>
        obtain ⟨n, kd⟩ := p
        intro h
        have sh : ∀ o, (List.lookup x ((if (kd == NameKind.free && X.env.scope.kind == .function && X.env.scope.names.lookup n == some .cell) = true then (n, NameKind.cell) else (n, kd)) :: (r.map fun (n, k) => if (k == NameKind.free && X.env.scope.kind == .function && X.env.scope.names.lookup n == some .cell) then (n, NameKind.cell) else (n, k))) = o) = (List.lookup x (((n, kd) :: r).map fun (n, k) => if (k == NameKind.free && X.env.scope.kind == .function && X.env.scope.names.lookup n == some .cell) then (n, NameKind.cell) else (n, k)) = o) := fun o => rfl
        rw [← sh, ← sh]
        cases hx : x == n with
        | true =>
          simp only [List.lookup_cons, hx] at h
          cases h
          by_cases hc : (NameKind.free == NameKind.free && X.env.scope.kind == .function && X.env.scope.names.lookup n == some .cell) = true
          · rw [if_pos hc]; exact .inl (by simp only [List.lookup_cons, hx])
          · rw [if_neg hc]; exact .inr (by simp only [List.lookup_cons, hx])
        | false =>
          simp only [List.lookup_cons, hx] at h
          have := ih h
          by_cases hc : (kd == NameKind.free && X.env.scope.kind == .function && X.env.scope.names.lookup n == some .cell) = true
          · rw [if_pos hc]; simp only [List.lookup_cons, hx]; exact this
          · rw [if_neg hc]; simp only [List.lookup_cons, hx]; exact this
    exact go scope.names e
  refine ⟨ok.calm, ok.room, ok.gu, fun u s' xx => ?_, fun z => (by cases z), fun z => (by cases z), fre, ok.N, ok.nd, fun x e => keep x _ (by decide) e, fun x kd e h => ?_, fun x e => ⟨keep x _ (by decide) e, ?_⟩, fun x e => ?_, ok.gok, (fun z => by cases z), ok.rk, fun z => (by cases z)⟩
  · obtain ⟨_, _, _, _, _, _, _, _, _, _, _, _, _, _, _, _, w⟩ := xx
    exact w
  · rcases h with h | h | h
    · subst h; exact .inl (keep x _ (by decide) e)
    · subst h; exact .inr (.inl (keep x _ (by decide) e))
    · subst h; exact .inr (fre x e)
  · show (scope.names.lookup x == some .cell) = true
    have : scope.names.lookup x = some .cell := e
    rw [this]; rfl
  · exact keep x .globalImplicit (by decide) e
/-- one clause -/
theorem se_lc (ok : Ok G T c X k rc W) {elt tg iter : Expr} {ifs : List Expr} {scope : Scope} {own : List (Str × Nat)} {pos : Pos} {it : Iv} {is : List Nat} {g : Gv} {t : Tv} {e : Ev} (b : BlkB c scope own) (his : ∀ i ∈ is, i ∈ own.map (·.2))
    (hi : PI X tg iter (RI T X.K W (it rc))) (hg : ∀ (Y : Cx), Ok G T (blk c scope) Y k rc W0 → Y.K = X.K → PG Y tg (RGt T Y.K W0 is (g rc))) (ht : ∀ (Y : Cx), Ok G T (blk c scope) Y k rc W0 → Y.K = X.K → PTs Y ifs (RT T Y.K W0 (t rc)))
    (he : ∀ (Y : Cx), Ok G T (blk c scope) Y k rc W0 → Y.K = X.K → PE Y elt (RE T Y.K W0 (e rc))) (hs : ∀ x, foldedSetIterable iter X.env x = pure x) : PE X (.ListComp elt [⟨tg, iter, ifs, 0⟩] scope pos) (RE T X.K W (vLc it g t e (own.map (·.2)) rc)) := by
  refine ⟨fun pins s σ H Q I h => (pe_lc (te := RE T X.K W0 (e rc)) (tt := RT T X.K W0 (t rc)) (g := RGt T X.K W0 is (g rc)) ok.calm ok.xnd hi (b.ok ok) (fun s H C cl fp => hg _ (ok.blk b s H C cl fp) rfl) (fun s H C cl fp => ht _ (ok.blk b s H C cl fp) rfl) (fun s H C cl fp => he _ (ok.blk b s H C cl fp) rfl) hs).run pins s σ H Q I ?_⟩
  exact lc_go his h
theorem ss_setLc (ok : Ok G T c X k rc W) {i : Nat} {y : Str} {py spos : Pos} {elt tg iter : Expr} {ifs : List Expr} {scope : Scope} {own : List (Str × Nat)} {pos : Pos} {it : Iv} {is : List Nat} {g : Gv} {t : Tv} {e : Ev} (b : BlkB c scope own) (his : ∀ i ∈ is, i ∈ own.map (·.2))
    (sy : Sto c i y) (ly : c.sc.lookup y = some .local) (hsw : swapsWith (.ListComp elt [⟨tg, iter, ifs, 0⟩] scope pos) (some (.Name y py)) spos.line X.env = pure true)
    (hi : PI X tg iter (RI T X.K W (it rc))) (hg : ∀ (Y : Cx), Ok G T (blk c scope) Y k rc W0 → Y.K = X.K → PG Y tg (RGt T Y.K W0 is (g rc))) (ht : ∀ (Y : Cx), Ok G T (blk c scope) Y k rc W0 → Y.K = X.K → PTs Y ifs (RT T Y.K W0 (t rc)))
    (he : ∀ (Y : Cx), Ok G T (blk c scope) Y k rc W0 → Y.K = X.K → PE Y elt (RE T Y.K W0 (e rc))) (hs : ∀ x, foldedSetIterable iter X.env x = pure x) : PS X (.Assign [.Name y py] (.ListComp elt [⟨tg, iter, ifs, 0⟩] scope pos) spos) (RS T X.K W (sAsg (vLc it g t e (own.map (·.2))) (gNm i) rc)) := by
  obtain ⟨h1, _⟩ := sy.loc ok
  refine ⟨fun pins s σ H E I h => (ps_setLc (te := RE T X.K W0 (e rc)) (tt := RT T X.K W0 (t rc)) (g := RGt T X.K W0 is (g rc)) (i := i) ok.calm ok.xnd h1 (ok.loc y ly) hsw hi (b.ok ok) (fun s H C cl fp => hg _ (ok.blk b s H C cl fp) rfl) (fun s H C cl fp => ht _ (ok.blk b s H C cl fp) rfl) (fun s H C cl fp => he _ (ok.blk b s H C cl fp) rfl) hs).run pins s σ H E I ?_⟩
  obtain ⟨ρ, env, h0, R, Er, q⟩ := RS.bind (rep := Rep T X.K) (k := fun env d h1 => gNm i rc d env h1) h
  refine lc_go (W := W) his ⟨ρ, env, h0, R, Er, q.imp fun x H1 => ?_⟩
  rintro ⟨ρ1, env1, h1, d, R1, E1, r1, q1⟩
  exact RS.nxt q1 Fut.refl R1 (E1.set r1)
end

/-! ### two clauses -/
def lcF1 (aj : AJ) (g : D → En → AH → SOut) (t : En → AH → Out Bool) (e : En → AH → Out D) (env : En) (m : Nat) : Nat → Nat → AH → Option AH := lcF aj g t e env m
def lc2F (n1 : Nat) (aj : AJ) (g : D → En → AH → SOut) (t : En → AH → Out Bool) (it : En → AH → Out AJ) (g1 : D → En → AH → SOut) (t1 : En → AH → Out Bool) (e : En → AH → Out D) (vs1 : List Nat) (env : En) (m : Nat) : Nat → Nat → AH → Option AH
  | 0, _, _ => none
  | n + 1, i, h => match aj i h with
    | none => none
    | some none => some h
    | some (some x) => (match g x env h with
      | .nx e1 h1 => (match t e1 h1 with
        | .ok true h2 => (match it e1 h2 with
          | .ok aj1 h3 => (match lcF aj1 g1 t1 e (wipeE e1 vs1) m n1 0 h3 with
            | some h4 => lc2F n1 aj g t it g1 t1 e vs1 env m n (i + 1) h4
            | none => none)
          | _ => none)
        | .ok false h2 => lc2F n1 aj g t it g1 t1 e vs1 env m n (i + 1) h2
        | _ => none)
      | _ => none)
def vLc2 (it : Iv) (g : Gv) (t : Tv) (it1 : Iv) (g1 : Gv) (t1 : Tv) (e : Ev) (vs vs1 : List Nat) : Ev := fun rc env h => (it rc env h).bind fun aj h1 => match lc2F rc.n aj (g rc) (t rc) (it1 rc) (g1 rc) (t1 rc) (e rc) vs1 (wipeE env vs) h1.length rc.n 0 (h1 ++ [.lst []]) with
  | some h2 => .ok (.obj h1.length) h2
  | none => .bad
theorem wipe_idem : ∀ (us : List Nat) (τ : L2.St), wipe (wipe τ us) us = wipe τ us
  | [], _ => rfl
  | u :: us, τ => by
    show (wipe ((wipe τ us).set u none) us).set u none = _
    rw [wipe_set1, wipe_idem us]
    rfl
section
variable {G : Gx} {T : Tb} {c : Cc} {X : Cx} {k : Nat} {rc : Rc} {W : WX}
theorem lc2_go {it it1 : Iv} {is is1 : List Nat} {g g1 : Gv} {t t1 : Tv} {e : Ev} {vs vs1 : List Nat} {σ : L2.St} {H : Hp} {Q : VK} (his : ∀ i ∈ is, i ∈ vs) (his1 : ∀ i ∈ is1, i ∈ vs1) (h : RE T X.K W (vLc2 it g t it1 g1 t1 e vs vs1 rc) σ H Q) :
    tLc2 (RI T X.K W (it rc)) (RGt T X.K W0 is (g rc)) (RT T X.K W0 (t rc)) (RI T X.K W0 (it1 rc)) (RGt T X.K W0 is1 (g1 rc)) (RT T X.K W0 (t1 rc)) (RE T X.K W0 (e rc)) vs vs1 σ H Q := by
  obtain ⟨ρ, env, h0, R, Er, q⟩ := RG.bind (rep := JOk T X.K) (k := fun env aj h1 => match lc2F rc.n aj (g rc) (t rc) (it1 rc) (g1 rc) (t1 rc) (e rc) vs1 (wipeE env vs) h1.length rc.n 0 (h1 ++ [.lst []]) with | some h2 => .ok (D.obj h1.length) h2 | none => .bad) h
  refine ⟨ρ, env, h0, R, Er, q.imp fun J H1 => ?_⟩
  rintro ⟨ρ1, env1, h1, aj, R1, E1, jo, q1⟩ p hp
  cases e0 : lc2F rc.n aj (g rc) (t rc) (it1 rc) (g1 rc) (t1 rc) (e rc) vs1 (wipeE env1 vs) h1.length rc.n 0 (h1 ++ [.lst []]) with
  | none => rw [e0] at q1; exact q1.elim
  | some hE =>
    rw [e0] at q1
    obtain ⟨f0, R0, px⟩ := new_lst R1 hp .nil
    refine ⟨fun i m H' => ∃ ρ' h', Fut X.K (ρ1 ++ [p]) (upd H1 p (.lst [])) ρ' H' ∧ HRel T X.K ρ' h' H' ∧ lc2F rc.n aj (g rc) (t rc) (it1 rc) (g1 rc) (t1 rc) (e rc) vs1 (wipeE env1 vs) h1.length m i h' = some hE, ⟨rc.n, _, _, Fut.refl, R0, e0⟩, ?_⟩
    rintro i m H' ⟨ρ', h', f, R', el⟩
    have fa := f0.trans R1.own f
    cases m with
    | zero => unfold lc2F at el; cases el
    | succ m =>
      have j := jo ρ' h' H' i fa R'
      unfold lc2F at el
      cases e1 : aj i h' with
      | none => rw [e1] at el; cases el
      | some o =>
        rw [e1] at el j
        cases o with
        | none =>
          cases el
          exact .inl ⟨j, q1.now fa R' (.obj (f.pre _ _ px))⟩
        | some x =>
          simp only at el j
          obtain ⟨jg, jy⟩ := j
          refine .inr ⟨jg, _, fun H2 z => ⟨m, Nat.lt_succ_self m, z⟩, fun v H2 y => ?_⟩
          obtain ⟨f2, R2, rx⟩ := jy v H2 y
          refine ⟨ρ', wipeE env1 vs, h', x, R2, (((E1.fut fa).wipe vs).fut f2), rx, ?_⟩
          cases e2 : g rc x (wipeE env1 vs) h' with
          | nx e3 h3 =>
            rw [e2] at el
            refine fun ρ3 σ3 H3 f3 R3 E3 on => ⟨by rw [on vs his]; exact wipe_idem vs σ, ρ3, e3, h3, R3, E3, ?_⟩
            simp only at el
            cases e4 : t rc e3 h3 with
            | ok b h4 =>
              rw [e4] at el
              intro ρ4 H4 b' f4 R4 rb
              have eb : b = b' := rb
              subst eb
              have back : ∀ {ρ5 H5}, Fut X.K ρ4 H4 ρ5 H5 → Fut X.K (ρ1 ++ [p]) (upd H1 p (.lst [])) ρ5 H5 := fun f5 => f.trans R0.own (f2.trans R'.own (f3.trans R2.own (f4.trans R3.own f5)))
              cases b with
              | false =>
                simp only at el
                exact ⟨ρ4, h4, back Fut.refl, R4, el⟩
              | true =>
                simp only [if_true] at el ⊢
                refine ⟨ρ4, e3, h4, R4, E3.fut f4, ?_⟩
                cases e5 : it1 rc e3 h4 with
                | ok aj1 h5 =>
                  rw [e5] at el
                  intro ρ5 H5 J1 f5 R5 jo1
                  simp only at el
                  cases e6 : lcF aj1 (g1 rc) (t1 rc) (e rc) (wipeE e3 vs1) h1.length rc.n 0 h5 with
                  | none => rw [e6] at el; cases el
                  | some h6 =>
                    rw [e6] at el
                    simp only at el
                    refine ⟨fun j n H6 => ∃ ρ6 h7, Fut X.K ρ5 H5 ρ6 H6 ∧ HRel T X.K ρ6 h7 H6 ∧ lcF aj1 (g1 rc) (t1 rc) (e rc) (wipeE e3 vs1) h1.length n j h7 = some h6, ⟨rc.n, _, _, Fut.refl, R5, e6⟩, ?_⟩
                    rintro j n H6 ⟨ρ6, h7, f6, R6, el1⟩
                    cases n with
                    | zero => unfold lcF at el1; cases el1
                    | succ n =>
                      have j1 := jo1 ρ6 h7 H6 j f6 R6
                      unfold lcF at el1
                      cases e7 : aj1 j h7 with
                      | none => rw [e7] at el1; cases el1
                      | some o1 =>
                        rw [e7] at el1 j1
                        cases o1 with
                        | none =>
                          cases el1
                          exact .inl ⟨j1, ρ6, _, back (f5.trans R4.own f6), R6, el⟩
                        | some x1 =>
                          simp only at el1 j1
                          obtain ⟨jg1, jy1⟩ := j1
                          refine .inr ⟨jg1, _, fun H8 z => ⟨n, Nat.lt_succ_self n, z⟩, fun v8 H8 y8 => ?_⟩
                          obtain ⟨f8, R8, rx8⟩ := jy1 v8 H8 y8
                          refine ⟨ρ6, wipeE e3 vs1, h7, x1, R8, ((((E3.fut f4).fut (f5.trans R4.own f6)).wipe vs1).fut f8), rx8, ?_⟩
                          cases e8 : g1 rc x1 (wipeE e3 vs1) h7 with
                          | nx e9 h9 =>
                            rw [e8] at el1
                            refine fun ρ9 σ9 H9 f9 R9 E9 on9 => ⟨by rw [on9 vs1 his1]; exact wipe_idem vs1 σ3, ρ9, e9, h9, R9, E9, ?_⟩
                            simp only at el1
                            cases e10 : t1 rc e9 h9 with
                            | ok b2 h10 =>
                              rw [e10] at el1
                              intro ρ10 H10 b2' f10 R10 rb2
                              have eb2 : b2 = b2' := rb2
                              subst eb2
                              have back2 : ∀ {ρ11 H11}, Fut X.K ρ10 H10 ρ11 H11 → Fut X.K ρ5 H5 ρ11 H11 := fun f11 => f6.trans R5.own (f8.trans R6.own (f9.trans R8.own (f10.trans R9.own f11)))
                              cases b2 with
                              | false =>
                                simp only at el1
                                exact ⟨ρ10, h10, back2 Fut.refl, R10, el1⟩
                              | true =>
                                simp only [if_true] at el1 ⊢
                                refine ⟨ρ10, e9, h10, R10, E9.fut f10, ?_⟩
                                cases e11 : e rc e9 h10 with
                                | ok y h11 =>
                                  rw [e11] at el1
                                  intro ρ11 H11 w f11 R11 ry
                                  simp only at el1
                                  cases e12 : grow h1.length y h11 with
                                  | none => rw [e12] at el1; cases el1
                                  | some h12 =>
                                    rw [e12] at el1
                                    obtain ⟨acc, hacc, hl, f12, R12⟩ := grow_ok R11 ((back (f5.trans R4.own (back2 f11))).pre _ _ px) ry e12
                                    exact ⟨acc, hacc, hl, ρ11, h12, back2 (f11.trans R10.own f12), R12, el1⟩
                                | exc _ _ _ => rw [e11] at el1; cases el1
                                | bad => rw [e11] at el1; cases el1
                            | exc _ _ _ => rw [e10] at el1; cases el1
                            | bad => rw [e10] at el1; cases el1
                          | exc c v h3 => rw [e8] at el1; cases el1
                          | rt _ _ => rw [e8] at el1; cases el1
                          | bk _ _ => rw [e8] at el1; cases el1
                          | ct _ _ => rw [e8] at el1; cases el1
                          | bad => rw [e8] at el1; cases el1
                | exc _ _ _ => rw [e5] at el; cases el
                | bad => rw [e5] at el; cases el
            | exc _ _ _ => rw [e4] at el; cases el
            | bad => rw [e4] at el; cases el
          | exc c v h3 => rw [e2] at el; cases el
          | rt _ _ => rw [e2] at el; cases el
          | bk _ _ => rw [e2] at el; cases el
          | ct _ _ => rw [e2] at el; cases el
          | bad => rw [e2] at el; cases el
theorem se_lc2 (ok : Ok G T c X k rc W) {elt tg iter tg1 iter1 : Expr} {ifs ifs1 : List Expr} {scope : Scope} {own : List (Str × Nat)} {pos : Pos} {it it1 : Iv} {is is1 : List Nat} {g g1 : Gv} {t t1 : Tv} {e : Ev} (b : BlkB c scope own) (his : ∀ i ∈ is, i ∈ own.map (·.2)) (hv : ∀ i ∈ is1, i ∈ own.map (·.2))
    (hi : PI X tg iter (RI T X.K W (it rc))) (hg : ∀ (Y : Cx), Ok G T (blk c scope) Y k rc W0 → Y.K = X.K → PG Y tg (RGt T Y.K W0 is (g rc))) (ht : ∀ (Y : Cx), Ok G T (blk c scope) Y k rc W0 → Y.K = X.K → PTs Y ifs (RT T Y.K W0 (t rc)))
    (hi1 : ∀ (Y : Cx), Ok G T (blk c scope) Y k rc W0 → Y.K = X.K → PI Y tg1 iter1 (RI T Y.K W0 (it1 rc))) (hg1 : ∀ (Y : Cx), Ok G T (blk c scope) Y k rc W0 → Y.K = X.K → PG Y tg1 (RGt T Y.K W0 is1 (g1 rc))) (ht1 : ∀ (Y : Cx), Ok G T (blk c scope) Y k rc W0 → Y.K = X.K → PTs Y ifs1 (RT T Y.K W0 (t1 rc)))
    (he : ∀ (Y : Cx), Ok G T (blk c scope) Y k rc W0 → Y.K = X.K → PE Y elt (RE T Y.K W0 (e rc))) (hs : ∀ x, foldedSetIterable iter X.env x = pure x) (hs1 : ∀ env x, foldedSetIterable iter1 env x = pure x) :
    PE X (.ListComp elt [⟨tg, iter, ifs, 0⟩, ⟨tg1, iter1, ifs1, 0⟩] scope pos) (RE T X.K W (vLc2 it g t it1 g1 t1 e (own.map (·.2)) is1 rc)) := by
  refine ⟨fun pins s σ H Q I h => (pe_lc2 (te := RE T X.K W0 (e rc)) (tt := RT T X.K W0 (t rc)) (tt1 := RT T X.K W0 (t1 rc)) (g := RGt T X.K W0 is (g rc)) (g1 := RGt T X.K W0 is1 (g1 rc)) (wi1 := RI T X.K W0 (it1 rc)) ok.calm ok.xnd hi (b.ok ok) hv (fun s H C cl fp => hg _ (ok.blk b s H C cl fp) rfl) (fun s H C cl fp => ht _ (ok.blk b s H C cl fp) rfl) (fun s H C cl fp => hi1 _ (ok.blk b s H C cl fp) rfl) (fun s H C cl fp => hg1 _ (ok.blk b s H C cl fp) rfl) (fun s H C cl fp => ht1 _ (ok.blk b s H C cl fp) rfl) (fun s H C cl fp => he _ (ok.blk b s H C cl fp) rfl) hs hs1).run pins s σ H Q I ?_⟩
  exact lc2_go his (fun _ z => z) h
theorem ss_setLc2 (ok : Ok G T c X k rc W) {i : Nat} {y : Str} {py spos : Pos} {elt tg iter tg1 iter1 : Expr} {ifs ifs1 : List Expr} {scope : Scope} {own : List (Str × Nat)} {pos : Pos} {it it1 : Iv} {is is1 : List Nat} {g g1 : Gv} {t t1 : Tv} {e : Ev} (b : BlkB c scope own) (his : ∀ i ∈ is, i ∈ own.map (·.2)) (hv : ∀ i ∈ is1, i ∈ own.map (·.2))
    (sy : Sto c i y) (ly : c.sc.lookup y = some .local) (hsw : swapsWith (.ListComp elt [⟨tg, iter, ifs, 0⟩, ⟨tg1, iter1, ifs1, 0⟩] scope pos) (some (.Name y py)) spos.line X.env = pure true)
    (hi : PI X tg iter (RI T X.K W (it rc))) (hg : ∀ (Y : Cx), Ok G T (blk c scope) Y k rc W0 → Y.K = X.K → PG Y tg (RGt T Y.K W0 is (g rc))) (ht : ∀ (Y : Cx), Ok G T (blk c scope) Y k rc W0 → Y.K = X.K → PTs Y ifs (RT T Y.K W0 (t rc)))
    (hi1 : ∀ (Y : Cx), Ok G T (blk c scope) Y k rc W0 → Y.K = X.K → PI Y tg1 iter1 (RI T Y.K W0 (it1 rc))) (hg1 : ∀ (Y : Cx), Ok G T (blk c scope) Y k rc W0 → Y.K = X.K → PG Y tg1 (RGt T Y.K W0 is1 (g1 rc))) (ht1 : ∀ (Y : Cx), Ok G T (blk c scope) Y k rc W0 → Y.K = X.K → PTs Y ifs1 (RT T Y.K W0 (t1 rc)))
    (he : ∀ (Y : Cx), Ok G T (blk c scope) Y k rc W0 → Y.K = X.K → PE Y elt (RE T Y.K W0 (e rc))) (hs : ∀ x, foldedSetIterable iter X.env x = pure x) (hs1 : ∀ env x, foldedSetIterable iter1 env x = pure x) :
    PS X (.Assign [.Name y py] (.ListComp elt [⟨tg, iter, ifs, 0⟩, ⟨tg1, iter1, ifs1, 0⟩] scope pos) spos) (RS T X.K W (sAsg (vLc2 it g t it1 g1 t1 e (own.map (·.2)) is1) (gNm i) rc)) := by
  obtain ⟨h1, _⟩ := sy.loc ok
  refine ⟨fun pins s σ H E I h => (ps_setLc2 (te := RE T X.K W0 (e rc)) (tt := RT T X.K W0 (t rc)) (tt1 := RT T X.K W0 (t1 rc)) (g := RGt T X.K W0 is (g rc)) (g1 := RGt T X.K W0 is1 (g1 rc)) (wi1 := RI T X.K W0 (it1 rc)) (i := i) ok.calm ok.xnd h1 (ok.loc y ly) hsw hi (b.ok ok) hv (fun s H C cl fp => hg _ (ok.blk b s H C cl fp) rfl) (fun s H C cl fp => ht _ (ok.blk b s H C cl fp) rfl) (fun s H C cl fp => hi1 _ (ok.blk b s H C cl fp) rfl) (fun s H C cl fp => hg1 _ (ok.blk b s H C cl fp) rfl) (fun s H C cl fp => ht1 _ (ok.blk b s H C cl fp) rfl) (fun s H C cl fp => he _ (ok.blk b s H C cl fp) rfl) hs hs1).run pins s σ H E I ?_⟩
  obtain ⟨ρ, env, h0, R, Er, q⟩ := RS.bind (rep := Rep T X.K) (k := fun env d h1 => gNm i rc d env h1) h
  refine lc2_go (W := W) his (fun _ z => z) ⟨ρ, env, h0, R, Er, q.imp fun x H1 => ?_⟩
  rintro ⟨ρ1, env1, h1, d, R1, E1, r1, q1⟩
  exact RS.nxt q1 Fut.refl R1 (E1.set r1)
end
end DC
/-! Dc10: calls of what is built in. -/
namespace DC
open PySem PySem.Spec PyProof.Rows L2
/-- what a built-in function makes of contents -/
abbrev Bo := List D → AH → Option (D × AH)
def rB (T : Tb) (K : PySem.W.Frag) (g : Bo) : List V → Hp → VK → Prop := fun vs H Q => ∃ ρ h ds d h2, HRel T K ρ h H ∧ Reps T K ρ H ds vs ∧ g ds h = some (d, h2) ∧ ∀ ρ' H' v, Fut K ρ H ρ' H' → HRel T K ρ' h2 H' → Rep T K ρ' H' d v → Q v H'
def vCall (g : Bo) (a : Av) : Ev := fun rc env h => (a rc env h).bind fun ds h1 => match g ds h1 with
  | some (d, h2) => .ok d h2
  | none => .bad
def orB (f g : Bo) : Bo := fun ds h => match f ds h with
  | some r => some r
  | none => g ds h
abbrev Blt (T : Tb) (X : Cx) (f : Value) (g : Bo) : Prop := CallR X f (rB T X.K g)
section
variable {G : Gx} {T : Tb} {c : Cc} {X : Cx} {k : Nat} {rc : Rc} {W : WX}
theorem Blt.orB {f : Value} {g g' : Bo} (a : Blt T X f g) (b : Blt T X f g') : Blt T X f (orB g g') := by
  intro pins s σ H xs us Q I r h
  obtain ⟨ρ, h0, ds, d, h2, R, rs, e, q⟩ := h
  unfold DC.orB at e
  cases e1 : g ds h0 with
  | some y => rw [e1] at e; exact a pins s σ H xs us Q I r ⟨ρ, h0, ds, d, h2, R, rs, by rw [e1]; exact e, q⟩
  | none => rw [e1] at e; exact b pins s σ H xs us Q I r ⟨ρ, h0, ds, d, h2, R, rs, e, q⟩
theorem call_go {g : Bo} {a : Av} {σ : L2.St} {H : Hp} {Q : VK} (h : RE T X.K W (vCall g a rc) σ H Q) : RA T X.K W (a rc) σ H fun vs H1 => rB T X.K g vs H1 Q := by
  obtain ⟨ρ, env, h0, R, E, q⟩ := RG.bind (rep := Reps T X.K) (k := fun _ ds h1 => match g ds h1 with | some (d, h2) => .ok d h2 | none => .bad) h
  refine ⟨ρ, env, h0, R, E, q.imp fun x H1 => ?_⟩
  rintro ⟨ρ1, env1, h1, ds, R1, E1, r1, q1⟩
  cases e1 : g ds h1 with
  | none => rw [e1] at q1; exact q1.elim
  | some y =>
    rw [e1] at q1
    exact ⟨ρ1, h1, ds, y.1, y.2, R1, r1, e1, fun ρ' H' v f R' r => q1.now f R' r⟩
theorem se_callB {g : Bo} {id : String} {x : Str} {p pos : Pos} {e : Expr} {es : List Expr} {a : Av} (hc : Blt T X (.builtin id) g) (hg : Gl X x) (hm : X.mg x = none) (hv : bootBuiltins x = some (.builtin id)) (ha : PA X (e :: es) (RA T X.K W (a rc))) (hn : x ≠ "__name__") (hdb : (x == ("__debug__" : Str)) = false)
    (he : starEach (e :: es) X.env = (false, eval e X.env) :: starEach es X.env) (hpl : (backTo pos (starEach es X.env)).any (·.1) = false) : PE X (.Call (.Name x p) (e :: es) [] pos) (RE T X.K W (vCall g a rc)) :=
  ⟨fun pins s σ H Q I h => (pe_callB hc hg hm hv ha hn hdb he hpl).run pins s σ H Q I (call_go h)⟩
theorem se_callTy {g : Bo} {id : String} {x : Str} {p pos : Pos} {e : Expr} {es : List Expr} {a : Av} (hc : Blt T X (.type id) g) (hg : Gl X x) (hm : X.mg x = none) (hv : bootBuiltins x = some (.type id)) (ha : PA X (e :: es) (RA T X.K W (a rc))) (hn : x ≠ "__name__") (hdb : (x == ("__debug__" : Str)) = false)
    (he : starEach (e :: es) X.env = (false, eval e X.env) :: starEach es X.env) (hpl : (backTo pos (starEach es X.env)).any (·.1) = false) : PE X (.Call (.Name x p) (e :: es) [] pos) (RE T X.K W (vCall g a rc)) :=
  ⟨fun pins s σ H Q I h => (pe_callTy hc hg hm hv ha hn hdb he hpl).run pins s σ H Q I (call_go h)⟩
theorem se_callBf {g : Bo} {id : String} {x : Str} {p pos : Pos} {e : Expr} {es : List Expr} {a : Av} (hc : Blt T X (.builtin id) g) (hg : Gl X x) (hm : X.mg x = some (.builtin id)) (ha : PA X (e :: es) (RA T X.K W (a rc))) (hdb : (x == ("__debug__" : Str)) = false)
    (he : starEach (e :: es) X.env = (false, eval e X.env) :: starEach es X.env) (hpl : (backTo pos (starEach es X.env)).any (·.1) = false) : PE X (.Call (.Name x p) (e :: es) [] pos) (RE T X.K W (vCall g a rc)) :=
  ⟨fun pins s σ H Q I h => (pe_callBfun hc hg hm ha hdb he hpl).run pins s σ H Q I (call_go h)⟩
end

/-! ### one by one -/
def bGcd : Bo := fun ds h => match ds with
  | [.int a, .int b] => some (.int ((Nat.gcd a.natAbs b.natAbs : Nat) : Int), h)
  | _ => none
def bAbs : Bo := fun ds h => match ds with
  | [.int i] => some (.int (if i < 0 then -i else i), h)
  | _ => none
def bMax : Bo := fun ds h => match ds with
  | [.int i, .int j] => some (.int (if j > i then j else i), h)
  | _ => none
def bMin : Bo := fun ds h => match ds with
  | [.int i, .int j] => some (.int (if j < i then j else i), h)
  | _ => none
def bInt : Bo := fun ds h => match ds with
  | [.int i] => some (.int i, h)
  | [.bl k] => some (.int (if k then 1 else 0), h)
  | _ => none
def bBool : Bo := fun ds h => match ds with
  | [.int i] => some (.bl (i != 0), h)
  | [.bl k] => some (.bl k, h)
  | [d] => (match isTup d with
    | true => none
    | false => (match items d h with
      | some xs => some (.bl (!xs.isEmpty), h)
      | none => none))
  | _ => none
def bLen : Bo := fun ds h => match ds with
  | [.str z] => (match Nat.ble z.length 16777216 with
    | true => some (.int z.length, h)
    | false => none)
  | [d] => (match items d h with
    | some xs => some (.int xs.length, h)
    | none => none)
  | _ => none
def allBl : List D → Option (List Bool)
  | [] => some []
  | .bl b :: r => (match allBl r with
    | some bs => some (b :: bs)
    | none => none)
  | _ => none
def allInt : List D → Option (List Int)
  | [] => some []
  | .int b :: r => (match allInt r with
    | some bs => some (b :: bs)
    | none => none)
  | _ => none
def bAll : Bo := fun ds h => match ds with
  | [d] => (match isTup d with
    | true => none
    | false => (match items d h with
      | some xs => (match allBl xs with
        | some bs => some (.bl (bs.all id), h)
        | none => none)
      | none => none))
  | _ => none
def bAny : Bo := fun ds h => match ds with
  | [d] => (match isTup d with
    | true => none
    | false => (match items d h with
      | some xs => (match allBl xs with
        | some bs => some (.bl (bs.any id), h)
        | none => none)
      | none => none))
  | _ => none
def bSum : Bo := fun ds h => match ds with
  | [d] => (match isTup d with
    | true => none
    | false => (match items d h with
      | some xs => (match allInt xs with
        | some bs => some (.int bs.sum, h)
        | none => none)
      | none => none))
  | _ => none
def bList : Bo := fun ds h => match ds with
  | [d] => (match items d h with
    | some xs => some (.obj h.length, h ++ [.lst xs])
    | none => none)
  | _ => none
def bTuple : Bo := fun ds h => match ds with
  | [d] => (match items d h with
    | some xs => some (.tup xs, h)
    | none => none)
  | _ => none
section
variable {G : Gx} {T : Tb} {c : Cc} {X : Cx} {k : Nat} {rc : Rc} {W : WX}
theorem reps1 {ρ : List Addr} {H : Hp} {d : D} {vs : List V} (r : Reps T X.K ρ H [d] vs) : ∃ v, vs = [v] ∧ Rep T X.K ρ H d v := by
  cases r with
  | cons r rr => cases rr; exact ⟨_, rfl, r⟩
theorem reps2 {ρ : List Addr} {H : Hp} {d e : D} {vs : List V} (r : Reps T X.K ρ H [d, e] vs) : ∃ v u, vs = [v, u] ∧ Rep T X.K ρ H d v ∧ Rep T X.K ρ H e u := by
  cases r with
  | cons r rr => cases rr with
    | cons r2 rr => cases rr; exact ⟨_, _, rfl, r, r2⟩
theorem bls_of {ρ : List Addr} {H : Hp} : ∀ {xs : List D} {bs : List Bool} {vs : List V}, allBl xs = some bs → Reps T X.K ρ H xs vs → vs = bs.map V.bl
  | [], _, _, e, r => by cases e; cases r; rfl
  | .bl b :: xs, bs, vs, e, r => by
    unfold allBl at e
    cases r with
    | cons r rr =>
      cases r
      cases q : allBl xs with
      | none => rw [q] at e; cases e
      | some cs => rw [q] at e; cases e; rw [bls_of q rr]; rfl
  | .non :: _, _, _, e, _ => by cases e
  | .int _ :: _, _, _, e, _ => by cases e
  | .str _ :: _, _, _, e, _ => by cases e
  | .tup _ :: _, _, _, e, _ => by cases e
  | .lsq _ :: _, _, _, e, _ => by cases e
  | .obj _ :: _, _, _, e, _ => by cases e
  | .fn _ :: _, _, _, e, _ => by cases e
  | .cls _ :: _, _, _, e, _ => by cases e
theorem ints_of {ρ : List Addr} {H : Hp} : ∀ {xs : List D} {bs : List Int} {vs : List V}, allInt xs = some bs → Reps T X.K ρ H xs vs → vs = bs.map V.int
  | [], _, _, e, r => by cases e; cases r; rfl
  | .int b :: xs, bs, vs, e, r => by
    unfold allInt at e
    cases r with
    | cons r rr =>
      cases r
      cases q : allInt xs with
      | none => rw [q] at e; cases e
      | some cs => rw [q] at e; cases e; rw [ints_of q rr]; rfl
  | .non :: _, _, _, e, _ => by cases e
  | .bl _ :: _, _, _, e, _ => by cases e
  | .str _ :: _, _, _, e, _ => by cases e
  | .tup _ :: _, _, _, e, _ => by cases e
  | .lsq _ :: _, _, _, e, _ => by cases e
  | .obj _ :: _, _, _, e, _ => by cases e
  | .fn _ :: _, _, _, e, _ => by cases e
  | .cls _ :: _, _, _, e, _ => by cases e
/-- a rule of the library told by contents -/
theorem blt_by {f : Value} {g : Bo} {r : List V → Hp → VK → Prop} (hc : CallR X f r) (h : ∀ (ρ : List Addr) (h : AH) (H : Hp) (ds : List D) (vs : List V) (d : D) (h2 : AH) (Q : VK), HRel T X.K ρ h H → Reps T X.K ρ H ds vs → g ds h = some (d, h2) →
    (∀ ρ' H' v, Fut X.K ρ H ρ' H' → HRel T X.K ρ' h2 H' → Rep T X.K ρ' H' d v → Q v H') → r vs H Q) : Blt T X f g := by
  intro pins s σ H xs us Q I rv hh
  obtain ⟨ρ, h0, ds, d, h2, R, rs, e, q⟩ := hh
  exact hc pins s σ H xs us Q I rv (h ρ h0 H ds xs d h2 Q R rs e q)
theorem bl_gcd : Blt T X (.builtin "math.gcd") bGcd := blt_by cr_gcd fun ρ h H ds vs d h2 Q R rs e q => by
  unfold bGcd at e
  split at e
  · obtain ⟨v, u, rfl, r1, r2⟩ := reps2 rs
    cases r1; cases r2; cases e
    exact ⟨_, _, rfl, q ρ H _ Fut.refl R .int⟩
  · cases e
theorem bl_abs : Blt T X (.builtin "abs") bAbs := blt_by call_abs fun ρ h H ds vs d h2 Q R rs e q => by
  unfold bAbs at e
  split at e
  · obtain ⟨v, rfl, r1⟩ := reps1 rs
    cases r1; cases e
    exact ⟨_, rfl, q ρ H _ Fut.refl R .int⟩
  · cases e
theorem bl_max (hc : X.calm = true) : Blt T X (.builtin "max") bMax := blt_by (call_max2 hc) fun ρ h H ds vs d h2 Q R rs e q => by
  unfold bMax at e
  split at e
  · obtain ⟨v, u, rfl, r1, r2⟩ := reps2 rs
    cases r1; cases r2; cases e
    exact ⟨_, _, rfl, q ρ H _ Fut.refl R .int⟩
  · cases e
theorem bl_min (hc : X.calm = true) : Blt T X (.builtin "min") bMin := blt_by (call_min2 hc) fun ρ h H ds vs d h2 Q R rs e q => by
  unfold bMin at e
  split at e
  · obtain ⟨v, u, rfl, r1, r2⟩ := reps2 rs
    cases r1; cases r2; cases e
    exact ⟨_, _, rfl, q ρ H _ Fut.refl R .int⟩
  · cases e
theorem bl_int : Blt T X (.type "int") bInt := blt_by call_int1 fun ρ h H ds vs d h2 Q R rs e q => by
  unfold bInt at e
  split at e
  · obtain ⟨v, rfl, r1⟩ := reps1 rs
    cases r1; cases e
    exact .inl ⟨_, rfl, q ρ H _ Fut.refl R .int⟩
  · obtain ⟨v, rfl, r1⟩ := reps1 rs
    cases r1; cases e
    exact .inr ⟨_, rfl, q ρ H _ Fut.refl R .int⟩
  · cases e
theorem bl_bool : Blt T X (.type "bool") bBool := blt_by (call_bool1.or call_boolL) fun ρ h H ds vs d h2 Q R rs e q => by
  unfold bBool at e
  split at e
  · obtain ⟨v, rfl, r1⟩ := reps1 rs
    cases r1; cases e
    exact .inl (.inl ⟨_, rfl, q ρ H _ Fut.refl R .bl⟩)
  · obtain ⟨v, rfl, r1⟩ := reps1 rs
    cases r1; cases e
    exact .inl (.inr ⟨_, rfl, q ρ H _ Fut.refl R .bl⟩)
  · rename_i d' _ _
    obtain ⟨v, rfl, r1⟩ := reps1 rs
    cases ht : isTup d' with
    | true => rw [ht] at e; cases e
    | false =>
      rw [ht] at e
      simp only at e
      cases e1 : items d' h with
      | none => rw [e1] at e; cases e
      | some xs =>
        rw [e1] at e
        cases e
        obtain ⟨a, ys, ex, hs, sr⟩ := items_lst R r1 e1 ht
        subst ex
        have : xs.isEmpty = ys.isEmpty := by cases sr <;> rfl
        rw [this] at q
        exact .inr ⟨a, ys, rfl, hs, q ρ H _ Fut.refl R .bl⟩
  · cases e
theorem bl_len : Blt T X (.builtin "len") bLen := blt_by (call_len_str.or call_len_seq) fun ρ h H ds vs d h2 Q R rs e q => by
  unfold bLen at e
  split at e
  · obtain ⟨v, rfl, r1⟩ := reps1 rs
    cases r1
    rename_i z
    cases e1 : Nat.ble z.length 16777216 with
    | false => rw [e1] at e; cases e
    | true =>
      rw [e1] at e
      cases e
      refine .inl ⟨_, rfl, ?_, ?_⟩
      · show z.toArray.size ≤ sizeLine
        rw [List.size_toArray, sizeLine_eq]; exact Nat.le_of_ble_eq_true e1
      · have : ((⟨z.toArray⟩ : Str).length : Int) = (z.length : Int) := by show ((z.toArray.size : Nat) : Int) = _; rw [List.size_toArray]
        rw [this]
        exact q ρ H _ Fut.refl R .int
  · rename_i d' _
    obtain ⟨v, rfl, r1⟩ := reps1 rs
    cases e1 : items d' h with
    | none => rw [e1] at e; cases e
    | some xs =>
      rw [e1] at e
      cases e
      obtain ⟨a, ys, ex, hs, sr⟩ := items_any R r1 e1
      subst ex
      rw [sr.length] at q
      exact .inr ⟨a, ys, rfl, hs.symm, q ρ H _ Fut.refl R .int⟩
  · cases e
theorem bl_all (hc : X.calm = true) : Blt T X (.builtin "all") bAll := blt_by (cr_all hc) fun ρ h H ds vs d h2 Q R rs e q => by
  unfold bAll at e
  split at e
  · rename_i d'
    obtain ⟨v, rfl, r1⟩ := reps1 rs
    cases ht : isTup d' with
    | true => rw [ht] at e; cases e
    | false =>
      rw [ht] at e
      simp only at e
      cases e1 : items d' h with
      | none => rw [e1] at e; cases e
      | some xs =>
        rw [e1] at e
        simp only at e
        cases e2 : allBl xs with
        | none => rw [e2] at e; cases e
        | some bs =>
          rw [e2] at e
          cases e
          obtain ⟨a, ys, ex, hs, sr⟩ := items_lst R r1 e1 ht
          subst ex
          obtain rfl := bls_of e2 sr
          exact ⟨a, bs, rfl, hs, q ρ H _ Fut.refl R .bl⟩
  · cases e
theorem bl_any (hc : X.calm = true) : Blt T X (.builtin "any") bAny := blt_by (cr_any hc) fun ρ h H ds vs d h2 Q R rs e q => by
  unfold bAny at e
  split at e
  · rename_i d'
    obtain ⟨v, rfl, r1⟩ := reps1 rs
    cases ht : isTup d' with
    | true => rw [ht] at e; cases e
    | false =>
      rw [ht] at e
      simp only at e
      cases e1 : items d' h with
      | none => rw [e1] at e; cases e
      | some xs =>
        rw [e1] at e
        simp only at e
        cases e2 : allBl xs with
        | none => rw [e2] at e; cases e
        | some bs =>
          rw [e2] at e
          cases e
          obtain ⟨a, ys, ex, hs, sr⟩ := items_lst R r1 e1 ht
          subst ex
          obtain rfl := bls_of e2 sr
          exact ⟨a, bs, rfl, hs, q ρ H _ Fut.refl R .bl⟩
  · cases e
theorem bl_sum (hc : X.calm = true) : Blt T X (.builtin "sum") bSum := blt_by (cr_sum hc) fun ρ h H ds vs d h2 Q R rs e q => by
  unfold bSum at e
  split at e
  · rename_i d'
    obtain ⟨v, rfl, r1⟩ := reps1 rs
    cases ht : isTup d' with
    | true => rw [ht] at e; cases e
    | false =>
      rw [ht] at e
      simp only at e
      cases e1 : items d' h with
      | none => rw [e1] at e; cases e
      | some xs =>
        rw [e1] at e
        simp only at e
        cases e2 : allInt xs with
        | none => rw [e2] at e; cases e
        | some bs =>
          rw [e2] at e
          cases e
          obtain ⟨a, ys, ex, hs, sr⟩ := items_lst R r1 e1 ht
          subst ex
          obtain rfl := ints_of e2 sr
          exact ⟨a, bs, rfl, hs, q ρ H _ Fut.refl R .int⟩
  · cases e
theorem bl_list : Blt T X (.type "list") bList := blt_by call_list_of fun ρ h H ds vs d h2 Q R rs e q => by
  unfold bList at e
  split at e
  · rename_i d'
    obtain ⟨v, rfl, r1⟩ := reps1 rs
    cases e1 : items d' h with
    | none => rw [e1] at e; cases e
    | some xs =>
      rw [e1] at e
      cases e
      obtain ⟨a, ys, ex, hs, sr⟩ := items_any R r1 e1
      subst ex
      refine ⟨a, ys, rfl, hs.symm, fun l hl => ?_⟩
      obtain ⟨f, R2, px⟩ := new_lst R hl sr
      exact q _ _ _ f R2 (.obj px)
  · cases e
theorem bl_tuple : Blt T X (.type "tuple") bTuple := blt_by call_tuple_of fun ρ h H ds vs d h2 Q R rs e q => by
  unfold bTuple at e
  split at e
  · rename_i d'
    obtain ⟨v, rfl, r1⟩ := reps1 rs
    cases e1 : items d' h with
    | none => rw [e1] at e; cases e
    | some xs =>
      rw [e1] at e
      cases e
      cases ht : isTup d' with
      | true =>
        obtain ⟨a, ys, ex, hs, sr⟩ := items_tup r1 e1 ht
        subst ex
        exact ⟨a, ys, rfl, .inr ⟨hs, q ρ H _ Fut.refl R (.tup hs sr)⟩⟩
      | false =>
        obtain ⟨a, ys, ex, hs, sr⟩ := items_lst R r1 e1 ht
        subst ex
        refine ⟨a, ys, rfl, .inl ⟨hs, fun l hl => ?_⟩⟩
        obtain ⟨f, R2, px⟩ := new_tup R hl sr
        exact q _ _ _ f R2 px
  · cases e
end

/-! ### isinstance -/
inductive Ty where
  | non | bl | int | str | tup | lst | dct
def Ty.nm : Ty → String
  | .non => "NoneType" | .bl => "bool" | .int => "int" | .str => "str" | .tup => "tuple" | .lst => "list" | .dct => "dict"
def Ty.eqv : Ty → Ty → Bool
  | .non, .non => true | .bl, .bl => true | .int, .int => true | .str, .str => true | .tup, .tup => true | .lst, .lst => true | .dct, .dct => true
  | .bl, .int => true
  | _, _ => false
theorem ty_kit : ∀ a b : Ty, kitB a.nm b.nm = some (a.eqv b) := fun a b => by
  cases a <;> cases b <;> decide +kernel
def tyD (d : D) (h : AH) : Option Ty := match d with
  | .non => some .non
  | .bl _ => some .bl
  | .int _ => some .int
  | .str _ => some .str
  | .tup _ => some .tup
  | .lsq _ => some .lst
  | .obj n => (match h[n]? with
    | some (.lst _) => some .lst
    | some (.dct _ _) => some .dct
    | _ => none)
  | _ => none
def vIsi (t : Ty) (a : Ev) : Ev := fun rc env h => (a rc env h).bind fun d h1 => match tyD d h1 with
  | some u => .ok (.bl (u.eqv t)) h1
  | none => .bad
section
variable {G : Gx} {T : Tb} {c : Cc} {X : Cx} {k : Nat} {rc : Rc} {W : WX}
theorem sqt_ty {K : PySem.W.Frag} {H : Hp} {a : Addr} {ys : List V} (h : SqT K H a ys) : TyX K H (.ref a) (.type "tuple") := by
  rcases h with (h | ⟨o, h⟩) | ⟨o, its, n, e, c, _⟩
  · exact .base (.tup h)
  · exact .fTuple h
  · exact .kTuple e c
theorem sqf_ty {K : PySem.W.Frag} {H : Hp} {a : Addr} {ys : List V} (h : SqF K H a ys) : TyX K H (.ref a) (.type "list") := by
  rcases h with ⟨o, h⟩ | ⟨o, its, n, e, c, _⟩
  · exact .base (.frz h)
  · exact .kList e c
theorem tyD_ok {ρ : List Addr} {H : Hp} {h : AH} {d : D} {x : V} {u : Ty} (R : HRel T X.K ρ h H) (r : Rep T X.K ρ H d x) (e : tyD d h = some u) : TyX X.K H x (.type u.nm) := by
  cases d with
  | non => cases r; cases e; exact .base .non
  | bl b => cases r; cases e; exact .base (.bl _)
  | int b => cases r; cases e; exact .base (.int _)
  | str b => cases r; cases e; exact .base (.str _)
  | tup b => cases e; cases r with | tup h _ => exact sqt_ty h
  | lsq b => cases e; cases r with | lsq h _ => exact sqf_ty h
  | obj n =>
    cases r with
    | obj hn =>
      simp only [tyD] at e
      cases q : h[n]? with
      | none => rw [q] at e; cases e
      | some o =>
        rw [q] at e
        cases o with
        | lst ys =>
          cases e
          obtain ⟨zs, z, _⟩ := R.obj n _ _ hn q
          exact .base (.lst z)
        | dct _ _ =>
          cases e
          rcases R.obj n _ _ hn q with ⟨ks, et, z, _⟩ | ⟨ks, et, z, _⟩
          · exact .base (.dK z)
          · exact .base (.dT z)
        | ins _ _ => cases e
  | fn _ => cases e
  | cls _ => cases e
theorem se_isi {t : Ty} {x y : Str} {p p2 pos : Pos} {e : Expr} {a : Ev} (hx : x = "isinstance") (hg : Gl X x) (hm : X.mg x = none) (hgy : Gl X y) (hmy : X.mg y = none) (hvy : bootBuiltins y = some (.type t.nm)) (hny : y ≠ "__name__") (hdy : (y == ("__debug__" : Str)) = false) (ha : PE X e (RE T X.K W (a rc)))
    (he : starEach (e :: [.Name y p2]) X.env = (false, eval e X.env) :: starEach [.Name y p2] X.env) : PE X (.Call (.Name x p) [e, .Name y p2] [] pos) (RE T X.K W (vIsi t a rc)) := by
  subst hx
  refine ⟨fun pins s σ H Q I h => (pe_callB (id := "isinstance") call_isi hg hm (by kernel_rfl) (pa_cons ha (pa_cons (pe_bltn (v := .ty t.nm) hgy hmy hvy rfl hny hdy) pa_nil rfl) he) (by decide) (by decide) he rfl).run pins s σ H Q I ?_⟩
  obtain ⟨ρ, env, h0, R, E, q⟩ := RG.bind (rep := Rep T X.K) (k := fun _ d h1 => match tyD d h1 with | some u => .ok (D.bl (u.eqv t)) h1 | none => .bad) h
  refine ⟨ρ, env, h0, R, E, q.imp fun v H1 => ?_⟩
  rintro ⟨ρ1, env1, h1, d, R1, E1, r1, q1⟩
  cases e1 : tyD d h1 with
  | none => rw [e1] at q1; exact q1.elim
  | some u =>
    rw [e1] at q1
    exact ⟨v, .ty t.nm, .type u.nm, .type t.nm, u.eqv t, rfl, .ty _, tyD_ok R1 r1 e1, kit_ty (ty_kit u t), q1.now Fut.refl R1 .bl⟩
end
end DC
/-! Dc11: calls of defs, methods, classes; slots. -/
namespace DC
open PySem PySem.Spec PyProof.Rows L2
/-- g(.., the defaults dd) -/
def vFn (g ar : Nat) (dd : List D) (a : Av) : Ev := fun rc env h => (a rc env h).bind fun ds h1 => match Nat.beq (ds ++ dd).length ar with
  | true => rc.call 0 g (ds ++ dd) h1
  | false => .bad
/-- a def held by a name -/
def vFnV (i : Nat) (ar : Nat → Option Nat) (a : Av) : Ev := fun rc env h => match env[i]? with
  | some (some (.fn g)) => (match ar g with
    | some n => (a rc env h).bind fun ds h1 => (match Nat.beq ds.length n with
      | true => rc.call 0 g ds h1
      | false => .bad)
    | none => .bad)
  | _ => .bad
/-- C(..) -/
def vMk (c n g ar : Nat) (dd : List D) (a : Av) : Ev := fun rc env h => (a rc env h).bind fun ds h1 => match Nat.beq ((ds ++ dd).length + 1) ar with
  | true => (rc.call 1 g (.obj h1.length :: (ds ++ dd)) (h1 ++ [.ins c (List.replicate n none)])).bind fun r h2 => (match r with
    | .non => .ok (.obj h1.length) h2
    | _ => .bad)
  | false => .bad
/-- the class of what d names -/
def clsD (d : D) (h : AH) : Option Nat := match d with
  | .obj n => (match h[n]? with
    | some (.ins c _) => some c
    | _ => none)
  | _ => none
/-- o.m(..): by class a def, its arity, the defaults -/
def vMeth (tab : List (Nat × (Nat × Nat × List D))) (o : Ev) (a : Av) : Ev := fun rc env h => (o rc env h).bind fun d h1 => match clsD d h1 with
  | some c => (match tab.lookup c with
    | some (g, ar, dd) => (a rc env h1).bind fun ds h2 => (match Nat.beq ((ds ++ dd).length + 1) ar with
      | true => rc.call 0 g (d :: (ds ++ dd)) h2
      | false => .bad)
    | none => .bad)
  | none => .bad
/-- o.f: by class a slot -/
def slotD (tab : List (Nat × Nat)) (d : D) (h : AH) : Option D := match d with
  | .obj n => (match h[n]? with
    | some (.ins c fs) => (match tab.lookup c with
      | some i => (match fs[i]? with
        | some (some x) => some x
        | _ => none)
      | none => none)
    | _ => none)
  | _ => none
def vAtt (tab : List (Nat × Nat)) (o : Ev) : Ev := fun rc env h => (o rc env h).bind fun d h1 => match slotD tab d h1 with
  | some x => .ok x h1
  | none => .bad
def putD (tab : List (Nat × Nat)) (d x : D) (h : AH) : Option AH := match d with
  | .obj n => (match h[n]? with
    | some (.ins c fs) => (match tab.lookup c with
      | some i => some (h.set n (.ins c (fs.set i (some x))))
      | none => none)
    | _ => none)
  | _ => none
def sAtt (tab : List (Nat × Nat)) (o v : Ev) : Sv := fun rc env h => (v rc env h).toS fun x h1 => (o rc env h1).toS fun d h2 => match putD tab d x h2 with
  | some h3 => .nx env h3
  | none => .bad
theorem mem_look {β : Type} : ∀ {l : List (Nat × β)} {c : Nat} {x : β}, l.lookup c = some x → (c, x) ∈ l
  | [], _, _, h => by cases h
  | (d, y) :: r, c, x, h => by
    rw [List.lookup_cons] at h
    cases e : c == d with
    | true => rw [e] at h; cases h; cases eq_of_beq e; exact List.mem_cons_self
    | false => rw [e] at h; exact List.mem_cons_of_mem _ (mem_look h)
section
variable {T : Tb} {K : PySem.W.Frag} {ρ : List Addr} {h : AH} {H : Hp}
theorem HRel.unnumO {p : Addr} {w : HO} (R : HRel T K ρ h H) (hn : H p = none) (hw : ∀ x, w = .own x → H x ≠ none) : HRel T K ρ h (L2.upd H p w) where
  len := R.len
  nd := R.nd
  obj n b o h1 h2 := orep_new (fut_new hn) hn (R.obj n b o h1 h2) (fun z => R.notin hn (by rw [← z]; exact List.mem_of_getElem? h1))
  tabs := tabs_new hn R.tabs
theorem frep_none {n : Nat} {vs : List (Option V)} : FRep T K ρ H (List.replicate n none) vs := fun i d e => by
  rw [List.getElem?_replicate] at e
  split at e <;> cases e
/-- a new instance -/
theorem new_ins {c n : Nat} {x dx : Addr} (R : HRel T K ρ h H) (hx : H x = none) (hd : H dx = none) (ne : dx ≠ x) : Fut K ρ H (ρ ++ [x]) (upd (upd H dx (.own x)) x (.ins (T.ca c) dx [])) ∧ HRel T K (ρ ++ [x]) (h ++ [.ins c (List.replicate n none)]) (upd (upd H dx (.own x)) x (.ins (T.ca c) dx [])) ∧ (ρ ++ [x])[h.length]? = some x := by
  have sw : upd (upd H dx (.own x)) x (.ins (T.ca c) dx []) = upd (upd H x (.ins (T.ca c) dx [])) dx (.own x) := by
    funext b
    unfold upd
    by_cases e1 : b = x
    · subst e1
      rw [if_pos rfl, if_neg (Ne.symm ne), if_pos rfl]
    · rw [if_neg e1]
      by_cases e2 : b = dx
      · rw [if_pos e2, if_pos e2]
      · rw [if_neg e2, if_neg e2, if_neg e1]
  have f1 := fut_num (K := K) (ρ := ρ) hx (fut_new (K := K) (ρ := ρ) (w := .ins (T.ca c) dx []) hx)
  have R1 : HRel T K (ρ ++ [x]) (h ++ [.ins c (List.replicate n none)]) (upd H x (.ins (T.ca c) dx [])) := R.num hx (fun _ z => nomatch z) ⟨dx, [], .inl ⟨upd_same, rfl⟩, ne, frep_none⟩
  have hd1 : upd H x (.ins (T.ca c) dx []) dx = none := by rw [upd_ne ne]; exact hd
  have f2 : Fut K (ρ ++ [x]) (upd H x (.ins (T.ca c) dx [])) (ρ ++ [x]) (upd (upd H x (.ins (T.ca c) dx [])) dx (.own x)) := fut_new hd1
  rw [sw]
  exact ⟨f1.trans R.own f2, R1.unnumO hd1 (fun y e => by cases e; rw [upd_same]; exact Option.some_ne_none _), by rw [← R.len]; simp⟩
theorem clsD_ok {d : D} {x : V} {c : Nat} (R : HRel T K ρ h H) (r : Rep T K ρ H d x) (e : clsD d h = some c) : ∃ n a dx vs fs, d = .obj n ∧ x = .ref a ∧ ρ[n]? = some a ∧ h[n]? = some (.ins c fs) ∧ SlX.Slt H a (T.ca c) dx vs ∧ dx ≠ a ∧ FRep T K ρ H fs vs := by
  cases d with
  | obj n =>
    cases r with
    | obj hn =>
      simp only [clsD] at e
      cases q : h[n]? with
      | none => rw [q] at e; cases e
      | some o =>
        rw [q] at e
        cases o with
        | ins c' fs =>
          cases e
          obtain ⟨dx, vs, h1, h2, h3⟩ := R.obj n _ _ hn q
          exact ⟨n, _, dx, vs, fs, rfl, rfl, hn, q, h1, h2, h3⟩
        | lst _ => cases e
        | dct _ _ => cases e
  | _ => cases e
end
section
variable {G : Gx} {T : Tb} {c : Cc} {X : Cx} {k : Nat} {rc : Rc} {W : WX}
theorem run_fnG {pins : List (Addr × Obj)} {σ : L2.St} {H : Hp} {s : Shared} {Q : VK} {us : List Value} {vs : List V} {j : Nat} {f : Addr} {fd : FuncData} {ps : List Str} {sp : Sp} {dvs : List V} {ds : List Value} {E : XK} (F : FnG X.prog X.w X.K X.mg X.base j f fd ps sp) (hr : Room j X.A) (gu : X.A.guards = some []) (hb : Binds X.K fd ps ds) (hd : Vals dvs ds)
    (hx : PassesAt (L2.CX X.prog X.w) X σ E) (I : Inv X pins σ H s) (r : Vals vs us) (h : sp (vs ++ dvs) H Q E) : wpAny (model X.prog X.w) X.A (call (.ref f) us) (EP X pins σ Q) X.xe s := by
  have r2 : Vals (vs ++ dvs) (us ++ ds) := r.append hd
  have hl : (us ++ ds).length = ps.length := by rw [← r2.length]; exact F.len _ _ _ _ h
  refine wpAny_call (codeAny_mono (F.run X.A X.stack s H ⟨us, []⟩ (us ++ ds) (vs ++ dvs) Q E hr gu I.env0 (hb s us I.kIn hl) r2 h) fun r s' hq => ?_)
  cases r with
  | error e => exact hx pins H s e s' I hq
  | ok fl =>
    cases fl with
    | ret u => exact I.after hq
    | next => exact False.elim hq
    | brk => exact False.elim hq
    | cont => exact False.elim hq
theorem make_guards {A : Around} {C : Addr} {us : List Value} {kw : List (Str × Value)} (g : A.guards = some []) : (A.under (.builtin "type.__call__" ⟨.ref C :: us, kw⟩)).guards = some [] := by
  show pushGuards (Code.guards (.builtin "type.__call__" ⟨.ref C :: us, kw⟩)) A.guards = some []
  rw [g]
  first | rfl | simp [pushGuards, Code.guards, Code.isGuard, guardIds]
theorem run_makeG {pins : List (Addr × Obj)} {σ : L2.St} {H : Hp} {s : Shared} {Q : VK} {us : List Value} {vs : List V} {j : Nat} {C f : Addr} {fd : FuncData} {ps : List Str} {sp : Sp} {dvs : List V} {ds : List Value} {E : XK} (M : Mk X.K C f) (F : FnG X.prog X.w X.K X.mg X.base j f fd ps sp) (hr : Room (j + 1) X.A) (gu : X.A.guards = some []) (hb : Binds X.K fd ps ds) (hd : Vals dvs ds)
    (hx : PassesAt (L2.CX X.prog X.w) X σ E) (I : Inv X pins σ H s) (r : Vals vs us)
    (h : ∀ x dx, H x = none → H dx = none → dx ≠ x → sp (.ref x :: (vs ++ dvs)) (upd (upd H dx (.own x)) x (.ins C dx [])) (fun v H2 => v = .non ∧ Q (.ref x) H2) E) :
    wpAny (model X.prog X.w) X.A (call (.ref C) us) (EP X pins σ Q) X.xe s := by
  have hq := h (s.heap.objs.size + 1) s.heap.objs.size (I.hok.fresh (Nat.le_succ _)) (I.hok.fresh (Nat.le_refl _)) (Nat.ne_of_lt (Nat.lt_succ_self _))
  have I2 := Inv.made (C := C) I
  have r2 : Vals (V.ref (s.heap.objs.size + 1) :: (vs ++ dvs)) (Value.ref (s.heap.objs.size + 1) :: (us ++ ds)) := .cons rfl (r.append hd)
  have hl : (Value.ref (s.heap.objs.size + 1) :: us ++ ds).length = ps.length := by
    have e := r2.length
    rw [F.len _ _ _ _ hq] at e
    exact e.symm
  refine wpAny_call (make_map (f := f) I.kIn M.makes M.init (beq_iff_eq.mp M.fn) (codeAny_mono (F.run _ X.stack _ _ ⟨Value.ref (s.heap.objs.size + 1) :: us, []⟩ (Value.ref (s.heap.objs.size + 1) :: (us ++ ds)) _ _ E (hr.make C us []) (make_guards gu)
    (I2.env0.make C us []) (hb _ (Value.ref (s.heap.objs.size + 1) :: us) I2.kIn hl) r2 hq) fun r s' hq' => ?_))
  cases r with
  | error e => exact hx pins _ _ e s' I2 hq'
  | ok fl =>
    cases fl with
    | ret u =>
      obtain ⟨v, H', I3, rv, ev, q3⟩ := I2.after hq'
      subst ev
      exact ⟨rv, ⟨V.ref (s.heap.objs.size + 1), H', I3, rfl, q3⟩⟩
    | next => exact False.elim hq'
    | brk => exact False.elim hq'
    | cont => exact False.elim hq'
theorem Post.toF {K : PySem.W.Frag} {σ : L2.St} {ρ : List Addr} {H : Hp} {o : Out D} {Q : VK} (p : Post T K W σ ρ H o Q) : PostF T K ρ H o Q (WE W σ) := by
  cases o with
  | ok d h => exact p
  | exc c v h => exact p
  | bad => exact p
/-- the defaults that fill up -/
def Dfl (G : Gx) (g : Nat) (dd : List D) : Prop := dd.length ≤ (G.df g).length ∧ dd = (G.df g).drop ((G.df g).length - dd.length)
theorem dfl_of (F : FnP G T X.prog X.w X.K X.mg X.base k g a f) {dd : List D} (hd : Dfl G g dd) : ∃ fd ps dvs ds, ps.length = a ∧ FnG X.prog X.w X.K X.mg X.base k (T.fa g) fd ps (spC T X.K a f) ∧ Binds X.K fd ps ds ∧ Vals dvs ds ∧ ∀ ρ H, Reps T X.K ρ H dd dvs := by
  obtain ⟨fd, ps, h1, h2, _, h4⟩ := F.ok
  obtain ⟨dvs, ds, h5, h6, h7, h8⟩ := h4 dd.length hd.1
  exact ⟨fd, ps, dvs, ds, h1, h2, h5, h6, fun ρ H => by rw [hd.2]; exact h8 ρ H⟩
/-- the arguments have come -/
theorem fn_go {pins : List (Addr × Obj)} {σ : L2.St} {ρ : List Addr} {h : AH} {H : Hp} {s : Shared} {Q : VK} {us : List Value} {vs : List V} {ds dd : List D} {g ar : Nat} (ok : Ok G T c X k rc W) (har : G.ar g = some ar) (hd : Dfl G g dd) (I : Inv X pins σ H s) (rv : Vals vs us) (R : HRel T X.K ρ h H) (r : Reps T X.K ρ H ds vs)
    (p : Post T X.K W σ ρ H (match Nat.beq (ds ++ dd).length ar with | true => rc.call 0 g (ds ++ dd) h | false => .bad) Q) : wpAny (model X.prog X.w) X.A (call (.ref (T.fa g)) us) (EP X pins σ Q) X.xe s := by
  have F := ok.gok.fns 0 (Nat.zero_le _) g ar har
  obtain ⟨fd, ps, dvs, dsv, h1, h2, h3, h4, h5⟩ := dfl_of F hd
  cases e : Nat.beq (ds ++ dd).length ar with
  | false => rw [e] at p; exact p.elim
  | true =>
    rw [e] at p
    have hl := Nat.eq_of_beq_eq_true e
    refine run_fnG h2 ok.room ok.gu h3 h4 (L2.passAt ok.tk σ) I rv ⟨?_, ρ, h, ds ++ dd, R, r.append (h5 ρ H), Post.toF p⟩
    rw [← hl, (r.append (h5 ρ H)).length]
theorem se_fn (ok : Ok G T c X k rc W) {g ar : Nat} {dd : List D} {x : Str} {p pos : Pos} {e : Expr} {es : List Expr} {a : Av} (hk : c.sc.lookup x = some .globalImplicit) (hg : G.nm x = some (.fn g)) (har : G.ar g = some ar) (hd : Dfl G g dd) (ha : PA X (e :: es) (RA T X.K W (a rc)))
    (hdb : (x == ("__debug__" : Str)) = false) (he : starEach (e :: es) X.env = (false, eval e X.env) :: starEach es X.env) (hpl : (backTo pos (starEach es X.env)).any (·.1) = false) : PE X (.Call (.Name x p) (e :: es) [] pos) (RE T X.K W (vFn g ar dd a rc)) := by
  have hm := ok.gok.nm x
  rw [hg] at hm
  refine ⟨fun pins s σ H Q I h => ?_⟩
  refine wpAny_Call_Name_kw (ld_glob I (ok.glo x hk) hm ?_ hdb)
  have h' := RG.bind (rep := Reps T X.K) (k := fun _ ds h1 => match Nat.beq (ds ++ dd).length ar with | true => rc.call 0 g (ds ++ dd) h1 | false => .bad) h
  refine PySem.W.callWith_K (h₀ := X.base) I.ok.mod.kin (ok.gok.fns 0 (Nat.zero_le _) g ar har).kp (thn (ha.run pos pins s σ H _ I h') fun us s1 ⟨vs, H1, I1, r, q⟩ => ⟨I1.kIn, ?_⟩) he hpl
  obtain ⟨ρ1, env1, h1, ds, R1, E1, r1, q1⟩ := q
  exact fn_go ok har hd I1 r R1 r1 q1
theorem se_fn0 (ok : Ok G T c X k rc W) {g ar : Nat} {dd : List D} {x : Str} {p pos : Pos} (hk : c.sc.lookup x = some .globalImplicit) (hg : G.nm x = some (.fn g)) (har : G.ar g = some ar) (hd : Dfl G g dd) (hdb : (x == ("__debug__" : Str)) = false) : PE X (.Call (.Name x p) [] [] pos) (RE T X.K W (vFn g ar dd aNil rc)) := by
  have hm := ok.gok.nm x
  rw [hg] at hm
  refine ⟨fun pins s σ H Q I h => ?_⟩
  refine wpAny_Call_Name_kw (ld_glob I (ok.glo x hk) hm ?_ hdb)
  obtain ⟨ρ, env, h0, R, E, q⟩ := h
  exact PySem.W.callWith_K0 I.kIn (ok.gok.fns 0 (Nat.zero_le _) g ar har).kp (fn_go (us := []) (vs := []) (ds := []) ok har hd I .nil R .nil q)
theorem se_fnV (ok : Ok G T c X k rc W) {i : Nat} {x : Str} {kd : NameKind} {p pos : Pos} {e : Expr} {es : List Expr} {a : Av} (hN : c.N[i]? = some x) (hk : c.sc.lookup x = some kd) (hv : kd = .local ∨ kd = .cell ∨ kd = .free) (ha : PA X (e :: es) (RA T X.K W (a rc)))
    (hdb : (x == ("__debug__" : Str)) = false) (hcd : (x == ("__classdict__" : Str)) = false) (he : starEach (e :: es) X.env = (false, eval e X.env) :: starEach es X.env) (hpl : (backTo pos (starEach es X.env)).any (·.1) = false) : PE X (.Call (.Name x p) (e :: es) [] pos) (RE T X.K W (vFnV i G.ar a rc)) := by
  refine ⟨fun pins s σ H Q I h => ?_⟩
  obtain ⟨ρ, env, h0, R, E, q⟩ := h
  simp only [vFnV] at q
  cases e1 : env[i]? with
  | none => rw [e1] at q; exact q.elim
  | some o =>
    rw [e1] at q
    cases o with
    | none => exact q.elim
    | some d =>
      cases d with
      | fn g =>
        simp only at q
        cases e2 : G.ar g with
        | none => rw [e2] at q; exact q.elim
        | some ar =>
          rw [e2] at q
          obtain ⟨v, hs, rv⟩ := E.2 i _ e1
          cases rv
          refine wpAny_Call_Name_kw (thn ((pe_var (X := X) (i := i) (pos := p) (by rw [ok.N]; exact hN) (ok.vis x kd hk hv) hdb hcd).run pins s σ H (fun v H1 => v = .ref (T.fa g) ∧ H1 = H) I ⟨_, hs, rfl, rfl⟩) fun u s1 ⟨v, H1, I1, r1, q1⟩ => ?_)
          obtain ⟨rfl, rfl⟩ := q1
          cases r1
          have h' := RG.bind (rep := Reps T X.K) (W := W) (σ := σ) (H := H1) (Q := Q) (e := a rc) (k := fun _ ds h1 => match Nat.beq ds.length ar with | true => rc.call 0 g ds h1 | false => .bad) ⟨ρ, env, h0, R, E, q⟩
          refine PySem.W.callWith_K (h₀ := X.base) I.ok.mod.kin (ok.gok.fns 0 (Nat.zero_le _) g ar e2).kp (thn (ha.run pos pins s1 σ _ _ I1 h') fun us s2 ⟨vs, H2, I2, r, q⟩ => ⟨I2.kIn, ?_⟩) he hpl
          obtain ⟨ρ1, env1, h1, ds, R1, E1, r1, q1⟩ := q
          refine fn_go (dd := []) ok e2 ⟨Nat.zero_le _, by simp⟩ I2 r R1 r1 ?_
          rw [List.append_nil]
          exact q1
      | _ => exact q.elim
/-- a class is called -/
theorem se_mk (ok : Ok G T c X k rc W) {cl n g ar : Nat} {dd : List D} {i : ClI} {x : Str} {p pos : Pos} {e : Expr} {es : List Expr} {a : Av} (hk : c.sc.lookup x = some .globalImplicit) (hg : G.nm x = some (.cls cl)) (hc : G.cl cl = some i) (hi : i.init = some g) (har : G.ar g = some ar) (hd : Dfl G g dd) (ha : PA X (e :: es) (RA T X.K W (a rc)))
    (hdb : (x == ("__debug__" : Str)) = false) (he : starEach (e :: es) X.env = (false, eval e X.env) :: starEach es X.env) (hpl : (backTo pos (starEach es X.env)).any (·.1) = false) : PE X (.Call (.Name x p) (e :: es) [] pos) (RE T X.K W (vMk cl n g ar dd a rc)) := by
  have hm := ok.gok.nm x
  rw [hg] at hm
  have M := (ok.gok.cls cl i hc).2.2.2 g hi
  refine ⟨fun pins s σ H Q I h => ?_⟩
  refine wpAny_Call_Name_kw (ld_glob I (ok.glo x hk) hm ?_ hdb)
  have h' := RG.bind (rep := Reps T X.K) (k := fun _ ds h1 => match Nat.beq ((ds ++ dd).length + 1) ar with
    | true => (rc.call 1 g (.obj h1.length :: (ds ++ dd)) (h1 ++ [.ins cl (List.replicate n none)])).bind fun r h2 => (match r with
      | .non => .ok (D.obj h1.length) h2
      | _ => .bad)
    | false => .bad) h
  refine PySem.W.callWith_K (h₀ := X.base) I.ok.mod.kin M.kp (thn (ha.run pos pins s σ H _ I h') fun us s1 ⟨vs, H1, I1, r, q⟩ => ⟨I1.kIn, ?_⟩) he hpl
  obtain ⟨ρ1, env1, h1, ds, R1, E1, r1, q1⟩ := q
  cases e0 : Nat.beq ((ds ++ dd).length + 1) ar with
  | false => rw [e0] at q1; exact q1.elim
  | true =>
    rw [e0] at q1
    have hl := Nat.eq_of_beq_eq_true e0
    cases k with
    | zero =>
      simp only at q1
      rw [ok.gok.low 1 (Nat.lt_succ_self 0)] at q1
      exact q1.elim
    | succ j =>
      have F := ok.gok.fns 1 (Nat.succ_le_succ (Nat.zero_le _)) g ar har
      obtain ⟨fd, ps, dvs, dsv, h2, h3, h4, h5, h6⟩ := dfl_of F hd
      refine run_makeG M h3 ok.room ok.gu h4 h5 (L2.passAt ok.tk σ) I1 r fun xa dx hx hdx ne => ?_
      obtain ⟨f2, R2, px⟩ := new_ins (c := cl) (n := n) R1 hx hdx ne
      have ra : Reps T X.K (ρ1 ++ [xa]) (upd (upd H1 dx (.own xa)) xa (.ins (T.ca cl) dx [])) (.obj h1.length :: (ds ++ dd)) (.ref xa :: (vs ++ dvs)) := .cons (.obj px) ((r1.append (h6 ρ1 H1)).fut f2)
      refine ⟨?_, _, _, _, R2, ra, ?_⟩
      · rw [← hl, ← ra.length]; rfl
      · have q2 := PostG.later R1 f2 q1
        simp only at q2
        have q3 := Post.toF (PostG.bind (rep := Rep T X.K) R2 q2)
        cases o : rc.call 1 g (.obj h1.length :: (ds ++ dd)) (h1 ++ [.ins cl (List.replicate n none)]) with
        | ok d h7 =>
          rw [o] at q3
          intro ρ7 H7 v f7 R7 r7
          obtain ⟨ρ8, h8, d8, f8, R8, r8, q8⟩ := q3 ρ7 H7 v f7 R7 r7
          cases d8 with
          | non =>
            cases r8
            exact ⟨rfl, q8.now Fut.refl R8 (.obj (f8.pre _ _ px))⟩
          | _ => exact q8.elim
        | exc cx v h7 => rw [o] at q3; exact q3
        | bad => rw [o] at q3; exact q3
/-- a table of slots is right -/
def SlT (G : Gx) (f : Str) (tab : List (Nat × Nat)) : Prop := ∀ p ∈ tab, ∃ i, G.cl p.1 = some i ∧ i.slots.lookup f = some p.2
theorem slotD_ok (ok : Ok G T c X k rc W) {f : Str} {tab : List (Nat × Nat)} (ht : SlT G f tab) {ρ : List Addr} {h : AH} {H : Hp} {d e : D} {x : V} (R : HRel T X.K ρ h H) (r : Rep T X.K ρ H d x) (q : slotD tab d h = some e) :
    ∃ a C dx p vs i v, x = .ref a ∧ SlX.Slt H a C dx vs ∧ SlX.SCls X.K C ∧ SlX.Slot1 X.K C f p i ∧ vs[i]? = some (some v) ∧ Rep T X.K ρ H e v := by
  cases d with
  | obj n =>
    simp only [slotD] at q
    cases q1 : h[n]? with
    | none => rw [q1] at q; cases q
    | some o =>
      rw [q1] at q
      cases o with
      | ins cl fs =>
        simp only at q
        cases q2 : tab.lookup cl with
        | none => rw [q2] at q; cases q
        | some i =>
          rw [q2] at q
          simp only at q
          cases q3 : fs[i]? with
          | none => rw [q3] at q; cases q
          | some z =>
            rw [q3] at q
            cases z with
            | none => cases q
            | some y =>
              cases q
              obtain ⟨n', a, dx, vs, fs', e1, e2, e3, e4, e5, e6, e7⟩ := clsD_ok R r (show clsD (.obj n) h = some cl by unfold clsD; simp only; rw [q1])
              cases e1
              rw [q1] at e4
              cases e4
              obtain ⟨ci, g1, g2⟩ := ht _ (mem_look q2)
              obtain ⟨s1, s2, _⟩ := ok.gok.cls cl ci g1
              obtain ⟨p, hp⟩ := s2 f i g2
              obtain ⟨v, hv, rv⟩ := e7 i e q3
              exact ⟨a, T.ca cl, dx, p, vs, i, v, e2, e5, s1, hp, hv, rv⟩
      | lst _ => cases q
      | dct _ _ => cases q
  | _ => cases q
theorem se_att (ok : Ok G T c X k rc W) {f : Str} {tab : List (Nat × Nat)} {e : Expr} {o : Ev} {pos : Pos} (ht : SlT G f tab) (he : PE X e (RE T X.K W (o rc))) (hb : attributeBase e f X.env (eval e X.env) = eval e X.env) : PE X (.Attribute e f pos) (RE T X.K W (vAtt tab o rc)) := by
  refine ⟨fun pins s σ H Q I h => (SlX.pe_sl he hb).run pins s σ H Q I ?_⟩
  obtain ⟨ρ, env, h0, R, E, q⟩ := RG.bind (rep := Rep T X.K) (k := fun _ d h1 => match slotD tab d h1 with | some x => .ok x h1 | none => .bad) h
  refine ⟨ρ, env, h0, R, E, q.imp fun v H1 => ?_⟩
  rintro ⟨ρ1, env1, h1, d, R1, E1, r1, q1⟩
  cases e1 : slotD tab d h1 with
  | none => rw [e1] at q1; exact q1.elim
  | some y =>
    rw [e1] at q1
    obtain ⟨a, C, dx, p, vs, i, v', z1, z2, z3, z4, z5, z6⟩ := slotD_ok ok ht R1 r1 e1
    exact ⟨a, C, dx, p, vs, i, v', z1, z2, z3, z4, z5, q1.now Fut.refl R1 z6⟩
theorem Slt.dxOk {pins : List (Addr × Obj)} {σ : L2.St} {H : Hp} {s : Shared} {a C dx : Addr} {vs : List (Option V)} (I : Inv X pins σ H s) (h : SlX.Slt H a C dx vs) : DxOk H a dx := by
  rcases h with ⟨h1, _⟩ | ⟨_, h2⟩
  · obtain ⟨_, _, _, _, _, h5⟩ := ins_get I.hok h1
    exact .inl h5
  · exact .inr h2
theorem frep_put {ρ : List Addr} {H : Hp} {K : PySem.W.Frag} {fs : List (Option D)} {vs : List (Option V)} {i : Nat} {x : D} {y : V} (q : FRep T K ρ H fs vs) (r : Rep T K ρ H x y) : FRep T K ρ H (fs.set i (some x)) (SlX.putS i y vs) := fun j d e => by
  by_cases z : i = j
  · subst z
    have hl : i < fs.length := by
      obtain ⟨h1, _⟩ := List.getElem?_eq_some_iff.mp e
      rw [List.length_set] at h1; exact h1
    rw [List.getElem?_set_self hl] at e
    cases e
    exact ⟨y, SlX.putS_get i y vs, r⟩
  · rw [List.getElem?_set_ne z] at e
    obtain ⟨v, h1, h2⟩ := q j d e
    exact ⟨v, (SlX.putS_ne (Ne.symm z)).mpr h1, h2⟩
theorem ss_att (ok : Ok G T c X k rc W) {f : Str} {tab : List (Nat × Nat)} {o v : Expr} {vo vv : Ev} {pos pos' : Pos} (ht : SlT G f tab) (ho : PE X o (RE T X.K W (vo rc))) (hv : PE X v (RE T X.K W (vv rc))) (hs : swapsWith v (some (.Attribute o f pos')) pos.line X.env = pure false) :
    PS X (.Assign [.Attribute o f pos'] v pos) (RS T X.K W (sAtt tab vo vv rc)) := by
  refine ⟨fun pins s σ H E I h => ?_⟩
  have h' := RS.bind (rep := Rep T X.K) (e := vv rc) (k := fun env x h1 => (vo rc env h1).toS fun d h2 => match putD tab d x h2 with | some h3 => .nx env h3 | none => .bad) h
  refine plainObj_wpAny_Assign_Attribute (thn (hv.run pins s σ H _ I h') fun u s1 ⟨y, H1, I1, ry, q⟩ => ?_) hs
  obtain ⟨ρ1, env1, h1, x, R1, E1, r1, q1⟩ := q
  have h2 : RS T X.K W (fun env h => (vo rc env h).toS fun d h2 => match putD tab d x h2 with | some h3 => .nx env1 h3 | none => .bad) E σ H1 := ⟨ρ1, env1, h1, R1, E1, q1⟩
  have hz : RE T X.K W (vo rc) σ H1 fun xo H2 => ∃ ρ2 h2 d, Fut X.K ρ1 H1 ρ2 H2 ∧ HRel T X.K ρ2 h2 H2 ∧ Rep T X.K ρ2 H2 d xo ∧ PostS T X.K W σ ρ2 H2 (match putD tab d x h2 with | some h3 => .nx env1 h3 | none => .bad) E := by
    refine ⟨ρ1, env1, h1, R1, E1, ?_⟩
    cases o1 : vo rc env1 h1 with
    | ok d h2 =>
      rw [o1] at q1
      exact fun ρ2 H2 v f R2 r => ⟨ρ2, h2, d, f, R2, r, PostS.later (σ := σ) R1 f q1⟩
    | exc c x h2 => rw [o1] at q1; exact fun ρ2 H2 dd f R2 r => q1 ρ2 H2 dd σ f R2 r
    | bad => rw [o1] at q1; exact q1
  refine thn (ho.run pins s1 σ H1 _ I1 hz) fun ov s2 ⟨xo, H2, I2, rx, q2⟩ => ?_
  obtain ⟨ρ2, h3, d, f2, R2, rd, q3⟩ := q2
  cases e1 : putD tab d x h3 with
  | none => rw [e1] at q3; exact q3.elim
  | some h4 =>
    rw [e1] at q3
    cases d with
    | obj n =>
      simp only [putD] at e1
      cases e2 : h3[n]? with
      | none => rw [e2] at e1; cases e1
      | some ob =>
        rw [e2] at e1
        cases ob with
        | ins cl fs =>
          simp only at e1
          cases e3 : tab.lookup cl with
          | none => rw [e3] at e1; cases e1
          | some i =>
            rw [e3] at e1
            cases e1
            obtain ⟨n', a, dx, vs, fs', z1, z2, z3, z4, z5, z6, z7⟩ := clsD_ok R2 rd (show clsD (.obj n) h3 = some cl by unfold clsD; simp only; rw [e2])
            cases z1
            rw [e2] at z4
            cases z4
            subst z2
            obtain rfl : ov = Value.ref a := rx
            obtain ⟨ci, g1, g2⟩ := ht _ (mem_look e3)
            obtain ⟨s1', s2', _⟩ := ok.gok.cls cl ci g1
            obtain ⟨p, hp⟩ := s2' f i g2
            refine SlX.setslot_ok I2 z5 s1' hp ry fun s3 I3 => ⟨σ, _, I3, ?_⟩
            have dk := Slt.dxOk I2 z5
            have f3 : Fut X.K ρ2 H2 ρ2 (SlX.slH H2 a (T.ca cl) dx (SlX.putS i y vs)) := fut_slot z5 dk (List.mem_of_getElem? z3)
            exact RS.nxt q3 f3 (R2.slot z3 z5 z6 dk (fun j d e => by
              obtain ⟨v, h1, h2⟩ := frep_put (i := i) z7 (r1.fut f2) j d e
              exact ⟨v, h1, h2.fut f3⟩)) ((E1.fut f2).fut f3)
        | lst _ => cases e1
        | dct _ _ => cases e1
    | _ => cases e1
/-- a table of methods is right -/
def MeT (G : Gx) (m : Str) (tab : List (Nat × (Nat × Nat × List D))) : Prop := ∀ p ∈ tab, ∃ i, G.cl p.1 = some i ∧ i.meths.lookup m = some p.2.1 ∧ G.ar p.2.1 = some p.2.2.1 ∧ Dfl G p.2.1 p.2.2.2
theorem meth_split {tab : List (Nat × (Nat × Nat × List D))} {vo : Ev} {va : Av} {σ : L2.St} {H : Hp} {Q : VK} (h : RE T X.K W (vMeth tab vo va rc) σ H Q) :
    RE T X.K W (vo rc) σ H fun x H1 => ∃ ρ1 env h1 d cl g ar dd, HRel T X.K ρ1 h1 H1 ∧ ERel T X.K ρ1 H1 env σ ∧ Rep T X.K ρ1 H1 d x ∧ clsD d h1 = some cl ∧ (cl, g, ar, dd) ∈ tab ∧ Post T X.K W σ ρ1 H1 ((va rc env h1).bind fun ds h2 => (match Nat.beq ((ds ++ dd).length + 1) ar with | true => rc.call 0 g (d :: (ds ++ dd)) h2 | false => .bad)) Q := by
  obtain ⟨ρ, env, h0, R, E, q⟩ := RG.bind (rep := Rep T X.K) (e := vo rc) (k := fun env d h1 => match clsD d h1 with
    | some c => (match tab.lookup c with
      | some (g, ar, dd) => (va rc env h1).bind fun ds h2 => (match Nat.beq ((ds ++ dd).length + 1) ar with
        | true => rc.call 0 g (d :: (ds ++ dd)) h2
        | false => .bad)
      | none => .bad)
    | none => .bad) h
  refine ⟨ρ, env, h0, R, E, q.imp fun v H1 => ?_⟩
  rintro ⟨ρ1, env1, h1, d, R1, E1, r1, q1⟩
  cases e1 : clsD d h1 with
  | none => rw [e1] at q1; exact q1.elim
  | some cl =>
    rw [e1] at q1
    simp only at q1
    cases e2 : tab.lookup cl with
    | none => rw [e2] at q1; exact q1.elim
    | some y =>
      obtain ⟨g, ar, dd⟩ := y
      rw [e2] at q1
      exact ⟨ρ1, env1, h1, d, cl, g, ar, dd, R1, E1, r1, e1, mem_look e2, q1⟩
theorem se_meth (ok : Ok G T c X k rc W) {m : Str} {tab : List (Nat × (Nat × Nat × List D))} {o e : Expr} {es : List Expr} {vo : Ev} {va : Av} {apos pos : Pos} {pl : Sem Bool} (ht : MeT G m tab) (ho : PE X o (RE T X.K W (vo rc))) (ha : PA X (e :: es) (RA T X.K W (va rc)))
    (hst : starEach (e :: es) X.env = (false, eval e X.env) :: starEach es X.env) (hpl : (backTo pos (starEach es X.env)).any (·.1) = false)
    (hev : eval (.Call (.Attribute o m apos) (e :: es) [] pos) X.env = (do
      let ov ← eval o X.env
      standAt apos.atName
      let (f, first) ← holding [ov] (getMethod ov m pl)
      callWith pos f first (backTo pos (starEach (e :: es) X.env)) (backToKw pos (keywordEach [] X.env)))) :
    PE X (.Call (.Attribute o m apos) (e :: es) [] pos) (RE T X.K W (vMeth tab vo va rc)) := by
  refine ⟨fun pins s σ H Q I h => ?_⟩
  refine PySem.W.methodCall_KW (pl := pl) (thn (ho.run pins s σ H _ I (meth_split h)) fun u s1 ⟨x, H1, I1, rx, q⟩ => ?_) hev
  obtain ⟨ρ1, env1, h1, d, cl, g, ar, dd, R1, E1, r1, e1, hm, q1⟩ := q
  obtain ⟨n, a, dx, vs, fs, z1, z2, z3, z4, z5, z6, z7⟩ := clsD_ok R1 r1 e1
  subst z1 z2
  obtain rfl : u = Value.ref a := rx
  obtain ⟨i, g1, g2, g3, g4⟩ := ht _ hm
  obtain ⟨s1', _, s3', _⟩ := ok.gok.cls cl i g1
  refine SlX.getmethsl_ok I1 z5 s1' (s3' m g g2) ?_
  have h' : RA T X.K W (va rc) σ H1 fun ws H2 => ∃ ρ2 h2 ds, Fut X.K ρ1 H1 ρ2 H2 ∧ HRel T X.K ρ2 h2 H2 ∧ Reps T X.K ρ2 H2 ds ws ∧ Post T X.K W σ ρ2 H2 (match Nat.beq ((ds ++ dd).length + 1) ar with | true => rc.call 0 g (.obj n :: (ds ++ dd)) h2 | false => .bad) Q := ⟨ρ1, env1, h1, R1, E1, (PostG.bind (rep := Reps T X.K) R1 q1).imp fun ws H2 z => by
    obtain ⟨ρ2, h2, ds, f, R2, r2, q2⟩ := z
    exact ⟨ρ2, h2, ds, f, R2, r2, q2⟩⟩
  refine PySem.W.callWith_K (first := [.ref a]) (h₀ := X.base) I.ok.mod.kin (s3' m g g2).kp (thn (ha.run pos pins s1 σ H1 _ I1 h') fun us s2 ⟨ws, H2, I2, r, q2⟩ => ⟨I2.kIn, ?_⟩) hst hpl
  obtain ⟨ρ2, h2, ds, f2, R2, r2, q3⟩ := q2
  exact fn_go (us := .ref a :: us) (vs := .ref a :: ws) (ds := .obj n :: ds) ok g3 g4 I2 (.cons rfl r) R2 (.cons (.obj (f2.pre _ _ z3)) r2) q3
theorem se_meth0 (ok : Ok G T c X k rc W) {m : Str} {tab : List (Nat × (Nat × Nat × List D))} {o : Expr} {vo : Ev} {apos pos : Pos} {pl : Sem Bool} (ht : MeT G m tab) (ho : PE X o (RE T X.K W (vo rc)))
    (hev : eval (.Call (.Attribute o m apos) [] [] pos) X.env = (do
      let ov ← eval o X.env
      standAt apos.atName
      let (f, first) ← holding [ov] (getMethod ov m pl)
      callWith pos f first (backTo pos (starEach [] X.env)) (backToKw pos (keywordEach [] X.env)))) :
    PE X (.Call (.Attribute o m apos) [] [] pos) (RE T X.K W (vMeth tab vo aNil rc)) := by
  refine ⟨fun pins s σ H Q I h => ?_⟩
  refine PySem.W.methodCall_KW (pl := pl) (thn (ho.run pins s σ H _ I (meth_split h)) fun u s1 ⟨x, H1, I1, rx, q⟩ => ?_) hev
  obtain ⟨ρ1, env1, h1, d, cl, g, ar, dd, R1, E1, r1, e1, hm, q1⟩ := q
  obtain ⟨n, a, dx, vs, fs, z1, z2, z3, z4, z5, z6, z7⟩ := clsD_ok R1 r1 e1
  subst z1 z2
  obtain rfl : u = Value.ref a := rx
  obtain ⟨i, g1, g2, g3, g4⟩ := ht _ hm
  obtain ⟨s1', _, s3', _⟩ := ok.gok.cls cl i g1
  refine SlX.getmethsl_ok I1 z5 s1' (s3' m g g2) ?_
  exact PySem.W.callWith_K0 (first := [.ref a]) I1.kIn (s3' m g g2).kp (fn_go (us := [.ref a]) (vs := [.ref a]) (ds := [.obj n]) ok g3 g4 I1 (.cons rfl .nil) R1 (.cons (.obj z3) .nil) q1)
end
end DC
/-! Dc12: op=, chains, slices, stores by subscript, dicts, append. -/
namespace DC
open PySem PySem.Spec PyProof.Rows L2
/-- an operation by contents as a rule by values -/
def rD (T : Tb) (K : PySem.W.Frag) (g : D → D → AH → Out D) : R2 := fun x y H Q => ∃ ρ h dx dy, HRel T K ρ h H ∧ Rep T K ρ H dx x ∧ Rep T K ρ H dy y ∧ Post T K W0 [] ρ H (g dx dy h) Q
theorem OpD.r {T : Tb} {X : Cx} {f : Value → Value → Sem Value} {g : D → D → AH → Out D} (h : ∀ W, OpD T X W f g) : OpR X f (rD T X.K g) := fun pins s σ H x y v u Q I rx ry ⟨ρ, h0, dx, dy, R, r1, r2, p⟩ => h W0 pins s σ ρ h0 H x y dx dy v u Q I R r1 r2 rx ry p
/-- ends well -/
def okO (o : Out D) : Out D := match o with
  | .ok d h => .ok d h
  | .exc _ _ _ => .bad
  | .bad => .bad
theorem okO_post {T : Tb} {K : PySem.W.Frag} {W W' : WX} {σ σ' : L2.St} {ρ : List Addr} {H : Hp} {o : Out D} {Q : VK} (p : Post T K W σ ρ H (okO o) Q) : Post T K W' σ' ρ H o Q := by
  cases o with
  | ok d h => exact p
  | exc _ _ _ => exact p.elim
  | bad => exact p.elim

/-! ### name op= e -/
def sAug (i : Nat) (g : D → D → AH → Out D) (b : Ev) : Sv := fun rc env h => match env[i]? with
  | some (some x) => (b rc env h).toS fun y h1 => (match okO (g x y h1) with
    | .ok z h2 => .nx (env.set i (some z)) h2
    | _ => .bad)
  | _ => .bad
section
variable {G : Gx} {T : Tb} {c : Cc} {X : Cx} {k : Nat} {rc : Rc} {W : WX}
theorem ss_aug (ok : Ok G T c X k rc W) {i : Nat} {x : Str} {e : Expr} {b : Ev} {op : Operator} {g : D → D → AH → Out D} {pos pos' : Pos} (s : Sto c i x) (ho : ∀ W, OpD T X W (inplaceOp op) g) (he : PE X e (RE T X.K W (b rc))) : PS X (.AugAssign (.Name x pos') op e pos) (RS T X.K W (sAug i g b rc)) := by
  obtain ⟨h1, h2, h3⟩ := s.loc ok
  refine ⟨fun pins s σ H E I h => (ps_aug (i := i) ok.xnd h1 h2 he (show PIp X op (rD T X.K g) from fun pins s σ H x y v u Q I rx ry h => OpD.r ho pins s σ H x y v u Q I rx ry h) h3).run pins s σ H E I ?_⟩
  obtain ⟨ρ, env, h0, R, Er, q⟩ := h
  simp only [sAug] at q
  cases e1 : env[i]? with
  | none => rw [e1] at q; exact q.elim
  | some o =>
    rw [e1] at q
    cases o with
    | none => exact q.elim
    | some dx =>
      obtain ⟨xv, hs, rx⟩ := Er.2 i dx e1
      refine ⟨xv, hs, ?_⟩
      simp only at q
      refine ⟨ρ, env, h0, R, Er, ?_⟩
      cases o1 : b rc env h0 with
      | ok y h1 =>
        rw [o1] at q
        intro ρ1 H1 yv f1 R1 ry
        refine ⟨ρ1, h1, dx, y, R1, rx.fut f1, ry, ?_⟩
        have q2 := PostS.later (σ := σ) R f1 q
        simp only [Out.toS] at q2
        cases o2 : g dx y h1 with
        | ok z h2 =>
          rw [o2] at q2
          exact fun ρ2 H2 zv f2 R2 rz => RS.nxt q2 f2 R2 (((Er.fut f1).fut f2).set rz)
        | exc _ _ _ => rw [o2] at q2; exact q2.elim
        | bad => rw [o2] at q2; exact q2.elim
      | exc cx v h1 => rw [o1] at q; exact fun ρ1 H1 dd f R1 r => q ρ1 H1 dd σ f R1 r
      | bad => rw [o1] at q; exact q
end

/-! ### a op1 b op2 c -/
def vChain (f g : D → D → AH → Out D) (a b c : Ev) : Ev := fun rc env h => (a rc env h).bind fun x h1 => (b rc env h1).bind fun y h2 => match okO (f x y h2) with
  | .ok (.bl true) h3 => (c rc env h3).bind fun z h4 => okO (g y z h4)
  | .ok (.bl false) h3 => .ok (.bl false) h3
  | _ => .bad
section
variable {G : Gx} {T : Tb} {c : Cc} {X : Cx} {k : Nat} {rc : Rc} {W : WX}
theorem chain_go {f g : D → D → AH → Out D} {va vb vc : Ev} {σ : L2.St} {H : Hp} {Q : VK} (h : RE T X.K W (vChain f g va vb vc rc) σ H Q) : tChain (rD T X.K f) (rD T X.K g) (RE T X.K W (va rc)) (RE T X.K W (vb rc)) (RE T X.K W (vc rc)) σ H Q := by
  obtain ⟨ρ, env, h0, R, E, q⟩ := RG.bind (rep := Rep T X.K) (e := va rc) (k := fun env x h1 => (vb rc env h1).bind fun y h2 => match okO (f x y h2) with
    | .ok (.bl true) h3 => (vc rc env h3).bind fun z h4 => okO (g y z h4)
    | .ok (.bl false) h3 => .ok (D.bl false) h3
    | _ => .bad) h
  refine ⟨ρ, env, h0, R, E, q.imp fun xv H1 => ?_⟩
  rintro ⟨ρ1, env1, h1, dx, R1, E1, rx, q1⟩
  refine ⟨ρ1, env1, h1, R1, E1, (PostG.bind (rep := Rep T X.K) R1 q1).imp fun yv H2 => ?_⟩
  rintro ⟨ρ2, h2, dy, f2, R2, ry, q2⟩
  refine ⟨ρ2, h2, dx, dy, R2, rx.fut f2, ry, ?_⟩
  cases o : f dx dy h2 with
  | ok z h3 =>
    rw [o] at q2
    cases z with
    | bl b =>
      cases b with
      | false =>
        intro ρ3 H3 v f3 R3 rz
        cases rz
        refine ⟨false, rfl, ?_⟩
        rw [if_neg Bool.false_ne_true]
        exact (show Post T X.K W σ ρ2 H2 (.ok (D.bl false) h3) Q from q2).now f3 R3 .bl
      | true =>
        intro ρ3 H3 v f3 R3 rz
        cases rz
        refine ⟨true, rfl, ?_⟩
        rw [if_pos rfl]
        have q3 := PostG.later R2 f3 q2
        simp only [okO] at q3
        refine ⟨ρ3, env1, h3, R3, (E1.fut f2).fut f3, (PostG.bind (rep := Rep T X.K) R3 q3).imp fun zv H4 => ?_⟩
        rintro ⟨ρ4, h4, dz, f4, R4, rz, q4⟩
        exact ⟨ρ4, h4, dy, dz, R4, (ry.fut f3).fut f4, rz, okO_post q4⟩
    | _ => exact q2.elim
  | exc _ _ _ => rw [o] at q2; exact q2.elim
  | bad => rw [o] at q2; exact q2.elim
theorem se_chain {op op' : CmpOp} {f g : D → D → AH → Out D} {a b e : Expr} {va vb vc : Ev} {pos : Pos} (ho : ∀ W, OpD T X W (compareOp op) f) (ho' : ∀ W, OpD T X W (compareOp op') g) (ha : PE X a (RE T X.K W (va rc))) (hb : PE X b (RE T X.K W (vb rc))) (hc : PE X e (RE T X.K W (vc rc)))
    (hm : lastMarks [op, op'] [b, e] = false) : PE X (.Compare a [op, op'] [b, e] pos) (RE T X.K W (vChain f g va vb vc rc)) :=
  ⟨fun pins s σ H Q I h => (pe_chain (OpD.r ho) (OpD.r ho') ha hb hc hm).run pins s σ H Q I (chain_go h)⟩
theorem st_chain {op op' : CmpOp} {f g : D → D → AH → Out D} {a b e : Expr} {va vb vc : Ev} {pos : Pos} (ho : ∀ W, OpD T X W (compareOp op) f) (ho' : ∀ W, OpD T X W (compareOp op') g) (ha : PE X a (RE T X.K W (va rc))) (hb : PE X b (RE T X.K W (vb rc))) (hc : PE X e (RE T X.K W (vc rc)))
    (hm : lastMarks [op, op'] [b, e] = false) : PT X (.Compare a [op, op'] [b, e] pos) (RT T X.K W (vBl (vChain f g va vb vc) rc)) := by
  refine ⟨fun pins s σ H Q I h => (pt_chain (OpD.r ho) (OpD.r ho') ha hb hc hm).run pins s σ H Q I ?_⟩
  refine chain_go (W := W) (Q := fun z H' => ∃ k, z = V.bl k ∧ Q k H') ?_
  obtain ⟨ρ, env, h0, R, E, q⟩ := RG.bind (rep := Rep T X.K) (e := vChain f g va vb vc rc) (k := fun _ d h1 => match d with | D.bl b => .ok b h1 | _ => .bad) h
  refine ⟨ρ, env, h0, R, E, q.imp fun x H1 => ?_⟩
  rintro ⟨ρ1, env1, h1, d, R1, E1, r1, q1⟩
  cases d with
  | bl b => cases r1; exact ⟨b, rfl, q1.now Fut.refl R1 rfl⟩
  | _ => exact q1.elim
end

/-! ### o[lo:hi] -/
/-- a bound: none written, or an int -/
def vPart (a : Option Ev) : Rc → En → AH → Out (Option Int) := fun rc env h => match a with
  | none => .ok none h
  | some a => (a rc env h).bind fun d h1 => (match d with
    | .int i => .ok (some i) h1
    | _ => .bad)
def cutD (xs : List D) (lo hi : Option Int) : List D := (xs.drop (HT.sIx xs.length 0 lo)).take (HT.sIx xs.length xs.length hi - HT.sIx xs.length 0 lo)
def slO (x : D) (lo hi : Option Int) (h : AH) : Out D := match x with
  | .tup xs => (match Nat.beq (HT.sIx xs.length 0 lo) 0 && Nat.beq (HT.sIx xs.length xs.length hi) xs.length with
    | true => .bad
    | false => .ok (.tup (cutD xs lo hi)) h)
  | _ => (match items x h with
    | some xs => .ok (.obj h.length) (h ++ [.lst (cutD xs lo hi)])
    | none => .bad)
def vSl (a : Ev) (lo hi : Option Ev) : Ev := fun rc env h => (a rc env h).bind fun x h1 => (vPart lo rc env h1).bind fun l h2 => (vPart hi rc env h2).bind fun u h3 => slO x l u h3
section
variable {G : Gx} {T : Tb} {c : Cc} {X : Cx} {k : Nat} {rc : Rc} {W : WX}
theorem Reps.cut {ρ : List Addr} {H : Hp} {K : PySem.W.Frag} {xs : List D} {vs : List V} {lo hi : Option Int} (r : Reps T K ρ H xs vs) : Reps T K ρ H (cutD xs lo hi) (cutV vs lo hi) := by
  unfold cutD cutV
  rw [r.length]
  exact (r.drop _).take _
def OpRep : List Addr → Hp → Option Int → Option Int → Prop := fun _ _ a b => a = b
inductive SPart (T : Tb) (X : Cx) (W : WX) (rc : Rc) : Option Expr → Option Ev → Prop
  | none : SPart T X W rc none none
  | some {e : Expr} {a : Ev} : PE X e (RE T X.K W (a rc)) → SPart T X W rc (some e) (some a)
theorem part_po {e : Option Expr} {a : Option Ev} (h : SPart T X W rc e a) : PO X e (fun σ H Q => RG OpRep T X.K W (vPart a rc) σ H Q) := by
  cases h with
  | none =>
    refine ⟨fun pins s σ H Q I h => po_none.run pins s σ H Q I ?_⟩
    obtain ⟨ρ, env, h0, R, E, q⟩ := h
    exact q.now Fut.refl R rfl
  | some h =>
    rename_i a
    refine ⟨fun pins s σ H Q I h' => (po_some h).run pins s σ H Q I ?_⟩
    obtain ⟨ρ, env, h0, R, E, q⟩ := RG.bind (rep := Rep T X.K) (e := a rc) (k := fun _ d h1 => match d with | .int i => .ok (some i) h1 | _ => .bad) h'
    refine ⟨ρ, env, h0, R, E, q.imp fun x H1 => ?_⟩
    rintro ⟨ρ1, env1, h1, d, R1, E1, r1, q1⟩
    cases d with
    | int i => cases r1; exact ⟨i, rfl, q1.now Fut.refl R1 rfl⟩
    | _ => exact q1.elim
theorem se_slice {e : Expr} {a : Ev} {lo hi : Option Expr} {la ha : Option Ev} {pos p2 : Pos} (he : PE X e (RE T X.K W (a rc))) (hl : SPart T X W rc lo la) (hh : SPart T X W rc hi ha) : PE X (.Subscript e (.Slice lo hi none p2) pos) (RE T X.K W (vSl a la ha rc)) := by
  refine ⟨fun pins s σ H Q I h => (pe_slice (sl_tup.or sl_list) he (part_po hl) (part_po hh)).run pins s σ H Q I ?_⟩
  obtain ⟨ρ, env, h0, R, E, q⟩ := RG.bind (rep := Rep T X.K) (e := a rc) (k := fun env x h1 => (vPart la rc env h1).bind fun l h2 => (vPart ha rc env h2).bind fun u h3 => slO x l u h3) h
  refine ⟨ρ, env, h0, R, E, q.imp fun xv H1 => ?_⟩
  rintro ⟨ρ1, env1, h1, dx, R1, E1, rx, q1⟩
  refine ⟨ρ1, env1, h1, R1, E1, (PostG.bind (rep := OpRep) R1 q1).imp fun lv H2 => ?_⟩
  rintro ⟨ρ2, h2, l, f2, R2, rl, q2⟩
  refine ⟨ρ2, env1, h2, R2, E1.fut f2, (PostG.bind (rep := OpRep) R2 q2).imp fun uv H3 => ?_⟩
  rintro ⟨ρ3, h3, u, f3, R3, ru, q3⟩
  have el : l = lv := rl
  have eu : u = uv := ru
  subst el eu
  have rx3 := (rx.fut f2).fut f3
  have lst : (∀ xs, dx ≠ .tup xs) → (∃ a xs, xv = V.ref a ∧ SqL X.K H3 a xs ∧ ∀ p, H3 p = none → Q (.ref p) (upd H3 p (.lst (cutV xs l u)))) := fun hne => by
    have q4 : Post T X.K W σ ρ3 H3 (match items dx h3 with | some xs => .ok (.obj h3.length) (h3 ++ [.lst (cutD xs l u)]) | none => .bad) Q := by
      cases dx <;> first | exact q3 | exact absurd rfl (hne _)
    cases e1 : items dx h3 with
    | none => rw [e1] at q4; exact q4.elim
    | some xs =>
      rw [e1] at q4
      have ht : isTup dx = false := by cases dx <;> first | rfl | exact absurd rfl (hne _)
      obtain ⟨b, ys, ex, hs, sr⟩ := items_lst R3 rx3 e1 ht
      refine ⟨b, ys, ex, hs, fun p hp => ?_⟩
      obtain ⟨f4, R4, px⟩ := new_lst R3 hp sr.cut
      exact q4.now f4 R4 (.obj px)
  cases dx with
  | tup xs =>
    cases rx3 with
    | tup hs sr =>
      simp only [slO] at q3
      cases e1 : Nat.beq (HT.sIx xs.length 0 l) 0 && Nat.beq (HT.sIx xs.length xs.length u) xs.length with
      | true => rw [e1] at q3; exact q3.elim
      | false =>
        rw [e1] at q3
        refine .inl ⟨_, _, rfl, hs, fun z => ?_, fun p hp => ?_⟩
        · rw [← sr.length] at z
          rw [z.1, z.2] at e1
          simp at e1
        · obtain ⟨f4, R4, px⟩ := new_tup R3 hp sr.cut
          exact q3.now f4 R4 px
  | _ => exact .inr (lst fun _ z => nomatch z)
end

/-! ### dicts -/
def keyB : D → D → Bool
  | .int i, .int j => decide (i = j)
  | .str x, .str y => decide (x = y)
  | _, _ => false
def dFind (kvs : List (D × D)) (d : D) : Option D := match kvs with
  | [] => none
  | p :: r => (match keyB p.1 d with
    | true => some p.2
    | false => dFind r d)
def dRepl (kvs : List (D × D)) (d x : D) : List (D × D) := match kvs with
  | [] => []
  | p :: r => (match keyB p.1 d with
    | true => (p.1, x) :: r
    | false => p :: dRepl r d x)
def dPut (kvs : List (D × D)) (d x : D) : List (D × D) := match dFind kvs d with
  | some _ => dRepl kvs d x
  | none => kvs ++ [(d, x)]
def isKey : D → Bool
  | .int _ => true
  | .str _ => true
  | _ => false
theorem key_of {T : Tb} {K : PySem.W.Frag} {ρ : List Addr} {H : Hp} {d : D} {v : V} (r : Rep T K ρ H d v) (e : isKey d = true) : ∃ k : Key, keyD k = d ∧ v = kV k := by
  cases d with
  | int i => cases r; exact ⟨.inl i, rfl, rfl⟩
  | str x => cases r; exact ⟨.inr ⟨x.toArray⟩, by simp [keyD], rfl⟩
  | _ => cases e
theorem keyB_is (a b : Key) : keyB (keyD a) (keyD b) = decide (a = b) := by
  cases a with
  | inl i => cases b with
    | inl j => exact decide_eq_decide.mpr ⟨fun h => by rw [h], fun h => Sum.inl.inj h⟩
    | inr y => exact (decide_eq_false (fun z => nomatch z)).symm
  | inr x => cases b with
    | inl j => exact (decide_eq_false (fun z => nomatch z)).symm
    | inr y =>
      refine decide_eq_decide.mpr ⟨fun h => ?_, fun h => by rw [Sum.inr.inj h]⟩
      obtain ⟨⟨x⟩⟩ := x
      obtain ⟨⟨y⟩⟩ := y
      have : x = y := h
      rw [this]
theorem dFind_is {T : Tb} {K : PySem.W.Frag} {ρ : List Addr} {H : Hp} {k : Key} : ∀ {kvs : List (D × D)} {ks : List (Key × V)}, kvs.map (·.1) = ks.map (fun q => keyD q.1) → Reps T K ρ H (kvs.map (·.2)) (ks.map (·.2)) →
    match dFind kvs (keyD k) with
    | some x => ∃ v, valV ks k = some v ∧ Rep T K ρ H x v
    | none => valV ks k = none
  | [], [], _, _ => rfl
  | [], _ :: _, e, _ => by cases e
  | _ :: _, [], e, _ => by cases e
  | p :: kvs, q :: ks, e, r => by
    rw [List.map_cons, List.map_cons] at e
    obtain ⟨e1, e2⟩ := List.cons.inj e
    rw [List.map_cons, List.map_cons] at r
    cases r with
    | cons r rs =>
      unfold dFind
      rw [e1, keyB_is]
      by_cases h : q.1 = k
      · rw [decide_eq_true h, valV_pos h]
        exact ⟨_, rfl, r⟩
      · rw [decide_eq_false h, valV_neg h]
        exact dFind_is e2 rs
theorem dRepl_is {T : Tb} {K : PySem.W.Frag} {ρ : List Addr} {H : Hp} {k : Key} {x : D} {y : V} (rx : Rep T K ρ H x y) : ∀ {kvs : List (D × D)} {ks : List (Key × V)}, (ks.map (·.1)).Nodup → kvs.map (·.1) = ks.map (fun q => keyD q.1) → Reps T K ρ H (kvs.map (·.2)) (ks.map (·.2)) →
    (dRepl kvs (keyD k) x).map (·.1) = (ks.map fun kv => if kv.1 = k then (kv.1, y) else kv).map (fun q => keyD q.1) ∧ Reps T K ρ H ((dRepl kvs (keyD k) x).map (·.2)) ((ks.map fun kv => if kv.1 = k then (kv.1, y) else kv).map (·.2))
  | [], [], _, _, _ => ⟨rfl, .nil⟩
  | [], _ :: _, _, e, _ => by cases e
  | _ :: _, [], _, e, _ => by cases e
  | p :: kvs, q :: ks, nd, e, r => by
    rw [List.map_cons, List.map_cons] at e
    obtain ⟨e1, e2⟩ := List.cons.inj e
    rw [List.map_cons, List.map_cons] at r
    rw [List.map_cons] at nd
    obtain ⟨nd1, nd2⟩ := List.nodup_cons.mp nd
    cases r with
    | cons r rs =>
      unfold dRepl
      rw [e1, keyB_is]
      by_cases h : q.1 = k
      · have same : (ks.map fun kv => if kv.1 = k then (kv.1, y) else kv) = ks := by
          conv => rhs; rw [← List.map_id ks]
          refine List.map_congr_left fun z hz => if_neg fun e => nd1 ?_
          rw [h, ← e]
          exact List.mem_map.mpr ⟨z, hz, rfl⟩
        have e3 : ((q :: ks).map fun kv => if kv.1 = k then (kv.1, y) else kv) = (q.1, y) :: ks := by rw [List.map_cons, if_pos h, same]
        rw [decide_eq_true h, e3]
        exact ⟨by show keyD q.1 :: _ = keyD q.1 :: _; rw [e2], .cons rx rs⟩
      · have e3 : ((q :: ks).map fun kv => if kv.1 = k then (kv.1, y) else kv) = q :: (ks.map fun kv => if kv.1 = k then (kv.1, y) else kv) := by rw [List.map_cons, if_neg h]
        rw [decide_eq_false h, e3]
        obtain ⟨a, b⟩ := dRepl_is rx nd2 e2 rs
        refine ⟨?_, ?_⟩
        · rw [List.map_cons, List.map_cons, e1, a]
        · rw [List.map_cons, List.map_cons]
          exact .cons r b
theorem dPut_is {T : Tb} {K : PySem.W.Frag} {ρ : List Addr} {H : Hp} {k : Key} {x : D} {y : V} {kvs : List (D × D)} {ks : List (Key × V)} (rx : Rep T K ρ H x y) (nd : (ks.map (·.1)).Nodup) (e : kvs.map (·.1) = ks.map (fun q => keyD q.1)) (r : Reps T K ρ H (kvs.map (·.2)) (ks.map (·.2))) :
    (dPut kvs (keyD k) x).map (·.1) = (putK ks k y).map (fun q => keyD q.1) ∧ ((putK ks k y).map (·.1)).Nodup ∧ Reps T K ρ H ((dPut kvs (keyD k) x).map (·.2)) ((putK ks k y).map (·.2)) := by
  have f := dFind_is (k := k) e r
  unfold dPut putK
  rw [valV_any]
  cases q : dFind kvs (keyD k) with
  | some z =>
    rw [q] at f
    obtain ⟨v, hv, _⟩ := f
    rw [hv, if_pos (by rfl)]
    obtain ⟨a, b⟩ := dRepl_is (k := k) rx nd e r
    refine ⟨a, ?_, b⟩
    have : (ks.map fun kv => if kv.1 = k then (kv.1, y) else kv).map (·.1) = ks.map (·.1) := by
      rw [List.map_map]
      refine List.map_congr_left fun z _ => ?_
      show (if z.1 = k then (z.1, y) else z).1 = z.1
      split <;> rfl
    rw [this]; exact nd
  | none =>
    rw [q] at f
    have f : valV ks k = none := f
    rw [f, if_neg (by simp)]
    refine ⟨by rw [List.map_append, List.map_append, e]; rfl, ?_, ?_⟩
    · rw [List.map_append, List.nodup_append]
      refine ⟨nd, by simp, fun a ha b hb => ?_⟩
      rintro rfl
      have hb : a = k := by simpa using hb
      subst hb
      obtain ⟨p, hp, e2⟩ := List.mem_map.mp ha
      have := valV_any a ks
      rw [f] at this
      have h2 : (ks.any fun kv => decide (kv.1 = a)) = true := List.any_eq_true.mpr ⟨p, hp, decide_eq_true e2⟩
      rw [h2] at this
      cases this
    · rw [List.map_append, List.map_append]
      exact r.append (.cons rx .nil)
/-- the dict that d names -/
def dctD (d : D) (h : AH) : Option (List (D × D)) := match d with
  | .obj n => (match h[n]? with
    | some (.dct false kvs) => some kvs
    | _ => none)
  | _ => none
def vDNew : Ev := fun _ _ h => .ok (.obj h.length) (h ++ [.dct false []])
def getO (d k x : D) (h : AH) : Out D := match dctD d h with
  | some kvs => (match isKey k with
    | true => (match dFind kvs k with
      | some v => .ok v h
      | none => .ok x h)
    | false => .bad)
  | none => .bad
def vGet2 (o a b : Ev) : Ev := fun rc env h => (o rc env h).bind fun d h1 => match dctD d h1 with
  | some _ => (a rc env h1).bind fun k h2 => (b rc env h2).bind fun x h3 => getO d k x h3
  | none => .bad
def vGet1 (o a : Ev) : Ev := fun rc env h => (o rc env h).bind fun d h1 => match dctD d h1 with
  | some _ => (a rc env h1).bind fun k h2 => getO d k .non h2
  | none => .bad
/-- o[i], a dict too -/
def ixdO (x y : D) (h : AH) : Out D := match dctD x h with
  | some kvs => (match isKey y with
    | true => (match dFind kvs y with
      | some v => .ok v h
      | none => .bad)
    | false => .bad)
  | none => ixO x y h
/-- o[i] = x -/
def setO (o i x : D) (h : AH) : Option AH := match o with
  | .obj n => (match h[n]? with
    | some (.lst xs) => (match i with
      | .int j => (match ixN xs.length j with
        | some m => some (h.set n (.lst (xs.set m x)))
        | none => none)
      | _ => none)
    | some (.dct false kvs) => (match isKey i && Nat.blt kvs.length 16777216 with
      | true => some (h.set n (.dct false (dPut kvs i x)))
      | false => none)
    | _ => none)
  | _ => none
def gSb (o i : Ev) : Gv := fun rc d env h => (o rc env h).toS fun x h1 => (i rc env h1).toS fun y h2 => match setO x y d h2 with
  | some h3 => .nx env h3
  | none => .bad
def appO (o x : D) (h : AH) : Out D := match o with
  | .obj n => (match grow n x h with
    | some h1 => .ok .non h1
    | none => .bad)
  | _ => .bad
def vApp (o a : Ev) : Ev := fun rc env h => (o rc env h).bind fun d h1 => match d with
  | .obj n => (match h1[n]? with
    | some (.lst _) => (a rc env h1).bind fun x h2 => appO d x h2
    | _ => .bad)
  | _ => .bad
section
variable {G : Gx} {T : Tb} {c : Cc} {X : Cx} {k : Nat} {rc : Rc} {W : WX}
theorem dctD_ok {ρ : List Addr} {h : AH} {H : Hp} {d : D} {v : V} {kvs : List (D × D)} (R : HRel T X.K ρ h H) (r : Rep T X.K ρ H d v) (e : dctD d h = some kvs) : ∃ n a ks, d = .obj n ∧ v = .ref a ∧ ρ[n]? = some a ∧ h[n]? = some (.dct false kvs) ∧ H a = some (.dK ks) ∧ kvs.map (·.1) = ks.map (fun q => keyD q.1) ∧ (ks.map (·.1)).Nodup ∧ Reps T X.K ρ H (kvs.map (·.2)) (ks.map (·.2)) := by
  cases d with
  | obj n =>
    cases r with
    | obj hn =>
      simp only [dctD] at e
      cases q : h[n]? with
      | none => rw [q] at e; cases e
      | some o =>
        rw [q] at e
        cases o with
        | dct tg kv =>
          cases tg with
          | true => cases e
          | false =>
            cases e
            rcases R.obj n _ _ hn q with ⟨ks, et, z, e, nd, r⟩ | ⟨ks, et, z, e, nd, r⟩
            · exact ⟨n, _, ks, rfl, rfl, hn, q, z, e, nd, r⟩
            · cases et
        | lst _ => cases e
        | ins _ _ => cases e
  | _ => cases e
theorem se_dnew {pos : Pos} : PE X (.Dict [] [] pos) (RE T X.K W (vDNew rc)) := by
  refine ⟨fun pins s σ H Q I h => pe_dnewK.run pins s σ H Q I ?_⟩
  obtain ⟨ρ, env, h0, R, E, q⟩ := h
  intro p hp
  have f := fut_num (K := X.K) (ρ := ρ) hp (fut_new (K := X.K) (ρ := ρ) (w := .dK []) hp)
  exact q.now f (R.num hp (fun _ z => nomatch z) (.inl ⟨[], rfl, upd_same, rfl, .nil, .nil⟩)) (.obj (by rw [← R.len]; simp))
/-- what stands at a key -/
theorem get_at {ρ : List Addr} {h : AH} {H : Hp} {d k x : D} {v kv xv : V} {Q : VK} {σ : L2.St} (R : HRel T X.K ρ h H) (rd : Rep T X.K ρ H d v) (rk : Rep T X.K ρ H k kv) (rx : Rep T X.K ρ H x xv) (p : Post T X.K W σ ρ H (getO d k x h) Q) : ∃ a o, v = .ref a ∧ IsD H a ∧ DGet H a kv o ∧ Q (o.getD xv) H := by
  unfold getO at p
  cases e1 : dctD d h with
  | none => rw [e1] at p; exact p.elim
  | some kvs =>
    rw [e1] at p
    simp only at p
    obtain ⟨n, a, ks, z1, z2, z3, z4, z5, z6, z7, z8⟩ := dctD_ok R rd e1
    cases e2 : isKey k with
    | false => rw [e2] at p; exact p.elim
    | true =>
      rw [e2] at p
      obtain ⟨kk, ek, ev⟩ := key_of rk e2
      subst ek ev z2
      have f := dFind_is (k := kk) z6 z8
      refine ⟨a, valV ks kk, rfl, .inl ⟨ks, .inl z5⟩, DGet.k z5, ?_⟩
      simp only at p
      cases e3 : dFind kvs (keyD kk) with
      | some y =>
        rw [e3] at p f
        obtain ⟨w, hw, rw'⟩ := f
        rw [hw]
        exact p.now Fut.refl R rw'
      | none =>
        rw [e3] at p f
        have f : valV ks kk = none := f
        rw [f]
        exact p.now Fut.refl R rx
theorem se_get2 (ok : Ok G T c X k rc W) {o e f : Expr} {vo va vb : Ev} {apos cpos : Pos} (ho : PE X o (RE T X.K W (vo rc))) (he : PE X e (RE T X.K W (va rc))) (hf : PE X f (RE T X.K W (vb rc))) (m : M2 X o "get" apos e f cpos) :
    PE X (.Call (.Attribute o "get" apos) [e, f] [] cpos) (RE T X.K W (vGet2 vo va vb rc)) := by
  refine ⟨fun pins s σ H Q I h => (pe_dget2 (by have := ok.room.un; omega) ho he hf m).run pins s σ H Q I ?_⟩
  obtain ⟨ρ, env, h0, R, E, q⟩ := RG.bind (rep := Rep T X.K) (e := vo rc) (k := fun env d h1 => match dctD d h1 with
    | some _ => (va rc env h1).bind fun k h2 => (vb rc env h2).bind fun x h3 => getO d k x h3
    | none => .bad) h
  refine ⟨ρ, env, h0, R, E, q.imp fun v H1 => ?_⟩
  rintro ⟨ρ1, env1, h1, d, R1, E1, rd, q1⟩
  cases e1 : dctD d h1 with
  | none => rw [e1] at q1; exact q1.elim
  | some kvs =>
    rw [e1] at q1
    obtain ⟨n, a, ks, z1, z2, z3, z4, z5, z6, z7, z8⟩ := dctD_ok R1 rd e1
    refine ⟨a, z2, .inl ⟨ks, .inl z5⟩, ρ1, env1, h1, R1, E1, (PostG.bind (rep := Rep T X.K) R1 q1).imp fun kv H2 => ?_⟩
    rintro ⟨ρ2, h2, k, f2, R2, rk, q2⟩
    refine ⟨ρ2, env1, h2, R2, E1.fut f2, (PostG.bind (rep := Rep T X.K) R2 q2).imp fun xv H3 => ?_⟩
    rintro ⟨ρ3, h3, x, f3, R3, rx, q3⟩
    obtain ⟨b, oo, eb, _, g, qq⟩ := get_at R3 ((rd.fut f2).fut f3) (rk.fut f3) rx q3
    rw [z2] at eb
    cases eb
    exact ⟨oo, g, qq⟩
theorem se_get1 (ok : Ok G T c X k rc W) {o e : Expr} {vo va : Ev} {apos cpos : Pos} (ho : PE X o (RE T X.K W (vo rc))) (he : PE X e (RE T X.K W (va rc))) (m : M1 X o "get" apos e cpos) :
    PE X (.Call (.Attribute o "get" apos) [e] [] cpos) (RE T X.K W (vGet1 vo va rc)) := by
  refine ⟨fun pins s σ H Q I h => (pe_dget1 (by have := ok.room.un; omega) ho he m).run pins s σ H Q I ?_⟩
  obtain ⟨ρ, env, h0, R, E, q⟩ := RG.bind (rep := Rep T X.K) (e := vo rc) (k := fun env d h1 => match dctD d h1 with
    | some _ => (va rc env h1).bind fun k h2 => getO d k D.non h2
    | none => .bad) h
  refine ⟨ρ, env, h0, R, E, q.imp fun v H1 => ?_⟩
  rintro ⟨ρ1, env1, h1, d, R1, E1, rd, q1⟩
  cases e1 : dctD d h1 with
  | none => rw [e1] at q1; exact q1.elim
  | some kvs =>
    rw [e1] at q1
    obtain ⟨n, a, ks, z1, z2, z3, z4, z5, z6, z7, z8⟩ := dctD_ok R1 rd e1
    refine ⟨a, z2, .inl ⟨ks, .inl z5⟩, ρ1, env1, h1, R1, E1, (PostG.bind (rep := Rep T X.K) R1 q1).imp fun kv H2 => ?_⟩
    rintro ⟨ρ2, h2, k, f2, R2, rk, q2⟩
    obtain ⟨b, oo, eb, _, g, qq⟩ := get_at R2 (rd.fut f2) rk .non q2
    rw [z2] at eb
    cases eb
    exact ⟨oo, g, qq⟩
/-- a subscript, a dict's too -/
theorem se_ixd (ok : Ok G T c X k rc W) {a b : Expr} {ea eb : Ev} {pos : Pos} (ha : PE X a (RE T X.K W (ea rc))) (hb : PE X b (RE T X.K W (eb rc))) (hs : PlainIx b) (hn : NoSl b) : PE X (.Subscript a b pos) (RE T X.K W (vB ixdO ea eb rc)) := by
  have h1 : IxR X (fun x y H Q => ∃ a v, x = .ref a ∧ DGet H a y (some v) ∧ Q v H) := by
    intro value slice pins s σ H x y v u Q I rx ry h hh
    obtain ⟨a, w, rfl, g, q⟩ := h
    cases rx
    exact tail_any (dict_typeIs I g) PySem.F.slot_dict_getitem.lookup (d_getItem (by have := ok.room.un; omega) I g ry fun w' s3 I3 rw' => ⟨w, H, I3, rw', q⟩) hh
  refine ⟨fun pins s σ H Q I h => ?_⟩
  refine Subscript_ (binT ha hb I (RG.bind2 h) fun v u s2 x y H2 I2 rx ry ⟨ρ, h, dx, dy, R, r1, r2, q⟩ => ?_)
  refine (h1.or ix_seq) a b pins s2 σ H2 x y v u Q I2 rx ry ?_ (hs _ _)
  unfold ixdO at q
  cases e1 : dctD dx h with
  | none => rw [e1] at q; exact .inr (ix_ok R r1 r2 q)
  | some kvs =>
    rw [e1] at q
    simp only at q
    obtain ⟨n, p, ks, z1, z2, z3, z4, z5, z6, z7, z8⟩ := dctD_ok R r1 e1
    cases e2 : isKey dy with
    | false => rw [e2] at q; exact q.elim
    | true =>
      rw [e2] at q
      obtain ⟨kk, ek, ev⟩ := key_of r2 e2
      subst ek ev
      have f := dFind_is (k := kk) z6 z8
      simp only at q
      cases e3 : dFind kvs (keyD kk) with
      | none => rw [e3] at q; exact q.elim
      | some w =>
        rw [e3] at q f
        obtain ⟨wv, hw, rw'⟩ := f
        exact .inl ⟨p, wv, z2, by rw [← hw]; exact DGet.k z5, q.now Fut.refl R rw'⟩
/-! ### stores -/
theorem set_ok {ρ : List Addr} {h h' : AH} {H : Hp} {o i x : D} {ov iv xv : V} {Q : Hp → Prop} (R : HRel T X.K ρ h H) (ro : Rep T X.K ρ H o ov) (ri : Rep T X.K ρ H i iv) (rx : Rep T X.K ρ H x xv) (e : setO o i x h = some h') (q : ∀ H', Fut X.K ρ H ρ H' → HRel T X.K ρ h' H' → Q H') : rSetL ov iv xv H Q ∨ rSetD ov iv xv H Q := by
  cases o with
  | obj n =>
    cases ro with
    | obj hn =>
      rename_i a
      simp only [setO] at e
      cases e1 : h[n]? with
      | none => rw [e1] at e; cases e
      | some ob =>
        rw [e1] at e
        cases ob with
        | lst xs =>
          simp only at e
          cases i with
          | int j =>
            cases ri
            simp only at e
            cases e2 : ixN xs.length j with
            | none => rw [e2] at e; cases e
            | some m =>
              rw [e2] at e
              cases e
              obtain ⟨ys, hy, ry⟩ := R.obj n a _ hn e1
              have f := fut_upd (K := X.K) (ρ := ρ) (w := .lst (ys.set m xv)) hy soft_lst (List.mem_of_getElem? hn)
              exact .inl ⟨a, ys, j, m, rfl, rfl, hy, by rw [← ry.length]; exact e2, q _ f (R.upd hn hy soft_lst (fun _ z => nomatch z) ⟨_, upd_same, (Reps.set rx m ry).fut f⟩)⟩
          | _ => cases e
        | dct tg kvs =>
          cases tg with
          | true => cases e
          | false =>
            simp only at e
            cases e2 : isKey i && Nat.blt kvs.length 16777216 with
            | false => rw [e2] at e; cases e
            | true =>
              rw [e2] at e
              cases e
              obtain ⟨e3, e4⟩ := Bool.and_eq_true_iff.mp e2
              obtain ⟨kk, ek, ev⟩ := key_of ri e3
              subst ek ev
              rcases R.obj n a _ hn e1 with ⟨ks, et, z, ee, nd, r⟩ | ⟨ks, et, z, ee, nd, r⟩
              · obtain ⟨p1, p2, p3⟩ := dPut_is (k := kk) rx nd ee r
                have f := fut_upd (K := X.K) (ρ := ρ) (w := .dK (putK ks kk xv)) z soft_dK (List.mem_of_getElem? hn)
                have hl : ks.length < sizeLine := by
                  have h1 : kvs.length = ks.length := by
                    have := congrArg List.length ee
                    rw [List.length_map, List.length_map] at this
                    exact this
                  rw [sizeLine_eq, ← h1]
                  simpa [Nat.blt_eq] using e4
                exact .inr ⟨a, _, rfl, DPut.k z hl, q _ f (R.upd hn z soft_dK (fun _ z => nomatch z) (.inl ⟨_, rfl, upd_same, p1, p2, p3.fut f⟩))⟩
              · cases et
        | ins _ _ => cases e
  | _ => cases e
theorem PSet.or {r r' : TSet} (h : PSet X r) (h' : PSet X r') : PSet X (fun o i v H Q => r o i v H Q ∨ r' o i v H Q) := by
  intro pins s σ H o i v ov iv u Q I ro ri rv q
  rcases q with q | q
  · exact h pins s σ H o i v ov iv u Q I ro ri rv q
  · exact h' pins s σ H o i v ov iv u Q I ro ri rv q
theorem plg_sb {o i : Ev} : Plg (gSb o i) := fun rc d env h => by
  unfold gSb
  cases o rc env h with
  | ok x h1 =>
    simp only [Out.toS]
    cases i rc env h1 with
    | ok y h2 =>
      simp only
      cases setO x y d h2 <;> exact ⟨fun _ _ z => (nomatch z), fun _ _ z => (nomatch z), fun _ _ z => (nomatch z)⟩
    | _ => exact ⟨fun _ _ z => (nomatch z), fun _ _ z => (nomatch z), fun _ _ z => (nomatch z)⟩
  | _ => exact ⟨fun _ _ z => (nomatch z), fun _ _ z => (nomatch z), fun _ _ z => (nomatch z)⟩
theorem sg_sub (ok : Ok G T c X k rc W) {o i : Expr} {vo vi : Ev} {pos : Pos} (ho : PE X o (RE T X.K W (vo rc))) (hi : PE X i (RE T X.K W (vi rc)))
    (ha : ∀ v, assign (.Subscript o i pos) X.env v = (do
      let ov ← holding [v] (eval o X.env)
      let iv ← holding [v, ov] (eval i X.env)
      standAt pos
      holding [v, ov, iv] (setItem ov iv v)
      release [v, ov, iv] [])) : PG X (.Subscript o i pos) (RGt T X.K W [] (gSb vo vi rc)) := by
  refine ⟨fun pins s σ H v u Q I r h => (pg_sub ho hi (DC.PSet.or set_list (set_dict (by have := ok.room.un; omega))) ha).run pins s σ H v u Q I r ?_⟩
  obtain ⟨ρ, env, h0, d, R, E, rd, q⟩ := h
  simp only [gSb] at q
  refine ⟨ρ, env, h0, R, E, ?_⟩
  cases o1 : vo rc env h0 with
  | ok x h1 =>
    rw [o1] at q
    intro ρ1 H1 xv f1 R1 rx
    have q1 := PostS.later (σ := σ) R f1 q
    simp only [Out.toS] at q1
    refine ⟨ρ1, env, h1, R1, E.fut f1, ?_⟩
    cases o2 : vi rc env h1 with
    | ok y h2 =>
      rw [o2] at q1
      intro ρ2 H2 yv f2 R2 ry
      have q2 := PostS.later (σ := σ) R1 f2 q1
      simp only at q2
      cases e : setO x y d h2 with
      | none => rw [e] at q2; exact q2.elim
      | some h3 =>
        rw [e] at q2
        exact set_ok R2 (rx.fut f2) ry ((rd.fut f1).fut f2) e fun H' f3 R3 => RS.nxt q2 f3 R3 (((E.fut f1).fut f2).fut f3) Onl.refl
    | exc cx v h2 => rw [o2] at q1; exact fun ρ2 H2 dd f R2 r => q1 ρ2 H2 dd σ f R2 r
    | bad => rw [o2] at q1; exact q1
  | exc cx v h1 => rw [o1] at q; exact fun ρ1 H1 dd f R1 r => q ρ1 H1 dd σ f R1 r
  | bad => rw [o1] at q; exact q
end
end DC
/-! Dc13: append, repr, list(range(..)), sorted(a dict), min of tuples. -/
namespace DC
open PySem PySem.Spec PyProof.Rows L2
section
variable {G : Gx} {T : Tb} {c : Cc} {X : Cx} {k : Nat} {rc : Rc} {W : WX}
theorem se_app {o e : Expr} {vo va : Ev} {apos cpos : Pos} (ho : PE X o (RE T X.K W (vo rc))) (he : PE X e (RE T X.K W (va rc))) (hs : starEach [e] X.env = (false, eval e X.env) :: starEach [] X.env)
    (hbase : attributeBase o "append" X.env (eval o X.env) = eval o X.env)
    (hfew : ((backTo cpos (starEach [e] X.env)).all (fun x => !x.1) && (backToKw cpos (keywordEach [] X.env)).all (fun x => x.1.isSome)
      && decide ([e].length + ([] : List Keyword).length + (if ([] : List Keyword).isEmpty then 0 else 1) < 30)) = true)
    (hline : (apos.endLine == cpos.line) = true) : PE X (.Call (.Attribute o "append" apos) [e] [] cpos) (RE T X.K W (vApp vo va rc)) := by
  refine ⟨fun pins s σ H Q I h => (pe_bm (T := "list") PySem.F.plainAttrs_list PySem.F.slot_list_append PySem.F.type_list_append (show MtR X "list.append" rAppend from mt_append) ho (pa_cons he pa_nil hs) hbase hfew hline hs (by rfl)).run pins s σ H Q I ?_⟩
  obtain ⟨ρ, env, h0, R, E, q⟩ := RG.bind (rep := Rep T X.K) (e := vo rc) (k := fun env d h1 => match d with
    | .obj n => (match h1[n]? with
      | some (.lst _) => (va rc env h1).bind fun x h2 => appO d x h2
      | _ => .bad)
    | _ => .bad) h
  refine ⟨ρ, env, h0, R, E, q.imp fun v H1 => ?_⟩
  rintro ⟨ρ1, env1, h1, d, R1, E1, rd, q1⟩
  cases d with
  | obj n =>
    simp only at q1
    cases e1 : h1[n]? with
    | none => rw [e1] at q1; exact q1.elim
    | some ob =>
      rw [e1] at q1
      cases ob with
      | lst xs =>
        simp only at q1
        cases rd with
        | obj hn =>
          rename_i a
          obtain ⟨ys, hy, ry⟩ := R1.obj n a _ hn e1
          refine ⟨.inl ⟨rfl, ys, SqL.of hy⟩, ρ1, env1, h1, R1, E1, (PostG.bind (rep := Rep T X.K) R1 q1).imp fun xv H2 => ?_⟩
          rintro ⟨ρ2, h2, x, f2, R2, rx, q2⟩
          simp only [appO] at q2
          cases e2 : grow n x h2 with
          | none => rw [e2] at q2; exact q2.elim
          | some h3 =>
            rw [e2] at q2
            obtain ⟨acc, hacc, hl, f3, R3⟩ := grow_ok R2 (f2.pre _ _ hn) rx e2
            exact ⟨a, acc, xv, rfl, rfl, hacc, hl, q2.now f3 R3 .non⟩
      | dct _ _ => exact q1.elim
      | ins _ _ => exact q1.elim
  | _ => exact q1.elim
end

/-! ### repr -/
def bRepr : Bo := fun ds h => match ds with
  | [d] => (match toP 40 h d with
    | some p => (match p.showable && Nat.ble p.shown.length 16777216 && (Nat.ble p.depth 60 && !p.hasDict) with
      | true => (match p with
        | .list _ => none
        | .dict _ => none
        | _ => some (.str p.shown.cps.toList, h))
      | false => none)
    | none => none)
  | _ => none
section
variable {G : Gx} {T : Tb} {c : Cc} {X : Cx} {k : Nat} {rc : Rc} {W : WX}
theorem repr_str {ρ : List Addr} {H : Hp} {z : Str} : Rep T X.K ρ H (.str z.cps.toList) (.str z) := by
  have : Rep T X.K ρ H (.str z.cps.toList) (.str ⟨z.cps.toList.toArray⟩) := .str
  simpa using this
theorem bl_repr (hun : X.A.units + 200 < cLine) (gu : X.A.guards = some []) : Blt T X (.builtin "repr") bRepr := by
  intro pins s σ H xs us Q I rv hh
  obtain ⟨ρ, h, ds, d, h2, R, rs, e, q⟩ := hh
  unfold bRepr at e
  split at e
  · rename_i d'
    obtain ⟨v, rfl, r1⟩ := reps1 rs
    obtain ⟨u, rfl, ru⟩ := vals1 rv
    cases e1 : toP 40 h d' with
    | none => rw [e1] at e; cases e
    | some p =>
      rw [e1] at e
      simp only at e
      cases e2 : p.showable && Nat.ble p.shown.length 16777216 && (Nat.ble p.depth 60 && !p.hasDict) with
      | false => rw [e2] at e; cases e
      | true =>
        rw [e2] at e
        obtain ⟨e3, e5⟩ := Bool.and_eq_true_iff.mp e2
        obtain ⟨e3, e4⟩ := Bool.and_eq_true_iff.mp e3
        have hz : p.shown.length ≤ sizeLine := by rw [sizeLine_eq]; exact Nat.le_of_ble_eq_true e4
        obtain ⟨e5, e6⟩ := Bool.and_eq_true_iff.mp e5
        have hdp := Nat.le_of_ble_eq_true e5
        have dp := toP_ok R r1 e1
        obtain ⟨as, rd⟩ := Dp.reads I p v u dp ru
        have fin : ∀ (h' : Heap) (tk : Tok) (t : Tok), (∀ b o, s.heap.get? b = some o → h'.get? b = some o) → d = .str p.shown.cps.toList → h2 = h → EP X pins σ Q (.str p.shown t) { s with heap := h', toks := tk } := fun h' tk t hk ed eh => by
          subst ed eh
          exact ⟨.str p.shown, H, I.kept hk, ⟨t, rfl⟩, q ρ H _ Fut.refl R repr_str⟩
        cases rd with
        | none => cases e; exact P.repr_of_none (fin _ _ _ (fun _ _ z => z) rfl rfl)
        | bool b =>
          cases e
          exact P.repr_of_bool (by
            have z := fin s.heap (s.toks + 1) s.toks (fun _ _ z => z) rfl rfl
            simpa only [PyData.shown] using z)
        | int i t =>
          cases e
          exact P.repr_of_int (by simpa [PyData.showable] using e3) (by
            have z := fin s.heap (s.toks + 1) s.toks (fun _ _ z => z) rfl rfl
            simpa only [PyData.shown] using z)
        | str x t =>
          cases e
          exact P.repr_of_str (by
            have z := fin s.heap (s.toks + 1) s.toks (fun _ _ z => z) rfl rfl
            simpa only [PyData.shown] using z) (by simpa only [PyData.shown] using hz)
        | list => cases e
        | dict => cases e
        | @tuple a o vs n xs as h1 h2' h3 h4 =>
          cases e
          have hz' : (tupleText (PyData.shownAll xs)).length ≤ sizeLine := by simpa only [PyData.shown] using hz
          have nd : PyData.hasDictAll xs = false := by
            have z : PyData.hasDict (.tuple xs) = false := by simpa using e6
            simpa only [PyData.hasDict] using z
          obtain ⟨bs, hb, hk⟩ := ReprAllK.of_readsAll (prog := X.prog) (w := X.w) h4 (by simpa [PyData.showable] using e3) (fun hx => by rw [nd] at hx; cases hx) (fun t ht => Nat.le_trans (tupleText_mem_le ht) hz')
          have r : Reads s.heap (.ref a) (.tuple xs) _ := .tuple h1 h2' h3 h4
          have hna : a ∉ bs := not_mem_of_deeper r (by simp only [PyData.depth]; omega) hb
          refine call_repr_slot (by omega) ⟨o, h1, h2'⟩ F.slot_tuple_repr (call_tuple_reprK h1 h2' h3 hna hk (g := []) gu (fun b _ => Clear.nil b) ?_ (fun _ _ z => z) (fun h' u tk hkp => ⟨_, u, rfl, ?_⟩) hz')
          · show X.A.units + 1 + (PyData.depthAll xs + 1) < cLine
            simp only [PyData.depth] at hdp
            omega
          · have z := fin h' tk u hkp rfl rfl
            simpa only [PyData.shown] using z
  · cases e
end

/-! ### list(range(..)) -/
def vLstRg1 (a : Ev) : Ev := fun rc env h => (a rc env h).bind fun d h1 => match d with
  | .int j => (match rgOk j && Nat.ble j.toNat 16777216 with
    | true => .ok (.obj h1.length) (h1 ++ [.lst ((List.range j.toNat).map fun i => .int ((i : Nat) : Int))])
    | false => .bad)
  | _ => .bad
section
variable {G : Gx} {T : Tb} {c : Cc} {X : Cx} {k : Nat} {rc : Rc} {W : WX}
theorem reps_rg {ρ : List Addr} {H : Hp} {K : PySem.W.Frag} {j : Int} : Reps T K ρ H ((List.range j.toNat).map fun i => D.int ((i : Nat) : Int)) (rgV 0 j) := by
  have : rgV 0 j = ((List.range j.toNat).map fun i => ((i : Nat) : Int)).map V.int := by
    unfold rgV
    rw [List.map_map, Int.sub_zero]
    refine List.map_congr_left fun i _ => ?_
    show V.int (0 + (i : Int)) = V.int (i : Int)
    rw [Int.zero_add]
  rw [this]
  have e : ((List.range j.toNat).map fun i => D.int ((i : Nat) : Int)) = ((List.range j.toNat).map fun i => ((i : Nat) : Int)).map D.int := by rw [List.map_map]; rfl
  rw [e]
  exact Reps.ints
theorem se_lstRg1 (ok : Ok G T c X k rc W) {e : Expr} {a : Ev} {p p2 pos pos2 : Pos} (hl : Gl X "list") (ml : X.mg "list" = none) (hg : Gl X "range") (hm : X.mg "range" = none) (he : PE X e (RE T X.K W (a rc))) (na : starEach [e] X.env = (false, eval e X.env) :: starEach [] X.env)
    (nb : starEach [.Call (.Name "range" p2) [e] [] pos2] X.env = (false, eval (.Call (.Name "range" p2) [e] [] pos2) X.env) :: starEach [] X.env) :
    PE X (.Call (.Name "list" p) [.Call (.Name "range" p2) [e] [] pos2] [] pos) (RE T X.K W (vLstRg1 a rc)) := by
  refine ⟨fun pins s σ H Q I h => (pe_listRg ok.calm hl ml (prg_1 hg hm he na) nb).run pins s σ H Q I ?_⟩
  obtain ⟨ρ, env, h0, R, E, q⟩ := RG.bind (rep := Rep T X.K) (e := a rc) (k := fun _ d h1 => match d with
    | .int j => (match rgOk j && Nat.ble j.toNat 16777216 with
      | true => .ok (D.obj h1.length) (h1 ++ [.lst ((List.range j.toNat).map fun i => D.int ((i : Nat) : Int))])
      | false => .bad)
    | _ => .bad) h
  refine ⟨ρ, env, h0, R, E, q.imp fun v H1 => ?_⟩
  rintro ⟨ρ1, env1, h1, d, R1, E1, rd, q1⟩
  cases d with
  | int j =>
    cases rd
    simp only at q1
    cases e1 : rgOk j && Nat.ble j.toNat 16777216 with
    | false => rw [e1] at q1; exact q1.elim
    | true =>
      rw [e1] at q1
      obtain ⟨e2, e3⟩ := Bool.and_eq_true_iff.mp e1
      obtain ⟨b1, b2⟩ := rgOk_is e2
      refine ⟨j, rfl, ⟨by decide, by decide, b1, b2, by rw [Int.sub_zero]; exact Nat.le_of_ble_eq_true e3⟩, fun l hl => ?_⟩
      obtain ⟨f2, R2, px⟩ := new_lst R1 hl (reps_rg (j := j))
      exact q1.now f2 R2 (.obj px)
  | _ => exact q1.elim
end

/-! ### sorted(a dict of int keys) -/
def insI (x : Int) : List Int → List Int
  | [] => [x]
  | y :: r => (match decide (x ≤ y) with
    | true => x :: y :: r
    | false => y :: insI x r)
def sortI : List Int → List Int
  | [] => []
  | x :: r => insI x (sortI r)
theorem insI_perm (x : Int) : ∀ l : List Int, (insI x l).Perm (x :: l)
  | [] => .refl _
  | y :: r => by
    unfold insI
    cases decide (x ≤ y) with
    | true => exact .refl _
    | false => exact ((insI_perm x r).cons y).trans (.swap x y r)
theorem sortI_perm : ∀ l : List Int, (sortI l).Perm l
  | [] => .refl _
  | x :: r => (insI_perm x _).trans ((sortI_perm r).cons x)
theorem insI_sorted {x : Int} : ∀ {l : List Int}, l.Pairwise (· ≤ ·) → (insI x l).Pairwise (· ≤ ·)
  | [], _ => by unfold insI; simp
  | y :: r, h => by
    unfold insI
    by_cases e : x ≤ y
    · rw [decide_eq_true e]
      refine List.pairwise_cons.mpr ⟨fun z hz => ?_, h⟩
      rcases List.mem_cons.mp hz with rfl | hz
      · exact e
      · exact Int.le_trans e ((List.pairwise_cons.mp h).1 z hz)
    · rw [decide_eq_false e]
      refine List.pairwise_cons.mpr ⟨fun z hz => ?_, insI_sorted (List.pairwise_cons.mp h).2⟩
      rcases List.mem_cons.mp ((insI_perm x r).mem_iff.mp hz) with rfl | hz
      · omega
      · exact (List.pairwise_cons.mp h).1 z hz
theorem sortI_sorted : ∀ l : List Int, (sortI l).Pairwise (· ≤ ·)
  | [] => .nil
  | _ :: r => insI_sorted (sortI_sorted r)
theorem sorted_eq {a b : List Int} (p : a.Perm b) (ha : a.Pairwise (· ≤ ·)) (hb : b.Pairwise (· ≤ ·)) : a = b := p.eq_of_pairwise (fun _ _ _ _ h1 h2 => Int.le_antisymm h1 h2) ha hb
def bSortedD : Bo := fun ds h => match ds with
  | [d] => (match dctD d h with
    | some kvs => (match allInt (kvs.map (·.1)) with
      | some ks => (match Nat.blt ks.length 64 with
        | true => some (.obj h.length, h ++ [.lst ((sortI ks).map D.int)])
        | false => none)
      | none => none)
    | none => none)
  | _ => none
/-- sorted(a list of ints) -/
def bSortedL : Bo := fun ds h => match ds with
  | [d] => (match isTup d with
    | true => none
    | false => (match items d h with
      | some xs => (match allInt xs with
        | some ks => (match Nat.blt ks.length 64 with
          | true => some (.obj h.length, h ++ [.lst ((sortI ks).map D.int)])
          | false => none)
        | none => none)
      | none => none))
  | _ => none
section
variable {G : Gx} {T : Tb} {c : Cc} {X : Cx} {k : Nat} {rc : Rc} {W : WX}
theorem allInt_is : ∀ {xs : List D} {ks : List Int}, allInt xs = some ks → xs = ks.map D.int
  | [], _, e => by cases e; rfl
  | .int b :: xs, bs, e => by
    unfold allInt at e
    cases q : allInt xs with
    | none => rw [q] at e; cases e
    | some cs => rw [q] at e; cases e; rw [allInt_is q]; rfl
  | .non :: _, _, e => by cases e
  | .bl _ :: _, _, e => by cases e
  | .str _ :: _, _, e => by cases e
  | .tup _ :: _, _, e => by cases e
  | .lsq _ :: _, _, e => by cases e
  | .obj _ :: _, _, e => by cases e
  | .fn _ :: _, _, e => by cases e
  | .cls _ :: _, _, e => by cases e
theorem bl_sortedD (hc : X.calm = true) : Blt T X (.builtin "sorted") bSortedD := blt_by (call_sortedDI hc) fun ρ h H ds vs d h2 Q R rs e q => by
  unfold bSortedD at e
  split at e
  · rename_i d'
    obtain ⟨v, rfl, r1⟩ := reps1 rs
    cases e1 : dctD d' h with
    | none => rw [e1] at e; cases e
    | some kvs =>
      rw [e1] at e
      simp only at e
      obtain ⟨n, a, ks, z1, z2, z3, z4, z5, z6, z7, z8⟩ := dctD_ok R r1 e1
      cases e2 : allInt (kvs.map (·.1)) with
      | none => rw [e2] at e; cases e
      | some is =>
        rw [e2] at e
        simp only at e
        cases e3 : Nat.blt is.length 64 with
        | false => rw [e3] at e; cases e
        | true =>
          rw [e3] at e
          cases e
          have k1 : ks.map (·.1) = is.map Sum.inl := by
            have h1 := (allInt_is e2).symm.trans z6
            have h2 : is.map D.int = (ks.map (·.1)).map keyD := by rw [h1, List.map_map]; rfl
            clear h1 z6 z8 z7 z5 e2 e3 q e1
            generalize ks.map (·.1) = us at h2 ⊢
            induction is generalizing us with
            | nil => cases us with
              | nil => rfl
              | cons _ _ => cases h2
            | cons i is ih => cases us with
              | nil => cases h2
              | cons u us =>
                rw [List.map_cons, List.map_cons] at h2
                obtain ⟨h3, h4⟩ := List.cons.inj h2
                cases u with
                | inl j => cases h3; rw [List.map_cons, ih us h4]
                | inr x => cases h3
          subst z2
          refine ⟨a, ks, is, rfl, .inl z5, k1, by simpa [Nat.blt_eq] using e3, fun ys p hp hs hn => ?_⟩
          obtain rfl := sorted_eq (hp.trans (sortI_perm is).symm) hs (sortI_sorted is)
          obtain ⟨f2, R2, px⟩ := new_lst R hn (Reps.ints (xs := sortI is))
          exact q _ _ _ f2 R2 (.obj px)
  · cases e
theorem bl_sortedL : Blt T X (.builtin "sorted") bSortedL := blt_by cr_sorted fun ρ h H ds vs d h2 Q R rs e q => by
  unfold bSortedL at e
  split at e
  · rename_i d'
    obtain ⟨v, rfl, r1⟩ := reps1 rs
    cases ht : isTup d' with
    | true => rw [ht] at e; cases e
    | false =>
      rw [ht] at e
      simp only at e
      cases e1 : items d' h with
      | none => rw [e1] at e; cases e
      | some xs =>
        rw [e1] at e
        simp only at e
        cases e2 : allInt xs with
        | none => rw [e2] at e; cases e
        | some is =>
          rw [e2] at e
          simp only at e
          cases e3 : Nat.blt is.length 64 with
          | false => rw [e3] at e; cases e
          | true =>
            rw [e3] at e
            cases e
            obtain ⟨a, ys, ex, hs, sr⟩ := items_lst R r1 e1 ht
            subst ex
            obtain rfl := ints_of e2 sr
            refine ⟨a, is, rfl, hs, by simpa [Nat.blt_eq] using e3, fun ys p hp hs hn => ?_⟩
            obtain rfl := sorted_eq (hp.trans (sortI_perm is).symm) hs (sortI_sorted is)
            obtain ⟨f2, R2, px⟩ := new_lst R hn (Reps.ints (xs := sortI is))
            exact q _ _ _ f2 R2 (.obj px)
  · cases e
end
end DC
/-! Dc15: raise, try. -/
namespace DC
open PySem PySem.Spec PyProof.Rows L2
/-! ### several clauses, with or without a name -/
structure Hd where
  c : Value
  i : Option Nat
  ts : Addr → Value → Option Addr → TS
def asE (i : Option Nat) (D : Ends) : Ends := match i with
  | none => D
  | some i => { nx := fun σ' H' => D.nx (σ'.set i none) H', rt := D.rt, bk := fun σ' H' => D.bk (σ'.set i none) H', ct := fun σ' H' => D.ct (σ'.set i none) H' }
def asS (i : Option Nat) (a : Addr) (σ : L2.St) : L2.St := match i with
  | none => σ
  | some i => σ.set i (some (.ref a))
def wHds (K : PySem.W.Frag) (n : Nat) (Wout : WX) (D : Ends) : List Hd → WX
  | [] => Wout
  | x :: r => fun cls d σ H => ∃ b, PySem.W.exmOne K cls x.c = some b ∧ (b = true → ∀ a, H a = none → σ.length = n → x.ts a cls d (asE x.i D) (asS x.i a σ) H) ∧ (b = false → wHds K n Wout D r cls d σ H)
inductive HdsM (X : Cx) : List ExceptHandler → List Hd → Prop
  | nil : HdsM X [] []
  | cons {x : Str} {c : Value} {ts : Addr → Value → Option Addr → TS} {b₀ : Stmt} {suite : List Stmt} {np pos' : Pos} {hds : List ExceptHandler} {l : List Hd} (hc : Names X x c)
      (hsu : ∀ (a : Addr) (oe : Obj) (cls : Value) (d : Option Addr) (pn : List (Addr × Obj)), Zc cls d oe → (∃ vs, oe.data = .fields vs) → PSs (X.suite a ((a, oe) :: pn)) (b₀ :: suite) (ts a cls d)) (r : HdsM X hds l) :
      HdsM X (.ExceptHandler (some (.Name x np)) none (b₀ :: suite) pos' :: hds) (⟨c, none, ts⟩ :: l)
  | as {x n : Str} {c : Value} {i : Nat} {ts : Addr → Value → Option Addr → TS} {b₀ : Stmt} {suite : List Stmt} {np pos' : Pos} {hds : List ExceptHandler} {l : List Hd} (hc : Names X x c) (hi : X.N[i]? = some n) (hln : X.env.kindOf n = some .local)
      (hsu : ∀ (a : Addr) (oe : Obj) (cls : Value) (d : Option Addr) (pn : List (Addr × Obj)), Zc cls d oe → (∃ vs, oe.data = .fields vs) → PSs (X.suite a ((a, oe) :: pn)) (b₀ :: suite) (ts a cls d)) (r : HdsM X hds l) :
      HdsM X (.ExceptHandler (some (.Name x np)) (some n) (b₀ :: suite) pos' :: hds) (⟨c, some i, ts⟩ :: l)
section
variable {X : Cx} {body : List Stmt} {h₀ : ExceptHandler} {hds : List ExceptHandler} {l : List Hd} {pos : Pos} {tb : WX → TS} {Wout : WX}
theorem ps_tryM (hs : X.stack = X.env :: X.outer) (hf : X.env.frame = some X.env.locals) (hN : X.N.Nodup) (tk : Takes X Wout)
    (hb : ∀ (W : WX) (pn : List (Addr × Obj)) (xe : Value → Shared → Prop), Takes (X.tr pn xe) W → PassesOwn (model X.prog X.w) X.A X.env xe → PSs (X.tr pn xe) body (tb W))
    (hh : HdsM X (h₀ :: hds) l) : PS X (.Try body (h₀ :: hds) [] [] pos) (fun D σ H => tb (wHds X.K X.N.length Wout D l) D σ H) := by
  refine ⟨fun pins s σ H D I h => ?_⟩
  have ok := I.ok
  have hfr : X.A.frames = some (X.env :: X.outer) := by rw [ok.frames, hs]
  refine wpAny_Try_except ?_
  refine wpAny_mono ((hb (wHds X.K X.N.length Wout D l) (X.pn ++ pins) (fun e s₁ => wpAny (model X.prog X.w) X.A (noteFrame e X.env) (fun _ s₂ => wpAny (model X.prog X.w) X.A (setFlight e none) (fun _ s₃ =>
    wpAny (model X.prog X.w) X.A (handleBy e X.env (h₀ :: hds)) (SP X pins D) X.xe s₃) X.xe s₂) X.xe s₁) (fun u s' xx => ?_) PassesOwn.looking).run [] s σ H D (I.toTry _) h) (fun f s1 hsp => ?_) (fun e s1 he => he)
  · obtain ⟨a, B, sI, pins', σ', H', cls, d, rfl, J', nb, up, sky, na, os, ag, w⟩ := xx
    have J : Inv X pins σ' H' sI := J'.ofTry ok
    have sky' : Sky B (X.env :: X.outer) a (Zc cls d) X.env.locals s'.heap := by rw [← hs]; exact sky
    show wpAny (model X.prog X.w) X.A (noteFrame (.ref a) X.env) _ _ _
    refine Sky.land Zc.steady hfr hf sky' fun h3 fl3 up3 => ?_
    have J3 : Inv X pins σ' H' { s' with heap := h3 } := J.landed nb fl3.1 (up.trans up3) os ag
    obtain ⟨oe3, vs3, he3, hz3, hd3⟩ := fl3.there
    have notFr : ∀ {h : Heap} {o : Obj} {vs : Array Value}, h.FunFrames B (X.env :: X.outer) → h.get? a = some o → o.data = .fields vs → a ∉ frs (X.env :: X.outer) := fun {h o vs} ff e dd hm => by
      obtain ⟨_, o', e', hnf⟩ := ff.mem hm
      rw [e] at e'; cases e'
      exact hnf _ dd
    have nfr := notFr fl3.2.2.1 he3 hd3
    have nL : a ≠ X.env.locals := fun z => nfr (List.mem_filterMap.mpr ⟨X.env, List.mem_cons_self, by rw [hf, z]⟩)
    have nF : a ∉ X.fs := fun hm => by
      obtain ⟨e, he, q⟩ := List.mem_filterMap.mp hm
      exact nfr (List.mem_filterMap.mpr ⟨e, List.mem_cons_of_mem _ he, q⟩)
    have S3 := J3.suite he3 hd3 na nL nF
    have LT : PySem.W.Looks (model X.prog X.w) h3 (typeOf (.ref a)) cls := fun A Q E s k q => wpAny_typeOf_ref (k _ _ he3) (by rw [hz3.1]; exact q)
    have test : ∀ {x : Str} {c : Value} {np : Pos} {Q : Value → Shared → Prop} {E : Value → Shared → Prop}, Names X x c → Q c { s' with heap := h3 } → wpAny (model X.prog X.w) (X.A.mark (some (.ref a))) (eval (.Name x np) X.env) Q E { s' with heap := h3 } := fun {x c np Q E} hc q => by
      obtain ⟨hg, hdbg, hm | ⟨hm, hv, hnn⟩⟩ := hc
      · exact ld_glob (X := X.suite a ((a, oe3) :: (X.pn ++ pins))) S3 hg hm q hdbg
      · exact ld_blt (X := X.suite a ((a, oe3) :: (X.pn ++ pins))) S3 hg hm hv q hnn hdbg
    have go : ∀ {hds' : List ExceptHandler} {l' : List Hd}, HdsM X hds' l' → wHds X.K X.N.length Wout D l' cls d σ' H' →
        wpAny (model X.prog X.w) X.A (handleBy (.ref a) X.env hds') (SP X pins D) X.xe { s' with heap := h3 } := by
      intro hds' l' hk
      induction hk with
      | nil =>
        intro w
        refine wpAny_handleBy_nil ?_
        obtain ⟨k1, k2, k3, oe, vs, T, oT, ts', he, hz, hd, h1, hr⟩ := id fl3
        unfold PySem.passOn
        refine wpAny_bind (wpAny_field he hd h1 ?_)
        rw [if_neg (show ¬ ((Value.ref T == Value.none) = true) from by simp)]
        have fin : wpAny (model X.prog X.w) X.A (setFlight (.ref a) X.env.frame) (fun _ s4 => wpAny (model X.prog X.w) X.A (throw (.ref a) : Sem Flow) (SP X pins D) X.xe s4) X.xe { s' with heap := h3 } := by
          rw [hf]
          refine HandSPX.setFlight_upZ fl3 fun h4 hh4 up4 => wpAny_throw (tk _ _ ?_)
          exact ⟨a, B, sI, pins, σ', H', cls, d, rfl, J, nb, (up.trans up3).trans up4, .inr (.inr (by rw [hs]; exact hh4)), na, os, ag, w⟩
        first
          | exact wpAny_bind (wpAny_pure (wpAny_bind fin))
          | exact wpAny_bind fin
      | cons hc hsu r ih =>
        intro w
        obtain ⟨b, hb1, hyes, hno⟩ := w
        refine wpAny_handleBy_cons (codeAny_handlers_test ?_) (by intro q; cases q)
        have LM := PySem.W.exm_one (M := model X.prog X.w) (J3.kIn) LT hb1
        refine test hc (LM.here ?_)
        cases b with
        | true =>
          refine codeAny_handlers_suite ?_
          refine HandSPX.lands_againZ fl3 fun h4 fl4 up4 => ?_
          have J4 : Inv X pins σ' H' { s' with heap := h4 } := J.landed nb fl4.1 ((up.trans up3).trans up4) os ag
          obtain ⟨oe4, vs4, he4, hz4, hd4⟩ := fl4.there
          have S4 := J4.suite he4 hd4 na nL nF
          refine wpAny_mono ((hsu a oe4 cls d (X.pn ++ pins) hz4 ⟨_, hd4⟩).run [] _ _ H' _ S4 (hyes rfl a na J.len)) (fun f s6 hsp => ?_) (fun _ _ z => False.elim z)
          cases f with
          | next =>
            obtain ⟨σ6, H6, S6, q6⟩ := hsp
            exact ⟨_, _, S6.unsuite ok, q6⟩
          | brk =>
            obtain ⟨σ6, H6, S6, q6⟩ := hsp
            exact ⟨_, _, S6.unsuite ok, q6⟩
          | cont =>
            obtain ⟨σ6, H6, S6, q6⟩ := hsp
            exact ⟨_, _, S6.unsuite ok, q6⟩
          | ret u =>
            obtain ⟨v6, σ6, H6, S6, r6, q6⟩ := hsp
            exact ⟨_, _, _, S6.unsuite ok, r6, q6⟩
        | false => exact ih (hno rfl)
      | as hc hi hln hsu r ih =>
        intro w
        rename_i x n c i ts b₀ suite np pos' hds2 l2
        obtain ⟨b, hb1, hyes, hno⟩ := w
        refine wpAny_handleBy_cons (codeAny_handlers_test ?_) (by intro q; cases q)
        have LM := PySem.W.exm_one (M := model X.prog X.w) (J3.kIn) LT hb1
        refine test hc (LM.here ?_)
        cases b with
        | true =>
          refine codeAny_handlers_suite_as ?_
          refine HandSPX.lands_againZ fl3 fun h4 fl4 up4 => ?_
          have J4 : Inv X pins σ' H' { s' with heap := h4 } := J.landed nb fl4.1 ((up.trans up3).trans up4) os ag
          obtain ⟨oe4, vs4, he4, hz4, hd4⟩ := fl4.there
          have S4 := J4.suite he4 hd4 na nL nF
          refine store_ok (X := X.suite a ((a, oe4) :: (X.pn ++ pins))) (v := .ref a) S4 hN hi (.inl hln) rfl (fun s5 S5 => ?_) (.inr hln)
          refine wpAny_mono ((hsu a oe4 cls d (X.pn ++ pins) hz4 ⟨_, hd4⟩).run [] s5 _ H' _ S5 (hyes rfl a na J.len)) (fun f s6 hsp => ?_) (fun _ _ z => False.elim z)
          have end_ : ∀ {σ6 : L2.St} {H6 : Hp} {Q : Shared → Prop}, Inv (X.suite a ((a, oe4) :: (X.pn ++ pins))) [] σ6 H6 s6 → (∀ s7, Inv X pins (σ6.set i none) H6 s7 → Q s7) →
              wpAny (model X.prog X.w) X.A (do bindName X.env n .none; unbindBehindTheSuite X.env n pos') (fun _ s7 => Q s7) X.xe s6 := fun {σ6 H6 Q} S6 hq => gone_ok (S6.unsuite ok) hN hi hln hq
          cases f with
          | next =>
            obtain ⟨σ6, H6, S6, q6⟩ := hsp
            exact end_ S6 fun s7 J7 => ⟨_, _, J7, q6⟩
          | brk =>
            obtain ⟨σ6, H6, S6, q6⟩ := hsp
            exact end_ S6 fun s7 J7 => ⟨_, _, J7, q6⟩
          | cont =>
            obtain ⟨σ6, H6, S6, q6⟩ := hsp
            exact end_ S6 fun s7 J7 => ⟨_, _, J7, q6⟩
          | ret u =>
            obtain ⟨v6, σ6, H6, S6, r6, q6⟩ := hsp
            exact end_ S6 fun s7 J7 => ⟨_, _, _, J7, r6, q6⟩
        | false => exact ih (hno rfl)
    exact go hh w
  · cases f with
    | next =>
      obtain ⟨σ', H', J', q⟩ := hsp
      exact wpAny_execs_nil ⟨σ', H', J'.ofTry ok, q⟩
    | brk =>
      obtain ⟨σ', H', J', q⟩ := hsp
      exact ⟨σ', H', J'.ofTry ok, q⟩
    | cont =>
      obtain ⟨σ', H', J', q⟩ := hsp
      exact ⟨σ', H', J'.ofTry ok, q⟩
    | ret u =>
      obtain ⟨v, σ', H', J', r, q⟩ := hsp
      exact ⟨v, σ', H', J'.ofTry ok, r, q⟩
end
end DC
/-! Dc27: min of a list of tuples of ints. -/
namespace DC
open PySem PySem.Spec PyProof.Rows L2
def allTI : List D → Option (List (List Int))
  | [] => some []
  | .tup xs :: r => (match allInt xs with
    | some is => (match allTI r with
      | some l => some (is :: l)
      | none => none)
    | none => none)
  | _ => none
def minIx (nss : List (List Int)) : Nat := argBest (fun i j => HT.lexLt (nss.getD i []) (nss.getD j [])) (nss.length - 1)
def bMinT : Bo := fun ds h => match ds with
  | [d] => (match isTup d with
    | true => none
    | false => (match items d h with
      | some (x :: xs) => (match allTI (x :: xs) with
        | some nss => (match (x :: xs)[minIx nss]? with
          | some y => some (y, h)
          | none => none)
        | none => none)
      | _ => none))
  | _ => none
theorem allTI_len : ∀ {xs : List D} {l : List (List Int)}, allTI xs = some l → l.length = xs.length
  | [], l, h => by cases h; rfl
  | d :: r, l, h => by
    cases d <;> first | cases h | skip
    rename_i ys
    simp only [allTI] at h
    cases e1 : allInt ys with
    | none => rw [e1] at h; cases h
    | some is =>
      rw [e1] at h
      simp only at h
      cases e2 : allTI r with
      | none => rw [e2] at h; cases h
      | some l2 =>
        rw [e2] at h
        cases h
        simp [allTI_len e2]
theorem allTI_at : ∀ {xs : List D} {l : List (List Int)}, allTI xs = some l → ∀ (i : Nat) (d : D), xs[i]? = some d → ∃ ys, d = .tup ys ∧ allInt ys = some (l.getD i [])
  | [], l, h, i, d, e => by simp at e
  | x :: r, l, h, i, d, e => by
    cases x <;> first | cases h | skip
    rename_i ys
    simp only [allTI] at h
    cases e1 : allInt ys with
    | none => rw [e1] at h; cases h
    | some is =>
      rw [e1] at h
      simp only at h
      cases e2 : allTI r with
      | none => rw [e2] at h; cases h
      | some l2 =>
        rw [e2] at h
        cases h
        cases i with
        | zero => simp at e; subst e; exact ⟨ys, rfl, by simpa using e1⟩
        | succ i =>
          obtain ⟨zs, h1, h2⟩ := allTI_at e2 i d (by simpa using e)
          exact ⟨zs, h1, by simpa using h2⟩
section
variable {T : Tb} {X : Cx}
def rMinTI (K : PySem.W.Frag) : List V → Hp → VK → Prop := fun vs H Q => ∃ (a : Addr) (ys : List V) (nss : List (List Int)), vs = [V.ref a] ∧ SqL K H a ys ∧ nss.length = ys.length ∧ 0 < ys.length ∧ (∀ (i : Nat) (y : V), ys[i]? = some y → ∃ b, y = .ref b ∧ SqT K H b ((nss.getD i []).map V.int)) ∧
  ∀ y, ys[minIx nss]? = some y → Q y H
theorem cr_minTI (hc : X.calm = true) (hu : X.A.units + 64 < cLine) : CallR X (.builtin "min") (rMinTI X.K) := by
  intro pins s σ H vs us Q I r h
  obtain ⟨a, ys, nss, rfl, hs, hn, h0, ht, q⟩ := h
  obtain ⟨its, rv, hl, _⟩ := I.list hs
  rw [Vals.ref1 r]
  have ln := rv.length
  refine PySem.call_min_walkH (PySem.W.iter_listW (A := X.A.in1) (I.ok.hd hc) hl.isList fun s₂ e W st hfp hw hk => ?_)
  refine ⟨_, _, _, _, _, _, _, s.heap, (fun i j => HT.lexLt (nss.getD i []) (nss.getD j [])), rfl, W, st, hfp, by rw [List.size_toArray]; omega, hw, hk, fun i j vi vj s3 Q3 E3 hk3 hi hj hq => ?_, fun v s' hP m => ?_⟩
  · have at_ : ∀ {i : Nat} {v : Value}, its.toArray[i]? = some v → ∃ b its2, v = .ref b ∧ IsTup s3.heap b its2 ∧ IntsAre its2.toList (nss.getD i []) := fun {i v} hv => by
      have hv' : its[i]? = some v := by simpa using hv
      obtain ⟨y, hy⟩ : ∃ y, ys[i]? = some y := by
        have : i < ys.length := by rw [ln]; exact (List.getElem?_eq_some_iff.mp hv').1
        exact ⟨_, List.getElem?_eq_getElem this⟩
      obtain ⟨u, hu2, ru⟩ := rv.get hy
      rw [hv'] at hu2
      cases hu2
      obtain ⟨b, rfl, hb⟩ := ht i y hy
      obtain ⟨its2, rv2, ⟨o, ho, ho2⟩, _⟩ := I.tuple hb
      cases ru
      exact ⟨b, its2.toArray, rfl, ⟨o, hk3 _ _ ho, ho2⟩, by simpa using rv2.ints⟩
    obtain ⟨b1, t1, rfl, k1, k2⟩ := at_ hi
    obtain ⟨b2, t2, rfl, k3, k4⟩ := at_ hj
    exact HT.lt_tupInts (A := X.A.in1) k1 k3 k2 k4 (by show X.A.units + 1 < cLine; omega) hq
  · obtain ⟨h', tk, rfl, hk'⟩ := PySem.W.moved_old e rfl m
    have hP' : its[argBest (fun i j => HT.lexLt (nss.getD i []) (nss.getD j [])) (its.toArray.size - 1)]? = some v := by simpa using hP
    have em : argBest (fun i j => HT.lexLt (nss.getD i []) (nss.getD j [])) (its.toArray.size - 1) = minIx nss := by
      unfold minIx
      rw [List.size_toArray, hn, ln]
    rw [em] at hP'
    obtain ⟨y, hy⟩ : ∃ y, ys[minIx nss]? = some y := by
      have : minIx nss < ys.length := by rw [ln]; exact (List.getElem?_eq_some_iff.mp hP').1
      exact ⟨_, List.getElem?_eq_getElem this⟩
    obtain ⟨u, hu2, ru⟩ := rv.get hy
    rw [hP'] at hu2
    cases hu2
    exact ⟨y, H, I.kept hk', ru, q y hy⟩
theorem bl_minT (hc : X.calm = true) (hu : X.A.units + 64 < cLine) : Blt T X (.builtin "min") bMinT := blt_by (cr_minTI hc hu) fun ρ h H ds vs d h2 Q R rs e q => by
  unfold bMinT at e
  split at e
  · rename_i d'
    obtain ⟨v, rfl, r1⟩ := reps1 rs
    cases ht : isTup d' with
    | true => rw [ht] at e; cases e
    | false =>
      rw [ht] at e
      simp only at e
      cases e1 : items d' h with
      | none => rw [e1] at e; cases e
      | some l =>
        rw [e1] at e
        cases l with
        | nil => cases e
        | cons x xs =>
          simp only at e
          cases e2 : allTI (x :: xs) with
          | none => rw [e2] at e; cases e
          | some nss =>
            rw [e2] at e
            simp only at e
            cases e3 : (x :: xs)[minIx nss]? with
            | none => rw [e3] at e; cases e
            | some y =>
              rw [e3] at e
              cases e
              obtain ⟨a, ys, ex, hs, sr⟩ := items_lst R r1 e1 ht
              subst ex
              have ll := sr.length
              refine ⟨a, ys, nss, rfl, hs, by rw [allTI_len e2, ll], by rw [← ll]; simp, fun i yv hy => ?_, fun yv hy => ?_⟩
              · obtain ⟨dx, g1, g2⟩ := sr.getV hy
                obtain ⟨zs, rfl, g3⟩ := allTI_at e2 i dx g1
                cases g2 with
                | tup k1 k2 =>
                  obtain rfl := ints_of g3 k2
                  exact ⟨_, rfl, k1⟩
              · obtain ⟨yv2, g1, g2⟩ := sr.get e3
                rw [hy] at g1
                cases g1
                exact q ρ H _ Fut.refl R g2
  · cases e
end
end DC
/-! Dc16: raise and try by contents. -/
namespace DC
open PySem PySem.Spec PyProof.Rows L2
/-- raise C(a), C keeping a -/
def sRzI (c : Nat) (a : Ev) : Sv := fun rc env h => (a rc env h).toS fun d h1 => .exc c (some d) h1
/-- raise C(text) -/
def sRzT (c : Nat) : Sv := fun _ _ h => .exc c none h
/-- what a suite says of the field's name, the value that is kept -/
abbrev Uv := Option Str → Option D → AH → Option D
def uC (d : D) : Uv := fun _ _ _ => some d
def uAtt (f : Str) : Uv := fun g v _ => match g with
  | some g => (match decide (g = f) with
    | true => v
    | false => none)
  | none => none
def uRepr (u : Uv) : Uv := fun g v h => match u g v h with
  | some d => (match bRepr [d] h with
    | some (x, _) => some x
    | none => none)
  | none => none
def uAdd (u w : Uv) : Uv := fun g v h => match u g v h with
  | some (.str x) => (match w g v h with
    | some (.str y) => (match Nat.ble (x.length + y.length) 16777216 with
      | true => some (.str (x ++ y))
      | false => none)
    | _ => none)
  | _ => none
abbrev Us := Option Str → Option D → AH → Option (List D)
def uNil : Us := fun _ _ _ => some []
def uCons (u : Uv) (r : Us) : Us := fun g v h => match u g v h with
  | some d => (match r g v h with
    | some ds => some (d :: ds)
    | none => none)
  | none => none
def uTup (r : Us) : Uv := fun g v h => match r g v h with
  | some ds => (match Nat.ble ds.length 16777216 with
    | true => some (.tup ds)
    | false => none)
  | none => none
/-- the clauses, from the first: a class, what its suite gives back -/
def pick (sb : Nat → Nat → Option Bool) (c : Nat) : List (Nat × Uv) → Option (Option Uv)
  | [] => some none
  | (d, u) :: r => (match sb c d with
    | some true => some (some u)
    | some false => pick sb c r
    | none => none)
def sTry (sb : Nat → Nat → Option Bool) (ex : Nat → Option (Option Str)) (b : Sv) (hs : List (Nat × Uv)) : Sv := fun rc env h => match b rc env h with
  | .exc c v h1 => (match pick sb c hs with
    | some (some u) => (match u (ex c).join v h1 with
      | some d => .rt d h1
      | none => .bad)
    | some none => .exc c v h1
    | none => .bad)
  | .nx e h1 => .nx e h1
  | .rt d h1 => .rt d h1
  | .bk e h1 => .bk e h1
  | .ct e h1 => .ct e h1
  | .bad => .bad
section
variable {G : Gx} {T : Tb} {c : Cc} {X : Cx} {k : Nat} {rc : Rc} {W : WX}
theorem pmk_ei {C : Addr} {f : Str} {x : Str} {p pos : Pos} {e : Expr} {ta : TA} (hr : Room k X.A) (T : EiX X.prog X.K C f) (hg : Gl X x) (hm : X.mg x = some (.ref C)) (ha : PA X [e] ta) (hdb : (x == ("__debug__" : Str)) = false)
    (he : starEach [e] X.env = (false, eval e X.env) :: starEach [] X.env) : PMk X (.Call (.Name x p) [e] [] pos) (fun σ H Q => ta σ H fun vs H1 => ∃ v, vs = [v] ∧ ∀ d, H1 d = none → Q (.ref C) (some d) (upd H1 d (.xd [(f, v)]))) := by
  obtain ⟨B, newId, initId, bmB, cd, fI, cda, cc, fd, od, osl, sf, gv, m, j, p0, p1, p2, p3, p4, p5, p6, p7, p8, p9, ar, ccl, cl, cdd, cld, vs, ccs, csl, file, tf, T⟩ := T
  intro pins s σ H Q I h
  refine wpAny_Call_Name_kw (ld_glob I hg hm ?_ hdb)
  refine PySem.W.callWith_K (h₀ := X.base) I.ok.mod.kin T.kC (thn (ha.run pos pins s σ H _ I h) fun us s1 ⟨ws, H1, I1, r1, v, ew, q1⟩ => ⟨I1.kIn, ?_⟩) he (by rfl)
  subst ew
  obtain ⟨u, rfl, ru⟩ := vals1 r1
  show wpAny _ _ (call (.ref C) [u]) _ _ _
  obtain ⟨hp, g, dr, tk, os⟩ := s1
  obtain ⟨mb, hb, hbb⟩ := I.mod.blt
  have hd := hr.dp
  refine ei_call T I1.kIn I1.nolimit (I1.mod.glob.keeps I1.bk) (hb.keeps I1.bk) hbb (by omega) fun h2 tk2 a d t0 k2 la ld nda ha2 hns2 => ?_
  obtain ⟨G, g1, g2⟩ := restrict h2 fun b => decide (b ≠ a)
  have gk : ∀ b, b ≠ a → G.get? b = h2.get? b := fun b hb => g1 b (decide_eq_true hb)
  have ge : G.get? a = none := g2 a (by simp)
  have kG : ∀ b o, hp.get? b = some o → G.get? b = some o := fun b o e => by
    rw [gk b (Nat.ne_of_lt (Nat.lt_of_lt_of_le (Heap.lt_size e) la))]
    exact k2 b o e
  have nd : H1 d = none := I1.hok.fresh ld
  have na : H1 a = none := I1.hok.fresh la
  have hnsG : G.Ns1 d (fun y => if y = f then some u else none) := by
    obtain ⟨o, es, ep, e, r⟩ := hns2
    exact ⟨o, es, ep, by rw [gk d nda]; exact e, r⟩
  have J : Inv X pins σ (upd H1 d (.xd [(f, v)])) ⟨G, g, dr, tk2, os⟩ := by
    refine I1.laid (t' := tk2) kG ld ?_
    refine ⟨_, hnsG, fun y => ?_⟩
    by_cases e : y = f
    · subst e
      simp only [if_true, List.lookup_cons, beq_self_eq_true]
      exact ru
    · rw [if_neg e]
      have : (y == f) = false := beq_eq_false_iff_ne.mpr e
      simp only [List.lookup_cons, this, List.lookup_nil]
      exact True.intro
  exact ⟨a, _, _, ⟨G, g, dr, tk2, os⟩, _, .ref C, some d, rfl, J, fun b o e => (gk b (fun z => by rw [z, ge] at e; cases e)).symm.trans e, ge, ha2, ⟨rfl, rfl⟩, rfl, rfl, by rw [upd_ne (Ne.symm nda)]; exact na, rfl, I1.bare, raises_own T.exC T.tyC, q1 d nd⟩
theorem ss_rzI (ok : Ok G T c X k rc W) {cl : Nat} {f : Str} {x : Str} {p pos pos' : Pos} {e : Expr} {a : Ev} (hk : c.sc.lookup x = some .globalImplicit) (hg : G.nm x = some (.cls cl)) (hex : G.ex cl = some (some f)) (he : PE X e (RE T X.K W (a rc))) (hdb : (x == ("__debug__" : Str)) = false)
    (hs : starEach [e] X.env = (false, eval e X.env) :: starEach [] X.env) : PS X (.Raise (some (.Call (.Name x p) [e] [] pos)) none pos') (RS T X.K W (sRzI cl a rc)) := by
  have hm := ok.gok.nm x
  rw [hg] at hm
  have hx := ok.gok.exc cl
  rw [hex] at hx
  obtain ⟨hek, hei⟩ := hx
  refine ⟨fun pins s σ H D I h => (ps_raise ok.calm ok.tk (pmk_ei ok.room hei (ok.glo x hk) hm (pa_cons he pa_nil hs) hdb hs)).run pins s σ H D I ?_⟩
  obtain ⟨ρ, env, h0, R, E, q⟩ := RS.bind (rep := Rep T X.K) (e := a rc) (k := fun _ d h1 => .exc cl (some d) h1) h
  refine ⟨ρ, env, h0, R, E, q.imp fun v H1 => ?_⟩
  rintro ⟨ρ1, env1, h1, d, R1, E1, r1, q1⟩
  refine ⟨v, rfl, fun dx hd => ?_⟩
  exact q1 ρ1 _ (some dx) σ (fut_new hd) (R1.unnum hd (fun _ z => nomatch z)) ⟨f, dx, v, hek, rfl, upd_same, r1.fut (fut_new hd)⟩
theorem ss_rzT (ok : Ok G T c X k rc W) {cl : Nat} {x m : Str} {j : Nat} {p p2 pos pos' : Pos} (hk : c.sc.lookup x = some .globalImplicit) (hg : G.nm x = some (.cls cl)) (hex : G.ex cl = some none) (hdb : (x == ("__debug__" : Str)) = false) :
    PS X (.Raise (some (.Call (.Name x p) [.Constant (.str m) j p2] [] pos)) none pos') (RS T X.K W (sRzT cl rc)) := by
  have hm := ok.gok.nm x
  rw [hg] at hm
  have hx := ok.gok.exc cl
  rw [hex] at hx
  obtain ⟨B, newId, initId, bmB, FB, hq, kC, sC, tC⟩ := hx
  refine ⟨fun pins s σ H D I h => (ps_raise ok.calm ok.tk (pmk_own FB hq hm kC (raises_own sC tC) (ok.glo x hk) hdb)).run pins s σ H D I ?_⟩
  obtain ⟨ρ, env, h0, R, E, q⟩ := h
  exact q ρ H none σ Fut.refl R True.intro

/-! ### suites -/
/-- the reading of a suite's expression -/
def RUg {α β : Type} (rep : List Addr → Hp → α → β → Prop) (G : Gx) (T : Tb) (K : PySem.W.Frag) (i : Option Nat) (a : Addr) (cls : Value) (d : Option Addr) (u : Option Str → Option D → AH → Option α) : L2.St → Hp → (β → Hp → Prop) → Prop := fun σ H Q =>
  ∃ ρ h c v r, HRel T K ρ h H ∧ cls = .ref (T.ca c) ∧ XRep T K ρ H c v d ∧ (∀ j, i = some j → σ[j]? = some (some (.ref a))) ∧ u (G.ex c).join v h = some r ∧ ∀ ρ' H' x, Fut K ρ H ρ' H' → HRel T K ρ' h H' → rep ρ' H' r x → Q x H'
abbrev RU (G : Gx) (T : Tb) (K : PySem.W.Frag) (i : Option Nat) (a : Addr) (cls : Value) (d : Option Addr) (u : Uv) : TE := RUg (Rep T K) G T K i a cls d u
abbrev RUs (G : Gx) (T : Tb) (K : PySem.W.Frag) (i : Option Nat) (a : Addr) (cls : Value) (d : Option Addr) (u : Us) : TA := RUg (Reps T K) G T K i a cls d u
theorem XRep.fut {K : PySem.W.Frag} {ρ ρ' : List Addr} {H H' : Hp} {h : AH} {cl : Nat} {v : Option D} {d : Option Addr} (R : HRel T K ρ h H) (f : Fut K ρ H ρ' H') (x : XRep T K ρ H cl v d) : XRep T K ρ' H' cl v d := by
  cases v with
  | none => exact True.intro
  | some y =>
    obtain ⟨g, a, u, h1, h2, h3, h4⟩ := x
    refine ⟨g, a, u, h1, h2, f.frm a _ h3 (fun z => R.not_xd z _ h3) (fun x z => by cases z) (fun ps z => by cases z), h4.fut f⟩
/-- a suite's expression is right -/
def SuE (G : Gx) (T : Tb) (X : Cx) (i : Option Nat) (e : Expr) (u : Uv) : Prop := ∀ (a : Addr) (oe : Obj) (cls : Value) (d : Option Addr) (pn : List (Addr × Obj)), Zc cls d oe → (∃ vs, oe.data = .fields vs) → PE (X.suite a ((a, oe) :: pn)) e (RU G T X.K i a cls d u)
def SuA (G : Gx) (T : Tb) (X : Cx) (i : Option Nat) (es : List Expr) (u : Us) : Prop := ∀ (a : Addr) (oe : Obj) (cls : Value) (d : Option Addr) (pn : List (Addr × Obj)), Zc cls d oe → (∃ vs, oe.data = .fields vs) → PA (X.suite a ((a, oe) :: pn)) es (RUs G T X.K i a cls d u)
theorem su_str {i : Option Nat} {x : Str} {j : Nat} {pos : Pos} : SuE G T X i (.Constant (.str x) j pos) (uC (.str x.cps.toList)) := fun a oe cls d pn hz hf => by
  refine ⟨fun pins s σ H Q I h => pe_str.run pins s σ H Q I ?_⟩
  obtain ⟨ρ, h, cl, v, r, R, ec, xr, hi, e, q⟩ := h
  cases e
  exact q ρ H _ Fut.refl R repr_str
theorem su_nil {i : Option Nat} : SuA G T X i [] uNil := fun a oe cls d pn hz hf => by
  refine ⟨fun pos pins s σ H Q I h => pa_nil.run pos pins s σ H Q I ?_⟩
  obtain ⟨ρ, h, cl, v, r, R, ec, xr, hi, e, q⟩ := h
  cases e
  exact q ρ H _ Fut.refl R .nil
theorem su_cons {i : Option Nat} {e : Expr} {es : List Expr} {u : Uv} {r : Us} (he : SuE G T X i e u) (hr : SuA G T X i es r) (hs : ∀ env, starEach (e :: es) env = (false, eval e env) :: starEach es env) : SuA G T X i (e :: es) (uCons u r) := fun a oe cls d pn hz hf => by
  refine ⟨fun pos pins s σ H Q I h => (pa_cons (he a oe cls d pn hz hf) (hr a oe cls d pn hz hf) (hs _)).run pos pins s σ H Q I ?_⟩
  obtain ⟨ρ, h, cl, v, x, R, ec, xr, hi, e, q⟩ := h
  unfold uCons at e
  cases e1 : u (G.ex cl).join v h with
  | none => rw [e1] at e; cases e
  | some y =>
    rw [e1] at e
    simp only at e
    cases e2 : r (G.ex cl).join v h with
    | none => rw [e2] at e; cases e
    | some ys =>
      rw [e2] at e
      cases e
      refine ⟨ρ, h, cl, v, y, R, ec, xr, hi, e1, fun ρ1 H1 yv f1 R1 ry => ?_⟩
      exact ⟨ρ1, h, cl, v, ys, R1, ec, XRep.fut R f1 xr, hi, e2, fun ρ2 H2 ysv f2 R2 rys => q ρ2 H2 _ (f1.trans R.own f2) R2 (.cons (ry.fut f2) rys)⟩
theorem su_tup {i : Option Nat} {es : List Expr} {u : Us} {j : Nat} {pos : Pos} (he : SuA G T X i es u) : SuE G T X i (.Tuple es j pos) (uTup u) := fun a oe cls d pn hz hf => by
  refine ⟨fun pins s σ H Q I h => (pe_tup (he a oe cls d pn hz hf)).run pins s σ H Q I ?_⟩
  obtain ⟨ρ, h, cl, v, x, R, ec, xr, hi, e, q⟩ := h
  unfold uTup at e
  cases e1 : u (G.ex cl).join v h with
  | none => rw [e1] at e; cases e
  | some ys =>
    rw [e1] at e
    simp only at e
    cases e2 : Nat.ble ys.length 16777216 with
    | false => rw [e2] at e; cases e
    | true =>
      rw [e2] at e
      cases e
      refine ⟨ρ, h, cl, v, ys, R, ec, xr, hi, e1, fun ρ1 H1 ysv f1 R1 rys => ⟨by rw [← rys.length, sizeLine_eq]; exact Nat.le_of_ble_eq_true e2, fun p hp => ?_⟩⟩
      obtain ⟨f2, R2, px⟩ := new_tup R1 hp rys
      exact q ρ1 _ _ (f1.trans R.own f2) R2 px
theorem su_add {i : Option Nat} {e e2 : Expr} {u w : Uv} {pos : Pos} (he : SuE G T X i e u) (hw : SuE G T X i e2 w) : SuE G T X i (.BinOp e .Add e2 pos) (uAdd u w) := fun a oe cls d pn hz hf => by
  refine ⟨fun pins s σ H Q I h => (pe_op op_add_str (he a oe cls d pn hz hf) (hw a oe cls d pn hz hf)).run pins s σ H Q I ?_⟩
  obtain ⟨ρ, h, cl, v, x, R, ec, xr, hi, e, q⟩ := h
  unfold uAdd at e
  cases e1 : u (G.ex cl).join v h with
  | none => rw [e1] at e; cases e
  | some y =>
    rw [e1] at e
    cases y with
    | str ys =>
      simp only at e
      cases e2 : w (G.ex cl).join v h with
      | none => rw [e2] at e; cases e
      | some z =>
        rw [e2] at e
        cases z with
        | str zs =>
          simp only at e
          cases e3 : Nat.ble (ys.length + zs.length) 16777216 with
          | false => rw [e3] at e; cases e
          | true =>
            rw [e3] at e
            cases e
            refine ⟨ρ, h, cl, v, _, R, ec, xr, hi, e1, fun ρ1 H1 yv f1 R1 ry => ⟨ρ1, h, cl, v, _, R1, ec, XRep.fut R f1 xr, hi, e2, fun ρ2 H2 zv f2 R2 rz => ?_⟩⟩
            cases ry
            cases rz
            refine ⟨_, _, rfl, rfl, ?_, ?_⟩
            · show ys.toArray.size + zs.toArray.size ≤ sizeLine
              rw [List.size_toArray, List.size_toArray, sizeLine_eq]
              exact Nat.le_of_ble_eq_true e3
            · have : (⟨ys.toArray⟩ : Str) ++ ⟨zs.toArray⟩ = ⟨(ys ++ zs).toArray⟩ := by
                show (⟨ys.toArray ++ zs.toArray⟩ : Str) = _
                rw [List.append_toArray]
              rw [this]
              exact q ρ2 H2 _ (f1.trans R.own f2) R2 .str
        | _ => cases e
    | _ => cases e
theorem su_repr (ok : Ok G T c X k rc W) {i : Option Nat} {e : Expr} {u : Uv} {p pos : Pos} (hg : Gl X "repr") (hm : X.mg "repr" = none) (he : SuE G T X i e u) (hs : ∀ env, starEach [e] env = (false, eval e env) :: starEach [] env) : SuE G T X i (.Call (.Name "repr" p) [e] [] pos) (uRepr u) := fun a oe cls d pn hz hf => by
  have hb : Blt T (X.suite a ((a, oe) :: pn)) (.builtin "repr") bRepr := bl_repr (show X.A.units + 200 < cLine by have := ok.room.un; omega) ok.gu
  refine ⟨fun pins s σ H Q I h => (pe_callB hb (show Gl (X.suite a ((a, oe) :: pn)) "repr" from hg) (show (X.suite a ((a, oe) :: pn)).mg "repr" = none from hm) (by kernel_rfl) (pa_cons (he a oe cls d pn hz hf) pa_nil (hs _)) (by decide) (by decide) (hs _) (by rfl)).run pins s σ H Q I ?_⟩
  obtain ⟨ρ, h, cl, v, x, R, ec, xr, hi, e, q⟩ := h
  unfold uRepr at e
  cases e1 : u (G.ex cl).join v h with
  | none => rw [e1] at e; cases e
  | some y =>
    rw [e1] at e
    simp only at e
    cases e2 : bRepr [y] h with
    | none => rw [e2] at e; cases e
    | some z =>
      obtain ⟨z, h2⟩ := z
      rw [e2] at e
      cases e
      have eh : h2 = h := by
        simp only [bRepr] at e2
        split at e2
        · split at e2
          · split at e2
            · cases e2
            · cases e2
            · cases e2; rfl
          · cases e2
        · cases e2
      subst eh
      refine ⟨ρ, h2, cl, v, y, R, ec, xr, hi, e1, fun ρ1 H1 yv f1 R1 ry => ⟨ρ1, h2, [y], _, h2, R1, .cons ry .nil, e2, fun ρ2 H2 zv f2 R2 rz => q ρ2 H2 zv (f1.trans R.own f2) R2 rz⟩⟩
theorem su_att (ok : Ok G T c X k rc W) {i : Nat} {n f : Str} {kd : NameKind} {p pos : Pos} (hN : c.N[i]? = some n) (hk : c.sc.lookup n = some kd) (hv : kd = .local ∨ kd = .cell ∨ kd = .free) (hdb : (n == ("__debug__" : Str)) = false) (hcd : (n == ("__classdict__" : Str)) = false) : SuE G T X (some i) (.Attribute (.Name n p) f pos) (uAtt f) := fun a oe cls d pn hz hf => by
  refine ⟨fun pins s σ H Q I h => ?_⟩
  obtain ⟨ρ, h, cl, v, x, R, ec, xr, hi, e, q⟩ := h
  unfold uAtt at e
  cases e1 : (G.ex cl).join with
  | none => rw [e1] at e; cases e
  | some g =>
    rw [e1] at e
    simp only at e
    by_cases eg : g = f
    · subst eg
      rw [decide_eq_true rfl] at e
      simp only at e
      subst e
      obtain ⟨g', b, u, k1, k2, k3, k4⟩ := xr
      obtain ⟨k5, k6, k7⟩ := ok.gok.ek cl g' k1
      rw [k7] at e1
      cases e1
      refine (pe_xf (C := T.ca cl) (te := tVar i) k5 k6 hz hf (pe_var (X := X.suite a ((a, oe) :: pn)) (i := i) (by show X.N[i]? = _; rw [ok.N]; exact hN) (ok.vis n kd hk hv) hdb hcd) (by rfl)).run pins s σ H Q I ?_
      exact ⟨.ref a, hi i rfl, rfl, ec, b, _, u, k2, k3, by simp [List.lookup_cons], q ρ H u Fut.refl R k4⟩
    · rw [decide_eq_false eg] at e; cases e
/-- the clauses are right -/
inductive SuH (G : Gx) (T : Tb) (c : Cc) (X : Cx) : List ExceptHandler → List (Nat × Uv) → Prop
  | nil : SuH G T c X [] []
  | cons {x : Str} {cl : Nat} {u : Uv} {e : Expr} {np p p' : Pos} {hds : List ExceptHandler} {l : List (Nat × Uv)} (hk : c.sc.lookup x = some .globalImplicit) (hg : G.nm x = some (.cls cl)) (hdb : (x == ("__debug__" : Str)) = false) (hu : SuE G T X none e u) (r : SuH G T c X hds l) :
      SuH G T c X (.ExceptHandler (some (.Name x np)) none [.Return (some e) p] p' :: hds) ((cl, u) :: l)
  | as {x n : Str} {cl i : Nat} {u : Uv} {e : Expr} {np p p' : Pos} {hds : List ExceptHandler} {l : List (Nat × Uv)} (hk : c.sc.lookup x = some .globalImplicit) (hg : G.nm x = some (.cls cl)) (hdb : (x == ("__debug__" : Str)) = false) (hn : c.N[i]? = some n) (hl : c.sc.lookup n = some .local) (hu : SuE G T X (some i) e u) (r : SuH G T c X hds l) :
      SuH G T c X (.ExceptHandler (some (.Name x np)) (some n) [.Return (some e) p] p' :: hds) ((cl, u) :: l)
/-- as the library's clauses -/
def hdOf (G : Gx) (T : Tb) (K : PySem.W.Frag) (i : Option Nat) (cl : Nat) (u : Uv) : Hd := ⟨.ref (T.ca cl), i, fun a cls d => tRet (RU G T K i a cls d u)⟩
theorem SuH.hds (ok : Ok G T c X k rc W) {hs : List ExceptHandler} {l : List (Nat × Uv)} (h : SuH G T c X hs l) : ∃ l' : List Hd, HdsM X hs l' ∧ ∀ (E1 : Ends) (cl : Nat) (v : Option D) (d : Option Addr) (σ : L2.St) (ρ : List Addr) (h0 : AH) (H : Hp), HRel T X.K ρ h0 H → XRep T X.K ρ H cl v d →
    (match pick G.sb cl l with
      | some (some u) => (match u (G.ex cl).join v h0 with
        | some r => ∀ ρ' H' x, Fut X.K ρ H ρ' H' → HRel T X.K ρ' h0 H' → Rep T X.K ρ' H' r x → E1.rt x H'
        | none => False)
      | some none => W (.ref (T.ca cl)) d σ H
      | none => False) → wHds X.K X.N.length W E1 l' (.ref (T.ca cl)) d σ H := by
  induction h with
  | nil => exact ⟨[], .nil, fun E1 cl v d σ ρ h0 H _ _ p => p⟩
  | cons hk hg hdb hu r ih =>
    rename_i x ch u e np p p' hds l
    obtain ⟨l', h1, h2⟩ := ih
    have hm := ok.gok.nm x
    rw [hg] at hm
    refine ⟨hdOf G T X.K none ch u :: l', .cons ⟨ok.glo x hk, hdb, .inl hm⟩ (fun a oe cls d pn hz hf => pss_one (ps_ret (hu a oe cls d pn hz hf))) h1, fun E1 cl v d σ ρ h0 H R xr q => ?_⟩
    simp only [pick] at q
    cases e1 : G.sb cl ch with
    | none => rw [e1] at q; exact q.elim
    | some b =>
      rw [e1] at q
      refine ⟨b, ok.gok.sb cl ch b e1, fun eb a na hlen => ?_, fun eb => ?_⟩
      · subst eb
        simp only at q
        cases e2 : u (G.ex cl).join v h0 with
        | none => rw [e2] at q; exact q.elim
        | some y =>
          rw [e2] at q
          exact ⟨ρ, h0, cl, v, y, R, rfl, xr, fun j z => (by cases z), e2, q⟩
      · subst eb
        exact h2 E1 cl v d σ ρ h0 H R xr q
  | as hk hg hdb hn hl hu r ih =>
    rename_i x n ch i u e np p p' hds l
    obtain ⟨l', h1, h2⟩ := ih
    have hm := ok.gok.nm x
    rw [hg] at hm
    refine ⟨hdOf G T X.K (some i) ch u :: l', .as ⟨ok.glo x hk, hdb, .inl hm⟩ (by rw [ok.N]; exact hn) (ok.loc n hl) (fun a oe cls d pn hz hf => pss_one (ps_ret (hu a oe cls d pn hz hf))) h1, fun E1 cl v d σ ρ h0 H R xr q => ?_⟩
    simp only [pick] at q
    cases e1 : G.sb cl ch with
    | none => rw [e1] at q; exact q.elim
    | some b =>
      rw [e1] at q
      refine ⟨b, ok.gok.sb cl ch b e1, fun eb a na hlen => ?_, fun eb => ?_⟩
      · subst eb
        simp only at q
        cases e2 : u (G.ex cl).join v h0 with
        | none => rw [e2] at q; exact q.elim
        | some y =>
          rw [e2] at q
          refine ⟨ρ, h0, cl, v, y, R, rfl, xr, fun j z => ?_, e2, q⟩
          cases z
          have hi : i < σ.length := by
            rw [hlen, ok.N]
            obtain ⟨h3, _⟩ := List.getElem?_eq_some_iff.mp hn
            exact h3
          show (σ.set i (some (.ref a)))[i]? = _
          rw [List.getElem?_set_self hi]
      · subst eb
        exact h2 E1 cl v d σ ρ h0 H R xr q
/-- the context of a try's body is such a one -/
theorem Ok.tr (ok : Ok G T c X k rc W) {pn : List (Addr × Obj)} {xe : Value → Shared → Prop} {W' : WX} (tk : Takes (X.tr pn xe) W') (po : PassesOwn (model X.prog X.w) X.A X.env xe) : Ok G T c (X.tr pn xe) k rc W' :=
  ⟨ok.calm, ok.room, ok.gu, tk, fun _ => po, ok.kin, ok.fre, ok.N, ok.nd, ok.loc, ok.vis, ok.cel, ok.glo, ok.gok, ok.tab, ok.rk, ok.stk⟩
theorem ss_try (ok : Ok G T c X k rc W) (top : c.top = true) {body : List Stmt} {b : Sv} {h0 : ExceptHandler} {hs : List ExceptHandler} {l : List (Nat × Uv)} {pos : Pos} (hb : ∀ (Y : Cx) (W' : WX), Ok G T c Y k rc W' → Y.K = X.K → PSs Y body (RS T Y.K W' (b rc))) (hh : SuH G T c X (h0 :: hs) l) :
    PS X (.Try body (h0 :: hs) [] [] pos) (RS T X.K W (sTry G.sb G.ex b l rc)) := by
  obtain ⟨l', h1, h2⟩ := hh.hds ok
  obtain ⟨s1, s2⟩ := ok.stk top
  refine ⟨fun pins s σ H D I h => (ps_tryM (tb := fun W' => RS T X.K W' (b rc)) s1 s2 ok.xnd ok.tk (fun W' pn xe tk po => hb (X.tr pn xe) W' (ok.tr tk po) rfl) h1).run pins s σ H D I ?_⟩
  obtain ⟨ρ, env, h0, R, E, q⟩ := h
  refine ⟨ρ, env, h0, R, E, ?_⟩
  simp only [sTry] at q
  cases o : b rc env h0 with
  | nx e h3 => rw [o] at q; exact q
  | rt d h3 => rw [o] at q; exact q
  | bk e h3 => rw [o] at q; exact q
  | ct e h3 => rw [o] at q; exact q
  | bad => rw [o] at q; exact q
  | exc cl v h3 =>
    rw [o] at q
    intro ρ1 H1 dd σ1 f1 R1 x1
    refine h2 D cl v dd σ1 ρ1 h3 H1 R1 x1 ?_
    simp only at q
    cases e1 : pick G.sb cl l with
    | none => rw [e1] at q; exact q.elim
    | some o1 =>
      rw [e1] at q
      cases o1 with
      | none => exact q ρ1 H1 dd σ1 f1 R1 x1
      | some u =>
        simp only at q ⊢
        cases e2 : u (G.ex cl).join v h3 with
        | none => rw [e2] at q; exact q.elim
        | some y =>
          rw [e2] at q
          exact fun ρ2 H2 x f2 R2 rx => q ρ2 H2 x (f1.trans R.own f2) R2 rx
end
end DC
/-! Dc17: defs at their callers; the lambda handed to a def that tries it. -/
namespace DC
open PySem PySem.Spec PyProof.Rows L2
/-! ### a def's body -/
def startE (nn : Nat) (ds : List D) : En := ds.map some ++ List.replicate (nn - ds.length) none
def endF : SOut → Out D
  | .nx _ h => .ok .non h
  | .rt d h => .ok d h
  | .exc c v h => .exc c v h
  | _ => .bad
def fnD (fl nn : Nat) (b : Sv) (rc : Rc) (ds : List D) (h : AH) : Out D := gc fl (fun ds h => endF (b rc (startE nn ds) h)) ds h
/-- a def's code: how many values it takes, how many names, its body -/
structure Cd where
  ar : Nat
  nn : Nat
  body : Sv
/-- all calls, by level: N turns, fl steps of the gathering -/
def lv (N fl : Nat) (code : Nat → Option Cd) : Nat → Nat → Nat → List D → AH → Out D
  | 0, _, _ => fun _ _ => .bad
  | k + 1, 0, g => match code g with
    | some c => fnD fl c.nn c.body ⟨N, lv N fl code k, k⟩
    | none => fun _ _ => .bad
  | k + 1, j + 1, g => lv N fl code k j g
theorem lv_low {N fl : Nat} {code : Nat → Option Cd} : ∀ {k j : Nat} {g : Nat} {ds : List D} {h : AH}, k < j → lv N fl code k j g ds h = .bad
  | 0, _, _, _, _, _ => by unfold lv; rfl
  | k + 1, 0, _, _, _, h => absurd h (Nat.not_lt_zero _)
  | k + 1, j + 1, _, _, _, h => by
    unfold lv
    exact lv_low (Nat.lt_of_succ_lt_succ h)
section
variable {T : Tb} {K : PySem.W.Frag} {ρ : List Addr} {h : AH} {H : Hp}
theorem ERel.start {N : List Str} {vs : List V} {ds : List D} (r : Reps T K ρ H ds vs) : ERel T K ρ H (startE N.length ds) (L2.start N vs) := by
  refine ⟨by simp [startE, L2.start, r.length], fun i d e => ?_⟩
  unfold startE at e
  have hi : i < ds.length := by
    by_cases hi : i < ds.length
    · exact hi
    · rw [List.getElem?_append_right (by simpa using hi), List.getElem?_replicate] at e
      split at e <;> cases e
  rw [List.getElem?_append_left (by simpa using hi), List.getElem?_map] at e
  have e2 : ds[i]? = some d := by
    cases q : ds[i]? with
    | none => rw [q] at e; cases e
    | some x => rw [q] at e; cases e; rfl
  obtain ⟨v, h1, h2⟩ := r.get e2
  refine ⟨v, ?_, h2⟩
  unfold L2.start
  rw [List.getElem?_append_left (by simp only [List.length_map, ← r.length]; exact hi), List.getElem?_map, h1]
  rfl
theorem ERel.none {n : Nat} {σ : L2.St} (hl : n = σ.length) : ERel T K ρ H (List.replicate n none) σ := ⟨by rw [List.length_replicate, hl], fun i d e => by
  rw [List.getElem?_replicate] at e
  split at e <;> cases e⟩
end
/-- a def's names, checked -/
def fscB (N ps : List Str) (sc : Scope) : Bool := (match sc.kind with | .function => true | _ => false) && !sc.isCoroutine && !sc.isGenerator && decide N.Nodup && decide (N.take ps.length = ps) &&
  (ps.all fun x => match sc.names.lookup x with | some .local => true | some .cell => true | _ => false) && sc.names.all fun y => match y.2 with | .free => false | _ => true
theorem fscB_by {N ps : List Str} {sc : Scope} (h : fscB N ps sc = true) : FnScope N ps sc := by
  unfold fscB at h
  simp only [Bool.and_eq_true, List.all_eq_true, Bool.not_eq_true', decide_eq_true_eq] at h
  obtain ⟨⟨⟨⟨⟨⟨h1, h2⟩, h3⟩, h4⟩, h5⟩, h6⟩, h7⟩ := h
  refine ⟨?_, h2, h3, h4, h5, fun x hx => ?_, fun y hy e => ?_⟩
  · split at h1
    · assumption
    · cases h1
  · have q := h6 x hx
    split at q
    · exact .inl (by assumption)
    · exact .inr (by assumption)
    · cases q
  · have q := h7 y hy
    rw [e] at q
    cases q
section
variable {G : Gx} {T : Tb} {P : Program} {w : World} {K : PySem.W.Frag} {mg : Str → Option Value} {base : Heap} {k : Nat} {rc : Rc}
theorem ok_def {N ps : List Str} {qual : Str} {scope : Scope} {f : Addr} {cdv : Value} {A : Around} {outer : List Env} {s : Shared} {H : Hp} {E : XK} {lam : Bool} (gok : GOk G T P w K mg base k rc.call) (rk : rc.lv = k) (S : FnScope N ps scope) (hr : Room k (A.deeper (envOfC qual scope s.heap.objs.size f cdv))) (gu : A.guards = some [])
    (tab : lam = true → ∃ cd P', cdv = .ref cd ∧ LamX.TabB base mg cd P' ∧ (P', (qual ++ ".<locals>.") ++ "<lambda>") ∈ T.tabs ∧ ∀ p ∈ T.tabs, p.1 = P' → p.2 = (qual ++ ".<locals>.") ++ "<lambda>") :
    Ok G T ⟨N, scope.names, lam, true⟩ (cxOf (L2.CX P w) P w K mg base N qual scope f cdv A outer s H E) k rc (fun cls d _ H => E cls d H) where
  calm := rfl
  room := hr
  gu := gu
  tk := takes_of rfl rfl rfl rfl
  po _ := passes_of rfl
  kin _ := ⟨S.kind, rfl⟩
  fre x e := absurd rfl (S.nofree _ (PySem.mem_of_lookup e))
  N := rfl
  nd := S.nd
  loc x e := e
  vis x kd e h := by
    rcases h with h | h | h
    · subst h; exact .inl e
    · subst h; exact .inr (.inl e)
    · subst h; exact .inr (.inr e)
  cel x e := ⟨e, rfl⟩
  glo x e := e
  gok := gok
  tab := tab
  rk := rk
  stk _ := ⟨rfl, rfl⟩
/-- what is known of the def d's place in the table of code objects, if it makes lambdas -/
def TabD (T : Tb) (K : PySem.W.Frag) (mg : Str → Option Value) (base : Heap) (f : Addr) (qual : Str) : Prop := ∀ (oc : Value) (od : Option Addr) (osl : Array (Option Value)) (fd : FuncData), K.lookup f = some ⟨oc, od, .func fd, osl⟩ → ∃ cd P', fd.code = .ref cd ∧ LamX.TabB base mg cd P' ∧ (P', (qual ++ ".<locals>.") ++ "<lambda>") ∈ T.tabs ∧ ∀ p ∈ T.tabs, p.1 = P' → p.2 = (qual ++ ".<locals>.") ++ "<lambda>"
theorem endF_ok {σ : L2.St} {ρ : List Addr} {H : Hp} {o : SOut} {Q : VK} {E : XK} (p : PostF T K ρ H (endF o) Q E) : PostS T K (fun cls d _ H => E cls d H) σ ρ H o { nx := fun _ H' => Q .non H', rt := Q } := by
  cases o with
  | nx e h => exact fun ρ' σ' H' f R _ => p ρ' H' .non f R .non
  | rt d h => exact p
  | exc c v h => exact fun ρ' H' dd _ f R x => p ρ' H' dd f R x
  | bk e h => exact p.elim
  | ct e h => exact p.elim
  | bad => exact p.elim
/-- THE DEF -/
theorem fnG_of {x qual : Str} {params : Arguments} {body : List Stmt} {scope : Scope} {dvs : List V} {f : Addr} {fd : FuncData} {N ps : List Str} {b : Sv} {fl : Nat} {lam : Bool} (F : FunD K x qual params body scope dvs [] f fd) (S : FnScope N ps scope) (gok : GOk G T P w K mg base k rc.call) (rk : rc.lv = k)
    (tab : lam = true → TabD T K mg base f qual) (hb : ∀ (X : Cx) (W : WX), Ok G T ⟨N, scope.names, lam, true⟩ X k rc W → X.K = K → PSs X body (RS T X.K W (b rc))) :
    FnG P w K mg base (k + 1) f fd ps (spC T K ps.length (fnD fl N.length b rc)) where
  len vs H Q E h := h.1
  run A outer s H args us vs Q E hr gu e0 hbi rv h := by
    obtain ⟨hl, ρ, h0, ds, R, r, p⟩ := h
    obtain ⟨oc, od, dV, kV, doc, pm, an, cdv, ct, osl, rfl, lk, hcd, _, _⟩ := F.ex
    refine LamX.run_ofS (N := N) (ps := ps) lk hcd S hr e0 hbi rv hl fun hr' => ?_
    obtain ⟨ρ0, h1, ds', R0, r0, _, p0⟩ := gc_ok R r p
    refine ⟨_, hb _ _ (ok_def (lam := lam) gok rk S hr' gu fun z => ?_) rfl, ρ0, _, h1, R0, ERel.start r0, endF_ok p0⟩
    exact tab z _ _ _ _ lk
end

/-! ### the lambda -/
section
variable {T : Tb} {K : PySem.W.Frag} {ρ : List Addr} {h : AH} {H H1 : Hp}
theorem ext_fut (e : LamX.ExtN H H1) : Fut K ρ H ρ H1 where
  pre n a h := h
  tup a ys h := by
    have key : ∀ b o, H b = some o → (∀ ps, o ≠ .tbl ps) → H1 b = some o := e
    rcases h with ho | h
    · rcases ho with ho | ⟨o, ho⟩
      · exact .inl (.inl (key _ _ ho fun ps z => nomatch z))
      · exact .inl (.inr ⟨o, key _ _ ho fun ps z => nomatch z⟩)
    · exact .inr h
  lsq a ys h := by
    rcases h with ⟨o, ho⟩ | h
    · exact .inl ⟨o, e _ _ ho fun ps z => nomatch z⟩
    · exact .inr h
  frm b o h _ _ n := e b o h n
  new x h n := absurd h n
theorem ext_rel (R : HRel T K ρ h H) (e : LamX.ExtN H H1) (t : LamX.Tabs T.tabs H1) : HRel T K ρ h H1 where
  len := R.len
  nd := R.nd
  obj n a o h1 h2 := by
    have f := ext_fut (K := K) (ρ := ρ) e
    have q := R.obj n a o h1 h2
    cases o with
    | lst xs => obtain ⟨ys, z, r⟩ := q; exact ⟨ys, e _ _ z fun ps z => (nomatch z), r.fut f⟩
    | dct tg kvs =>
      rcases q with ⟨ks, et, z, ek, nd, r⟩ | ⟨ks, et, z, ek, nd, r⟩
      · exact .inl ⟨ks, et, e _ _ z fun ps z => (nomatch z), ek, nd, r.fut f⟩
      · exact .inr ⟨ks, et, e _ _ z fun ps z => (nomatch z), ek, nd, r.fut f⟩
    | ins c fs =>
      obtain ⟨dx, vs, z, ne, r⟩ := q
      refine ⟨dx, vs, ?_, ne, r.fut f⟩
      rcases z with ⟨z, e1⟩ | ⟨z, z2⟩
      · exact .inl ⟨e _ _ z fun ps z => (nomatch z), e1⟩
      · exact .inr ⟨e _ _ z fun ps => soft_slO.tbl ps, e _ _ z2 fun ps z => (nomatch z)⟩
  tabs := t
end
def lamB (sc : List (Str × NameKind)) (scope : Scope) : Bool :=
  (match scope.kind with | .function => true | _ => false) && !scope.isCoroutine && !scope.isGenerator && scope.names.all fun y => match y.2 with
    | .local => false
    | .cell => false
    | .free => (match sc.lookup y.1 with | some .cell => true | some .free => true | _ => false)
    | _ => true
theorem lamB_by {sc : List (Str × NameKind)} {s1 scope : Scope} (e : s1.names = sc) (h : lamB sc scope = true) : LamX.LamS s1 scope := by
  unfold lamB at h
  simp only [Bool.and_eq_true, List.all_eq_true, Bool.not_eq_true'] at h
  obtain ⟨⟨⟨h1, h2⟩, h3⟩, h4⟩ := h
  refine ⟨?_, h2, h3, fun y hy => ?_, fun y hy e2 => ?_⟩
  · split at h1
    · assumption
    · cases h1
  · have q := h4 y hy
    exact ⟨fun z => (by rw [z] at q; cases q), fun z => (by rw [z] at q; cases q)⟩
  · have q := h4 y hy
    rw [e2] at q
    rw [e]
    simp only at q
    split at q
    · exact .inl (by assumption)
    · exact .inr (by assumption)
    · cases q
section
variable {G : Gx} {T : Tb} {c : Cc} {X : Cx} {k : Nat} {rc : Rc} {W : WX}
theorem GOk.drop2 {P : Program} {w : World} {K : PySem.W.Frag} {mg : Str → Option Value} {base : Heap} {call : Nat → Nat → List D → AH → Out D} {m : Nat} (g : GOk G T P w K mg base (k + m) call) : GOk G T P w K mg base k (fun j => call (j + m)) :=
  ⟨g.nm, fun j hj q ds h => g.low (j + m) (Nat.add_lt_add_right hj m) q ds h, fun j hj q a ha => by
    have := g.fns (j + m) (Nat.add_le_add_right hj m) q a ha
    rw [Nat.add_sub_add_right] at this
    exact this, g.cls, g.exc, g.ek, g.sb, g.fd⟩
/-- the lambda's body stands so -/
theorem ok_lam (ok : Ok G T c X (k + 2) rc W) {scope : Scope} (L : LamX.LamS X.env.scope scope) {A : Around} {outer : List Env} {s : Shared} {H : Hp} {E : XK} {f c' : Addr} (hr : Room k (A.deeper (LamX.lamEnv X scope s.heap.objs.size f c'))) (gu : A.guards = some []) :
    Ok G T ⟨c.N, scope.names, false, true⟩ (LamX.lamCx X A outer s H E scope f c') k ⟨rc.n, fun j => rc.call (j + 2), k⟩ (fun cls d _ H => E cls d H) where
  calm := rfl
  room := hr
  gu := gu
  tk := takes_of rfl rfl rfl rfl
  po _ := passes_of rfl
  kin _ := ⟨L.kind, rfl⟩
  fre x e := .inr e
  N := ok.N
  nd := ok.nd
  loc x e := e
  vis x kd e h := by
    rcases h with h | h | h
    · subst h; exact .inl e
    · subst h; exact .inr (.inl e)
    · subst h; exact .inr (.inr e)
  cel x e := absurd rfl (L.own _ (PySem.mem_of_lookup e)).2
  glo x e := e
  gok := ok.gok.drop2
  tab z := nomatch z
  rk := rfl
  stk _ := ⟨rfl, rfl⟩
/-- x(), in the def that got the lambda, at the state of its start -/
theorem pe_act {pins : List (Addr × Obj)} {σ : L2.St} {H : Hp} {s : Shared} {Ng : List Str} {qg : Str} {sg : Scope} {g f c' : Addr} {cdg pm ctv : Value} {params : Arguments} {body : Expr} {scope : Scope} {i : Nat} {a : Str} {pn : List (Addr × Obj)} {xe : Value → Shared → Prop} {Eg : XK} {WZ : WX} {b : Ev} {p1 p2 : Pos}
    (ok : Ok G T c X (k + 2) rc W) (I : Inv X pins σ H s) (L : LamX.LamS X.env.scope scope) (hf : s.heap.get? f = some (PySem.W.kla_obj "<lambda>" (X.env.qual ++ "<lambda>") params body scope (cloFrom X.env.cells scope.names []) pm c' ctv)) (hfn : H f = none) (hfr : f ∉ frs X.stack)
    (hbind : bindArgs (PySem.W.kla_fn "<lambda>" (X.env.qual ++ "<lambda>") params body scope (cloFrom X.env.cells scope.names []) pm (.ref c') ctv) ⟨[], []⟩ = pure [])
    (tk : Takes ((cxOf (L2.CX X.prog X.w) X.prog X.w X.K X.mg X.base Ng qg sg g cdg X.A X.stack s H Eg).tr pn xe) WZ) (hr : Room (k + 1) (X.A.deeper (envOfC qg sg s.heap.objs.size g cdg)))
    (hbody : ∀ (Y : Cx) (W' : WX), Ok G T ⟨c.N, scope.names, false, true⟩ Y k ⟨rc.n, fun j => rc.call (j + 2), k⟩ W' → Y.K = X.K → PE Y body (RE T Y.K W' (b ⟨rc.n, fun j => rc.call (j + 2), k⟩)))
    (hN : Ng[i]? = some a) (hv : Vis sg a) (hd : (a == ("__debug__" : Str)) = false) (hcd : (a == ("__classdict__" : Str)) = false) :
    PE ((cxOf (L2.CX X.prog X.w) X.prog X.w X.K X.mg X.base Ng qg sg g cdg X.A X.stack s H Eg).tr pn xe) (.Call (.Name a p1) [] [] p2)
      (fun σZ HZ Q => σZ[i]? = some (some (.ref f)) ∧ HZ c' = some (LamX.CodeO c' (X.env.qual ++ "<lambda>")) ∧ RE T X.K (fun cls d _ H' => WZ cls d σZ H') (b ⟨rc.n, fun j => rc.call (j + 2), k⟩) σ HZ Q) := by
  refine ⟨fun pinsZ sZ σZ HZ Q IZ h => ?_⟩
  obtain ⟨hs, hc, ht⟩ := h
  refine wpAny_Call_Name_kw (thn ((pe_var (pos := p1) (i := i) hN hv hd hcd).run pinsZ sZ σZ HZ (fun v H1 => v = .ref f ∧ H1 = HZ) IZ ⟨.ref f, hs, rfl, rfl⟩) fun u s1 ⟨v, H1, I1, r1, q1⟩ => ?_)
  obtain ⟨ev, eH⟩ := q1
  subst ev
  rw [eH] at I1
  obtain rfl : u = Value.ref f := r1
  have of1 : s1.heap.get? f = some (PySem.W.kla_obj "<lambda>" (X.env.qual ++ "<lambda>") params body scope (cloFrom X.env.cells scope.names []) pm c' ctv) := I1.base.keep f _ hf hfn hfr (fun z => nomatch (show f ∈ ([] : List Addr) from z))
  refine PySem.W.callWith_F0 ⟨_, _, _, _, of1⟩ ?_
  have un : Un (frs X.stack) [] H HZ s.heap s1.heap := I1.base
  obtain ⟨⟨oc, vs, t, hoc, hdc, hvc⟩, _, _⟩ := I1.hok c' _ hc
  have rcl : codeAny (model X.prog X.w) (X.A.deeper (envOfC qg sg s.heap.objs.size g cdg)) (.call (.ref f) ⟨[], []⟩) (CR (L2.CX X.prog X.w) (envOfC qg sg s.heap.objs.size g cdg :: X.stack) X.prog X.w HZ s1 Q (fun cls d H' => WZ cls d σZ H')) s1 := by
    refine PySem.W.kla_callFunE hr.depth of1 rfl L.co L.gen rfl ⟨c', oc, vs, t, rfl, hoc, hdc, hvc⟩ ?_
    rw [hbind]
    refine wpAny_pure (wpAny_newFunctionEnv (fun y hy => (L.own y hy).2) (fun y hy => absurd hy (by simp)) (fun h₁ hns hsb => ⟨I1.nolimit.fresh _ hsb, ?_⟩) L.kind)
    show codeAny _ _ (.expr body (LamX.lamEnv X scope s1.heap.objs.size f c')) _ _
    have kp : ∀ b o, s1.heap.get? b = some o → h₁.get? b = some o := fun b o e => hsb.extBut b o (Nat.ne_of_lt (Heap.lt_size e)) (Heap.get?_push_of_some _ e)
    have J : Inv (LamX.lamCx X (X.A.deeper (envOfC qg sg s.heap.objs.size g cdg)) (envOfC qg sg s.heap.objs.size g cdg :: X.stack) s1 HZ (fun cls d H' => WZ cls d σZ H') scope f c') [] σ HZ { s1 with heap := h₁, toks := s1.toks + ([] : List (Str × Value)).length } :=
      LamX.lam_start2 I L I1.env0 hr.hd un hns kp
    refine PySem.W.kla_codeExpr (wpAny_mono ((hbody _ _ (ok_lam ok L (hr.deeper _) ok.gu) rfl).run [] _ _ HZ Q J ht) (fun v s' hq => ?_) fun e s' hq => hq)
    obtain ⟨w', H', J', rv, q⟩ := hq
    exact ⟨w', H', J'.os, J'.bare, J'.base, J'.hok, rv, q⟩
  have hx := L2.passAt tk σZ
  refine wpAny_call (codeAny_mono rcl fun r s' hq => ?_)
  cases r with
  | error e => exact hx pinsZ HZ s1 e s' I1 hq
  | ok fl =>
    cases fl with
    | ret u => exact I1.after hq
    | next => exact False.elim hq
    | brk => exact False.elim hq
    | cont => exact False.elim hq
end
end DC
/-! Dc18: a def that tries the lambda that it got. -/
namespace DC
open PySem PySem.Spec PyProof.Rows L2
/-- met(lambda: b): l its clauses, fin what it gives back behind, nn how many names it has -/
def vLam (sb : Nat → Nat → Option Bool) (ex : Nat → Option (Option Str)) (nn : Nat) (l : List (Nat × Uv)) (fin b : Ev) : Ev := fun rc env h => match rc.lv with
  | k + 2 => (match b ⟨rc.n, fun j => rc.call (j + 2), k⟩ env h with
    | .ok _ h1 => fin ⟨rc.n, fun j => rc.call (j + 1), k + 1⟩ (List.replicate nn none) h1
    | .exc c v h1 => (match pick sb c l with
      | some (some u) => (match u (ex c).join v h1 with
        | some d => .ok d h1
        | none => .bad)
      | some none => .exc c v h1
      | none => .bad)
    | .bad => .bad)
  | _ => .bad
/-- a def that tries what it got, its text; Ng its names; l, fin: what it makes -/
structure MetD (G : Gx) (g : Nat) (x : Str) (nn : Nat) (l : List (Nat × Uv)) (fin : Ev) : Prop where
  ar : G.ar g = some 1
  ex : ∃ (d : He.DefD) (a : Str) (Ng : List Str) (h0 : ExceptHandler) (hs : List ExceptHandler) (e : Expr) (p1 p2 p3 p8 p9 : Pos), G.fd g = some d ∧ nn = Ng.length ∧ FnScope Ng [a] d.scope ∧ plainPar d.params = true ∧ parNames d.params = [a] ∧ d.scope.names.lookup a = some .local ∧
    (a == ("__debug__" : Str)) = false ∧ (a == ("__classdict__" : Str)) = false ∧
    d.body = [.Try [.Expr (.Call (.Name a p1) [] [] p2) p3] (h0 :: hs) [] [] p8, .Return (some e) p9] ∧
    ∀ (T : Tb) (Y : Cx) (k : Nat) (rc : Rc) (W : WX), Ok G T ⟨Ng, d.scope.names, false, true⟩ Y k rc W → SuH G T ⟨Ng, d.scope.names, false, true⟩ Y (h0 :: hs) l ∧ PE Y e (RE T Y.K W (fin rc))
section
variable {G : Gx} {T : Tb} {c : Cc} {X : Cx} {k : Nat} {rc : Rc} {W : WX}
theorem Post.sw {K : PySem.W.Frag} {σ σ' : L2.St} {ρ : List Addr} {H : Hp} {o : Out D} {Q : VK} (p : Post T K W σ ρ H o Q) : Post T K (fun cls d _ H => W cls d σ H) σ' ρ H o Q := by
  cases o with
  | ok d h => exact p
  | exc c v h => exact p
  | bad => exact p
theorem start_len {N : List Str} {a : Str} {v : V} (h : N.take 1 = [a]) : N.length = (L2.start N [v]).length := by
  cases N with
  | nil => cases h
  | cons x r => simp [L2.start]
theorem se_lam (ok : Ok G T c X k rc W) (hlam : c.lam = true) (htop : c.top = true) {g nn : Nat} {l : List (Nat × Uv)} {fin b : Ev} {x : Str} {p lpos pos : Pos} {params : Arguments} {body : Expr} {scope : Scope} (hk : c.sc.lookup x = some .globalImplicit) (hg : G.nm x = some (.fn g)) (M : MetD G g x nn l fin)
    (hdb : (x == ("__debug__" : Str)) = false) (hL : lamB c.sc scope = true) (hdef : defaultsOf params X.env = ([], []))
    (hbind : ∀ (q : Str) (cl : List (Str × Addr)) (pm cv ctv : Value), bindArgs (PySem.W.kla_fn "<lambda>" q params body scope cl pm cv ctv) ⟨[], []⟩ = pure [])
    (hbody : ∀ (Y : Cx) (k' : Nat) (rc' : Rc) (W' : WX), Ok G T ⟨c.N, scope.names, false, true⟩ Y k' rc' W' → Y.K = X.K → PE Y body (RE T Y.K W' (b rc'))) :
    PE X (.Call (.Name x p) [.Lambda params body scope lpos] [] pos) (RE T X.K W (vLam G.sb G.ex nn l fin b rc)) := by
  refine ⟨fun pins s σ H Q I h => ?_⟩
  obtain ⟨ρ, env, h0, R, E, q⟩ := h
  obtain ⟨har, d, a, Ng, hh, hs, e, p1, p2, p3, p8, p9, m1, m2, m3, m4, m5, m6, m7, m8, m9, m10⟩ := M
  subst m2
  simp only [vLam] at q
  rw [ok.rk] at q
  match k, ok, q with
  | 0, _, q => exact q.elim
  | 1, _, q => exact q.elim
  | k + 2, ok, q =>
  simp only at q
  have hm := ok.gok.nm x
  rw [hg] at hm
  obtain ⟨cd, P', t1, t2, t3, t4⟩ := ok.tab hlam
  obtain ⟨s1, s2⟩ := ok.kin htop
  have L := lamB_by s2 hL
  obtain ⟨fd, F⟩ := ok.gok.fd g d m1
  obtain ⟨oc, od, dV, kV, doc, pm, an, cdv, ct, osl, rfl, lk, hcd, _, _⟩ := id F.ex
  have hbi : Binds X.K (PySem.W.fnOf d.name d.qual d.params d.body d.scope dV kV doc pm an cdv ct) [a] [] := by
    rw [← m5]
    exact F.bindsN (ps := parNames d.params) fun kV doc pm an cdv ct us hl => binds_all m4 (by rw [show (parNames (PySem.W.fnOf d.name d.qual d.params d.body d.scope .none kV doc pm an cdv ct).params) = [a] from m5]; simp) hl rfl
  refine wpAny_Call_Name_kw (ld_glob I (ok.glo x hk) hm ?_ hdb)
  refine PySem.W.callWith_K (h₀ := X.base) I.ok.mod.kin (ok.gok.fns 0 (Nat.zero_le _) g 1 har).kp ?_ (by rfl) (by rfl)
  show wpAny _ _ (spliced ((false, eval (.Lambda params body scope lpos) X.env) :: backTo pos (starEach [] X.env))) _ _ s
  refine Calls.spliced_cons (LamX.lam_make2 I t2 t1 t3 t4 R.tabs hdef (L.has I.ok) fun f c' pm' ctv H1 s' I1 eN T1 hf hfn hfr hco => ?_)
  refine Calls.spliced_nil ⟨I1.kIn, ?_⟩
  have f1 : Fut X.K ρ H ρ H1 := ext_fut eN
  have R1 := ext_rel R eN T1
  have rcl : codeAny (model X.prog X.w) X.A (.call (.ref (T.fa g)) ⟨[.ref f], []⟩) (CR (L2.CX X.prog X.w) X.stack X.prog X.w H1 s' Q (WE W σ)) s' := by
    refine LamX.run_ofS (k := k + 1) (N := Ng) (ps := [a]) (us := [.ref f]) (vs := [.ref f]) lk hcd m3 ok.room I1.env0 (hbi s' [.ref f] I1.kIn rfl) (.cons rfl .nil) rfl fun hr' => ?_
    have okZ := ok_def (G := G) (T := T) (lam := false) (rc := ⟨rc.n, fun j => rc.call (j + 1), k + 1⟩) (H := H1) (E := WE W σ) (cdv := cdv) (f := T.fa g) (outer := X.stack) (s := s') (qual := d.qual) (GOk.drop2 (k := k + 1) (m := 1) ok.gok) rfl m3 hr' ok.gu (fun z => nomatch z)
    obtain ⟨hsu, hfin⟩ := m10 _ _ _ _ _ okZ
    obtain ⟨l', h1, h2⟩ := hsu.hds okZ
    rw [m9]
    refine ⟨_, pss_cons (ps_tryM (Wout := fun cls d _ H => WE W σ cls d H) (tb := fun W' D σZ HZ => σZ[0]? = some (some (.ref f)) ∧ HZ c' = some (LamX.CodeO c' (X.env.qual ++ "<lambda>")) ∧ RE T X.K (fun cls d _ H' => W' cls d σZ H') (b ⟨rc.n, fun j => rc.call (j + 2), k⟩) σ HZ (fun _ H' => D.nx σZ H')) rfl rfl m3.nd okZ.tk
      (fun W' pn xe tk po => pss_one (ps_expr (pe_act (i := 0) ok I1 L hf hfn hfr (hbind _ _ _ _ _) tk hr' (fun Y W' o e => hbody Y k _ W' o e) (by have := congrArg (fun z => z[0]?) m3.pre; simpa using this) (.inl m6) m7 m8) ?_)) h1) (pss_one (ps_ret hfin)), ?_⟩
    · rfl
    · refine ⟨rfl, hco, ρ, env, h0, R1, E.fut f1, ?_⟩
      cases o : b ⟨rc.n, fun j => rc.call (j + 2), k⟩ env h0 with
      | ok d h3 =>
        rw [o] at q
        intro ρ2 H2 v f2 R2 r2
        refine ⟨ρ2, List.replicate Ng.length none, h3, R2, ERel.none (start_len m3.pre), ?_⟩
        exact Post.sw (σ := σ) (PostG.later (rep := Rep T X.K) R (f1.trans R.own f2) q)
      | bad => rw [o] at q; exact q
      | exc cl v h3 =>
        rw [o] at q
        intro ρ2 H2 dd f2 R2 x2
        refine h2 _ cl v dd _ ρ2 h3 H2 R2 x2 ?_
        simp only at q
        cases e1 : pick G.sb cl l with
        | none => rw [e1] at q; exact q.elim
        | some o1 =>
          rw [e1] at q
          cases o1 with
          | none => exact q ρ2 H2 dd (f1.trans R.own f2) R2 x2
          | some u =>
            simp only at q ⊢
            cases e2 : u (G.ex cl).join v h3 with
            | none => rw [e2] at q; exact q.elim
            | some y =>
              rw [e2] at q
              exact fun ρ3 H3 x f3 R3 rx => q ρ3 H3 x (f1.trans R.own (f2.trans R.own f3)) R3 rx
  refine wpAny_call (codeAny_mono rcl fun r s' hq => ?_)
  cases r with
  | error e => exact L2.passAt ok.tk σ pins H1 _ e s' I1 hq
  | ok fl =>
    cases fl with
    | ret u => exact I1.after hq
    | next => exact False.elim hq
    | brk => exact False.elim hq
    | cont => exact False.elim hq
end
end DC
/-! Dc19: side conditions by shape. -/
namespace DC
open PySem PySem.Spec PyProof.Rows L2
def isStar : Expr → Bool
  | .Starred _ _ => true
  | _ => false
def noStars : List Expr → Bool
  | [] => true
  | e :: r => !isStar e && noStars r
theorem star_cons {e : Expr} {es : List Expr} {env : Env} (h : isStar e = false) : starEach (e :: es) env = (false, eval e env) :: starEach es env := by
  cases e <;> first | rfl | cases h
theorem star_all {env : Env} : ∀ {es : List Expr}, noStars es = true → starEach es env = es.map fun e => (false, eval e env)
  | [], _ => rfl
  | e :: r, h => by
    obtain ⟨h1, h2⟩ := Bool.and_eq_true_iff.mp (show (!isStar e && noStars r) = true from h)
    rw [star_cons (by simpa using h1), star_all h2]
    rfl
theorem star_back {env : Env} {pos : Pos} : ∀ {es : List Expr}, noStars es = true → backTo pos (starEach es env) = es.map fun e => (false, eval e env) := fun {es} h => by
  rw [star_all h]
  unfold backTo
  rw [List.map_map]
  rfl
theorem star_any {env : Env} {pos : Pos} {es : List Expr} (h : noStars es = true) : (backTo pos (starEach es env)).any (·.1) = false := by
  rw [star_back h, List.any_map]
  simp
theorem form_ok {env : Env} {pos : Pos} {es : List Expr} (h : noStars es = true) (hl : Nat.blt es.length 30 = true) : methodCallForm es.length (backTo pos (starEach es env)) [] = true := by
  unfold methodCallForm
  rw [star_back h]
  have := Nat.blt_eq.mp hl
  simp [List.all_map, this]
/-- super() -/
def isSup : Expr → Bool
  | .Call (.Name _ _) [] [] _ => true
  | _ => false
theorem base_eq {e : Expr} {f : Str} {env : Env} {w : Sem Value} (h : isSup e = false) : attributeBase e f env w = w := by
  unfold attributeBase
  split
  · cases h
  · rfl
def isSl : Expr → Bool
  | .Slice _ _ _ _ => true
  | _ => false
theorem plainIx {b : Expr} (h : isSl b = false) : PlainIx b := fun o i => by
  cases b <;> first | rfl | cases h
theorem noSl {b : Expr} (h : isSl b = false) : NoSl b := fun o i => by
  cases b <;> first | rfl | cases h
theorem asg_sub {o i : Expr} {pos : Pos} {env : Env} (h : isSl i = false) (v : Value) : assign (.Subscript o i pos) env v = (do
      let ov ← holding [v] (eval o env)
      let iv ← holding [v, ov] (eval i env)
      standAt pos
      holding [v, ov, iv] (setItem ov iv v)
      release [v, ov, iv] []) := by
  cases i <;> first | rfl | cases h
def isSet : Expr → Bool
  | .Set _ _ _ => true
  | _ => false
theorem fold_eq {e : Expr} (h : isSet e = false) (env : Env) (x : Value) : foldedSetIterable e env x = pure x := by
  unfold foldedSetIterable
  split
  · cases h
  · rfl
def isComp : Expr → Bool
  | .ListComp _ _ _ _ => true
  | .SetComp _ _ _ _ => true
  | .DictComp _ _ _ _ _ => true
  | _ => false
theorem swaps_no {e : Expr} {t : Option Expr} {n : Nat} {env : Env} (h : isComp e = false) : swapsWith e t n env = pure false := by
  unfold swapsWith
  cases e <;> first | rfl | cases h
def isName : Expr → Bool
  | .Name _ _ => true
  | _ => false
theorem swaps_tg {e t : Expr} {n : Nat} {env : Env} (h : isName t = false) : swapsWith e (some t) n env = pure false := by
  unfold swapsWith
  cases e <;> first | rfl | skip
  all_goals (cases t <;> first | rfl | cases h)
/-- a list comprehension stored in a name -/
def lcSw (sc : List (Str × NameKind)) (scope : Scope) (t : Str) (p1 p2 : Pos) : Bool := (match sc.lookup t with | some .local => true | _ => false) && p1.line == p2.line && !(scope.names.any fun (n, k) => n == t && (k == .local || k == .cell))
theorem swaps_lc {elt : Expr} {gs : List Comprehension} {scope : Scope} {pos p : Pos} {t : Str} {n : Nat} {env : Env} {sc : List (Str × NameKind)} (hk : env.scope.kind = .function) (hn : env.scope.names = sc) : swapsWith (.ListComp elt gs scope pos) (some (.Name t p)) n env = pure (lcSw sc scope t p pos) := by
  unfold swapsWith lcSw
  have hb : env.blockKind = .function := by unfold Env.blockKind; rw [hk]; rfl
  have hl : (env.kindOf t == some .local) = (match sc.lookup t with | some .local => true | _ => false) := by
    unfold Env.kindOf
    rw [hn]
    cases sc.lookup t with
    | none => rfl
    | some k => cases k <;> rfl
  simp only [hb, hl]
  rfl
def isTst : Expr → Bool
  | .UnaryOp .Not _ _ => true
  | .BoolOp _ _ _ => true
  | .IfExp _ _ _ _ => true
  | .Compare _ _ _ _ => true
  | _ => false
theorem true_eq {e : Expr} {env : Env} (h : isTst e = false) (whole : Sem Value) : isTrue e env whole = (do let v ← whole; standAt e.pos; holding [v] (truthy v)) := by
  cases e with
  | UnaryOp op x p => cases op <;> first | rfl | cases h
  | BoolOp => cases h
  | IfExp => cases h
  | Compare => cases h
  | _ => rfl
theorem asgE_cons {e : Expr} {es : List Expr} {env : Env} (h : isStar e = false) : assignEach (e :: es) env = (false, assign e env) :: assignEach es env := by
  cases e <;> first | rfl | cases h
theorem asgE_all {env : Env} : ∀ {es : List Expr}, noStars es = true → assignEach es env = es.map fun e => (false, assign e env)
  | [], _ => rfl
  | e :: r, h => by
    obtain ⟨h1, h2⟩ := Bool.and_eq_true_iff.mp (show (!isStar e && noStars r) = true from h)
    rw [asgE_cons (by simpa using h1), asgE_all h2]
    rfl
theorem asgE_len {env : Env} {es : List Expr} (h : noStars es = true) : (assignEach es env).length = es.length := by rw [asgE_all h, List.length_map]
theorem asgE_find {env : Env} {es : List Expr} (h : noStars es = true) : (assignEach es env).findIdx? (·.1) = none := by
  rw [asgE_all h, List.findIdx?_map]
  simp [List.findIdx?_eq_none_iff]
/-! ### two or three names at once -/
def swNames (sc : List (Str × NameKind)) (line : Nat) (ts : List Expr) : List Str := ts.filterMap fun
  | .Name id pos => if (match sc.lookup id with | some .local => true | _ => false) && pos.line == line then some id else none
  | _ => none
/-- none: not told by the model -/
def swB (sc : List (Str × NameKind)) (ts vs : List Expr) : Option (Option (List Str)) :=
  match !(ts.length == 2 || ts.length == 3) || vs.length != ts.length with
  | true => some none
  | false => match vs.any isStar with
    | true => some none
    | false => match (swNames sc ((ts.head?.map (·.pos.line)).getD 0) ts).length != ts.length || (swNames sc ((ts.head?.map (·.pos.line)).getD 0) ts).eraseDups.length != (swNames sc ((ts.head?.map (·.pos.line)).getD 0) ts).length with
      | true => some none
      | false => match vs.all (foldedForSure 8) with
        | true => some none
        | false => match vs.all (constantsAlone 8) with
          | true => none
          | false => some (some (swNames sc ((ts.head?.map (·.pos.line)).getD 0) ts))
def swNamesE (env : Env) (line : Nat) (ts : List Expr) : List Str := ts.filterMap fun
  | .Name id pos => if env.kindOf id == some .local && pos.line == line then some id else none
  | _ => none
def swOwn (env : Env) (ts vs : List Expr) : Sem (Option (List Str)) :=
  if !(ts.length == 2 || ts.length == 3) || vs.length != ts.length || env.blockKind != .function then pure none else
  if vs.any isStar then pure none else
  if (swNamesE env ((ts.head?.map (·.pos.line)).getD 0) ts).length != ts.length || (swNamesE env ((ts.head?.map (·.pos.line)).getD 0) ts).eraseDups.length != (swNamesE env ((ts.head?.map (·.pos.line)).getD 0) ts).length then pure none else
  if vs.all (foldedForSure 8) then pure none else do
  if vs.all (constantsAlone 8) then unsupported "assign.tuple-of-constant-expressions:order-of-the-stores"
  pure (some (swNamesE env ((ts.head?.map (·.pos.line)).getD 0) ts))
theorem swOwn_eq {env : Env} {ts vs : List Expr} {k k2 : Nat} {p p2 : Pos} : swappedStores [.Tuple ts k p] (.Tuple vs k2 p2) env = swOwn env ts vs := rfl
theorem swapped_eq {sc : List (Str × NameKind)} {ts vs : List Expr} {k k2 : Nat} {p p2 : Pos} {env : Env} {r : Option (List Str)} (hk : env.scope.kind = .function) (hn : env.scope.names = sc) (h : swB sc ts vs = some r) : swappedStores [.Tuple ts k p] (.Tuple vs k2 p2) env = pure r := by
  have hb : env.blockKind = .function := by unfold Env.blockKind; rw [hk]; rfl
  have hm : ∀ line : Nat, swNamesE env line ts = swNames sc line ts := fun line => by
    unfold swNames swNamesE
    congr 1
    funext t
    cases t <;> try rfl
    rename_i id pos
    have hl : (env.kindOf id == some .local) = (match sc.lookup id with | some .local => true | _ => false) := by
      unfold Env.kindOf
      rw [hn]
      cases sc.lookup id with
      | none => rfl
      | some k => cases k <;> rfl
    simp only [hl]
  rw [swOwn_eq]
  unfold swB at h
  unfold swOwn
  simp only [hb, hm]
  cases h1 : (!(ts.length == 2 || ts.length == 3) || vs.length != ts.length) with
  | true => rw [h1] at h; cases h; rfl
  | false =>
    rw [h1] at h
    simp only at h
    rw [if_neg (show ¬ ((false || ScopeKind.function != ScopeKind.function) = true) from by decide)]
    cases h2 : vs.any isStar with
    | true => rw [h2] at h; cases h; rfl
    | false =>
      rw [h2] at h
      simp only at h
      rw [if_neg Bool.false_ne_true]
      cases h3 : ((swNames sc ((ts.head?.map (·.pos.line)).getD 0) ts).length != ts.length || (swNames sc ((ts.head?.map (·.pos.line)).getD 0) ts).eraseDups.length != (swNames sc ((ts.head?.map (·.pos.line)).getD 0) ts).length) with
      | true => rw [h3] at h; cases h; rfl
      | false =>
        rw [h3] at h
        simp only at h
        rw [if_neg Bool.false_ne_true]
        cases h4 : vs.all (foldedForSure 8) with
        | true => rw [h4] at h; cases h; rfl
        | false =>
          rw [h4] at h
          simp only at h
          rw [if_neg Bool.false_ne_true]
          cases h5 : vs.all (constantsAlone 8) with
          | true => rw [h5] at h; cases h
          | false => rw [h5] at h; cases h; rfl
def isTup2 : Expr → Bool
  | .Tuple _ _ _ => true
  | .List _ _ => true
  | _ => false
theorem swapped_no {t e : Expr} {env : Env} (h : isTup2 t = false) : swappedStores [t] e env = pure none := by
  unfold swappedStores
  cases t <;> first | rfl | cases h
theorem swapped_nov {t e : Expr} {env : Env} (h : isTup2 e = false) : swappedStores [t] e env = pure none := by
  unfold swappedStores
  cases e <;> first | cases h | skip
  all_goals (cases t <;> rfl)
end DC
/-! Dc20: from the text to its meaning. -/
namespace DC
open PySem PySem.Spec PyProof.Rows L2
/-! ### printing -/
def natsTx (l : List Nat) : String := "[" ++ ", ".intercalate (l.map toString) ++ "]"
def intTx (i : Int) : String := match i with
  | .ofNat n => s!"(Int.ofNat {n})"
  | .negSucc n => s!"(Int.negSucc {n})"
def strTx (x : Str) : String := "(⟨#" ++ natsTx x.cps.toList ++ "⟩ : Str)"
def blTx (b : Bool) : String := if b then "true" else "false"
def dTxF : Nat → D → String
  | 0, _ => ""
  | _ + 1, .non => "D.non"
  | _ + 1, .bl b => s!"(D.bl {blTx b})"
  | _ + 1, .int i => s!"(D.int {intTx i})"
  | _ + 1, .str x => s!"(D.str {natsTx x})"
  | n + 1, .tup xs => "(D.tup [" ++ ", ".intercalate (xs.map (dTxF n)) ++ "])"
  | n + 1, .lsq xs => "(D.lsq [" ++ ", ".intercalate (xs.map (dTxF n)) ++ "])"
  | _ + 1, .obj n => s!"(D.obj {n})"
  | _ + 1, .fn g => s!"(D.fn {g})"
  | _ + 1, .cls c => s!"(D.cls {c})"
def dTx (d : D) : String := dTxF 200 d
def ddTx (l : List D) : String := "[" ++ ", ".intercalate (l.map dTx) ++ "]"
/-! ### what a piece of text means -/
section
variable (G : Gx) (c : Cc)
structure CE (e : Expr) where
  v : Ev
  tx : Unit → String
  ok : ∀ (T : Tb) (X : Cx) (k : Nat) (rc : Rc) (W : WX), Ok G T c X k rc W → PE X e (RE T X.K W (v rc))
structure CT (e : Expr) where
  v : Tv
  tx : Unit → String
  ok : ∀ (T : Tb) (X : Cx) (k : Nat) (rc : Rc) (W : WX), Ok G T c X k rc W → PT X e (RT T X.K W (v rc))
structure CW (e : Expr) where
  v : Tv
  tx : Unit → String
  ok : ∀ (T : Tb) (X : Cx) (k : Nat) (rc : Rc) (W : WX), Ok G T c X k rc W → PW X e (RT T X.K W (v rc))
structure CTs (es : List Expr) where
  v : Tv
  tx : Unit → String
  ok : ∀ (T : Tb) (X : Cx) (k : Nat) (rc : Rc) (W : WX), Ok G T c X k rc W → PTs X es (RT T X.K W (v rc))
structure CA (es : List Expr) where
  v : Av
  tx : Unit → String
  ok : ∀ (T : Tb) (X : Cx) (k : Nat) (rc : Rc) (W : WX), Ok G T c X k rc W → PA X es (RA T X.K W (v rc))
structure CI (tg e : Expr) where
  v : Iv
  tx : Unit → String
  ok : ∀ (T : Tb) (X : Cx) (k : Nat) (rc : Rc) (W : WX), Ok G T c X k rc W → PI X tg e (RI T X.K W (v rc))
structure CG (tg : Expr) where
  v : Gv
  is : List Nat
  tx : Unit → String
  pl : Plg v
  ok : ∀ (T : Tb) (X : Cx) (k : Nat) (rc : Rc) (W : WX), Ok G T c X k rc W → PG X tg (RGt T X.K W is (v rc))
structure CGs (tgs : List Expr) where
  v : Gsv
  is : List Nat
  tx : Unit → String
  pl : Plgs v
  ok : ∀ (T : Tb) (X : Cx) (k : Nat) (rc : Rc) (W : WX), Ok G T c X k rc W → PGs X tgs (RGs T X.K W is (v rc))
structure CS (st : Stmt) where
  v : Sv
  tx : Unit → String
  ok : ∀ (T : Tb) (X : Cx) (k : Nat) (rc : Rc) (W : WX), Ok G T c X k rc W → PS X st (RS T X.K W (v rc))
structure CSs (l : List Stmt) where
  v : Sv
  tx : Unit → String
  ok : ∀ (T : Tb) (X : Cx) (k : Nat) (rc : Rc) (W : WX), Ok G T c X k rc W → PSs X l (RS T X.K W (v rc))
structure CWh (e : Expr) where
  v : Wv
  tx : Unit → String
  ok : ∀ (T : Tb) (X : Cx) (k : Nat) (rc : Rc) (W : WX), Ok G T c X k rc W → PTw X e (RTw T X.K W (v rc))
structure CU (i : Option Nat) (e : Expr) where
  v : Uv
  tx : Unit → String
  ok : ∀ (T : Tb) (X : Cx) (k : Nat) (rc : Rc) (W : WX), Ok G T c X k rc W → SuE G T X i e v
structure CUs (i : Option Nat) (es : List Expr) where
  v : Us
  tx : Unit → String
  ok : ∀ (T : Tb) (X : Cx) (k : Nat) (rc : Rc) (W : WX), Ok G T c X k rc W → SuA G T X i es v
structure CH (hs : List ExceptHandler) where
  v : List (Nat × Uv)
  tx : Unit → String
  ok : ∀ (T : Tb) (X : Cx) (k : Nat) (rc : Rc) (W : WX), Ok G T c X k rc W → SuH G T c X hs v
end
/-! ### not told -/
def eBad : Ev := fun _ _ _ => .bad
def tBad : Tv := fun _ _ _ => .bad
def aBad : Av := fun _ _ _ => .bad
def iBad : Iv := fun _ _ _ => .bad
def gBad : Gv := fun _ _ _ _ => .bad
def gsBad : Gsv := fun _ _ _ _ => .bad
def sBad : Sv := fun _ _ _ => .bad
def uBad : Uv := fun _ _ _ => none
section
variable {G : Gx} {T : Tb} {c : Cc} {X : Cx} {k : Nat} {rc : Rc} {W : WX}
def badE {e : Expr} : CE G c e := ⟨eBad, fun _ => "eBad", fun T X k rc W _ => ⟨fun pins s σ H Q I h => by obtain ⟨ρ, env, h0, R, E, q⟩ := h; exact q.elim⟩⟩
def badT {e : Expr} : CT G c e := ⟨tBad, fun _ => "tBad", fun T X k rc W _ => ⟨fun pins s σ H Q I h => by obtain ⟨ρ, env, h0, R, E, q⟩ := h; exact q.elim⟩⟩
def badW {e : Expr} : CW G c e := ⟨tBad, fun _ => "tBad", fun T X k rc W _ => ⟨fun w pins s σ H Q I h => by obtain ⟨ρ, env, h0, R, E, q⟩ := h; exact q.elim⟩⟩
def badTs {es : List Expr} : CTs G c es := ⟨tBad, fun _ => "tBad", fun T X k rc W _ => ⟨fun pins s σ H Q I h => by obtain ⟨ρ, env, h0, R, E, q⟩ := h; exact q.elim⟩⟩
def badA {es : List Expr} : CA G c es := ⟨aBad, fun _ => "aBad", fun T X k rc W _ => ⟨fun pos pins s σ H Q I h => by obtain ⟨ρ, env, h0, R, E, q⟩ := h; exact q.elim⟩⟩
def badI {tg e : Expr} : CI G c tg e := ⟨iBad, fun _ => "iBad", fun T X k rc W _ => ⟨fun pins s σ H Q I h => by obtain ⟨ρ, env, h0, R, E, q⟩ := h; exact q.elim⟩⟩
def badG {e : Expr} : CG G c e := ⟨gBad, [], fun _ => "gBad", fun _ _ _ _ => ⟨fun _ _ z => (nomatch z), fun _ _ z => (nomatch z), fun _ _ z => (nomatch z)⟩, fun T X k rc W _ => ⟨fun v u pins s σ H Q I r h => by obtain ⟨ρ, env, h0, d, R, E, r, q⟩ := h; exact q.elim⟩⟩
def badGs {es : List Expr} : CGs G c es := ⟨gsBad, [], fun _ => "gsBad", fun _ _ _ _ => ⟨fun _ _ z => (nomatch z), fun _ _ z => (nomatch z), fun _ _ z => (nomatch z)⟩, fun T X k rc W _ => ⟨fun v u pins s σ H Q I r h => by obtain ⟨ρ, env, h0, d, R, E, r, q⟩ := h; exact q.elim⟩⟩
def badS {st : Stmt} : CS G c st := ⟨sBad, fun _ => "sBad", fun T X k rc W _ => ⟨fun pins s σ H D I h => by obtain ⟨ρ, env, h0, R, E, q⟩ := h; exact q.elim⟩⟩
def badSs {l : List Stmt} : CSs G c l := ⟨sBad, fun _ => "sBad", fun T X k rc W _ => ⟨fun pins s σ H D I h => by obtain ⟨ρ, env, h0, R, E, q⟩ := h; exact q.elim⟩⟩
def badU {i : Option Nat} {e : Expr} : CU G c i e := ⟨uBad, fun _ => "uBad", fun T X k rc W _ a oe cls d pn hz hf => ⟨fun pins s σ H Q I h => by obtain ⟨ρ, h, cl, v, r, R, ec, xr, hi, e, q⟩ := h; cases e⟩⟩
end
/-- the compiler for smaller pieces -/
structure Cp (G : Gx) where
  e : (c : Cc) → (e : Expr) → CE G c e
  t : (c : Cc) → (e : Expr) → CT G c e
  ss : (c : Cc) → (l : List Stmt) → CSs G c l
/-! ### names -/
def idx : List Str → Str → Option Nat
  | [], _ => none
  | y :: r, x => match decide (y = x) with
    | true => some 0
    | false => (match idx r x with
      | some i => some (i + 1)
      | none => none)
theorem idx_ok : ∀ {N : List Str} {x : Str} {i : Nat}, idx N x = some i → N[i]? = some x
  | [], _, _, h => by cases h
  | y :: r, x, i, h => by
    unfold idx at h
    split at h
    · rename_i q
      cases h
      have := of_decide_eq_true q
      subst this
      rfl
    · split at h
      · rename_i j q
        cases h
        exact idx_ok (N := r) q
      · cases h
def dbgB (x : Str) : Bool := !(x == ("__debug__" : Str)) && !(x == ("__classdict__" : Str))
theorem dbg1 {x : Str} (h : dbgB x = true) : (x == ("__debug__" : Str)) = false := by
  have := (Bool.and_eq_true_iff.mp h).1
  simpa using this
theorem dbg2 {x : Str} (h : dbgB x = true) : (x == ("__classdict__" : Str)) = false := by
  have := (Bool.and_eq_true_iff.mp h).2
  simpa using this
section
variable (G : Gx) (c : Cc)
def cVar (x : Str) (pos : Pos) (kd : NameKind) (hk : c.sc.lookup x = some kd) (hv : kd = .local ∨ kd = .cell ∨ kd = .free) (hd : dbgB x = true) : CE G c (.Name x pos) := match hi : idx c.N x with
  | some i => ⟨vVar i, fun _ => s!"(vVar {i})", fun T X k rc W ok => se_var ok (idx_ok hi) hk hv (dbg1 hd) (dbg2 hd)⟩
  | none => badE
def cName (x : Str) (pos : Pos) : CE G c (.Name x pos) := match hd : dbgB x with
  | false => badE
  | true => (match hk : c.sc.lookup x with
    | some .local => cVar G c x pos .local hk (.inl rfl) hd
    | some .cell => cVar G c x pos .cell hk (.inr (.inl rfl)) hd
    | some .free => cVar G c x pos .free hk (.inr (.inr rfl)) hd
    | some .globalImplicit => (match hg : G.nm x with
      | some (.val d) => ⟨vC d, fun _ => s!"(vC {dTx d})", fun T X k rc W ok => se_glob ok hk hg (dbg1 hd)⟩
      | some (.fn g) => ⟨vC (.fn g), fun _ => s!"(vC (D.fn {g}))", fun T X k rc W ok => se_gfn ok hk hg (dbg1 hd)⟩
      | some (.cls g) => ⟨vC (.cls g), fun _ => s!"(vC (D.cls {g}))", fun T X k rc W ok => se_gcls ok hk hg (dbg1 hd)⟩
      | _ => badE)
    | _ => badE)
/-- a builtin's name -/
def bnB (x : Str) : Bool := (match c.sc.lookup x with
  | some .globalImplicit => true
  | _ => false) && (match G.nm x with
  | some .abs => true
  | _ => false)
end
theorem bn_ok {G : Gx} {c : Cc} {T : Tb} {X : Cx} {k : Nat} {rc : Rc} {W : WX} {x : Str} (ok : Ok G T c X k rc W) (h : bnB G c x = true) : Gl X x ∧ X.mg x = none := by
  unfold bnB at h
  obtain ⟨h1, h2⟩ := Bool.and_eq_true_iff.mp h
  refine ⟨ok.glo x ?_, ?_⟩
  · split at h1
    · assumption
    · cases h1
  · have q := ok.gok.nm x
    split at h2
    · rename_i e
      rw [e] at q
      exact q
    · cases h2
def cConst {G : Gx} {c : Cc} : (k : Const) → (j : Nat) → (pos : Pos) → CE G c (.Constant k j pos)
  | .none, j, pos => ⟨vC .non, fun _ => "(vC D.non)", fun T X k rc W ok => se_non⟩
  | .bool b, j, pos => ⟨vC (.bl b), fun _ => s!"(vC (D.bl {blTx b}))", fun T X k rc W ok => se_bl⟩
  | .int i, j, pos => ⟨vC (.int i), fun _ => s!"(vC (D.int {intTx i}))", fun T X k rc W ok => se_int⟩
  | .str x, j, pos => ⟨vC (.str x.cps.toList), fun _ => s!"(vC (D.str {natsTx x.cps.toList}))", fun T X k rc W ok => se_str⟩
  | _, _, _ => badE
/-! ### operators -/
structure OB (op : Operator) where
  g : D → D → AH → Out D
  tx : String
  ok : ∀ (T : Tb) (X : Cx) (W : WX), OpD T X W (binaryOp op) g
def opB : (op : Operator) → Option (OB op)
  | .Add => some ⟨addO, "addO", fun _ _ _ => od_add⟩
  | .Sub => some ⟨subO, "subO", fun _ _ _ => od_sub⟩
  | .Mult => some ⟨mulO, "mulO", fun _ _ _ => od_mul⟩
  | .FloorDiv => some ⟨fdivO, "fdivO", fun _ _ _ => od_fdiv⟩
  | .Mod => some ⟨modO, "modO", fun _ _ _ => od_mod⟩
  | .Pow => some ⟨powO, "powO", fun _ _ _ => od_pow⟩
  | _ => none
structure OJ (op : Operator) where
  g : D → D → AH → Out D
  tx : String
  ok : ∀ (T : Tb) (X : Cx) (W : WX), OpD T X W (inplaceOp op) g
def opJ : (op : Operator) → Option (OJ op)
  | .Add => some ⟨iaddO, "iaddO", fun _ _ _ => od_iadd⟩
  | .Sub => some ⟨subO, "subO", fun _ _ _ => od_isub⟩
  | .Mult => some ⟨imulO, "imulO", fun _ _ _ => od_imul⟩
  | .FloorDiv => some ⟨fdivO, "fdivO", fun _ _ _ => od_ifdiv⟩
  | .Mod => some ⟨modO, "modO", fun _ _ _ => od_imod⟩
  | _ => none
structure OC (op : CmpOp) where
  g : D → D → AH → Out D
  tx : String
  ok : ∀ (T : Tb) (X : Cx) (W : WX), X.A.units + 64 < cLine → OpD T X W (compareOp op) g
def opC : (op : CmpOp) → Option (OC op)
  | .Eq => some ⟨eqO, "eqO", fun _ _ _ h => od_eq h⟩
  | .NotEq => some ⟨neO, "neO", fun _ _ _ h => od_ne h⟩
  | .Lt => some ⟨ltO, "ltO", fun _ _ _ h => od_lt⟩
  | .LtE => some ⟨leO, "leO", fun _ _ _ h => od_le⟩
  | .Gt => some ⟨gtO, "gtO", fun _ _ _ h => od_gt⟩
  | .GtE => some ⟨geO, "geO", fun _ _ _ h => od_ge⟩
  | .Is => some ⟨isO, "isO", fun _ _ _ h => od_is⟩
  | .IsNot => some ⟨isNotO, "isNotO", fun _ _ _ h => od_isNot⟩
  | .In => some ⟨inO, "inO", fun _ _ _ h => od_in⟩
  | .NotIn => some ⟨notInO, "notInO", fun _ _ _ h => od_notIn⟩
theorem room64 {G : Gx} {c : Cc} {T : Tb} {X : Cx} {k : Nat} {rc : Rc} {W : WX} (ok : Ok G T c X k rc W) : X.A.units + 64 < cLine := by have := ok.room.un; omega
/-! ### lists of expressions -/
section
variable {G : Gx} (r : Cp G) (c : Cc)
def cA : (es : List Expr) → CA G c es
  | [] => ⟨aNil, fun _ => "aNil", fun T X k rc W ok => sa_nil⟩
  | .Starred e p :: es => ⟨aStar (r.e c e).v (cA es).v, fun _ => s!"(aStar {(r.e c e).tx ()} {(cA es).tx ()})", fun T X k rc W ok => sa_star ((r.e c e).ok T X k rc W ok) ((cA es).ok T X k rc W ok)⟩
  | e :: es => match h : isStar e with
    | true => badA
    | false => ⟨aCons (r.e c e).v (cA es).v, fun _ => s!"(aCons {(r.e c e).tx ()} {(cA es).tx ()})", fun T X k rc W ok => sa_cons ((r.e c e).ok T X k rc W ok) ((cA es).ok T X k rc W ok) (star_cons h)⟩
def cAndT (pos : Pos) : (l : List Expr) → CW G c (.BoolOp .And l pos)
  | [] => badW
  | [a] => ⟨(r.t c a).v, (r.t c a).tx, fun T X k rc W ok => st_and1 ((r.t c a).ok T X k rc W ok)⟩
  | a :: b :: rest => ⟨vAndT (r.t c a).v (cAndT pos (b :: rest)).v, fun _ => s!"(vAndT {(r.t c a).tx ()} {(cAndT pos (b :: rest)).tx ()})", fun T X k rc W ok => st_and ((r.t c a).ok T X k rc W ok) ((cAndT pos (b :: rest)).ok T X k rc W ok)⟩
def cOrT (pos : Pos) : (l : List Expr) → CW G c (.BoolOp .Or l pos)
  | [] => badW
  | [a] => ⟨(r.t c a).v, (r.t c a).tx, fun T X k rc W ok => st_or1 ((r.t c a).ok T X k rc W ok)⟩
  | a :: b :: rest => ⟨vOrT (r.t c a).v (cOrT pos (b :: rest)).v, fun _ => s!"(vOrT {(r.t c a).tx ()} {(cOrT pos (b :: rest)).tx ()})", fun T X k rc W ok => st_or ((r.t c a).ok T X k rc W ok) ((cOrT pos (b :: rest)).ok T X k rc W ok)⟩
def cAndE (pos : Pos) : (l : List Expr) → CE G c (.BoolOp .And l pos)
  | [] => badE
  | [a] => ⟨(r.e c a).v, (r.e c a).tx, fun T X k rc W ok => se_one ((r.e c a).ok T X k rc W ok)⟩
  | a :: b :: rest => ⟨vAnd (r.e c a).v (cAndE pos (b :: rest)).v, fun _ => s!"(vAnd {(r.e c a).tx ()} {(cAndE pos (b :: rest)).tx ()})", fun T X k rc W ok => se_and ((r.e c a).ok T X k rc W ok) ((cAndE pos (b :: rest)).ok T X k rc W ok)⟩
def cOrE (pos : Pos) : (l : List Expr) → CE G c (.BoolOp .Or l pos)
  | [] => badE
  | [a] => ⟨(r.e c a).v, (r.e c a).tx, fun T X k rc W ok => se_one ((r.e c a).ok T X k rc W ok)⟩
  | a :: b :: rest => ⟨vOr (r.e c a).v (cOrE pos (b :: rest)).v, fun _ => s!"(vOr {(r.e c a).tx ()} {(cOrE pos (b :: rest)).tx ()})", fun T X k rc W ok => se_or ((r.e c a).ok T X k rc W ok) ((cOrE pos (b :: rest)).ok T X k rc W ok)⟩
def cTs : (l : List Expr) → CTs G c l
  | [] => ⟨tT, fun _ => "tT", fun T X k rc W ok => st_nil⟩
  | [e] => ⟨(r.t c e).v, (r.t c e).tx, fun T X k rc W ok => st_one ((r.t c e).ok T X k rc W ok)⟩
  | _ => badTs
/-! ### comparisons -/
def cCmp (a : Expr) (ops : List CmpOp) (bs : List Expr) (pos : Pos) : CE G c (.Compare a ops bs pos) := match ops, bs with
  | [op], [b] => (match opC op with
    | none => badE
    | some o => (match h : behindInMarks op b with
      | true => badE
      | false => ⟨vB o.g (r.e c a).v (r.e c b).v, fun _ => s!"(vB {o.tx} {(r.e c a).tx ()} {(r.e c b).tx ()})", fun T X k rc W ok => se_cmp (o.ok T X W (room64 ok)) ((r.e c a).ok T X k rc W ok) ((r.e c b).ok T X k rc W ok) h⟩))
  | [op, op'], [b, e] => (match opC op, opC op' with
    | some o, some o' => (match h : lastMarks [op, op'] [b, e] with
      | true => badE
      | false => ⟨vChain o.g o'.g (r.e c a).v (r.e c b).v (r.e c e).v, fun _ => s!"(vChain {o.tx} {o'.tx} {(r.e c a).tx ()} {(r.e c b).tx ()} {(r.e c e).tx ()})",
          fun T X k rc W ok => se_chain (fun W => o.ok T X W (room64 ok)) (fun W => o'.ok T X W (room64 ok)) ((r.e c a).ok T X k rc W ok) ((r.e c b).ok T X k rc W ok) ((r.e c e).ok T X k rc W ok) h⟩)
    | _, _ => badE)
  | _, _ => badE
def cCmpT (a : Expr) (ops : List CmpOp) (bs : List Expr) (pos : Pos) : CT G c (.Compare a ops bs pos) := match ops, bs with
  | [op], [b] => (match opC op with
    | none => badT
    | some o => (match h : behindInMarks op b with
      | true => badT
      | false => ⟨vBl (vB o.g (r.e c a).v (r.e c b).v), fun _ => s!"(vBl (vB {o.tx} {(r.e c a).tx ()} {(r.e c b).tx ()}))", fun T X k rc W ok => st_cmp (o.ok T X W (room64 ok)) ((r.e c a).ok T X k rc W ok) ((r.e c b).ok T X k rc W ok) h⟩))
  | [op, op'], [b, e] => (match opC op, opC op' with
    | some o, some o' => (match h : lastMarks [op, op'] [b, e] with
      | true => badT
      | false => ⟨vBl (vChain o.g o'.g (r.e c a).v (r.e c b).v (r.e c e).v), fun _ => s!"(vBl (vChain {o.tx} {o'.tx} {(r.e c a).tx ()} {(r.e c b).tx ()} {(r.e c e).tx ()}))",
          fun T X k rc W ok => st_chain (fun W => o.ok T X W (room64 ok)) (fun W => o'.ok T X W (room64 ok)) ((r.e c a).ok T X k rc W ok) ((r.e c b).ok T X k rc W ok) ((r.e c e).ok T X k rc W ok) h⟩)
    | _, _ => badT)
  | _, _ => badT
def cTst : (e : Expr) → CT G c e
  | .Compare a ops bs pos => cCmpT r c a ops bs pos
  | .UnaryOp .Not e pos => ⟨vNotT (r.t c e).v, fun _ => s!"(vNotT {(r.t c e).tx ()})", fun T X k rc W ok => st_not ((r.t c e).ok T X k rc W ok)⟩
  | .BoolOp .And l pos => ⟨(cAndT r c pos l).v, (cAndT r c pos l).tx, fun T X k rc W ok => ((cAndT r c pos l).ok T X k rc W ok).pt⟩
  | .BoolOp .Or l pos => ⟨(cOrT r c pos l).v, (cOrT r c pos l).tx, fun T X k rc W ok => ((cOrT r c pos l).ok T X k rc W ok).pt⟩
  | e => match h : isTst e with
    | true => badT
    | false => ⟨vTru (r.e c e).v, fun _ => s!"(vTru {(r.e c e).tx ()})", fun T X k rc W ok => st_tru ((r.e c e).ok T X k rc W ok) (true_eq h)⟩
/-! ### targets, iterables -/
def stoB (c : Cc) (i : Nat) (x : Str) : Bool := (match c.N[i]? with
  | some y => decide (y = x)
  | none => false) && (match c.sc.lookup x with
  | some .local => true
  | some .cell => true
  | _ => false)
theorem sto_ok {c : Cc} {i : Nat} {x : Str} (h : stoB c i x = true) : Sto c i x := by
  unfold stoB at h
  obtain ⟨h1, h2⟩ := Bool.and_eq_true_iff.mp h
  refine ⟨?_, ?_⟩
  · split at h1
    · rename_i e
      rw [e, of_decide_eq_true h1]
    · cases h1
  · split at h2
    · exact .inl (by assumption)
    · exact .inr (by assumption)
    · cases h2
def stoI (c : Cc) (x : Str) : Option Nat := match idx c.N x with
  | some i => (match stoB c i x with
    | true => some i
    | false => none)
  | none => none
theorem stoI_ok {c : Cc} {x : Str} {i : Nat} (h : stoI c x = some i) : Sto c i x := by
  unfold stoI at h
  split at h
  · split at h
    · rename_i e
      cases h
      exact sto_ok e
    · cases h
  · cases h
/-- targets by depth -/
def cG : Nat → (e : Expr) → CG G c e
  | 0, _ => badG
  | n + 1, .Name x pos => (match h : stoI c x with
    | some i => ⟨gNm i, [i], fun _ => s!"(gNm {i})", plg_nm, fun T X k rc W ok => sg_name ok (stoI_ok h)⟩
    | none => badG)
  | n + 1, .Tuple es j pos =>
    let rec go : (es : List Expr) → CGs G c es
      | [] => ⟨gsNil, [], fun _ => "gsNil", plg_nil, fun T X k rc W ok => sg_nil⟩
      | e :: es => match h : isStar e with
        | true => badGs
        | false => ⟨gsCons (cG n e).v (go es).v, (cG n e).is ++ (go es).is, fun _ => s!"(gsCons {(cG n e).tx ()} {(go es).tx ()})", plg_cons (cG n e).pl (go es).pl, fun T X k rc W ok => sg_cons ((cG n e).ok T X k rc W ok) ((go es).ok T X k rc W ok) (by rw [asgE_cons h] <;> rfl)⟩
    (match h : noStars es with
    | false => badG
    | true => ⟨gTp es.length (go es).v, (go es).is, fun _ => s!"(gTp {es.length} {(go es).tx ()})", plg_tp (go es).pl, fun T X k rc W ok => sg_tup ok ((go es).ok T X k rc W ok) (asgE_len h) (asgE_find h)⟩)
  | n + 1, .Subscript o i pos => (match h : isSl i with
    | true => badG
    | false => ⟨gSb (r.e c o).v (r.e c i).v, [], fun _ => s!"(gSb {(r.e c o).tx ()} {(r.e c i).tx ()})", plg_sb, fun T X k rc W ok => sg_sub ok ((r.e c o).ok T X k rc W ok) ((r.e c i).ok T X k rc W ok) (asg_sub h)⟩)
  | _ + 1, _ => badG
def cI (tg : Expr) : (e : Expr) → CI G c tg e
  | .Call (.Name x p) [e] [] pos => (match h : decide (x = "range") && (bnB G c "range" && !isStar e) with
    | true => ⟨iRng1 (cA r c [e]).v, fun _ => s!"(iRng1 {(cA r c [e]).tx ()})", fun T X k rc W ok => by
        simp only [Bool.and_eq_true, decide_eq_true_eq, Bool.not_eq_true'] at h
        obtain ⟨h1, h2, h3⟩ := h
        subst h1
        obtain ⟨b1, b2⟩ := bn_ok ok h2
        exact si_rng1 b1 b2 ((cA r c [e]).ok T X k rc W ok) (star_cons h3)⟩
    | false => (match tg with
      | .Tuple elts kk tpos => (match h : decide (x = "enumerate") && (bnB G c "enumerate" && !isStar e) with
        | true => ⟨iEnum (cA r c [e]).v, fun _ => s!"(iEnum {(cA r c [e]).tx ()})", fun T X k rc W ok => by
            simp only [Bool.and_eq_true, decide_eq_true_eq, Bool.not_eq_true'] at h
            obtain ⟨h1, h2, h3⟩ := h
            subst h1
            obtain ⟨b1, b2⟩ := bn_ok ok h2
            exact si_enum b1 b2 ((cA r c [e]).ok T X k rc W ok) (star_cons h3)⟩
        | false => ⟨iSeq (r.e c (.Call (.Name x p) [e] [] pos)).v, fun _ => s!"(iSeq {(r.e c (.Call (.Name x p) [e] [] pos)).tx ()})", fun T X k rc W ok => si_seq ((r.e c (.Call (.Name x p) [e] [] pos)).ok T X k rc W ok)⟩)
      | _ => ⟨iSeq (r.e c (.Call (.Name x p) [e] [] pos)).v, fun _ => s!"(iSeq {(r.e c (.Call (.Name x p) [e] [] pos)).tx ()})", fun T X k rc W ok => si_seq ((r.e c (.Call (.Name x p) [e] [] pos)).ok T X k rc W ok)⟩))
  | .Call (.Name x p) [e, e2] [] pos => (match h : decide (x = "range") && (bnB G c "range" && noStars [e, e2]) with
    | true => ⟨iRng2 (cA r c [e, e2]).v, fun _ => s!"(iRng2 {(cA r c [e, e2]).tx ()})", fun T X k rc W ok => by
        simp only [Bool.and_eq_true, decide_eq_true_eq] at h
        obtain ⟨h1, h2, h3⟩ := h
        subst h1
        obtain ⟨b1, b2⟩ := bn_ok ok h2
        have h4 : noStars [e2] = true := (Bool.and_eq_true_iff.mp h3).2
        exact si_rng2 b1 b2 ((cA r c [e, e2]).ok T X k rc W ok) (star_all h3) (star_all h4)⟩
    | false => (match tg with
      | .Tuple elts kk tpos => (match h : decide (x = "zip") && (bnB G c "zip" && noStars [e, e2]) with
        | true => ⟨iZip (cA r c [e, e2]).v, fun _ => s!"(iZip {(cA r c [e, e2]).tx ()})", fun T X k rc W ok => by
            simp only [Bool.and_eq_true, decide_eq_true_eq] at h
            obtain ⟨h1, h2, h3⟩ := h
            subst h1
            obtain ⟨b1, b2⟩ := bn_ok ok h2
            have h4 : noStars [e2] = true := (Bool.and_eq_true_iff.mp h3).2
            exact si_zip b1 b2 ((cA r c [e, e2]).ok T X k rc W ok) (star_cons (by simpa [noStars] using (Bool.and_eq_true_iff.mp h3).1)) (star_any h4)⟩
        | false => ⟨iSeq (r.e c (.Call (.Name x p) [e, e2] [] pos)).v, fun _ => s!"(iSeq {(r.e c (.Call (.Name x p) [e, e2] [] pos)).tx ()})", fun T X k rc W ok => si_seq ((r.e c (.Call (.Name x p) [e, e2] [] pos)).ok T X k rc W ok)⟩)
      | _ => ⟨iSeq (r.e c (.Call (.Name x p) [e, e2] [] pos)).v, fun _ => s!"(iSeq {(r.e c (.Call (.Name x p) [e, e2] [] pos)).tx ()})", fun T X k rc W ok => si_seq ((r.e c (.Call (.Name x p) [e, e2] [] pos)).ok T X k rc W ok)⟩))
  | e => ⟨iSeq (r.e c e).v, fun _ => s!"(iSeq {(r.e c e).tx ()})", fun T X k rc W ok => si_seq ((r.e c e).ok T X k rc W ok)⟩
end
end DC
/-! Dc21: calls. -/
namespace DC
open PySem PySem.Spec PyProof.Rows L2
/-! ### defaults, tables -/
def dflOf (G : Gx) (g n ar : Nat) : Option (List D) := match Nat.ble n ar && Nat.ble (ar - n) (G.df g).length with
  | true => some ((G.df g).drop ((G.df g).length - (ar - n)))
  | false => none
theorem dflOf_ok {G : Gx} {g n ar : Nat} {dd : List D} (h : dflOf G g n ar = some dd) : Dfl G g dd := by
  unfold dflOf at h
  split at h
  · rename_i q
    cases h
    have := Nat.le_of_ble_eq_true (Bool.and_eq_true_iff.mp q).2
    have e : ((G.df g).drop ((G.df g).length - (ar - n))).length = ar - n := by rw [List.length_drop]; omega
    refine ⟨by rw [e]; exact this, by rw [e]⟩
  · cases h
def slTab (G : Gx) (f : Str) : List (Nat × Nat) := (List.range G.ncl).filterMap fun c => match G.cl c with
  | some i => (match i.slots.lookup f with
    | some n => some (c, n)
    | none => none)
  | none => none
theorem slTab_ok {G : Gx} {f : Str} : SlT G f (slTab G f) := fun p hp => by
  unfold slTab at hp
  obtain ⟨c, _, e⟩ := List.mem_filterMap.mp hp
  split at e
  · rename_i i hi
    split at e
    · rename_i n hn
      cases e
      exact ⟨i, hi, hn⟩
    · cases e
  · cases e
def meTab (G : Gx) (m : Str) (n : Nat) : List (Nat × (Nat × Nat × List D)) := (List.range G.ncl).filterMap fun c => match G.cl c with
  | some i => (match i.meths.lookup m with
    | some g => (match G.ar g with
      | some ar => (match dflOf G g (n + 1) ar with
        | some dd => some (c, (g, ar, dd))
        | none => none)
      | none => none)
    | none => none)
  | none => none
theorem meTab_ok {G : Gx} {m : Str} {n : Nat} : MeT G m (meTab G m n) := fun p hp => by
  unfold meTab at hp
  obtain ⟨c, _, e⟩ := List.mem_filterMap.mp hp
  split at e
  · rename_i i hi
    split at e
    · rename_i g hg
      split at e
      · rename_i ar har
        split at e
        · rename_i dd hd
          cases e
          exact ⟨i, hi, hg, har, dflOf_ok hd⟩
        · cases e
      · cases e
    · cases e
  · cases e
def slTx (l : List (Nat × Nat)) : String := "[" ++ ", ".intercalate (l.map fun p => s!"({p.1}, {p.2})") ++ "]"
def meTx (l : List (Nat × (Nat × Nat × List D))) : String := "[" ++ ", ".intercalate (l.map fun p => s!"({p.1}, ({p.2.1}, {p.2.2.1}, {ddTx p.2.2.2}))") ++ "]"
/-! ### builtins -/
structure BL (x : Str) where
  g : Bo
  tx : String
  id : String
  ty : Bool
  hv : bootBuiltins x = some (if ty then .type id else .builtin id)
  hn : x ≠ "__name__"
  ok : ∀ (G : Gx) (c : Cc) (T : Tb) (X : Cx) (k : Nat) (rc : Rc) (W : WX), Ok G T c X k rc W → Blt T X (if ty then .type id else .builtin id) g
def bSorted : Bo := orB bSortedD bSortedL
def bMinX : Bo := orB bMin bMinT
def blt : (x : Str) → Option (BL x) := fun x =>
  if h : x = "len" then some ⟨bLen, "bLen", "len", false, by subst h; kernel_rfl, by subst h; decide, fun _ _ T X _ _ _ ok => bl_len⟩ else
  if h : x = "abs" then some ⟨bAbs, "bAbs", "abs", false, by subst h; kernel_rfl, by subst h; decide, fun _ _ T X _ _ _ ok => bl_abs⟩ else
  if h : x = "max" then some ⟨bMax, "bMax", "max", false, by subst h; kernel_rfl, by subst h; decide, fun _ _ T X _ _ _ ok => bl_max ok.calm⟩ else
  if h : x = "min" then some ⟨bMinX, "bMinX", "min", false, by subst h; kernel_rfl, by subst h; decide, fun _ _ T X _ _ _ ok => (bl_min ok.calm).orB (bl_minT ok.calm (by have := ok.room.un; omega))⟩ else
  if h : x = "int" then some ⟨bInt, "bInt", "int", true, by subst h; kernel_rfl, by subst h; decide, fun _ _ T X _ _ _ ok => bl_int⟩ else
  if h : x = "bool" then some ⟨bBool, "bBool", "bool", true, by subst h; kernel_rfl, by subst h; decide, fun _ _ T X _ _ _ ok => bl_bool⟩ else
  if h : x = "all" then some ⟨bAll, "bAll", "all", false, by subst h; kernel_rfl, by subst h; decide, fun _ _ T X _ _ _ ok => bl_all ok.calm⟩ else
  if h : x = "any" then some ⟨bAny, "bAny", "any", false, by subst h; kernel_rfl, by subst h; decide, fun _ _ T X _ _ _ ok => bl_any ok.calm⟩ else
  if h : x = "sum" then some ⟨bSum, "bSum", "sum", false, by subst h; kernel_rfl, by subst h; decide, fun _ _ T X _ _ _ ok => bl_sum ok.calm⟩ else
  if h : x = "list" then some ⟨bList, "bList", "list", true, by subst h; kernel_rfl, by subst h; decide, fun _ _ T X _ _ _ ok => bl_list⟩ else
  if h : x = "tuple" then some ⟨bTuple, "bTuple", "tuple", true, by subst h; kernel_rfl, by subst h; decide, fun _ _ T X _ _ _ ok => bl_tuple⟩ else
  if h : x = "repr" then some ⟨bRepr, "bRepr", "repr", false, by subst h; kernel_rfl, by subst h; decide, fun _ _ T X _ _ _ ok => bl_repr (by have := ok.room.un; omega) ok.gu⟩ else
  if h : x = "sorted" then some ⟨bSorted, "bSorted", "sorted", false, by subst h; kernel_rfl, by subst h; decide, fun _ _ T X _ _ _ ok => (bl_sortedD ok.calm).orB bl_sortedL⟩ else
  none
/-- builtins held by a global name -/
structure BF (id : String) where
  g : Bo
  tx : String
  ok : ∀ (G : Gx) (c : Cc) (T : Tb) (X : Cx) (k : Nat) (rc : Rc) (W : WX), Ok G T c X k rc W → Blt T X (.builtin id) g
def bfT (id : String) : Option (BF id) :=
  if h : id = "math.gcd" then some ⟨bGcd, "bGcd", fun _ _ T X _ _ _ ok => by subst h; exact bl_gcd⟩ else none
structure TyN (y : Str) where
  t : Ty
  tx : String
  hv : bootBuiltins y = some (.type t.nm)
  hn : y ≠ "__name__"
def tyN : (y : Str) → Option (TyN y) := fun y =>
  if h : y = "int" then some ⟨.int, ".int", by subst h; kernel_rfl, by subst h; decide⟩ else
  if h : y = "bool" then some ⟨.bl, ".bl", by subst h; kernel_rfl, by subst h; decide⟩ else
  if h : y = "str" then some ⟨.str, ".str", by subst h; kernel_rfl, by subst h; decide⟩ else
  if h : y = "tuple" then some ⟨.tup, ".tup", by subst h; kernel_rfl, by subst h; decide⟩ else
  if h : y = "list" then some ⟨.lst, ".lst", by subst h; kernel_rfl, by subst h; decide⟩ else
  if h : y = "dict" then some ⟨.dct, ".dct", by subst h; kernel_rfl, by subst h; decide⟩ else
  none
/-- a def that tries what it gets -/
structure MetR (G : Gx) (g : Nat) where
  nn : Nat
  l : List (Nat × Uv)
  fin : Ev
  ltx : Unit → String
  ftx : Unit → String
  ok : ∀ x, MetD G g x nn l fin
section
variable {G : Gx} (mt : (g : Nat) → Option (MetR G g)) (r : Cp G) (c : Cc)
def cFnV (x : Str) (p : Pos) (e : Expr) (es : List Expr) (pos : Pos) (kd : NameKind) (hk : c.sc.lookup x = some kd) (hv : kd = .local ∨ kd = .cell ∨ kd = .free) (hd : dbgB x = true) (hs : noStars (e :: es) = true) : CE G c (.Call (.Name x p) (e :: es) [] pos) := match hi : idx c.N x with
  | some i => ⟨vFnV i G.ar (cA r c (e :: es)).v, fun _ => s!"(vFnV {i} arT {(cA r c (e :: es)).tx ()})", fun T X k rc W ok => se_fnV ok (idx_ok hi) hk hv ((cA r c (e :: es)).ok T X k rc W ok) (dbg1 hd) (dbg2 hd) (star_cons (by simpa [noStars] using (Bool.and_eq_true_iff.mp hs).1)) (star_any (Bool.and_eq_true_iff.mp hs).2)⟩
  | none => badE
def cFn (g : Nat) (x : Str) (p : Pos) (e : Expr) (es : List Expr) (pos : Pos) (hk : c.sc.lookup x = some .globalImplicit) (hg : G.nm x = some (.fn g)) (hd : dbgB x = true) (hs : noStars (e :: es) = true) : CE G c (.Call (.Name x p) (e :: es) [] pos) := match har : G.ar g with
  | some ar => (match hf : dflOf G g (e :: es).length ar with
    | some dd => ⟨vFn g ar dd (cA r c (e :: es)).v, fun _ => s!"(vFn {g} {ar} {ddTx dd} {(cA r c (e :: es)).tx ()})", fun T X k rc W ok => se_fn ok hk hg har (dflOf_ok hf) ((cA r c (e :: es)).ok T X k rc W ok) (dbg1 hd) (star_cons (by simpa [noStars] using (Bool.and_eq_true_iff.mp hs).1)) (star_any (Bool.and_eq_true_iff.mp hs).2)⟩
    | none => badE)
  | none => badE
def cMk (cl : Nat) (x : Str) (p : Pos) (e : Expr) (es : List Expr) (pos : Pos) (hk : c.sc.lookup x = some .globalImplicit) (hg : G.nm x = some (.cls cl)) (hd : dbgB x = true) (hs : noStars (e :: es) = true) : CE G c (.Call (.Name x p) (e :: es) [] pos) := match hc : G.cl cl with
  | some i => (match hi : i.init with
    | some g => (match har : G.ar g with
      | some ar => (match hf : dflOf G g ((e :: es).length + 1) ar with
        | some dd => ⟨vMk cl i.slots.length g ar dd (cA r c (e :: es)).v, fun _ => s!"(vMk {cl} {i.slots.length} {g} {ar} {ddTx dd} {(cA r c (e :: es)).tx ()})", fun T X k rc W ok => se_mk ok hk hg hc hi har (dflOf_ok hf) ((cA r c (e :: es)).ok T X k rc W ok) (dbg1 hd) (star_cons (by simpa [noStars] using (Bool.and_eq_true_iff.mp hs).1)) (star_any (Bool.and_eq_true_iff.mp hs).2)⟩
        | none => badE)
      | none => badE)
    | none => badE)
  | none => badE
def cBf (id : String) (x : Str) (p : Pos) (e : Expr) (es : List Expr) (pos : Pos) (hk : c.sc.lookup x = some .globalImplicit) (hg : G.nm x = some (.bf id)) (hd : dbgB x = true) (hs : noStars (e :: es) = true) : CE G c (.Call (.Name x p) (e :: es) [] pos) := match bfT id with
  | some b => ⟨vCall b.g (cA r c (e :: es)).v, fun _ => s!"(vCall {b.tx} {(cA r c (e :: es)).tx ()})", fun T X k rc W ok => se_callBf (b.ok G c T X k rc W ok) (ok.glo x hk) (by have q := ok.gok.nm x; rw [hg] at q; exact q) ((cA r c (e :: es)).ok T X k rc W ok) (dbg1 hd) (star_cons (by simpa [noStars] using (Bool.and_eq_true_iff.mp hs).1)) (star_any (Bool.and_eq_true_iff.mp hs).2)⟩
  | none => badE
def cBlt (x : Str) (p : Pos) (e : Expr) (es : List Expr) (pos : Pos) (hb : bnB G c x = true) (hd : dbgB x = true) (hs : noStars (e :: es) = true) : CE G c (.Call (.Name x p) (e :: es) [] pos) := match blt x with
  | some ⟨g, tx, id, false, hv, hn, bok⟩ => ⟨vCall g (cA r c (e :: es)).v, fun _ => s!"(vCall {tx} {(cA r c (e :: es)).tx ()})", fun T X k rc W ok => se_callB (bok G c T X k rc W ok) (bn_ok ok hb).1 (bn_ok ok hb).2 hv ((cA r c (e :: es)).ok T X k rc W ok) hn (dbg1 hd) (star_cons (by simpa [noStars] using (Bool.and_eq_true_iff.mp hs).1)) (star_any (Bool.and_eq_true_iff.mp hs).2)⟩
  | some ⟨g, tx, id, true, hv, hn, bok⟩ => ⟨vCall g (cA r c (e :: es)).v, fun _ => s!"(vCall {tx} {(cA r c (e :: es)).tx ()})", fun T X k rc W ok => se_callTy (bok G c T X k rc W ok) (bn_ok ok hb).1 (bn_ok ok hb).2 hv ((cA r c (e :: es)).ok T X k rc W ok) hn (dbg1 hd) (star_cons (by simpa [noStars] using (Bool.and_eq_true_iff.mp hs).1)) (star_any (Bool.and_eq_true_iff.mp hs).2)⟩
  | none => badE
def cIsi (x : Str) (p : Pos) (e : Expr) (y : Str) (p2 : Pos) (pos : Pos) (hx : x = "isinstance") (hb : bnB G c x = true) (hs : isStar e = false) : CE G c (.Call (.Name x p) [e, .Name y p2] [] pos) := match hy : bnB G c y && dbgB y with
  | false => badE
  | true => (match tyN y with
    | some t => ⟨vIsi t.t (r.e c e).v, fun _ => s!"(vIsi {t.tx} {(r.e c e).tx ()})", fun T X k rc W ok => by
        obtain ⟨h1, h2⟩ := Bool.and_eq_true_iff.mp hy
        exact se_isi hx (bn_ok ok hb).1 (bn_ok ok hb).2 (bn_ok ok h1).1 (bn_ok ok h1).2 t.hv t.hn (dbg1 h2) ((r.e c e).ok T X k rc W ok) (star_cons hs)⟩
    | none => badE)
def cLstRg (x : Str) (p : Pos) (y : Str) (p2 : Pos) (e : Expr) (pos2 pos : Pos) (hx : x = "list") (hy : y = "range") (hb : bnB G c "list" = true) (hb2 : bnB G c "range" = true) (hs : isStar e = false) : CE G c (.Call (.Name x p) [.Call (.Name y p2) [e] [] pos2] [] pos) :=
  ⟨vLstRg1 (r.e c e).v, fun _ => s!"(vLstRg1 {(r.e c e).tx ()})", fun T X k rc W ok => by
    subst hx hy
    exact se_lstRg1 ok (bn_ok ok hb).1 (bn_ok ok hb).2 (bn_ok ok hb2).1 (bn_ok ok hb2).2 ((r.e c e).ok T X k rc W ok) (star_cons hs) (star_cons rfl)⟩
def cLam (g : Nat) (x : Str) (p : Pos) (params : Arguments) (body : Expr) (scope : Scope) (lpos pos : Pos) (hk : c.sc.lookup x = some .globalImplicit) (hg : G.nm x = some (.fn g)) (hd : dbgB x = true) : CE G c (.Call (.Name x p) [.Lambda params body scope lpos] [] pos) := match mt g with
  | none => badE
  | some m => (match h : c.lam && c.top && lamB c.sc scope with
    | false => badE
    | true => (match params with
      | ⟨[], [], none, [], [], none, []⟩ => ⟨vLam G.sb G.ex m.nn m.l m.fin (r.e ⟨c.N, scope.names, false, true⟩ body).v, fun _ => s!"(vLam sbT exT {m.nn} {m.ltx ()} {m.ftx ()} {(r.e ⟨c.N, scope.names, false, true⟩ body).tx ()})", fun T X k rc W ok => by
          obtain ⟨h12, h3⟩ := Bool.and_eq_true_iff.mp h
          obtain ⟨h1, h2⟩ := Bool.and_eq_true_iff.mp h12
          exact se_lam ok h1 h2 hk hg (m.ok x) (dbg1 hd) h3 rfl (fun _ _ _ _ _ => rfl) (fun Y k' rc' W' o _ => (r.e ⟨c.N, scope.names, false, true⟩ body).ok T Y k' rc' W' o)⟩
      | _ => badE))
/-- x(..), x a name -/
def cCallN (x : Str) (p : Pos) (es : List Expr) (pos : Pos) : CE G c (.Call (.Name x p) es [] pos) := match hd : dbgB x with
  | false => badE
  | true => (match hk : c.sc.lookup x with
    | some .globalImplicit => (match hg : G.nm x with
      | some (.fn g) => (match es with
        | [] => (match har : G.ar g with
          | some ar => (match hf : dflOf G g 0 ar with
            | some dd => ⟨vFn g ar dd aNil, fun _ => s!"(vFn {g} {ar} {ddTx dd} aNil)", fun T X k rc W ok => se_fn0 ok hk hg har (dflOf_ok hf) (dbg1 hd)⟩
            | none => badE)
          | none => badE)
        | [.Lambda params body scope lpos] => cLam mt r c g x p params body scope lpos pos hk hg hd
        | e :: es => (match hs : noStars (e :: es) with
          | true => cFn r c g x p e es pos hk hg hd hs
          | false => badE))
      | some (.cls cl) => (match es with
        | [] => badE
        | e :: es => (match hs : noStars (e :: es) with
          | true => cMk r c cl x p e es pos hk hg hd hs
          | false => badE))
      | some (.bf id) => (match es with
        | [] => badE
        | e :: es => (match hs : noStars (e :: es) with
          | true => cBf r c id x p e es pos hk hg hd hs
          | false => badE))
      | some (.val _) => badE
      | none => badE
      | some .abs => (match hb : bnB G c x with
        | false => badE
        | true => (match es with
          | [] => badE
          | [e, .Name y p2] => if hx : x = "isinstance" then (match hs : isStar e with
              | false => cIsi r c x p e y p2 pos hx hb hs
              | true => badE) else (match hs : noStars [e, .Name y p2] with
              | true => cBlt r c x p e [.Name y p2] pos hb hd hs
              | false => badE)
          | [.Call (.Name y p2) [e] [] pos2] => if hx : x = "list" ∧ y = "range" ∧ bnB G c "list" = true ∧ bnB G c "range" = true ∧ isStar e = false then cLstRg r c x p y p2 e pos2 pos hx.1 hx.2.1 hx.2.2.1 hx.2.2.2.1 hx.2.2.2.2
              else cBlt r c x p (.Call (.Name y p2) [e] [] pos2) [] pos hb hd rfl
          | e :: es => (match hs : noStars (e :: es) with
            | true => cBlt r c x p e es pos hb hd hs
            | false => badE))))
    | some .local => (match es with
      | [] => badE
      | e :: es => (match hs : noStars (e :: es) with
        | true => cFnV r c x p e es pos .local hk (.inl rfl) hd hs
        | false => badE))
    | some .cell => (match es with
      | [] => badE
      | e :: es => (match hs : noStars (e :: es) with
        | true => cFnV r c x p e es pos .cell hk (.inr (.inl rfl)) hd hs
        | false => badE))
    | some .free => (match es with
      | [] => badE
      | e :: es => (match hs : noStars (e :: es) with
        | true => cFnV r c x p e es pos .free hk (.inr (.inr rfl)) hd hs
        | false => badE))
    | _ => badE)
/-- o.m(..) -/
theorem few1 {e : Expr} {env : Env} {cpos : Pos} (h : isStar e = false) : ((backTo cpos (starEach [e] env)).all (fun x => !x.1) && (backToKw cpos (keywordEach [] env)).all (fun x => x.1.isSome)
      && decide ([e].length + ([] : List Keyword).length + (if ([] : List Keyword).isEmpty then 0 else 1) < 30)) = true := by
  rw [star_cons h] <;> rfl
theorem m1_by {X : Cx} {o e : Expr} {m : Str} {apos cpos : Pos} (h1 : isSup o = false) (h2 : isStar e = false) (h3 : (apos.endLine == cpos.line) = true) : M1 X o m apos e cpos := ⟨base_eq h1, few1 h2, h3, by rw [star_cons h2] <;> rfl⟩
theorem m2_by {X : Cx} {o e f : Expr} {m : Str} {apos cpos : Pos} (h1 : isSup o = false) (h2 : isStar e = false) (h4 : isStar f = false) (h3 : (apos.endLine == cpos.line) = true) : M2 X o m apos e f cpos := ⟨base_eq h1, by rw [star_cons h2, star_cons h4] <;> rfl, h3, by rw [star_cons h2, star_cons h4] <;> rfl⟩
def cMeth (o : Expr) (m : Str) (apos : Pos) (es : List Expr) (pos : Pos) : CE G c (.Call (.Attribute o m apos) es [] pos) := match h : (!isSup o) && ((apos.endLine == pos.line) && (noStars es && Nat.blt es.length 30)) with
  | false => badE
  | true => (match es with
    | [] => ⟨vMeth (meTab G m 0) (r.e c o).v aNil, fun _ => s!"(vMeth {meTx (meTab G m 0)} {(r.e c o).tx ()} aNil)", fun T X k rc W ok => by
        simp only [Bool.and_eq_true, Bool.not_eq_true'] at h
        obtain ⟨h1, h2, h3, h4⟩ := h
        exact se_meth0 ok meTab_ok ((r.e c o).ok T X k rc W ok) (by rw [ev_meth (form_ok h3 h4) h2, base_eq h1] <;> rfl)⟩
    | e :: es => ⟨vMeth (meTab G m (e :: es).length) (r.e c o).v (cA r c (e :: es)).v, fun _ => s!"(vMeth {meTx (meTab G m (e :: es).length)} {(r.e c o).tx ()} {(cA r c (e :: es)).tx ()})", fun T X k rc W ok => by
        simp only [Bool.and_eq_true, Bool.not_eq_true'] at h
        obtain ⟨h1, h2, h3, h4⟩ := h
        obtain ⟨h5, h6⟩ := Bool.and_eq_true_iff.mp (show (!isStar e && noStars es) = true from h3)
        exact se_meth ok meTab_ok ((r.e c o).ok T X k rc W ok) ((cA r c (e :: es)).ok T X k rc W ok) (star_cons (by simpa using h5)) (star_any h6) (by rw [ev_meth (form_ok h3 h4) h2, base_eq h1] <;> rfl)⟩)
def cCallM (o : Expr) (m : Str) (apos : Pos) (es : List Expr) (pos : Pos) : CE G c (.Call (.Attribute o m apos) es [] pos) := match (meTab G m es.length).isEmpty with
  | false => cMeth r c o m apos es pos
  | true => (match es with
    | [e] => if h : m = "append" ∧ isSup o = false ∧ isStar e = false ∧ (apos.endLine == pos.line) = true then
          ⟨vApp (r.e c o).v (r.e c e).v, fun _ => s!"(vApp {(r.e c o).tx ()} {(r.e c e).tx ()})", fun T X k rc W ok => by
            obtain ⟨h1, h2, h3, h4⟩ := h
            subst h1
            exact se_app ((r.e c o).ok T X k rc W ok) ((r.e c e).ok T X k rc W ok) (star_cons h3) (base_eq h2) (few1 h3) h4⟩
        else if h : m = "get" ∧ isSup o = false ∧ isStar e = false ∧ (apos.endLine == pos.line) = true then
          ⟨vGet1 (r.e c o).v (r.e c e).v, fun _ => s!"(vGet1 {(r.e c o).tx ()} {(r.e c e).tx ()})", fun T X k rc W ok => by
            obtain ⟨h1, h2, h3, h4⟩ := h
            subst h1
            exact se_get1 ok ((r.e c o).ok T X k rc W ok) ((r.e c e).ok T X k rc W ok) (m1_by h2 h3 h4)⟩
        else badE
    | [e, f] => if h : m = "get" ∧ isSup o = false ∧ isStar e = false ∧ isStar f = false ∧ (apos.endLine == pos.line) = true then
          ⟨vGet2 (r.e c o).v (r.e c e).v (r.e c f).v, fun _ => s!"(vGet2 {(r.e c o).tx ()} {(r.e c e).tx ()} {(r.e c f).tx ()})", fun T X k rc W ok => by
            obtain ⟨h1, h2, h3, h5, h4⟩ := h
            subst h1
            exact se_get2 ok ((r.e c o).ok T X k rc W ok) ((r.e c e).ok T X k rc W ok) ((r.e c f).ok T X k rc W ok) (m2_by h2 h3 h5 h4)⟩
        else badE
    | _ => badE)
end
end DC
/-! Dc22: expressions, statements, all of a def. -/
namespace DC
open PySem PySem.Spec PyProof.Rows L2
/-! ### comprehensions -/
def ownOf (c : Cc) (scope : Scope) : List (Str × Nat) := scope.names.filterMap fun y => match y.2 with
  | .local => (match idx c.N y.1 with
    | some i => some (y.1, i)
    | none => none)
  | .cell => (match idx c.N y.1 with
    | some i => some (y.1, i)
    | none => none)
  | _ => none
def subB (is js : List Nat) : Bool := is.all fun i => js.any fun j => Nat.beq i j
theorem sub_ok {is js : List Nat} (h : subB is js = true) : ∀ i ∈ is, i ∈ js := fun i hi => by
  unfold subB at h
  have := List.all_eq_true.mp h i hi
  obtain ⟨j, hj, e⟩ := List.any_eq_true.mp this
  rw [Nat.eq_of_beq_eq_true e]
  exact hj
def isTx (l : List Nat) : String := natsTx l
section
variable {G : Gx} (mt : (g : Nat) → Option (MetR G g)) (r : Cp G) (c : Cc)
def cLc (elt : Expr) (gens : List Comprehension) (scope : Scope) (pos : Pos) : CE G c (.ListComp elt gens scope pos) := match gens with
  | [⟨tg, iter, ifs, 0⟩] =>
    let own := ownOf c scope
    let g := cG r (blk c scope) 8 tg
    let it := cI r c tg iter
    let t := cTs r (blk c scope) ifs
    let e := r.e (blk c scope) elt
    (match h : blkB c scope own && (subB g.is (own.map (·.2)) && !isSet iter) with
    | false => badE
    | true => ⟨vLc it.v g.v t.v e.v (own.map (·.2)), fun _ => s!"(vLc {it.tx ()} {g.tx ()} {t.tx ()} {e.tx ()} {isTx (own.map (·.2))})", fun T X k rc W ok => by
        simp only [Bool.and_eq_true, Bool.not_eq_true'] at h
        obtain ⟨h1, h2, h3⟩ := h
        exact se_lc ok (blkB_by h1) (sub_ok h2) (it.ok T X k rc W ok) (fun Y o _ => g.ok T Y k rc W0 o) (fun Y o _ => t.ok T Y k rc W0 o) (fun Y o _ => e.ok T Y k rc W0 o) (fold_eq h3 _)⟩)
  | [⟨tg, iter, ifs, 0⟩, ⟨tg1, iter1, ifs1, 0⟩] =>
    let own := ownOf c scope
    let g := cG r (blk c scope) 8 tg
    let it := cI r c tg iter
    let t := cTs r (blk c scope) ifs
    let g1 := cG r (blk c scope) 8 tg1
    let it1 := cI r (blk c scope) tg1 iter1
    let t1 := cTs r (blk c scope) ifs1
    let e := r.e (blk c scope) elt
    (match h : blkB c scope own && (subB g.is (own.map (·.2)) && (subB g1.is (own.map (·.2)) && (!isSet iter && !isSet iter1))) with
    | false => badE
    | true => ⟨vLc2 it.v g.v t.v it1.v g1.v t1.v e.v (own.map (·.2)) g1.is, fun _ => s!"(vLc2 {it.tx ()} {g.tx ()} {t.tx ()} {it1.tx ()} {g1.tx ()} {t1.tx ()} {e.tx ()} {isTx (own.map (·.2))} {isTx g1.is})", fun T X k rc W ok => by
        simp only [Bool.and_eq_true, Bool.not_eq_true'] at h
        obtain ⟨h1, h2, h3, h4, h5⟩ := h
        exact se_lc2 ok (blkB_by h1) (sub_ok h2) (sub_ok h3) (it.ok T X k rc W ok) (fun Y o _ => g.ok T Y k rc W0 o) (fun Y o _ => t.ok T Y k rc W0 o) (fun Y o _ => it1.ok T Y k rc W0 o) (fun Y o _ => g1.ok T Y k rc W0 o) (fun Y o _ => t1.ok T Y k rc W0 o) (fun Y o _ => e.ok T Y k rc W0 o) (fold_eq h4 _) (fold_eq h5)⟩)
  | _ => badE
/-- y = [..], the stores exchanged -/
def cSetLc (y : Str) (py : Pos) (elt : Expr) (gens : List Comprehension) (scope : Scope) (pos spos : Pos) : CS G c (.Assign [.Name y py] (.ListComp elt gens scope pos) spos) := match hy : stoI c y with
  | none => badS
  | some i => (match hl : c.top && (match c.sc.lookup y with | some .local => true | _ => false) with
    | false => badS
    | true => (match hw : lcSw c.sc scope y py pos with
      | false => ⟨sAsg (cLc r c elt gens scope pos).v (gNm i), fun _ => s!"(sAsg {(cLc r c elt gens scope pos).tx ()} (gNm {i}))", fun T X k rc W ok => by
          obtain ⟨h1, h2⟩ := ok.kin (Bool.and_eq_true_iff.mp hl).1
          exact ss_set ok (stoI_ok hy) ((cLc r c elt gens scope pos).ok T X k rc W ok) (by rw [swaps_lc h1 h2, hw])⟩
      | true => (match gens with
        | [⟨tg, iter, ifs, 0⟩] =>
          let own := ownOf c scope
          let g := cG r (blk c scope) 8 tg
          let it := cI r c tg iter
          let t := cTs r (blk c scope) ifs
          let e := r.e (blk c scope) elt
          (match h : blkB c scope own && (subB g.is (own.map (·.2)) && !isSet iter) with
          | false => badS
          | true => ⟨sAsg (vLc it.v g.v t.v e.v (own.map (·.2))) (gNm i), fun _ => s!"(sAsg (vLc {it.tx ()} {g.tx ()} {t.tx ()} {e.tx ()} {isTx (own.map (·.2))}) (gNm {i}))", fun T X k rc W ok => by
              simp only [Bool.and_eq_true, Bool.not_eq_true'] at h
              obtain ⟨h1, h2, h3⟩ := h
              obtain ⟨l1, l2⟩ := Bool.and_eq_true_iff.mp hl
              obtain ⟨k1, k2⟩ := ok.kin l1
              exact ss_setLc ok (blkB_by h1) (sub_ok h2) (stoI_ok hy) (by split at l2 <;> first | assumption | cases l2) (by rw [swaps_lc k1 k2, hw]) (it.ok T X k rc W ok) (fun Y o _ => g.ok T Y k rc W0 o) (fun Y o _ => t.ok T Y k rc W0 o) (fun Y o _ => e.ok T Y k rc W0 o) (fold_eq h3 _)⟩)
        | [⟨tg, iter, ifs, 0⟩, ⟨tg1, iter1, ifs1, 0⟩] =>
          let own := ownOf c scope
          let g := cG r (blk c scope) 8 tg
          let it := cI r c tg iter
          let t := cTs r (blk c scope) ifs
          let g1 := cG r (blk c scope) 8 tg1
          let it1 := cI r (blk c scope) tg1 iter1
          let t1 := cTs r (blk c scope) ifs1
          let e := r.e (blk c scope) elt
          (match h : blkB c scope own && (subB g.is (own.map (·.2)) && (subB g1.is (own.map (·.2)) && (!isSet iter && !isSet iter1))) with
          | false => badS
          | true => ⟨sAsg (vLc2 it.v g.v t.v it1.v g1.v t1.v e.v (own.map (·.2)) g1.is) (gNm i), fun _ => s!"(sAsg (vLc2 {it.tx ()} {g.tx ()} {t.tx ()} {it1.tx ()} {g1.tx ()} {t1.tx ()} {e.tx ()} {isTx (own.map (·.2))} {isTx g1.is}) (gNm {i}))", fun T X k rc W ok => by
              simp only [Bool.and_eq_true, Bool.not_eq_true'] at h
              obtain ⟨h1, h2, h3, h4, h5⟩ := h
              obtain ⟨l1, l2⟩ := Bool.and_eq_true_iff.mp hl
              obtain ⟨k1, k2⟩ := ok.kin l1
              exact ss_setLc2 ok (blkB_by h1) (sub_ok h2) (sub_ok h3) (stoI_ok hy) (by split at l2 <;> first | assumption | cases l2) (by rw [swaps_lc k1 k2, hw]) (it.ok T X k rc W ok) (fun Y o _ => g.ok T Y k rc W0 o) (fun Y o _ => t.ok T Y k rc W0 o) (fun Y o _ => it1.ok T Y k rc W0 o) (fun Y o _ => g1.ok T Y k rc W0 o) (fun Y o _ => t1.ok T Y k rc W0 o) (fun Y o _ => e.ok T Y k rc W0 o) (fold_eq h4 _) (fold_eq h5)⟩)
        | _ => badS)))
/-! ### an expression -/
structure CP (e : Option Expr) where
  v : Option Ev
  tx : Unit → String
  ok : ∀ (T : Tb) (X : Cx) (k : Nat) (rc : Rc) (W : WX), Ok G T c X k rc W → SPart T X W rc e v
def cPart : (e : Option Expr) → CP (G := G) c e
  | none => ⟨none, fun _ => "none", fun T X k rc W ok => .none⟩
  | some e => ⟨some (r.e c e).v, fun _ => s!"(some {(r.e c e).tx ()})", fun T X k rc W ok => .some ((r.e c e).ok T X k rc W ok)⟩
def cExpr : (e : Expr) → CE G c e
  | .Name x pos => cName G c x pos
  | .Constant k j pos => cConst k j pos
  | .BinOp a op b pos => (match opB op with
    | some o => ⟨vB o.g (r.e c a).v (r.e c b).v, fun _ => s!"(vB {o.tx} {(r.e c a).tx ()} {(r.e c b).tx ()})", fun T X k rc W ok => se_bin (o.ok T X W) ((r.e c a).ok T X k rc W ok) ((r.e c b).ok T X k rc W ok)⟩
    | none => badE)
  | .UnaryOp .USub a pos => ⟨vU negO (r.e c a).v, fun _ => s!"(vU negO {(r.e c a).tx ()})", fun T X k rc W ok => se_un ud_neg ((r.e c a).ok T X k rc W ok)⟩
  | .UnaryOp .Not a pos => ⟨vNot (r.e c a).v, fun _ => s!"(vNot {(r.e c a).tx ()})", fun T X k rc W ok => se_not ((r.e c a).ok T X k rc W ok)⟩
  | .Compare a ops bs pos => cCmp r c a ops bs pos
  | .BoolOp .And l pos => cAndE r c pos l
  | .BoolOp .Or l pos => cOrE r c pos l
  | .IfExp t a b pos => ⟨vIf (r.t c t).v (r.e c a).v (r.e c b).v, fun _ => s!"(vIf {(r.t c t).tx ()} {(r.e c a).tx ()} {(r.e c b).tx ()})", fun T X k rc W ok => se_if ((r.t c t).ok T X k rc W ok) ((r.e c a).ok T X k rc W ok) ((r.e c b).ok T X k rc W ok)⟩
  | .Tuple es j pos => ⟨vTup (cA r c es).v, fun _ => s!"(vTup {(cA r c es).tx ()})", fun T X k rc W ok => se_tup ((cA r c es).ok T X k rc W ok)⟩
  | .List es pos => ⟨vLst (cA r c es).v, fun _ => s!"(vLst {(cA r c es).tx ()})", fun T X k rc W ok => se_lst ((cA r c es).ok T X k rc W ok)⟩
  | .Subscript a (.Slice lo hi none p2) pos => ⟨vSl (r.e c a).v (cPart r c lo).v (cPart r c hi).v, fun _ => s!"(vSl {(r.e c a).tx ()} {(cPart r c lo).tx ()} {(cPart r c hi).tx ()})", fun T X k rc W ok => se_slice ((r.e c a).ok T X k rc W ok) ((cPart r c lo).ok T X k rc W ok) ((cPart r c hi).ok T X k rc W ok)⟩
  | .Subscript a b pos => (match h : isSl b with
    | true => badE
    | false => ⟨vB ixdO (r.e c a).v (r.e c b).v, fun _ => s!"(vB ixdO {(r.e c a).tx ()} {(r.e c b).tx ()})", fun T X k rc W ok => se_ixd ok ((r.e c a).ok T X k rc W ok) ((r.e c b).ok T X k rc W ok) (plainIx h) (noSl h)⟩)
  | .Attribute o f pos => (match h : isSup o with
    | true => badE
    | false => ⟨vAtt (slTab G f) (r.e c o).v, fun _ => s!"(vAtt {slTx (slTab G f)} {(r.e c o).tx ()})", fun T X k rc W ok => se_att ok slTab_ok ((r.e c o).ok T X k rc W ok) (base_eq h)⟩)
  | .Call (.Name x p) es [] pos => cCallN mt r c x p es pos
  | .Call (.Attribute o m apos) es [] pos => cCallM r c o m apos es pos
  | .ListComp elt gens scope pos => cLc r c elt gens scope pos
  | .Dict [] [] pos => ⟨vDNew, fun _ => "vDNew", fun T X k rc W ok => se_dnew⟩
  | _ => badE
/-! ### statements -/
def lclB (c : Cc) (x : Str) : Bool := match c.sc.lookup x with
  | some .local => true
  | _ => false
theorem lcl_ok {c : Cc} {x : Str} (h : lclB c x = true) : c.sc.lookup x = some .local := by
  unfold lclB at h
  split at h
  · assumption
  · cases h
theorem swaps_tgS {e t : Expr} {n : Nat} {env : Env} (h : isName t = false) : swapsWithSole [t] e n env = pure false := swaps_tg h
/-- one target -/
def cAsg1 (tg e : Expr) (pos : Pos) (hst : isStar tg = false) (hs : ∀ (T : Tb) (X : Cx) (k : Nat) (rc : Rc) (W : WX), Ok G T c X k rc W → swapsWithSole [tg] e pos.line X.env = pure false ∧ swappedStores [tg] e X.env = pure none) : CS G c (.Assign [tg] e pos) :=
  ⟨sAsg (r.e c e).v (cG r c 8 tg).v, fun _ => s!"(sAsg {(r.e c e).tx ()} {(cG r c 8 tg).tx ()})", fun T X k rc W ok => ss_asg ((r.e c e).ok T X k rc W ok) ((cG r c 8 tg).ok T X k rc W ok) (cG r c 8 tg).pl (hs T X k rc W ok).1 (hs T X k rc W ok).2 (by rw [asgE_cons hst] <;> rfl)⟩
def cPar (ts vs : List Expr) (kt : Nat) (pt : Pos) (k2 : Nat) (pt2 pos : Pos) : CS G c (.Assign [.Tuple ts kt pt] (.Tuple vs k2 pt2) pos) := match htop : c.top with
  | false => badS
  | true => (match hw : swB c.sc ts vs with
    | none => badS
    | some none => cAsg1 r c (.Tuple ts kt pt) (.Tuple vs k2 pt2) pos rfl (fun T X k rc W ok => ⟨swaps_tgS rfl, by obtain ⟨h1, h2⟩ := ok.kin htop; exact swapped_eq h1 h2 hw⟩)
    | some (some ns) => (match ts, vs, hw with
      | [.Name x px, .Name y py], [a, b], hw => (match hx : stoI c x, hy : stoI c y with
        | some i, some j => if h : ns = [x, y] ∧ i ≠ j ∧ lclB c x = true ∧ lclB c y = true then ⟨sPar i j (cA r c [a, b]).v, fun _ => s!"(sPar {i} {j} {(cA r c [a, b]).tx ()})", fun T X k rc W ok => by
              obtain ⟨h1, h2, h3, h4⟩ := h
              subst h1
              obtain ⟨k1, k2⟩ := ok.kin htop
              exact ss_par ok (stoI_ok hx) (stoI_ok hy) h2 (lcl_ok h3) (lcl_ok h4) ((cA r c [a, b]).ok T X k rc W ok) (swapped_eq k1 k2 hw)⟩ else badS
        | _, _ => badS)
      | [.Name x px, .Name y py, .Name z pz], [a, b, d], hw => (match hx : stoI c x, hy : stoI c y, hz : stoI c z with
        | some i, some j, some l => if h : ns = [x, y, z] ∧ i ≠ j ∧ i ≠ l ∧ j ≠ l ∧ lclB c x = true ∧ lclB c y = true ∧ lclB c z = true then ⟨sPar3 i j l (cA r c [a, b, d]).v, fun _ => s!"(sPar3 {i} {j} {l} {(cA r c [a, b, d]).tx ()})", fun T X k rc W ok => by
              obtain ⟨h1, h2, h3, h4, h5, h6, h7⟩ := h
              subst h1
              obtain ⟨k1, k2⟩ := ok.kin htop
              exact ss_par3 ok (stoI_ok hx) (stoI_ok hy) (stoI_ok hz) h2 h3 h4 (lcl_ok h5) (lcl_ok h6) (lcl_ok h7) ((cA r c [a, b, d]).ok T X k rc W ok) (swapped_eq k1 k2 hw)⟩ else badS
        | _, _, _ => badS)
      | _, _, _ => badS))
def cAssign (tg e : Expr) (pos : Pos) : CS G c (.Assign [tg] e pos) := match tg, e with
  | .Name y py, .ListComp elt gens scope p2 => cSetLc r c y py elt gens scope p2 pos
  | .Name y py, e => (match hy : stoI c y, hc : isComp e with
    | some i, false => ⟨sAsg (r.e c e).v (gNm i), fun _ => s!"(sAsg {(r.e c e).tx ()} (gNm {i}))", fun T X k rc W ok => ss_set ok (stoI_ok hy) ((r.e c e).ok T X k rc W ok) (swaps_no hc)⟩
    | _, _ => badS)
  | .Attribute o f p, e => ⟨sAtt (slTab G f) (r.e c o).v (r.e c e).v, fun _ => s!"(sAtt {slTx (slTab G f)} {(r.e c o).tx ()} {(r.e c e).tx ()})", fun T X k rc W ok => ss_att ok slTab_ok ((r.e c o).ok T X k rc W ok) ((r.e c e).ok T X k rc W ok) (swaps_tg rfl)⟩
  | .Subscript o i p, e => cAsg1 r c (.Subscript o i p) e pos rfl (fun T X k rc W ok => ⟨swaps_tgS rfl, swapped_no rfl⟩)
  | .Tuple ts kt pt, .Tuple vs k2 pt2 => cPar r c ts vs kt pt k2 pt2 pos
  | .Tuple ts kt pt, e => (match h : isTup2 e with
    | true => badS
    | false => cAsg1 r c (.Tuple ts kt pt) e pos rfl (fun T X k rc W ok => ⟨swaps_tgS rfl, swapped_nov h⟩))
  | _, _ => badS
def cWh : (e : Expr) → CWh G c e
  | .Compare (.NamedExpr (.Name x p) e pos) [.IsNot] [.Constant .none j p2] p3 => (match h : stoI c x with
    | some i => ⟨wNotN i (r.e c e).v, fun _ => s!"(wNotN {i} {(r.e c e).tx ()})", fun T X k rc W ok => sw_notN ok (stoI_ok h) ((r.e c e).ok T X k rc W ok)⟩
    | none => ⟨wT (r.t c (.Compare (.NamedExpr (.Name x p) e pos) [.IsNot] [.Constant .none j p2] p3)).v, fun _ => s!"(wT {(r.t c (.Compare (.NamedExpr (.Name x p) e pos) [.IsNot] [.Constant .none j p2] p3)).tx ()})", fun T X k rc W ok => sw_t ((r.t c (.Compare (.NamedExpr (.Name x p) e pos) [.IsNot] [.Constant .none j p2] p3)).ok T X k rc W ok)⟩)
  | e => ⟨wT (r.t c e).v, fun _ => s!"(wT {(r.t c e).tx ()})", fun T X k rc W ok => sw_t ((r.t c e).ok T X k rc W ok)⟩
/-! ### suites -/
def cU (i : Option Nat) : Nat → (e : Expr) → CU G c i e
  | 0, _ => badU
  | n + 1, .Constant (.str x) j pos => ⟨uC (.str x.cps.toList), fun _ => s!"(uC (D.str {natsTx x.cps.toList}))", fun T X k rc W ok => su_str⟩
  | n + 1, .Tuple es j pos =>
    let rec go : (es : List Expr) → CUs G c i es
      | [] => ⟨uNil, fun _ => "uNil", fun T X k rc W ok => su_nil⟩
      | e :: es => match h : isStar e with
        | true => ⟨fun _ _ _ => none, fun _ => "uNo", fun T X k rc W _ a oe cls d pn hz hf => ⟨fun pos pins s σ H Q I h => by obtain ⟨ρ, h, cl, v, r, R, ec, xr, hi, e, q⟩ := h; cases e⟩⟩
        | false => ⟨uCons (cU i n e).v (go es).v, fun _ => s!"(uCons {(cU i n e).tx ()} {(go es).tx ()})", fun T X k rc W ok => su_cons ((cU i n e).ok T X k rc W ok) ((go es).ok T X k rc W ok) (fun _ => star_cons h)⟩
    ⟨uTup (go es).v, fun _ => s!"(uTup {(go es).tx ()})", fun T X k rc W ok => su_tup ((go es).ok T X k rc W ok)⟩
  | n + 1, .BinOp a .Add b pos => ⟨uAdd (cU i n a).v (cU i n b).v, fun _ => s!"(uAdd {(cU i n a).tx ()} {(cU i n b).tx ()})", fun T X k rc W ok => su_add ((cU i n a).ok T X k rc W ok) ((cU i n b).ok T X k rc W ok)⟩
  | n + 1, .Call (.Name x p) [e] [] pos => if h : x = "repr" ∧ bnB G c "repr" = true ∧ isStar e = false then ⟨uRepr (cU i n e).v, fun _ => s!"(uRepr {(cU i n e).tx ()})", fun T X k rc W ok => by
        obtain ⟨h1, h2, h3⟩ := h
        subst h1
        exact su_repr ok (bn_ok ok h2).1 (bn_ok ok h2).2 ((cU i n e).ok T X k rc W ok) (fun _ => star_cons h3)⟩ else badU
  | n + 1, .Attribute (.Name n1 p) f pos => (match i with
    | none => badU
    | some i => (match hi : idx c.N n1, hd : dbgB n1, hl : lclB c n1 with
      | some j, true, true => if hij : i = j then ⟨uAtt f, fun _ => s!"(uAtt {strTx f})", fun T X k rc W ok => by
            subst hij
            exact su_att ok (idx_ok hi) (lcl_ok hl) (.inl rfl) (dbg1 hd) (dbg2 hd)⟩ else badU
      | _, _, _ => badU))
  | _ + 1, _ => badU
def cH : (hs : List ExceptHandler) → Option (CH G c hs)
  | [] => some ⟨[], fun _ => "[]", fun T X k rc W ok => .nil⟩
  | .ExceptHandler (some (.Name x np)) none [.Return (some e) p] p' :: hds => (match hk : c.sc.lookup x, hg : G.nm x, hd : dbgB x, cH hds with
    | some .globalImplicit, some (.cls cl), true, some r' => some ⟨(cl, (cU c none 9 e).v) :: r'.v, fun _ => s!"(({cl}, {(cU (G := G) c none 9 e).tx ()}) :: {r'.tx ()})", fun T X k rc W ok => .cons hk hg (dbg1 hd) ((cU c none 9 e).ok T X k rc W ok) (r'.ok T X k rc W ok)⟩
    | _, _, _, _ => none)
  | .ExceptHandler (some (.Name x np)) (some n) [.Return (some e) p] p' :: hds => (match hk : c.sc.lookup x, hg : G.nm x, hd : dbgB x, cH hds, hi : idx c.N n, hl : lclB c n with
    | some .globalImplicit, some (.cls cl), true, some r', some i, true => some ⟨(cl, (cU c (some i) 9 e).v) :: r'.v, fun _ => s!"(({cl}, {(cU (G := G) c (some i) 9 e).tx ()}) :: {r'.tx ()})", fun T X k rc W ok => .as hk hg (dbg1 hd) (idx_ok hi) (lcl_ok hl) ((cU c (some i) 9 e).ok T X k rc W ok) (r'.ok T X k rc W ok)⟩
    | _, _, _, _, _, _ => none)
  | _ => none
def cRaise (e : Expr) (pos : Pos) : CS G c (.Raise (some e) none pos) := match e with
  | .Call (.Name x p) [a] [] p2 => (match hk : c.sc.lookup x, hg : G.nm x, hd : dbgB x, hs : isStar a with
    | some .globalImplicit, some (.cls cl), true, false => (match hex : G.ex cl with
      | some (some f) => ⟨sRzI cl (r.e c a).v, fun _ => s!"(sRzI {cl} {(r.e c a).tx ()})", fun T X k rc W ok => ss_rzI ok hk hg hex ((r.e c a).ok T X k rc W ok) (dbg1 hd) (star_cons hs)⟩
      | some none => (match a with
        | .Constant (.str m) j p3 => ⟨sRzT cl, fun _ => s!"(sRzT {cl})", fun T X k rc W ok => ss_rzT ok hk hg hex (dbg1 hd)⟩
        | _ => badS)
      | none => badS)
    | _, _, _, _ => badS)
  | _ => badS
def cStmt : (st : Stmt) → CS G c st
  | .Expr e pos => (match h : isComp e with
    | true => badS
    | false => ⟨sEx (r.e c e).v, fun _ => s!"(sEx {(r.e c e).tx ()})", fun T X k rc W ok => ss_ex ((r.e c e).ok T X k rc W ok) (swaps_no h)⟩)
  | .Return (some e) pos => ⟨sRet (r.e c e).v, fun _ => s!"(sRet {(r.e c e).tx ()})", fun T X k rc W ok => ss_ret ((r.e c e).ok T X k rc W ok)⟩
  | .Return none pos => ⟨sRetN, fun _ => "sRetN", fun T X k rc W ok => ss_retN⟩
  | .Assign [tg] e pos => cAssign r c tg e pos
  | .AugAssign (.Name x p) op e pos => (match h : stoI c x, opJ op with
    | some i, some o => ⟨sAug i o.g (r.e c e).v, fun _ => s!"(sAug {i} {o.tx} {(r.e c e).tx ()})", fun T X k rc W ok => ss_aug ok (stoI_ok h) (fun W => o.ok T X W) ((r.e c e).ok T X k rc W ok)⟩
    | _, _ => badS)
  | .If e a b pos => ⟨sIf (r.t c e).v (r.ss c a).v (r.ss c b).v, fun _ => s!"(sIf {(r.t c e).tx ()} {(r.ss c a).tx ()} {(r.ss c b).tx ()})", fun T X k rc W ok => ss_if ((r.t c e).ok T X k rc W ok) ((r.ss c a).ok T X k rc W ok) ((r.ss c b).ok T X k rc W ok)⟩
  | .For tg iter body [] pos => (match h : c.top && !isSet iter with
    | false => badS
    | true => ⟨sFor (cI r c tg iter).v (cG r c 8 tg).v (r.ss c body).v, fun _ => s!"(sFor {(cI r c tg iter).tx ()} {(cG r c 8 tg).tx ()} {(r.ss c body).tx ()})", fun T X k rc W ok => by
        simp only [Bool.and_eq_true, Bool.not_eq_true'] at h
        exact ss_for ok h.1 ((cI r c tg iter).ok T X k rc W ok) ((cG r c 8 tg).ok T X k rc W ok) ((r.ss c body).ok T X k rc W ok) (fold_eq h.2 _)⟩)
  | .While e body [] pos => (match h : c.top with
    | false => badS
    | true => ⟨sWh (cWh r c e).v (r.ss c body).v, fun _ => s!"(sWh {(cWh r c e).tx ()} {(r.ss c body).tx ()})", fun T X k rc W ok => ss_while ok h ((cWh r c e).ok T X k rc W ok) ((r.ss c body).ok T X k rc W ok)⟩)
  | .Pass pos => ⟨sNil, fun _ => "sNil", fun T X k rc W ok => ss_pass⟩
  | .Break pos => ⟨sBk, fun _ => "sBk", fun T X k rc W ok => ss_bk⟩
  | .Continue pos => ⟨sCt, fun _ => "sCt", fun T X k rc W ok => ss_ct⟩
  | .Raise (some e) none pos => cRaise r c e pos
  | .Try body (h0 :: hs) [] [] pos => (match h : c.top, cH (G := G) c (h0 :: hs) with
    | true, some l => ⟨sTry G.sb G.ex (r.ss c body).v l.v, fun _ => s!"(sTry sbT exT {(r.ss c body).tx ()} {l.tx ()})", fun T X k rc W ok => ss_try ok h (fun Y W' o _ => (r.ss c body).ok T Y k rc W' o) (l.ok T X k rc W ok)⟩
    | _, _ => badS)
  | _ => badS
def cSs : (l : List Stmt) → CSs G c l
  | [] => ⟨sNil, fun _ => "sNil", fun T X k rc W ok => ss_nil⟩
  | [st] => ⟨(cStmt r c st).v, (cStmt r c st).tx, fun T X k rc W ok => ss_one ((cStmt r c st).ok T X k rc W ok)⟩
  | st :: l => ⟨sSeq (cStmt r c st).v (cSs l).v, fun _ => s!"(sSeq {(cStmt r c st).tx ()}\n  {(cSs l).tx ()})", fun T X k rc W ok => ss_cons ((cStmt r c st).ok T X k rc W ok) ((cSs l).ok T X k rc W ok)⟩
end
/-- THE COMPILER, by depth -/
def cp {G : Gx} (mt : (g : Nat) → Option (MetR G g)) : Nat → Cp G
  | 0 => ⟨fun c e => badE, fun c e => badT, fun c l => badSs⟩
  | n + 1 => ⟨fun c e => cExpr mt (cp mt n) c e, fun c e => cTst (cp mt n) c e, fun c l => cSs (cp mt n) c l⟩
end DC
/-! Dc23: facts of the heap behind the top, by Bool. -/
namespace DC
open PySem PySem.Spec PyProof.Rows L2
/-! ### classes -/
def sclB (K : PySem.W.Frag) (C : Addr) : Bool := decide (PySem.W.plainGet K C Str.empty = true ∧ PySem.W.isClsIn K C = true ∧ PySem.W.plainOver K C = true ∧ PySem.W.findIn K (.ref C) "__setattr__" = some (some (.builtin "object.__setattr__")))
theorem sclB_ok {K : PySem.W.Frag} {C : Addr} (h : sclB K C = true) : SlX.SCls K C := by
  obtain ⟨h1, h2, h3, h4⟩ := of_decide_eq_true h
  exact ⟨h1, h2, h3, h4⟩
def slotB (K : PySem.W.Frag) (C : Addr) (f : Str) (n : Nat) : Bool := match PySem.W.findIn K (.ref C) f with
  | some (some (.ref p)) => decide (PySem.W.specialIn K (.ref p) "__get__" = some (some (.builtin "member_descriptor.__get__")) ∧ PySem.W.takesIn K (.ref p) = some true ∧ PySem.W.typeIn K (.ref p) = some (.type "member_descriptor") ∧ PySem.W.slotIn K p C = some n ∧ n < 1000)
  | _ => false
theorem slotB_ok {K : PySem.W.Frag} {C : Addr} {f : Str} {n : Nat} (h : slotB K C f n = true) : ∃ p, SlX.Slot1 K C f p n := by
  unfold slotB at h
  split at h
  · rename_i p e
    obtain ⟨h1, h2, h3, h4, h5⟩ := of_decide_eq_true h
    exact ⟨p, e, h1, h2, h3, h4, h5⟩
  · cases h
def methB (K : PySem.W.Frag) (C : Addr) (m : Str) (f : Addr) : Bool := decide (PySem.W.findIn K (.ref C) m = some (some (.ref f)) ∧ PySem.W.isFn K (.ref f) = true ∧ PySem.W.keepIn K (.ref f) = true)
theorem methB_ok {K : PySem.W.Frag} {C f : Addr} {m : Str} (h : methB K C m f = true) : Meth K C m f := by
  obtain ⟨h1, h2, h3⟩ := of_decide_eq_true h
  exact ⟨h1, h2, h3⟩
def mkB (K : PySem.W.Frag) (C f : Addr) : Bool := decide (PySem.W.makesIn K C = true ∧ PySem.W.findIn K (.ref C) "__init__" = some (some (.ref f)) ∧ PySem.W.isFn K (.ref f) = true ∧ PySem.W.keepIn K (.ref C) = true)
theorem mkB_ok {K : PySem.W.Frag} {C f : Addr} (h : mkB K C f = true) : Mk K C f := by
  obtain ⟨h1, h2, h3, h4⟩ := of_decide_eq_true h
  exact ⟨h1, h2, h3, h4⟩
/-! ### exceptions -/
structure ExB where
  B : String
  newId : String
  initId : String
  bm : List Value
  FB : ExcBaseFacts B newId initId bm
  KF : PySem.W.KxsFacts B initId
  SF : StoreFacts B bm "object.__setattr__" "object"
def exBs : List ExB := [⟨_, _, _, _, PySem.F.excBase_ValueError, PySem.W.kxs_ValueError, PySem.F.store_ValueError⟩, ⟨_, _, _, _, PySem.F.excBase_IndexError, PySem.W.kxs_IndexError, PySem.F.store_IndexError⟩, ⟨_, _, _, _, PySem.F.excBase_ArithmeticError, PySem.W.kxs_ArithmeticError, PySem.F.store_ArithmeticError⟩,
  ⟨_, _, _, _, PySem.F.excBase_OverflowError, PySem.W.kxs_OverflowError, PySem.F.store_OverflowError⟩, ⟨_, _, _, _, PySem.F.excBase_LookupError, PySem.W.kxs_LookupError, PySem.F.store_LookupError⟩, ⟨_, _, _, _, PySem.F.excBase_Exception, PySem.W.kxs_Exception, PySem.F.store_Exception⟩,
  ⟨_, _, _, _, PySem.F.excBase_RuntimeError, PySem.W.kxs_RuntimeError, PySem.F.store_RuntimeError⟩, ⟨_, _, _, _, PySem.F.excBase_TypeError, PySem.W.kxs_TypeError, PySem.F.store_TypeError⟩]
def txB (K : PySem.W.Frag) (C : Addr) : Bool := exBs.any fun b => decide (PySem.W.excIn K C b.bm b.newId = true ∧ PySem.W.keepIn K (.ref C) = true ∧ PySem.W.subIn K (.ref C) (.type "BaseException") = some true ∧ PySem.W.typeIn K (.ref C) = some (.type "type"))
theorem txB_ok {K : PySem.W.Frag} {C : Addr} (h : txB K C = true) : TxC K C := by
  obtain ⟨b, _, e⟩ := List.any_eq_true.mp h
  obtain ⟨h1, h2, h3, h4⟩ := of_decide_eq_true e
  exact ⟨_, _, _, _, b.FB, h1, h2, h3, h4⟩
def eiB1 (P : Program) (K : PySem.W.Frag) (C : Addr) (f : Str) (b : ExB) : Bool := match PySem.W.clsIn K C, PySem.W.findIn K (.ref C) "__init__" with
  | some cd, some (some (.ref fI)) => (match K.lookup fI with
    | some ⟨oc, od, .func fd, osl⟩ => (match fd.body with
      | .stmts [.Expr (.Call (.Attribute (.Call (.Name su p0) [] [] p1) ini p2) [.Constant (.str m) j p3] [] p4) p5, .Assign [.Attribute (.Name sf p6) f' p7] (.Name gv p8) p9] => (match fd.code, fd.params.args.head?, fd.closure.lookup ("__class__" : Str) with
        | .ref cda, some ar, some cc => (match K.lookup cda, K.lookup cc with
          | some ⟨ccl, cdd, .fields vs, ccs⟩, some ⟨cl, cld, .cell (some (.ref C')), csl⟩ => (match (vs[2]? : Option Value) with
            | some (Value.str file tf) => decide (C' = C ∧ su = "super" ∧ ini = "__init__" ∧ f' = f ∧ oc = .type "function" ∧ PySem.W.excInitIn K C b.bm b.newId = true ∧ cd.mro = .ref C :: b.bm ∧ cd.hasDict = true ∧ PySem.W.typeIn K (.ref fI) = some (.type "function") ∧ PySem.W.codeIn K fd.code fd.qualname = true ∧
                plainPar fd.params = true ∧ parNames fd.params = [sf, gv] ∧ [sf, gv].Nodup ∧ fd.defaults = .none ∧ fd.globals = mainGlobals ∧ fd.builtins = builtinsNs ∧ fd.scope.kind = .function ∧ fd.scope.isCoroutine = false ∧ fd.scope.isGenerator = false ∧ (∀ x ∈ fd.scope.names, x.2 ≠ .cell) ∧
                fd.scope.names.lookup sf = some .local ∧ fd.scope.names.lookup gv = some .local ∧ fd.scope.names.lookup ("super" : Str) = some .globalImplicit ∧ fd.scope.names.lookup ("__class__" : Str) = some .free ∧ (sf == ("__debug__" : Str)) = false ∧ (gv == ("__debug__" : Str)) = false ∧
                ((P.main.file : Str) == file) = true ∧ (P.main.scope.names.lookup ("super" : Str)).isSome = false ∧ PySem.W.nsIn K mainGlobals "super" = some none ∧ PySem.W.nsIn K cStatics "thirdparty.any" = some none ∧ PySem.W.mroIn K C (.ref C) = some true ∧ PySem.W.alongIn K "__init__" b.bm = some (some (.builtin b.initId)) ∧
                PySem.W.subIn K (.ref C) (.type b.B) = some true ∧ PySem.W.findIn K (.ref C) "__setattr__" = some (some (.builtin "object.__setattr__")) ∧ PySem.W.findIn K (.ref C) f = some none ∧ PySem.W.subIn K (.ref C) (.type "BaseException") = some true ∧ PySem.W.typeIn K (.ref C) = some (.type "type") ∧ PySem.W.keepIn K (.ref C) = true ∧ (p2.endLine == p4.line) = true)
            | _ => false)
          | _, _ => false)
        | _, _, _ => false)
      | _ => false)
    | _ => false)
  | _, _ => false
theorem eiB1_ok {P : Program} {K : PySem.W.Frag} {C : Addr} {f : Str} {b : ExB} (h : eiB1 P K C f b = true) : EiX P K C f := by
  unfold eiB1 at h
  split at h
  rotate_left 1
  · cases h
  rename_i cd fI e1 e2
  split at h
  rotate_left 1
  · cases h
  rename_i oc od fd osl e3
  split at h
  rotate_left 1
  · cases h
  rename_i su p0 p1 ini p2 m j p3 p4 p5 sf p6 f' p7 gv p8 p9 e4
  split at h
  rotate_left 1
  · cases h
  rename_i cda ar cc e5 e6 e7
  split at h
  rotate_left 1
  · cases h
  rename_i ccl cdd vs ccs cl cld C' csl e8 e9
  split at h
  rotate_left 1
  · cases h
  rename_i file tf e10
  obtain ⟨rfl, rfl, rfl, rfl, rfl, a1, a2, a3, a4, a5, a6, a7, a8, a9, a10, a11, a12, a13, a14, a15, a16, a17, a18, a19, a20, a21, a22, a23, a24, a25, a26, a27, a28, a29, a30, a31, a32, a33, a34⟩ := of_decide_eq_true h
  exact ⟨b.B, b.newId, b.initId, b.bm, cd, fI, cda, cc, fd, od, osl, sf, gv, m, j, p0, p1, p2, p3, p4, p5, p6, p7, p8, p9, ar, ccl, cl, cdd, cld, vs, ccs, csl, file, tf,
    { FB := b.FB, KF := b.KF, SF := b.SF, q := a1, hcl := e1, hm := a2, hh := a3, iC := e2, tI := a4, lk := e3, body := e4, hcode := a5, code := e5, par := a6, pn := a7, nd := a8, dfl := a9, arg := e6, glob := a10, blt := a11, clo := e7, kind := a12, co := a13, gen := a14, nocell := a15,
      ls := a16, lg := a17, lsu := a18, lcl := a19, ds := a20, dg := a21, hcda := e8, hvs := e10, hfile := a22, htop := a23, hcell := e9, nsup := a24, third := a25, mroC := a26, along := a27, subB := a28, sa := a29, nof := a30, exC := a31, tyC := a32, kC := a33, line := a34 }⟩
def eiB (P : Program) (K : PySem.W.Frag) (C : Addr) (f : Str) : Bool := exBs.any (eiB1 P K C f)
theorem eiB_ok {P : Program} {K : PySem.W.Frag} {C : Addr} {f : Str} (h : eiB P K C f = true) : EiX P K C f := by
  obtain ⟨b, _, e⟩ := List.any_eq_true.mp h
  exact eiB1_ok e
/-! ### values of names -/
/-- pairwise -/
def allR (g : D → Value → Bool) : List D → List Value → Bool
  | [], [] => true
  | d :: ds, u :: us => g d u && allR g ds us
  | _, _ => false
def repB (K : PySem.W.Frag) : Nat → D → Value → Bool
  | 0, _, _ => false
  | n + 1, d, u => match d, u with
    | .non, .none => true
    | .bl b, .bool c => b == c
    | .int i, .int j _ => decide (i = j)
    | .str x, .str y _ => decide (x = y.cps.toList)
    | .tup ds, .ref a => (match K.lookup a with
      | some ⟨.type c, _, .seq its _, _⟩ => decide (c = "tuple") && (decide (its.size ≤ sizeLine) && allR (repB K n) ds its.toList)
      | _ => false)
    | _, _ => false
theorem repB_ok {T : Tb} {K : PySem.W.Frag} : ∀ {n : Nat} {d : D} {u : Value}, repB K n d u = true → ∃ v, RelV v u ∧ RepK T K d v
  | 0, _, _, h => by
    unfold repB at h
    cases h
  | n + 1, d, u, h => by
    have hs : ∀ {ds : List D} {us : List Value}, allR (repB K n) ds us = true → ∃ vs, Vals vs us ∧ ∀ ρ H, Reps T K ρ H ds vs := by
      intro ds
      induction ds with
      | nil =>
        intro us h
        cases us with
        | nil => exact ⟨[], .nil, fun _ _ => .nil⟩
        | cons _ _ => cases h
      | cons d ds ih =>
        intro us h
        cases us with
        | nil => cases h
        | cons u us =>
          obtain ⟨h1, h2⟩ := Bool.and_eq_true_iff.mp (show (repB K n d u && allR (repB K n) ds us) = true from h)
          obtain ⟨v, a1, a2⟩ := repB_ok h1
          obtain ⟨vs, b1, b2⟩ := ih h2
          exact ⟨v :: vs, .cons a1 b1, fun ρ H => .cons (a2 ρ H) (b2 ρ H)⟩
    unfold repB at h
    split at h
    · exact ⟨.non, rfl, fun _ _ => .non⟩
    · rename_i b c
      have := eq_of_beq h
      subst this
      exact ⟨.bl b, rfl, fun _ _ => .bl⟩
    · rename_i i j t
      have := of_decide_eq_true h
      subst this
      exact ⟨.int i, ⟨t, rfl⟩, fun _ _ => .int⟩
    · rename_i x y t
      have := of_decide_eq_true h
      subst this
      refine ⟨.str y, ⟨t, rfl⟩, fun ρ H => ?_⟩
      have q : Rep T K ρ H (.str y.cps.toList) (.str ⟨y.cps.toList.toArray⟩) := .str
      simpa using q
    · rename_i ds a
      split at h
      · rename_i c od its m sl e
        obtain ⟨h1, h2⟩ := Bool.and_eq_true_iff.mp h
        obtain ⟨h3, h4⟩ := Bool.and_eq_true_iff.mp h2
        obtain ⟨vs, b1, b2⟩ := hs h4
        exact ⟨.ref a, rfl, fun ρ H => .tup (.inr ⟨_, its, m, e, congrArg Value.type (of_decide_eq_true h1), rfl, of_decide_eq_true h3, b1⟩) (b2 ρ H)⟩
      · cases h
    · cases h
end DC
/-! Dc24: the end: the law's def called by the claim, nothing under way that repr would ask for. -/
namespace DC
open PySem PySem.Spec PyProof.Rows L2
section
variable {P : Program} {w : World} {K : PySem.W.Frag} {mg mb : Str → Option Value} {k : Nat} {fa a : Addr} {cs : List (Addr × Addr)} {fd : FuncData} {x : Str} {sp : Sp} {s₁ : Shared} {vs : List Value} {ns : List Int}
/-- what is tracked at the start: the script, the tables -/
structure Seen (K : PySem.W.Frag) (cs : List (Addr × Addr)) (a : Addr) (ns : List Int) (h : Heap) (H : Hp) : Prop where
  tab : ∀ p ∈ cs, H p.2 = some (.tbl #[])
  only : ∀ b, H b = none ∨ b ∈ cs.map (·.2) ∨ ∃ o xs, H b = some (.frz o (.lst xs))
  scr : SqF K H a (ns.map V.int)
  at_ : ∀ b, H b ≠ none → b = a ∨ b ∈ cs.map (·.2)
  out : H a ≠ none → K.lookup a = none
/-- such a heap is there -/
theorem seen_is (hT : ∀ p ∈ cs, s₁.heap.get? p.2 = some { cls := .none, data := .fields #[] }) (KX : K.In s₁.heap) (ha : s₁.heap.get? a = some { cls := .type "list", data := .seq vs.toArray }) (hi : IntsAre vs ns) (hl : ns.length ≤ sizeLine) :
    ∃ H, Seen K cs a ns s₁.heap H ∧ HOk P w H s₁.heap := by
  have rv := vals_ints hi
  have lenV := hi.length
  have isT : ∀ b : Addr, b ∈ cs.map (·.2) → s₁.heap.get? b = some { cls := .none, data := .fields #[] } := fun b hb => by
    obtain ⟨p, hp, e⟩ := List.mem_map.mp hb
    rw [← e]
    exact hT p hp
  have aT : a ∉ cs.map (·.2) := fun z => by
    have q := isT a z
    rw [ha] at q
    have z' : Data.seq vs.toArray _ = Data.fields #[] := congrArg Obj.data (Option.some.inj q)
    cases z'
  have memT : ∀ p ∈ cs, p.2 ∈ cs.map (·.2) := fun p hp => List.mem_map.mpr ⟨p, hp, rfl⟩
  cases hk : K.lookup a with
  | some o =>
    have e := KX a o hk
    rw [ha] at e
    cases e
    refine ⟨fun b => if b ∈ cs.map (·.2) then some (.tbl #[]) else none, ⟨fun p hp => if_pos (memT p hp), fun b => ?_, .inr ⟨_, vs.toArray, _, hk, rfl, rfl, rfl, by rw [List.size_toArray, lenV]; exact hl, by simpa using rv⟩, fun b z => ?_, fun z => absurd (if_neg aT) z⟩, fun b u z => ?_⟩
    · by_cases hb : b ∈ cs.map (·.2)
      · exact .inr (.inl hb)
      · exact .inl (if_neg hb)
    · by_cases hb : b ∈ cs.map (·.2)
      · exact .inr hb
      · exact absurd (if_neg hb) z
    · by_cases hb : b ∈ cs.map (·.2)
      · have z' := (if_pos hb).symm.trans z
        cases z'
        exact isT b hb
      · have z' := (if_neg hb).symm.trans z
        cases z'
  | none =>
    refine ⟨fun b => if b = a then some (.frz { cls := .type "list", data := .seq vs.toArray } (.lst (ns.map V.int))) else if b ∈ cs.map (·.2) then some (.tbl #[]) else none, ⟨fun p hp => ?_, fun b => ?_, .inl ⟨_, if_pos rfl⟩, fun b z => ?_, fun _ => hk⟩, fun b u z => ?_⟩
    · have q : ¬ p.2 = a := fun z => aT (by rw [← z]; exact memT p hp)
      show (if p.2 = a then _ else _) = _
      rw [if_neg q, if_pos (memT p hp)]
    · by_cases hb : b = a
      · exact .inr (.inr ⟨_, _, if_pos hb⟩)
      · by_cases hb2 : b ∈ cs.map (·.2)
        · exact .inr (.inl hb2)
        · exact .inl ((if_neg hb).trans (if_neg hb2))
    · by_cases hb : b = a
      · exact .inl hb
      · by_cases hb2 : b ∈ cs.map (·.2)
        · exact .inr hb2
        · exact absurd ((if_neg hb).trans (if_neg hb2)) z
    · by_cases hb : b = a
      · have z' := (if_pos hb).symm.trans z
        cases z'
        rw [hb]
        exact ⟨ha, by rw [List.length_map]; exact hl, vs, _, rv, ha⟩
      · have z1 := (if_neg hb).symm.trans z
        by_cases hb2 : b ∈ cs.map (·.2)
        · have z' := (if_pos hb2).symm.trans z1
          cases z'
          exact isT b hb2
        · have z' := (if_neg hb2).symm.trans z1
          cases z'
/-- what is not tracked stays at the base -/
theorem Seen.base {H : Hp} (S : Seen K cs a ns s₁.heap H) (hT : ∀ p ∈ cs, s₁.heap.get? p.2 = some { cls := .none, data := .fields #[] }) (ha : s₁.heap.get? a = some { cls := .type "list", data := .seq vs.toArray }) {b : Addr} {o : Obj} (e : s₁.heap.get? b = some o) (h1 : ∀ vs n, o.data ≠ .seq vs n) (h2 : o.data ≠ .fields #[]) : (hidT s₁.heap H).get? b = some o := by
  refine hidT_get e ?_
  cases q : H b with
  | none => rfl
  | some u =>
    rcases S.at_ b (by rw [q]; simp) with e' | e'
    · rw [e', ha] at e
      cases e
      exact (h1 _ _ rfl).elim
    · obtain ⟨p, hp, ep⟩ := List.mem_map.mp e'
      rw [← ep, hT p hp] at e
      cases e
      exact (h2 rfl).elim
theorem law_callG (KX : K.In s₁.heap) (hns : s₁.heap.Ns mainGlobals mg) (hb : s₁.heap.Ns builtinsNs mb) (hbb : ∀ x : Str, x ≠ "__name__" → mb x = bootBuiltins x) (hlim : s₁.heap.NoLimit) (hg : s₁.gens = #[])
    (hT : ∀ p ∈ cs, s₁.heap.get? p.2 = some { cls := .none, data := .fields #[] }) (nT : ∀ p ∈ cs, K.lookup p.2 = none) (C : ∀ p ∈ cs, PySem.W.CodeHd s₁.heap p.1 p.2)
    (hbm : ∃ (bm : Addr) (ob : Obj), mg "__builtins__" = some (.ref bm) ∧ bm ≠ builtinsNs ∧ s₁.heap.get? bm = some ob ∧ ob.cls = .type "module" ∧ ob.dict = some builtinsNs ∧ ob.data = .plain)
    (ha : s₁.heap.get? a = some { cls := .type "list", data := .seq vs.toArray }) (hi : IntsAre vs ns) (hl : ns.length ≤ sizeLine) (hr : Room k callerA)
    (F : ∀ base : Heap, K.In base → base.Ns mainGlobals mg → (∀ p ∈ cs, LamX.TabB base mg p.1 p.2) → FnG P w K mg base k fa fd [x] sp) (hbind : ∀ (s : Shared) (u : Value), BindsTo s fd ⟨[u], []⟩ [(x, u)])
    (hsp : ∀ H : Hp, (∀ p ∈ cs, H p.2 = some (.tbl #[])) → SqF K H a (ns.map V.int) → sp [.ref a] H (fun v _ => v = .bl true) fun _ _ _ => False) :
    codeAny (model P w) callerA (.call (.ref fa) ⟨[.ref a], []⟩) (fun r s' => r = .ok (.ret (.bool true)) ∧ OldK s₁.heap s'.heap ∧ s'.os = s₁.os ∧ AllBare s'.gens) s₁ := by
  obtain ⟨H, S, hok⟩ := seen_is (P := P) (w := w) hT KX ha hi hl
  have dict_at : ∀ {b : Addr} {o : Obj} {es : Array DictEntry} {ep : Nat}, s₁.heap.get? b = some o → o.data = .dict es ep → (hidT s₁.heap H).get? b = some o := fun {b o es ep} e d => S.base hT ha e (fun vs n z => by rw [d] at z; cases z) (fun z => by rw [d] at z; cases z)
  have nsK : ∀ {b : Addr} {m : Str → Option Value}, s₁.heap.Ns b m → (hidT s₁.heap H).Ns b m := fun {b m} ⟨o, es, ep, e, d, r⟩ => ⟨o, es, ep, dict_at e d, d, r⟩
  have hKb : K.In (hidT s₁.heap H) := fun b o e => hidT_get (KX b o e) (by
    cases q : H b with
    | none => rfl
    | some u =>
      rcases S.at_ b (by rw [q]; simp) with e' | e'
      · rw [e'] at e q
        rw [S.out (by rw [q]; simp)] at e
        cases e
      · obtain ⟨p, hp, ep⟩ := List.mem_map.mp e'
        rw [← ep, nT p hp] at e
        cases e)
  have hM : L2.Mod K mg (hidT s₁.heap H) := ⟨hKb, nsK hns, ⟨mb, nsK hb, hbb⟩, let ⟨mc, h1, h2⟩ := hlim; ⟨mc, nsK h1, h2⟩⟩
  have TB : ∀ p ∈ cs, LamX.TabB (hidT s₁.heap H) mg p.1 p.2 := fun p hp => by
    have hTp := hT p hp
    refine ⟨?_, ?_, fun z => ?_⟩
    · obtain ⟨o, us, file, tf, flags, tg, inF, text, tt, e1, r1, r2, r3, r4, r5, r6, r7, r8, hne⟩ := C p hp
      refine ⟨o, us, file, tf, flags, tg, inF, text, tt, S.base hT ha e1 (fun vs n z => by rw [r2] at z; cases z) (fun z => ?_), r1, r2, r3, r4, r5, r6, r7, r8, hne⟩
      rw [r2] at z
      cases z
      simp at r3
    · obtain ⟨bm, ob, b1, b2, b3, b4, b5, b6⟩ := hbm
      refine ⟨bm, ob, b1, b2, fun q => ?_, fun q => ?_, S.base hT ha b3 (fun vs n z => by rw [b6] at z; cases z) (fun z => by rw [b6] at z; cases z), b4, b5, b6⟩
      · obtain ⟨o, es, ep, e, hd, _⟩ := hns
        rw [q, e] at b3
        cases b3
        rw [hd] at b6
        cases b6
      · rw [q, hTp] at b3
        cases b3
        cases b6
    · obtain ⟨o, es, ep, e, hd, _⟩ := hns
      rw [z, hTp] at e
      cases e
      cases hd
  have e0 : Env0 P w K mg (hidT s₁.heap H) callerA [] s₁ H := ⟨rfl, hM, fun b o e => of_hidT e, Nat.le_of_eq (hidT_size _ _), trivial, fun b hb => absurd (show b ∈ ([] : List Addr) from hb) (by simp), hok, .of_eq hg⟩
  refine codeAny_mono ((F _ hKb (nsK hns) TB).run callerA [] s₁ H ⟨[.ref a], []⟩ [.ref a] [.ref a] _ _ hr rfl e0 (hbind s₁ (.ref a)) (.cons rfl .nil) (hsp H S.tab S.scr)) fun r s' h => ?_
  cases r with
  | error e =>
    obtain ⟨_, _, _, _, _, _, _, _, _, _, _, _, z⟩ := (show L2.CX P w [] H s₁ (fun _ _ _ => False) e s' from h)
    exact z.elim
  | ok fl =>
    cases fl with
    | next => exact False.elim h
    | brk => exact False.elim h
    | cont => exact False.elim h
    | ret u =>
      obtain ⟨v, H', os, bare, un, hok', r', q⟩ := h
      have q' : v = .bl true := q
      subst q'
      obtain rfl : u = Value.bool true := r'
      have key : ∀ b o, b ∉ cs.map (·.2) → s₁.heap.get? b = some o → s'.heap.get? b = some o := fun b o nb e => by
        cases q : H b with
        | none => exact un.keep b o e q (by intro z; exact absurd (show b ∈ ([] : List Addr) from z) (by simp)) (by simp)
        | some u =>
          rcases S.only b with z | z | ⟨ob, xs, z⟩
          · rw [q] at z; cases z
          · exact absurd z nb
          · have z2 := un.frzs b ob _ z
            obtain ⟨e1, _⟩ := hok b _ z
            obtain ⟨e2, _⟩ := hok' b _ z2
            rw [e] at e1; cases e1
            exact e2
      have grown : ∀ p ∈ cs, ∃ more : Array Value, s'.heap.get? p.2 = some { cls := .none, data := .fields more } := fun p hp => by
        obtain ⟨more, z⟩ := un.tbls p.2 #[] (S.tab p hp)
        exact ⟨_, hok' p.2 _ z⟩
      refine ⟨rfl, ⟨fun b o e => ?_, fun b o e => ?_⟩, os, bare⟩
      · by_cases hb : b ∈ cs.map (·.2)
        · obtain ⟨p, hp, ep⟩ := List.mem_map.mp hb
          obtain ⟨more, hm⟩ := grown p hp
          rw [← ep] at e ⊢
          rw [hT p hp] at e
          cases e
          exact .inr (.inl ⟨((C p hp).tab (hT p hp)).isCodeTable, rfl, #[], more, rfl, by rw [Array.empty_append]; exact hm⟩)
        · exact .inl (key b o hb e)
      · by_cases hb : b ∈ cs.map (·.2)
        · obtain ⟨p, hp, ep⟩ := List.mem_map.mp hb
          obtain ⟨more, hm⟩ := grown p hp
          rw [← ep]
          exact ⟨_, hm⟩
        · exact ⟨o, key b o hb e⟩
end
/-- what is known of the law's promise at the head's heap h -/
def LawAtG (l : PySem.W.OpenLaw) (w : World) (K : PySem.W.Frag) (k n : Nat) (x : Str) (mg : Str → Option Value) (fa : Addr) (h : Heap) : Prop :=
  ∃ (fd : FuncData) (cs : List (Addr × Addr)) (sp : Sp), (∀ p ∈ cs, h.get? p.2 = some { cls := .none, data := .fields #[] }) ∧ (∀ p ∈ cs, K.lookup p.2 = none) ∧ (∀ p ∈ cs, PySem.W.CodeHd h p.1 p.2) ∧ (∀ (s : Shared) (u : Value), BindsTo s fd ⟨[u], []⟩ [(x, u)]) ∧
    (∀ (H : Hp) (a : Addr) (ns : List Int), ns.length ≤ n → (∀ z ∈ ns, Builtin.Int.intBits z ≤ 1048576) → (∀ p ∈ cs, H p.2 = some (.tbl #[])) → SqF K H a (ns.map V.int) → sp [.ref a] H (fun v _ => v = .bl true) fun _ _ _ => False) ∧
    ∀ base : Heap, K.In base → base.Ns mainGlobals mg → (∀ p ∈ cs, LamX.TabB base mg p.1 p.2) → FnG l.prog w K mg base k fa fd [x] sp
theorem walk_dc {l : PySem.W.OpenLaw} {n k : Nat} {q : Program} {loose : List Str} {XP : (Str → Option Value) → Heap → Prop} {YP : World → Heap → Prop} {d : DefRec} {x : Str}
    (hn : l.most = some n) (hn2 : n ≤ sizeLine) (hdf : d.params.defaults = []) (hr : Room k callerA)
    (F : ∀ (w : World) (mg : Str → Option Value) (fa : Addr) (h : Heap), YP w h → h.Ns mainGlobals mg → mg d.name = some (.ref fa) → ∃ K : PySem.W.Frag, K.In h ∧ LawAtG l w K k n x mg fa h) :
    PySem.W.WalkO q loose XP YP l.row.toRowW d [] (fun f vs => PySem.call f vs) := by
  refine Att.attach_callB hn hdf fun w s₀ s₁ mg mb fa o pm cd doc a vs ns G Y ho hd hcd hmg hobj hints hlen hbits hg => ?_
  obtain ⟨K, KX, fd, cs, sp, hT, nT, C, hb, hsp, hF⟩ := F w mg fa _ Y G.T.g hmg
  exact law_callG KX G.T.g G.T.b G.T.builtins G.T.nolimit hg hT nT C G.T.bmain hobj hints (Nat.le_trans hlen hn2) hr hF hb (fun H hH hS => hsp H a ns hlen hbits hH hS)
end DC
/-! Dc25: a whole program: its defs, classes, names; all defs keep their meanings. -/
namespace DC
open PySem PySem.Spec PyProof.Rows L2
structure Fn1 where
  d : He.DefD
  N : List Str
  lam : Bool
structure Cl1 where
  nm : Str
  i : Option ClI
structure Pd where
  fns : List Fn1
  cls : List Cl1
  exs : List (Option (Option Str))
  ars : List Nat
  vals : List (Str × D)
  bfs : List (Str × String)
  abs : List Str
  sbs : List ((Nat × Nat) × Bool)
def nmF : List Fn1 → Nat → List (Str × Gk)
  | [], _ => []
  | f :: r, i => (match f.d.at_ with
    | (x, none) => [(x, Gk.fn i)]
    | _ => []) ++ nmF r (i + 1)
def nmC : List Cl1 → Nat → List (Str × Gk)
  | [], _ => []
  | c :: r, i => (c.nm, Gk.cls i) :: nmC r (i + 1)
def Pd.nms (p : Pd) : List (Str × Gk) := nmF p.fns 0 ++ nmC p.cls 0 ++ p.vals.map (fun q => (q.1, Gk.val q.2)) ++ p.bfs.map (fun q => (q.1, Gk.bf q.2)) ++ p.abs.map fun x => (x, Gk.abs)
def lk2 (c d : Nat) : List ((Nat × Nat) × Bool) → Option Bool
  | [] => none
  | ((a, b), r) :: l => match Nat.beq a c && Nat.beq b d with
    | true => some r
    | false => lk2 c d l
def Pd.G (p : Pd) (ar : Nat → Option Nat) (ex : Nat → Option (Option Str)) (sb : Nat → Nat → Option Bool) : Gx where
  nm x := p.nms.lookup x
  ar := ar
  df _ := []
  cl c := match p.cls[c]? with
    | some c => c.i
    | none => none
  ex := ex
  sb := sb
  fd g := match p.fns[g]? with
    | some f => (match f.d.dfl, f.d.kwd with
      | [], [] => some f.d
      | _, _ => none)
    | none => none
  ncl := p.cls.length
def tabOfFn (K : PySem.W.Frag) (f : Fn1) : Addr × Str := ((He.cT K f.d.at_).2, (f.d.qual ++ ".<locals>.") ++ "<lambda>")
def Pd.tabs (p : Pd) (K : PySem.W.Frag) : List (Addr × Str) := (p.fns.filter (·.lam)).map (tabOfFn K)
def Pd.T (p : Pd) (K : PySem.W.Frag) : Tb where
  fa g := match p.fns[g]? with
    | some f => He.fAd K f.d.at_
    | none => 0
  ca c := match p.cls[c]? with
    | some c => He.ga K c.nm
    | none => 0
  ek c := (p.exs[c]?).join.join
  tabs := p.tabs K
/-! ### the facts by one Bool -/
def nmB (p : Pd) (K : PySem.W.Frag) (q : Str × Gk) : Bool := match q.2 with
  | .fn g => He.eqO (PySem.W.nsIn K mainGlobals q.1) (some (some (.ref ((p.T K).fa g))))
  | .cls c => He.eqO (PySem.W.nsIn K mainGlobals q.1) (some (some (.ref ((p.T K).ca c))))
  | .val d => (match PySem.W.nsIn K mainGlobals q.1 with
    | some (some u) => repB K 40 d u
    | _ => false)
  | .bf id => He.eqO (PySem.W.nsIn K mainGlobals q.1) (some (some (.builtin id)))
  | .abs => He.eqO (PySem.W.nsIn K mainGlobals q.1) (some none)
def clB (p : Pd) (K : PySem.W.Frag) (C : Addr) (i : ClI) : Bool := sclB K C && (i.slots.all fun q => slotB K C q.1 q.2) && (i.meths.all fun q => methB K C q.1 ((p.T K).fa q.2)) && (match i.init with
  | some g => mkB K C ((p.T K).fa g)
  | none => true)
def cl1B (p : Pd) (K : PySem.W.Frag) (c : Nat) : Bool := match p.cls[c]? with
  | some q => (match q.i with
    | some i => clB p K (He.ga K q.nm) i
    | none => true)
  | none => true
def exB (P : Program) (p : Pd) (K : PySem.W.Frag) (c : Nat) : Bool := match (p.exs[c]?).join with
  | none => true
  | some none => txB K ((p.T K).ca c)
  | some (some f) => eiB P K ((p.T K).ca c) f && (xfB K ((p.T K).ca c) && He.eqO (PySem.W.findIn K (.ref ((p.T K).ca c)) f) (some none))
def tabsU (p : Pd) (K : PySem.W.Frag) : Bool := (p.tabs K).all fun a => (p.tabs K).all fun b => !(Nat.beq a.1 b.1) || decide (a.2 = b.2)
def allB (P : Program) (p : Pd) (K : PySem.W.Frag) : Bool := (p.nms.all (nmB p K)) && ((List.range p.cls.length).all (cl1B p K)) && ((List.range p.exs.length).all (exB P p K)) &&
  (p.sbs.all fun q => decide (PySem.W.exmOne K (.ref ((p.T K).ca q.1.1)) (.ref ((p.T K).ca q.1.2)) = some q.2)) && (p.fns.all fun f => PySem.W.isFn K (.ref (He.fAd K f.d.at_))) && tabsU p K
def fn1B (f : Fn1) : Bool := fscB f.N (parNames f.d.params) f.d.scope && (plainPar f.d.params && (decide (parNames f.d.params).Nodup && (f.d.dfl.isEmpty && f.d.kwd.isEmpty)))
theorem lookup_mem2 {β : Type} {x : Str} {y : β} : ∀ {l : List (Str × β)}, l.lookup x = some y → (x, y) ∈ l
  | [], h => by cases h
  | (a, b) :: r, h => by
    rw [List.lookup_cons] at h
    cases e : x == a with
    | true => rw [e] at h; cases h; rw [eq_of_beq e]; exact List.mem_cons_self
    | false => rw [e] at h; exact List.mem_cons_of_mem _ (lookup_mem2 h)
theorem lk2_mem {c d : Nat} {r : Bool} : ∀ {l : List ((Nat × Nat) × Bool)}, lk2 c d l = some r → ((c, d), r) ∈ l
  | [], h => by cases h
  | ((a, b), q) :: l, h => by
    unfold lk2 at h
    split at h
    · rename_i e
      obtain ⟨e1, e2⟩ := Bool.and_eq_true_iff.mp e
      cases h
      rw [Nat.eq_of_beq_eq_true e1, Nat.eq_of_beq_eq_true e2]
      exact List.mem_cons_self
    · exact List.mem_cons_of_mem _ (lk2_mem h)
section
variable {P : Program} {w : World} {K : PySem.W.Frag} {mg : Str → Option Value} {base : Heap} {p : Pd} {ar : Nat → Option Nat} {ex : Nat → Option (Option Str)} {sb : Nat → Nat → Option Bool} {N fl : Nat} {code : Nat → Option Cd}
/-- all but the defs -/
theorem gok_of (hex : ∀ c, ex c = (p.exs[c]?).join) (hsb : ∀ c d, sb c d = lk2 c d p.sbs) (KX : K.In base) (NS : base.Ns mainGlobals mg) (hB : allB P p K = true) (hD : ∀ f ∈ p.fns, ∃ fd, FunD K f.d.name f.d.qual f.d.params f.d.body f.d.scope (f.d.dvs K) (f.d.kws K) (He.fAd K f.d.at_) fd)
    {k : Nat} {call : Nat → Nat → List D → AH → Out D} (low : ∀ j, k < j → ∀ g ds h, call j g ds h = .bad) (fns : ∀ j, j ≤ k → ∀ g a, (p.G ar ex sb).ar g = some a → FnP (p.G ar ex sb) (p.T K) P w K mg base (k - j) g a (call j g)) : GOk (p.G ar ex sb) (p.T K) P w K mg base k call := by
  unfold allB at hB
  simp only [Bool.and_eq_true, List.all_eq_true] at hB
  obtain ⟨⟨⟨⟨⟨b1, b2⟩, b3⟩, b4⟩, b5⟩, b6⟩ := hB
  have exf : ∀ c f, (p.exs[c]?).join = some f → exB P p K c = true := fun c f e => by
    refine b3 c (List.mem_range.mpr ?_)
    by_cases h : c < p.exs.length
    · exact h
    · rw [List.getElem?_eq_none (Nat.le_of_not_lt h)] at e
      cases e
  refine ⟨fun x => ?_, low, fns, fun c i e => ?_, fun c => ?_, fun c f e => ?_, fun c d b e => ?_, fun g d e => ?_⟩
  · cases e : (p.G ar ex sb).nm x with
    | none => exact True.intro
    | some gk =>
      have q := b1 _ (lookup_mem2 (show p.nms.lookup x = some gk from e))
      unfold nmB at q
      cases gk with
      | fn g => exact PySem.W.mg_of KX NS (He.eqO_ok q)
      | cls c => exact PySem.W.mg_of KX NS (He.eqO_ok q)
      | bf id => exact PySem.W.mg_of KX NS (He.eqO_ok q)
      | abs => exact PySem.W.mg_none_of KX NS (He.eqO_ok q)
      | val d =>
        simp only at q
        split at q
        · rename_i u e2
          obtain ⟨v, r1, r2⟩ := repB_ok (T := p.T K) q
          exact ⟨v, u, PySem.W.mg_of KX NS e2, r1, r2⟩
        · cases q
  · have e : (match p.cls[c]? with | some c => c.i | none => none) = some i := e
    cases hc : p.cls[c]? with
    | none => rw [hc] at e; cases e
    | some q =>
      rw [hc] at e
      have e : q.i = some i := e
      have z := b2 c (List.mem_range.mpr (List.getElem?_eq_some_iff.mp hc).1)
      unfold cl1B at z
      rw [hc] at z
      simp only at z
      rw [e] at z
      simp only [clB, Bool.and_eq_true, List.all_eq_true] at z
      obtain ⟨⟨⟨z1, z2⟩, z3⟩, z4⟩ := z
      have ca : (p.T K).ca c = He.ga K q.nm := by
        show (match p.cls[c]? with | some c => He.ga K c.nm | none => 0) = _
        rw [hc]
      rw [ca]
      refine ⟨sclB_ok z1, fun f n h => slotB_ok (z2 _ (lookup_mem2 h)), fun f g h => methB_ok (z3 _ (lookup_mem2 h)), fun g h => ?_⟩
      rw [h] at z4
      exact mkB_ok z4
  · show (match ex c with | none => True | some none => TxC K ((p.T K).ca c) | some (some f) => (p.T K).ek c = some f ∧ EiX P K ((p.T K).ca c) f)
    rw [hex]
    cases e : (p.exs[c]?).join with
    | none => exact True.intro
    | some o =>
      have z := exf c o e
      unfold exB at z
      rw [e] at z
      cases o with
      | none => exact txB_ok z
      | some f =>
        simp only [Bool.and_eq_true] at z
        refine ⟨?_, eiB_ok z.1⟩
        show ((p.exs[c]?).join).join = some f
        rw [e]
        rfl
  · have e : ((p.exs[c]?).join).join = some f := e
    cases e1 : (p.exs[c]?).join with
    | none => rw [e1] at e; cases e
    | some o =>
      rw [e1] at e
      have e : o = some f := e
      subst e
      have z := exf c _ e1
      unfold exB at z
      rw [e1] at z
      simp only [Bool.and_eq_true] at z
      exact ⟨xfB_ok z.2.1, He.eqO_ok z.2.2, by show ex c = _; rw [hex, e1]⟩
  · have e : sb c d = some b := e
    rw [hsb] at e
    exact of_decide_eq_true (b4 _ (lk2_mem e))
  · have e : (match p.fns[g]? with | some f => (match f.d.dfl, f.d.kwd with | [], [] => some f.d | _, _ => none) | none => none) = some d := e
    cases hg : p.fns[g]? with
    | none => rw [hg] at e; cases e
    | some f =>
      rw [hg] at e
      simp only at e
      split at e
      · rename_i h1 h2
        cases e
        obtain ⟨fd, F⟩ := hD f (List.mem_of_getElem? hg)
        have fa : (p.T K).fa g = He.fAd K f.d.at_ := by
          show (match p.fns[g]? with | some f => He.fAd K f.d.at_ | none => 0) = _
          rw [hg]
        rw [fa]
        refine ⟨fd, ?_⟩
        have e1 : f.d.dvs K = [] := by unfold He.DefD.dvs; rw [h1]; rfl
        have e2 : f.d.kws K = [] := by unfold He.DefD.kws; rw [h2]; rfl
        rw [e1, e2] at F
        exact F
      · cases e
/-- where a def that makes lambdas has its table -/
theorem tabD_of (hB : allB P p K = true) {f : Fn1} {fd : FuncData} (F : FunD K f.d.name f.d.qual f.d.params f.d.body f.d.scope [] [] (He.fAd K f.d.at_) fd) (hm : f ∈ p.fns) (z : f.lam = true) (TB : LamX.TabB base mg (He.cT K f.d.at_).1 (He.cT K f.d.at_).2) : TabD (p.T K) K mg base (He.fAd K f.d.at_) f.d.qual := fun oc od osl fd' lk => by
  obtain ⟨oc1, od1, dV, kV, doc, pm, an, cdv, ct, osl1, rfl, lk1, hcd, _, _⟩ := id F.ex
  rw [lk1] at lk
  obtain ⟨cd, ecd⟩ := He.codeIn_ref hcd
  subst ecd
  have ec : He.codeOf K f.d.at_ = cd := He.codeOf_eq lk1 rfl
  cases lk
  refine ⟨cd, (He.cT K f.d.at_).2, rfl, ?_, List.mem_map.mpr ⟨f, List.mem_filter.mpr ⟨hm, z⟩, rfl⟩, fun q hq e => ?_⟩
  · have : (He.cT K f.d.at_).1 = cd := ec
    rw [← this]
    exact TB
  · unfold allB at hB
    simp only [Bool.and_eq_true] at hB
    have hu := hB.2
    unfold tabsU at hu
    have h1 := List.all_eq_true.mp hu q hq
    have h2 := List.all_eq_true.mp h1 (tabOfFn K f) (List.mem_map.mpr ⟨f, List.mem_filter.mpr ⟨hm, z⟩, rfl⟩)
    have e3 : Nat.beq q.1 (tabOfFn K f).1 = true := by rw [e]; exact Nat.beq_refl _
    rw [e3] at h2
    have h3 : q.2 = (tabOfFn K f).2 := by simpa using h2
    exact h3
/-- THE DEFS: all keep their meanings -/
theorem all_ok (hex : ∀ c, ex c = (p.exs[c]?).join) (hsb : ∀ c d, sb c d = lk2 c d p.sbs) (har : ∀ g, ar g = p.ars[g]?) (hars : p.ars = p.fns.map fun f => (parNames f.d.params).length) (KX : K.In base) (NS : base.Ns mainGlobals mg) (hB : allB P p K = true)
    (hD : ∀ f ∈ p.fns, ∃ fd, FunD K f.d.name f.d.qual f.d.params f.d.body f.d.scope (f.d.dvs K) (f.d.kws K) (He.fAd K f.d.at_) fd) (hF : p.fns.all fn1B = true)
    (hT : ∀ f ∈ p.fns, f.lam = true → LamX.TabB base mg (He.cT K f.d.at_).1 (He.cT K f.d.at_).2)
    (hC : ∀ g f, p.fns[g]? = some f → ∃ b, code g = some ⟨(parNames f.d.params).length, f.N.length, b⟩ ∧ ∀ (T : Tb) (X : Cx) (k : Nat) (rc : Rc) (W : WX), Ok (p.G ar ex sb) T ⟨f.N, f.d.scope.names, f.lam, true⟩ X k rc W → PSs X f.d.body (RS T X.K W (b rc))) :
    ∀ k, GOk (p.G ar ex sb) (p.T K) P w K mg base k (lv N fl code k) := by
  have fn_at : ∀ g a, (p.G ar ex sb).ar g = some a → ∃ f fd, p.fns[g]? = some f ∧ (parNames f.d.params).length = a ∧ FunD K f.d.name f.d.qual f.d.params f.d.body f.d.scope [] [] (He.fAd K f.d.at_) fd ∧ FnScope f.N (parNames f.d.params) f.d.scope ∧ Binds K fd (parNames f.d.params) [] ∧ (p.T K).fa g = He.fAd K f.d.at_ := fun g a e => by
    have e : ar g = some a := e
    rw [har, hars, List.getElem?_map] at e
    cases hg : p.fns[g]? with
    | none => rw [hg] at e; cases e
    | some f =>
      rw [hg] at e
      cases e
      have hm := List.mem_of_getElem? hg
      have z := List.all_eq_true.mp hF f hm
      unfold fn1B at z
      simp only [Bool.and_eq_true, decide_eq_true_eq, List.isEmpty_iff] at z
      obtain ⟨z1, z2, z3, z4, z5⟩ := z
      obtain ⟨fd, F⟩ := hD f hm
      have e1 : f.d.dvs K = [] := by unfold He.DefD.dvs; rw [z4]; rfl
      have e2 : f.d.kws K = [] := by unfold He.DefD.kws; rw [z5]; rfl
      rw [e1, e2] at F
      refine ⟨f, fd, rfl, rfl, F, fscB_by z1, F.bindsN fun kV doc pm an cdv ct us hl => binds_all z2 z3 hl rfl, ?_⟩
      show (match p.fns[g]? with | some f => He.fAd K f.d.at_ | none => 0) = _
      rw [hg]
  have isf : ∀ f ∈ p.fns, PySem.W.isFn K (.ref (He.fAd K f.d.at_)) = true := fun f hm => by
    unfold allB at hB
    simp only [Bool.and_eq_true, List.all_eq_true] at hB
    exact hB.1.2 f hm
  have mk : ∀ {k g a : Nat} {f : Fn1} {fd : FuncData} {m : List D → AH → Out D}, p.fns[g]? = some f → (parNames f.d.params).length = a → FunD K f.d.name f.d.qual f.d.params f.d.body f.d.scope [] [] (He.fAd K f.d.at_) fd → Binds K fd (parNames f.d.params) [] → (p.T K).fa g = He.fAd K f.d.at_ →
      FnG P w K mg base k (He.fAd K f.d.at_) fd (parNames f.d.params) (spC (p.T K) K a m) → FnP (p.G ar ex sb) (p.T K) P w K mg base k g a m := fun {k g a f fd m} hg hl F hb hfa hG => by
    refine ⟨⟨fd, parNames f.d.params, hl, by rw [hfa]; exact hG, hb, fun n hn => ?_⟩, by rw [hfa]; exact F.kp, by rw [hfa]; exact isf f (List.mem_of_getElem? hg)⟩
    have : n = 0 := Nat.le_zero.mp hn
    subst this
    exact ⟨[], [], hb, .nil, rfl, fun ρ H => .nil⟩
  intro k
  induction k with
  | zero =>
    refine gok_of hex hsb KX NS hB hD (fun j hj g ds h => lv_low hj) fun j hj g a e => ?_
    obtain ⟨f, fd, hg, hl, F, S, hb, hfa⟩ := fn_at g a e
    refine mk hg hl F hb hfa ⟨fun vs H Q E h => h.1.trans hl.symm, fun A outer s H args us vs Q E hr gu e0 hbi rv h => ?_⟩
    obtain ⟨_, ρ, h0, ds, R, r, q⟩ := h
    unfold lv at q
    exact q.elim
  | succ k ih =>
    refine gok_of hex hsb KX NS hB hD (fun j hj g ds h => lv_low hj) fun j hj g a e => ?_
    cases j with
    | succ j =>
      have := ih.fns j (Nat.le_of_succ_le_succ hj) g a e
      rw [Nat.succ_sub_succ]
      exact this
    | zero =>
      obtain ⟨f, fd, hg, hl, F, S, hb, hfa⟩ := fn_at g a e
      obtain ⟨b, hc, hbody⟩ := hC g f hg
      have el : lv N fl code (k + 1) 0 g = fnD fl f.N.length b ⟨N, lv N fl code k, k⟩ := by
        show (match code g with | some c => fnD fl c.nn c.body ⟨N, lv N fl code k, k⟩ | none => fun _ _ => .bad) = _
        rw [hc]
      rw [el]
      refine mk hg hl F hb hfa ?_
      subst hl
      exact fnG_of (lam := f.lam) F S (rc := ⟨N, lv N fl code k, k⟩) ih rfl (fun z => tabD_of hB F (List.mem_of_getElem? hg) z (hT f (List.mem_of_getElem? hg) z)) fun X W o hK => hbody (p.T K) X k _ W o
end
end DC
/-! Dc26: the defs that try what they get; the end of a law. -/
namespace DC
open PySem PySem.Spec PyProof.Rows L2
/-- a def that tries what it gets, by its text -/
def cMet {G : Gx} (r : Cp G) (N : List Str) (g : Nat) : Option (MetR G g) := match har : G.ar g, hd : G.fd g with
  | some 1, some d => (match hp : parNames d.params with
    | [a] => (match hb : d.body with
      | [.Try [.Expr (.Call (.Name a' p1) [] [] p2) p3] (h0 :: hs) [] [] p8, .Return (some e) p9] => (match hc : fscB N [a] d.scope && (plainPar d.params && (dbgB a && (decide (a' = a) && lclB ⟨N, d.scope.names, false, true⟩ a))), cH (G := G) ⟨N, d.scope.names, false, true⟩ (h0 :: hs) with
        | true, some l => some ⟨N.length, l.v, (r.e ⟨N, d.scope.names, false, true⟩ e).v, l.tx, (r.e ⟨N, d.scope.names, false, true⟩ e).tx, fun x => by
            simp only [Bool.and_eq_true, decide_eq_true_eq] at hc
            obtain ⟨h1, h2, h3, h4, h5⟩ := hc
            subst h4
            exact ⟨har, d, a', N, h0, hs, e, p1, p2, p3, p8, p9, hd, rfl, fscB_by h1, h2, hp, lcl_ok h5, dbg1 h3, dbg2 h3, hb, fun T Y k rc W ok => ⟨l.ok T Y k rc W ok, (r.e ⟨N, d.scope.names, false, true⟩ e).ok T Y k rc W ok⟩⟩⟩
        | _, _ => none)
      | _ => none)
    | _ => none)
  | _, _ => none
def mtOf {G : Gx} (l : List (Nat × List Str)) (g : Nat) : Option (MetR G g) := match l.lookup g with
  | some N => cMet (cp (fun _ => none) 40) N g
  | none => none
/-- a def's meaning -/
def cDef {G : Gx} (mt : (g : Nat) → Option (MetR G g)) (f : Fn1) : CSs G ⟨f.N, f.d.scope.names, f.lam, true⟩ f.d.body := (cp mt 60).ss ⟨f.N, f.d.scope.names, f.lam, true⟩ f.d.body
def codeOfL (l : List Cd) (g : Nat) : Option Cd := l[g]?
/-- the law's wish, by its meaning -/
theorem law_sp {T : Tb} {K : PySem.W.Frag} {f : List D → AH → Out D} {H : Hp} {a : Addr} {ns : List Int} (ht : LamX.Tabs T.tabs H) (hS : SqF K H a (ns.map V.int)) (hm : ∃ h, f [.lsq (ns.map D.int)] [] = .ok (.bl true) h) : spC T K 1 f [.ref a] H (fun v _ => v = .bl true) fun _ _ _ => False := by
  refine ⟨rfl, [], [], [.lsq (ns.map D.int)], ⟨rfl, List.nodup_nil, fun n a o h1 _ => (by simp at h1), ht⟩, .cons (.lsq hS Reps.ints) .nil, ?_⟩
  obtain ⟨h, e⟩ := hm
  rw [e]
  intro ρ' H' v _ _ r
  cases r
  rfl
theorem law_at {l : PySem.W.OpenLaw} {w : World} {K : PySem.W.Frag} {p : Pd} {ar : Nat → Option Nat} {ex : Nat → Option (Option Str)} {sb : Nat → Nat → Option Bool} {N fl k n gl : Nat} {codes : List Cd} {fL : Fn1} {x : Str} {mg : Str → Option Value} {fa : Addr} {h : Heap} {tf : List He.Defn} {exB' : PySem.W.Frag → Bool}
    (S : He.SaysX [] (p.fns.map (·.d)) [] tf exB' w h K) (KX : K.In h) (NS : h.Ns mainGlobals mg) (hfa : mg fL.d.name = some (.ref fa))
    (hex : ∀ c, ex c = (p.exs[c]?).join) (hsb : ∀ c d, sb c d = lk2 c d p.sbs) (har : ∀ g, ar g = p.ars[g]?) (hars : p.ars = p.fns.map fun f => (parNames f.d.params).length) (hB : exB' K = true → allB l.prog p K = true) (hF : p.fns.all fn1B = true) (htf : tf = (p.fns.filter (·.lam)).map fun f => f.d.at_)
    (hL : p.fns[gl]? = some fL) (hLn : fL.d.at_ = (fL.d.name, none)) (hLp : parNames fL.d.params = [x]) (mets : List (Nat × List Str))
    (hC : codes = p.fns.map fun f => ⟨(parNames f.d.params).length, f.N.length, (cDef (G := p.G ar ex sb) (mtOf mets) f).v⟩)
    (hM : ∀ ns : List Int, ns.length ≤ n → (∀ z ∈ ns, Builtin.Int.intBits z ≤ 1048576) → ∃ h, lv N fl (codeOfL codes) (k + 1) 0 gl [.lsq (ns.map D.int)] [] = .ok (.bl true) h) : LawAtG l w K (k + 1) n x mg fa h := by
  have hall := hB S.more
  have hD : ∀ f ∈ p.fns, ∃ fd, FunD K f.d.name f.d.qual f.d.params f.d.body f.d.scope (f.d.dvs K) (f.d.kws K) (He.fAd K f.d.at_) fd := fun f hm => S.t.d.defs (List.mem_map.mpr ⟨f, hm, rfl⟩)
  have hmL := List.mem_of_getElem? hL
  have z := List.all_eq_true.mp hF fL hmL
  unfold fn1B at z
  simp only [Bool.and_eq_true, decide_eq_true_eq, List.isEmpty_iff] at z
  obtain ⟨z1, z2, z3, z4, z5⟩ := z
  obtain ⟨fd, F⟩ := hD fL hmL
  have e1 : fL.d.dvs K = [] := by unfold He.DefD.dvs; rw [z4]; rfl
  have e2 : fL.d.kws K = [] := by unfold He.DefD.kws; rw [z5]; rfl
  rw [e1, e2] at F
  have e3 : fa = He.fAd K fL.d.at_ := by
    have q := hall
    unfold allB at q
    simp only [Bool.and_eq_true, List.all_eq_true] at q
    have hmem : (fL.d.name, Gk.fn gl) ∈ p.nms := by
      have go : ∀ (l : List Fn1) (i j : Nat) (f : Fn1), l[j]? = some f → f.d.at_ = (f.d.name, none) → (f.d.name, Gk.fn (i + j)) ∈ nmF l i := by
        intro l
        induction l with
        | nil => intro i j f h1; simp at h1
        | cons f' l ih =>
          intro i j f h1 h2
          unfold nmF
          cases j with
          | zero =>
            simp at h1
            subst h1
            rw [h2]
            simp
          | succ j =>
            have := ih (i + 1) j f (by simpa using h1) h2
            rw [show i + 1 + j = i + (j + 1) by omega] at this
            exact List.mem_append_right _ this
      have := go p.fns 0 gl fL hL hLn
      rw [Nat.zero_add] at this
      unfold Pd.nms
      exact List.mem_append_left _ (List.mem_append_left _ (List.mem_append_left _ (List.mem_append_left _ this)))
    have q1 := q.1.1.1.1.1 _ hmem
    have q2 := PySem.W.mg_of KX NS (He.eqO_ok (show He.eqO (PySem.W.nsIn K mainGlobals fL.d.name) (some (some (.ref ((p.T K).fa gl)))) = true from q1))
    rw [hfa] at q2
    have q3 : (p.T K).fa gl = He.fAd K fL.d.at_ := by
      show (match p.fns[gl]? with | some f => He.fAd K f.d.at_ | none => 0) = _
      rw [hL]
    rw [q3] at q2
    injection q2 with q2
    injection q2
  subst e3
  refine ⟨fd, tf.map (He.cT K), spC (p.T K) K 1 (lv N fl (codeOfL codes) (k + 1) 0 gl), fun q hq => ?_, fun q hq => ?_, fun q hq => ?_, fun s u => ?_, fun H a ns hl hb ht hS => ?_, fun base KB NB TB => ?_⟩
  · obtain ⟨d, hd, rfl⟩ := List.mem_map.mp hq
    exact S.empty d hd
  · obtain ⟨d, hd, rfl⟩ := List.mem_map.mp hq
    exact S.out d hd
  · obtain ⟨d, hd, rfl⟩ := List.mem_map.mp hq
    exact PySem.W.codeHd_of_K KX (S.hd d hd)
  · have := F.bindsA (ps := [x]) (fun kV doc pm an cdv ct us hl => by
      have b := binds_all (fd := PySem.W.fnOf fL.d.name fL.d.qual fL.d.params fL.d.body fL.d.scope .none kV doc pm an cdv ct) z2 z3 (us := us) (by show us.length = (parNames fL.d.params).length; rw [hLp]; exact hl) rfl
      have e : parNames (PySem.W.fnOf fL.d.name fL.d.qual fL.d.params fL.d.body fL.d.scope .none kV doc pm an cdv ct).params = [x] := hLp
      rw [e] at b
      exact b) s [u] rfl
    exact this
  · refine law_sp (fun q hq => ?_) hS (hM ns hl hb)
    obtain ⟨f, hf, rfl⟩ := List.mem_map.mp hq
    refine LamX.TabS.nil ?_
    refine ht (He.cT K f.d.at_) (List.mem_map.mpr ⟨f.d.at_, ?_, rfl⟩)
    rw [htf]
    exact List.mem_map.mpr ⟨f, hf, rfl⟩
  · have hT : ∀ f ∈ p.fns, f.lam = true → LamX.TabB base mg (He.cT K f.d.at_).1 (He.cT K f.d.at_).2 := fun f hf hl => by
      refine TB (He.cT K f.d.at_) (List.mem_map.mpr ⟨f.d.at_, ?_, rfl⟩)
      rw [htf]
      exact List.mem_map.mpr ⟨f, List.mem_filter.mpr ⟨hf, hl⟩, rfl⟩
    have hc : ∀ g f, p.fns[g]? = some f → codeOfL codes g = some ⟨(parNames f.d.params).length, f.N.length, (cDef (G := p.G ar ex sb) (mtOf mets) f).v⟩ := fun g f hg => by
      show codes[g]? = _
      rw [hC, List.getElem?_map, hg]
      rfl
    have G := all_ok (w := w) (N := N) (fl := fl) (code := codeOfL codes) hex hsb har hars KB NB hall hD hF hT (fun g f hg => ⟨_, hc g f hg, fun T X k rc W ok => (cDef (G := p.G ar ex sb) (mtOf mets) f).ok T X k rc W ok⟩) k
    have el : lv N fl (codeOfL codes) (k + 1) 0 gl = fnD fl fL.N.length (cDef (G := p.G ar ex sb) (mtOf mets) fL).v ⟨N, lv N fl (codeOfL codes) k, k⟩ := by
      show (match codeOfL codes gl with | some c => fnD fl c.nn c.body ⟨N, lv N fl (codeOfL codes) k, k⟩ | none => fun _ _ => .bad) = _
      rw [hc gl fL hL]
    rw [el, ← hLp]
    have q := fnG_of (fl := fl) (lam := fL.lam) F (fscB_by z1) (rc := ⟨N, lv N fl (codeOfL codes) k, k⟩) G rfl (fun z => tabD_of hall F hmL z (hT fL hmL z)) fun X W o hK => (cDef (G := p.G ar ex sb) (mtOf mets) fL).ok (p.T K) X k _ W o
    have e1 : (parNames fL.d.params).length = 1 := by rw [hLp]; rfl
    rw [e1] at q
    exact q
end DC
/-! Dk0: the dice of the laws. -/
namespace DC
open PySem PySem.Spec PyProof.Rows L2
def rollC : Sv := (sSeq (sIf (vBl (vB gtO (vB ixdO (vVar 0) (vC (D.int (Int.ofNat 0)))) (vC (D.int (Int.ofNat 0))))) (sSeq (sAsg (vB modO (vCall bInt (aCons (vB ixdO (vVar 0) (vC (D.int (Int.ofNat 0)))) aNil)) (vVar 1)) (gNm 2))
  (sSeq (sAsg (vB fdivO (vB ixdO (vVar 0) (vC (D.int (Int.ofNat 0)))) (vVar 1)) (gSb (vVar 0) (vC (D.int (Int.ofNat 0)))))
  (sRet (vVar 2)))) sNil)
  (sSeq (sAsg (vB addO (vB ixdO (vVar 0) (vC (D.int (Int.ofNat 2)))) (vC (D.int (Int.ofNat 1)))) (gSb (vVar 0) (vC (D.int (Int.ofNat 2)))))
  (sSeq (sAsg (vB modO (vCall bInt (aCons (vB addO (vB ixdO (vVar 0) (vC (D.int (Int.ofNat 1)))) (vB mulO (vC (D.int (Int.ofNat 32452843))) (vB ixdO (vVar 0) (vC (D.int (Int.ofNat 2)))))) aNil)) (vC (D.int (Int.ofNat 2305843009213693613)))) (gNm 3))
  (sSeq (sAsg (vB addO (vB mulO (vB modO (vCall bInt (aCons (vB addO (vB mulO (vVar 3) (vVar 3)) (vB mulO (vC (D.int (Int.ofNat 109))) (vB ixdO (vVar 0) (vC (D.int (Int.ofNat 2)))))) aNil)) (vC (D.int (Int.ofNat 2305843009213693381)))) (vC (D.int (Int.ofNat 5915587)))) (vVar 3)) (gNm 4))
  (sRet (vB modO (vCall bInt (aCons (vB fdivO (vVar 4) (vC (D.int (Int.ofNat 65557)))) aNil)) (vVar 1)))))))
def pickC (gR : Nat) : Sv := (sRet (vB ixdO (vVar 1) (vFn gR 2 [] (aCons (vVar 0) (aCons (vCall bLen (aCons (vVar 1) aNil)) aNil)))))
def diceC : Sv := (sSeq (sAsg (vIf (vBl (vB ltO (vVar 1) (vCall bLen (aCons (vVar 0) aNil)))) (vCall bInt (aCons (vB ixdO (vVar 0) (vVar 1)) aNil)) (vB addO (vB mulO (vC (D.int (Int.ofNat 97))) (vVar 1)) (vC (D.int (Int.ofNat 59))))) (gNm 2))
  (sSeq (sAsg (vB modO (vCall bMax (aCons (vC (D.int (Int.ofNat 0))) (aCons (vB subO (vCall bAbs (aCons (vVar 2) aNil)) (vB powO (vC (D.int (Int.ofNat 10))) (vC (D.int (Int.ofNat 17))))) aNil))) (vB mulO (vB powO (vC (D.int (Int.ofNat 10))) (vC (D.int (Int.ofNat 56)))) (vB powO (vC (D.int (Int.ofNat 10))) (vC (D.int (Int.ofNat 60)))))) (gNm 3))
  (sRet (vLst (aCons (vVar 3) (aCons (vB addO (vB addO (vB addO (vB mulO (vB modO (vCall bAbs (aCons (vVar 2) aNil)) (vC (D.int (Int.ofNat 1152921504606846863)))) (vC (D.int (Int.ofNat 73)))) (vB mulO (vC (D.int (Int.ofNat 1013))) (vVar 1))) (vB mulO (vC (D.int (Int.ofNat 47))) (vCall bInt (aCons (vB ltO (vVar 2) (vC (D.int (Int.ofNat 0)))) aNil)))) (vC (D.int (Int.ofNat 37)))) (aCons (vC (D.int (Int.ofNat 0))) aNil)))))))
/-- the cell of the dice -/
abbrev cell (a b c : Int) : AO := .lst [.int a, .int b, .int c]
/-! ### small facts -/
theorem log2_le {n k : Nat} (h : n < 2 ^ (k + 1)) : n.log2 ≤ k := by
  by_cases z : n = 0
  · subst z; simp [Nat.log2_zero]
  · exact Nat.lt_succ_iff.mp ((Nat.log2_lt z).mpr h)
theorem mulC_of {i j : Int} {k l : Nat} (h1 : i.natAbs < 2 ^ (k + 1)) (h2 : j.natAbs < 2 ^ (l + 1)) (h3 : k + l < 1000000) : mulC i j = true := by
  have a := log2_le h1
  have b := log2_le h2
  unfold mulC
  exact Nat.blt_eq.mpr (by omega)
theorem fmod_rng {i m : Int} (h : 0 < m) : 0 ≤ i.fmod m ∧ i.fmod m < m := ⟨Int.fmod_nonneg_of_pos i h, Int.fmod_lt_of_pos i h⟩
theorem neq_of_pos {t : Int} (h : 0 < t) : (t != 0) = true := by
  rw [bne_iff_ne]; omega
theorem vB_go {f : D → D → AH → Out D} {a b : Ev} {rc : Rc} {env : En} {h h1 h2 : AH} {x y : D} (e1 : a rc env h = .ok x h1) (e2 : b rc env h1 = .ok y h2) : vB f a b rc env h = f x y h2 := by
  simp only [vB, e1, Out.bind, e2]
/-! ### the body of the roll -/
theorem roll_body {rc : Rc} {a b c t : Int} (ht : 0 < t) (htl : t.natAbs.log2 < 9000) (hc : 0 ≤ c) (hc2 : c < 1000000) : ∃ r a' c' : Int, 0 ≤ r ∧ r < t ∧ 0 ≤ c' ∧ c' ≤ c + 1 ∧
    endF (rollC rc (startE 5 [.obj 0, .int t]) [cell a b c]) = .ok (.int r) [cell a' b c'] := by
  have hd : divC t = true := by
    unfold divC
    rw [neq_of_pos ht, Bool.true_and]
    exact Nat.blt_eq.mpr htl
  by_cases ha : 0 < a
  · refine ⟨a.fmod t, a.fdiv t, c, (fmod_rng ht).1, (fmod_rng ht).2, hc, by omega, ?_⟩
    have e1 : (vBl (vB gtO (vB ixdO (vVar 0) (vC (D.int (Int.ofNat 0)))) (vC (D.int (Int.ofNat 0))))) rc (startE 5 [.obj 0, .int t]) [cell a b c] = .ok (decide (0 < a)) [cell a b c] := rfl
    have e2 : (vB modO (vCall bInt (aCons (vB ixdO (vVar 0) (vC (D.int (Int.ofNat 0)))) aNil)) (vVar 1)) rc (startE 5 [.obj 0, .int t]) [cell a b c] = intO (t != 0) (a.fmod t) [cell a b c] := rfl
    have e3 : ∀ e, (vB fdivO (vB ixdO (vVar 0) (vC (D.int (Int.ofNat 0)))) (vVar 1)) rc (some (.obj 0) :: some (.int t) :: e) [cell a b c] = intO (divC t) (a.fdiv t) [cell a b c] := fun e => rfl
    unfold rollC
    simp only [sSeq, sIf, e1, Out.toS, decide_eq_true ha, sAsg, e2, neq_of_pos ht, intO, gNm]
    have e4 : (startE 5 [D.obj 0, D.int t]).set 2 (some (D.int (a.fmod t))) = some (.obj 0) :: some (.int t) :: [some (D.int (a.fmod t)), none, none] := rfl
    rw [e4, e3, hd]
    rfl
  · have e1 : (vBl (vB gtO (vB ixdO (vVar 0) (vC (D.int (Int.ofNat 0)))) (vC (D.int (Int.ofNat 0))))) rc (startE 5 [.obj 0, .int t]) [cell a b c] = .ok (decide (0 < a)) [cell a b c] := rfl
    let one : Int := (b + 32452843 * (c + 1)).fmod 2305843009213693613
    let x : Int := (one * one + 109 * (c + 1)).fmod 2305843009213693381
    let two : Int := x * 5915587 + one
    have one1 : 0 ≤ one ∧ one < 2305843009213693613 := fmod_rng (by decide)
    have x1 : 0 ≤ x ∧ x < 2305843009213693381 := fmod_rng (by decide)
    have m1 : mulC 32452843 (c + 1) = true := mulC_of (k := 25) (l := 20) (by decide) (by omega) (by decide)
    have m2 : mulC one one = true := mulC_of (k := 61) (l := 61) (by omega) (by omega) (by decide)
    have m3 : mulC 109 (c + 1) = true := mulC_of (k := 25) (l := 20) (by decide) (by omega) (by decide)
    have m4 : mulC x 5915587 = true := mulC_of (k := 61) (l := 61) (by omega) (by decide) (by decide)
    refine ⟨(two.fdiv 65557).fmod t, a, c + 1, (fmod_rng ht).1, (fmod_rng ht).2, by omega, Int.le_refl _, ?_⟩
    have e2 : (vB addO (vB ixdO (vVar 0) (vC (D.int (Int.ofNat 2)))) (vC (D.int (Int.ofNat 1)))) rc (startE 5 [.obj 0, .int t]) [cell a b c] = .ok (.int (c + 1)) [cell a b c] := rfl
    have e3 : (gSb (vVar 0) (vC (D.int (Int.ofNat 2)))) rc (.int (c + 1)) (startE 5 [.obj 0, .int t]) [cell a b c] = .nx (startE 5 [.obj 0, .int t]) [cell a b (c + 1)] := rfl
    have e4 : (vB addO (vB ixdO (vVar 0) (vC (D.int (Int.ofNat 1)))) (vB mulO (vC (D.int (Int.ofNat 32452843))) (vB ixdO (vVar 0) (vC (D.int (Int.ofNat 2)))))) rc (startE 5 [.obj 0, .int t]) [cell a b (c + 1)] =
        (intO (mulC 32452843 (c + 1)) (32452843 * (c + 1)) [cell a b (c + 1)]).bind fun y h => addO (.int b) y h := rfl
    have e5 : (vB modO (vCall bInt (aCons (vB addO (vB ixdO (vVar 0) (vC (D.int (Int.ofNat 1)))) (vB mulO (vC (D.int (Int.ofNat 32452843))) (vB ixdO (vVar 0) (vC (D.int (Int.ofNat 2)))))) aNil)) (vC (D.int (Int.ofNat 2305843009213693613)))) rc (startE 5 [.obj 0, .int t]) [cell a b (c + 1)] = .ok (.int one) [cell a b (c + 1)] := by
      show ((vCall bInt (aCons _ aNil)) rc _ _).bind _ = _
      unfold vCall aCons
      rw [e4, m1]
      rfl
    have e6 : (startE 5 [D.obj 0, D.int t]).set 3 (some (D.int one)) = [some (.obj 0), some (.int t), none, some (D.int one), none] := rfl
    have e7 : (vB addO (vB mulO (vB modO (vCall bInt (aCons (vB addO (vB mulO (vVar 3) (vVar 3)) (vB mulO (vC (D.int (Int.ofNat 109))) (vB ixdO (vVar 0) (vC (D.int (Int.ofNat 2)))))) aNil)) (vC (D.int (Int.ofNat 2305843009213693381)))) (vC (D.int (Int.ofNat 5915587)))) (vVar 3)) rc [some (.obj 0), some (.int t), none, some (D.int one), none] [cell a b (c + 1)] = .ok (.int two) [cell a b (c + 1)] := by
      have q1 : (vB mulO (vVar 3) (vVar 3)) rc [some (.obj 0), some (.int t), none, some (D.int one), none] [cell a b (c + 1)] = .ok (.int (one * one)) [cell a b (c + 1)] := by
        show intO (mulC one one) (one * one) [cell a b (c + 1)] = _
        rw [m2]; rfl
      have q2 : (vB mulO (vC (D.int (Int.ofNat 109))) (vB ixdO (vVar 0) (vC (D.int (Int.ofNat 2))))) rc [some (.obj 0), some (.int t), none, some (D.int one), none] [cell a b (c + 1)] = .ok (.int (109 * (c + 1))) [cell a b (c + 1)] := by
        show intO (mulC 109 (c + 1)) (109 * (c + 1)) [cell a b (c + 1)] = _
        rw [m3]; rfl
      have q3 : (vB modO (vCall bInt (aCons (vB addO (vB mulO (vVar 3) (vVar 3)) (vB mulO (vC (D.int (Int.ofNat 109))) (vB ixdO (vVar 0) (vC (D.int (Int.ofNat 2)))))) aNil)) (vC (D.int (Int.ofNat 2305843009213693381)))) rc [some (.obj 0), some (.int t), none, some (D.int one), none] [cell a b (c + 1)] = .ok (.int x) [cell a b (c + 1)] := by
        have q4 : (vB addO (vB mulO (vVar 3) (vVar 3)) (vB mulO (vC (D.int (Int.ofNat 109))) (vB ixdO (vVar 0) (vC (D.int (Int.ofNat 2)))))) rc [some (.obj 0), some (.int t), none, some (D.int one), none] [cell a b (c + 1)] = .ok (.int (one * one + 109 * (c + 1))) [cell a b (c + 1)] := vB_go q1 q2
        have q5 : (vCall bInt (aCons (vB addO (vB mulO (vVar 3) (vVar 3)) (vB mulO (vC (D.int (Int.ofNat 109))) (vB ixdO (vVar 0) (vC (D.int (Int.ofNat 2)))))) aNil)) rc [some (.obj 0), some (.int t), none, some (D.int one), none] [cell a b (c + 1)] = .ok (.int (one * one + 109 * (c + 1))) [cell a b (c + 1)] := by
          unfold vCall aCons
          rw [q4]
          rfl
        show (Out.bind _ _) = _
        rw [q5]
        rfl
      show (Out.bind (Out.bind _ _) _) = _
      rw [q3]
      show (Out.bind (intO (mulC x 5915587) (x * 5915587) [cell a b (c + 1)]) _) = _
      rw [m4]
      rfl
    unfold rollC
    simp only [sSeq, sIf, e1, Out.toS, decide_eq_false ha, sAsg, sNil, e2, e3, e5, gNm, e6, e7]
    have e8 : ([some (.obj 0), some (.int t), none, some (D.int one), none].set 4 (some (D.int two)) : En) = [some (.obj 0), some (.int t), none, some (D.int one), some (D.int two)] := rfl
    rw [e8]
    show endF (Out.toS (intO (t != 0) ((two.fdiv 65557).fmod t) [cell a b (c + 1)]) _) = _
    rw [neq_of_pos ht]
    rfl
end DC
/-! Dk1: the dice at their callers: roll, pick. -/
namespace DC
open PySem PySem.Spec PyProof.Rows L2
theorem Out.bind_ok {α β : Type} {a : α} {h : AH} {f : α → AH → Out β} : Out.bind (.ok a h) f = f a h := rfl
/-! ### the gathering over a cell -/
theorem reach_obj {f : Nat} {h : AH} {n : Nat} {o : AO} {w : List D} (e : h[n]? = some o) : reach (f + 1) h (.obj n :: w) [] = reach f h (content o ++ w) [n] := by
  simp only [reach, List.contains_nil, e, List.nil_append]
theorem reach_int {f : Nat} {h : AH} {i : Int} {w : List D} {s : List Nat} : reach (f + 1) h (.int i :: w) s = reach f h w s := rfl
theorem gc_cell {body : List D → AH → Out D} {n : Nat} {h : AH} {t a b c r a' b' c' : Int} (e : h[n]? = some (cell a b c)) (q : body [.obj 0, .int t] [cell a b c] = .ok (.int r) [cell a' b' c']) : gc 1000 body [.obj n, .int t] h = .ok (.int r) (h.set n (cell a' b' c')) := by
  have e1 : reach 1000 h [.obj n, .int t] [] = some [n] := by
    rw [reach_obj e]; rfl
  have e2 : ren.rens (fun m => place [n] m 0) [.obj n, .int t] = some [.obj 0, .int t] := by
    simp [ren.rens, ren, place]
  have e3 : cut (fun m => place [n] m 0) h [n] = some [cell a b c] := by
    simp [cut, e, renO, ren.rens, ren]
  unfold gc
  rw [e1]
  simp only [e2, e3, q]
  have e4 : home 1000 h [n] [.int r] [cell a' b' c'] = some ([.int r], h.set n (cell a' b' c')) := by
    show some ([D.int r], h.set n (cell a' b' c') ++ []) = _
    rw [List.append_nil]
  show (match home 1000 h [n] [D.int r] [cell a' b' c'] with | some ([d'], h') => Out.ok d' h' | _ => Out.bad) = _
  rw [e4]
section
variable {code : Nat → Option Cd} {gR gP gD : Nat}
theorem lv_at {k g : Nat} {cd : Cd} (hc : code g = some cd) : lv 1000 1000 code (k + 1) 0 g = fnD 1000 cd.nn cd.body ⟨1000, lv 1000 1000 code k, k⟩ := by
  show (match code g with | some c => fnD 1000 c.nn c.body ⟨1000, lv 1000 1000 code k, k⟩ | none => fun _ _ => .bad) = _
  rw [hc]
theorem roll_ok (hc : code gR = some ⟨2, 5, rollC⟩) {k n : Nat} {h : AH} {a b c t : Int} (e : h[n]? = some (cell a b c)) (ht : 0 < t) (htl : t.natAbs.log2 < 9000) (hc1 : 0 ≤ c) (hc2 : c < 1000000) :
    ∃ r a' c' : Int, 0 ≤ r ∧ r < t ∧ 0 ≤ c' ∧ c' ≤ c + 1 ∧ lv 1000 1000 code (k + 1) 0 gR [.obj n, .int t] h = .ok (.int r) (h.set n (cell a' b c')) := by
  obtain ⟨r, a', c', h1, h2, h3, h4, h5⟩ := roll_body (rc := ⟨1000, lv 1000 1000 code k, k⟩) (a := a) (b := b) ht htl hc1 hc2
  exact ⟨r, a', c', h1, h2, h3, h4, by rw [lv_at hc]; exact gc_cell e h5⟩
/-! ### pick -/
/-- the pick with its number given -/
def pickR (r : Int) (o : AO) : List D → AH → Out D := gc 1000 fun ds h => match ds with
  | [_, it] => ixdO it (.int r) (h.set 0 o)
  | _ => .bad
/-- how many things there are to pick from -/
def pickN (args : List D) (h : AH) : Option Int := match reach 1000 h args [] with
  | none => none
  | some ids => match ren.rens (fun n => place ids n 0) args, cut (fun n => place ids n 0) h ids with
    | some [_, it], some h0 => (match bLen [it] h0 with
      | some (.int t, _) => some t
      | _ => none)
    | _, _ => none
theorem endF_toS {o : Out D} : endF (o.toS fun d h => .rt d h) = o := by cases o <;> rfl
theorem bLen_h {ds : List D} {h : AH} {d : D} {h1 : AH} (e : bLen ds h = some (d, h1)) : h1 = h := by
  unfold bLen at e
  split at e
  · split at e
    · cases e; rfl
    · cases e
  · split at e
    · cases e; rfl
    · cases e
  · cases e
theorem pick_ok (hR : code gR = some ⟨2, 5, rollC⟩) (hP : code gP = some ⟨2, 2, pickC gR⟩) {k n : Nat} {x : D} {h : AH} {a b c t : Int} (e : h[n]? = some (cell a b c)) (hn : pickN [.obj n, x] h = some t) (ht : 0 < t) (htl : t.natAbs.log2 < 9000) (hc1 : 0 ≤ c) (hc2 : c < 1000000) :
    ∃ r a' c' : Int, 0 ≤ r ∧ r < t ∧ 0 ≤ c' ∧ c' ≤ c + 1 ∧ lv 1000 1000 code (k + 2) 0 gP [.obj n, x] h = pickR r (cell a' b c') [.obj n, x] h := by
  cases hr : reach 1000 h [.obj n, x] [] with
  | none => unfold pickN at hn; rw [hr] at hn; cases hn
  | some ids =>
    have hr2 := hr
    rw [reach_obj e] at hr2
    have hr3 : reach 996 h [x] [n] = some ids := hr2
    obtain ⟨⟨tl, e1⟩, _⟩ := reach_pre hr3
    have e1 : ids = n :: tl := e1
    subst e1
    have p0 : place (n :: tl) n 0 = some 0 := by simp [place]
    have e2 : ren.rens (fun m => place (n :: tl) m 0) [.obj n, x] = (match ren (fun m => place (n :: tl) m 0) x with | some x' => some [.obj 0, x'] | none => none) := by
      simp only [ren.rens, ren, p0]
      cases ren (fun m => place (n :: tl) m 0) x <;> rfl
    have e3 : cut (fun m => place (n :: tl) m 0) h (n :: tl) = (match cut (fun m => place (n :: tl) m 0) h tl with | some r' => some (cell a b c :: r') | none => none) := by
      simp only [cut, e, renO, ren.rens, ren]
      try rfl
    unfold pickN at hn
    rw [hr] at hn
    simp only [e2, e3] at hn
    cases hx : ren (fun m => place (n :: tl) m 0) x with
    | none => rw [hx] at hn; cases hn
    | some x' =>
      cases hcu : cut (fun m => place (n :: tl) m 0) h tl with
      | none => rw [hx, hcu] at hn; cases hn
      | some hs =>
        rw [hx, hcu] at hn
        simp only at hn
        split at hn
        · rename_i t h1 hl
          cases hn
          have hl1 := bLen_h hl
          subst hl1
          obtain ⟨r, a', c', q1, q2, q3, q4, q5⟩ := roll_ok (code := code) (gR := gR) hR (k := k) (n := 0) (h := cell a b c :: hs) (a := a) (b := b) (c := c) rfl ht htl hc1 hc2
          refine ⟨r, a', c', q1, q2, q3, q4, ?_⟩
          rw [lv_at hP]
          unfold fnD pickR gc
          rw [hr]
          simp only [e2, e3, hx, hcu]
          have hb : endF (pickC gR ⟨1000, lv 1000 1000 code (k + 1), k + 1⟩ (startE 2 [.obj 0, x']) (cell a b c :: hs)) = ixdO x' (.int r) ((cell a b c :: hs).set 0 (cell a' b c')) := by
            unfold pickC sRet
            rw [endF_toS]
            have v1 : (vCall bLen (aCons (vVar 1) aNil)) ⟨1000, lv 1000 1000 code (k + 1), k + 1⟩ (startE 2 [.obj 0, x']) (cell a b c :: hs) = .ok (.int t) (cell a b c :: hs) := by
              show (match bLen [x'] (cell a b c :: hs) with | some (d, h2) => Out.ok d h2 | none => .bad) = _
              rw [hl]
            have v2 : (vFn gR 2 [] (aCons (vVar 0) (aCons (vCall bLen (aCons (vVar 1) aNil)) aNil))) ⟨1000, lv 1000 1000 code (k + 1), k + 1⟩ (startE 2 [.obj 0, x']) (cell a b c :: hs) = .ok (.int r) ((cell a b c :: hs).set 0 (cell a' b c')) := by
              have v3 : (aCons (vVar 0) (aCons (vCall bLen (aCons (vVar 1) aNil)) aNil)) ⟨1000, lv 1000 1000 code (k + 1), k + 1⟩ (startE 2 [.obj 0, x']) (cell a b c :: hs) = .ok [.obj 0, .int t] (cell a b c :: hs) := by
                have v4 : (aCons (vCall bLen (aCons (vVar 1) aNil)) aNil) ⟨1000, lv 1000 1000 code (k + 1), k + 1⟩ (startE 2 [.obj 0, x']) (cell a b c :: hs) = .ok [.int t] (cell a b c :: hs) := by
                  unfold aCons at v1 ⊢
                  rw [v1]; rfl
                show Out.bind (Out.ok (D.obj 0) (cell a b c :: hs)) _ = _
                rw [Out.bind_ok, v4]; rfl
              unfold vFn
              rw [v3]
              exact q5
            exact vB_go rfl v2
          rw [hb]
        · cases hn
end
end DC
/-! Dk2: steps of a law's text. -/
namespace DC
open PySem PySem.Spec PyProof.Rows L2
section
variable {code : Nat → Option Cd} {gR gP gD : Nat} {rc : Rc} {env e1 e2 : En} {h h0 h1 h2 : AH}
theorem pick_in (hR : code gR = some ⟨2, 5, rollC⟩) (hP : code gP = some ⟨2, 2, pickC gR⟩) {k n : Nat} {x : D} {a b c : Int} {M : List D} (e : h[n]? = some (cell a b c)) (hn : pickN [.obj n, x] h = some (Int.ofNat M.length)) (hl : 0 < M.length) (hl2 : M.length < 1000) (hc1 : 0 ≤ c) (hc2 : c < 1000000)
    (hM : ∀ a' c' : Int, (List.range M.length).map (fun r => pickR (Int.ofNat r) (cell a' b c') [.obj n, x] h) = M.map fun d => .ok d (h.set n (cell a' b c'))) :
    ∃ (d : D) (a' c' : Int), d ∈ M ∧ 0 ≤ c' ∧ c' ≤ c + 1 ∧ lv 1000 1000 code (k + 2) 0 gP [.obj n, x] h = .ok d (h.set n (cell a' b c')) := by
  obtain ⟨r, a', c', q1, q2, q3, q4, q5⟩ := pick_ok hR hP (k := k) (b := b) e hn (by show (0 : Int) < (M.length : Int); omega) (by
    show Nat.log2 M.length < 9000
    have := log2_le (n := M.length) (k := 9) (by omega)
    omega) hc1 hc2
  obtain ⟨m, rfl⟩ := Int.eq_ofNat_of_zero_le q1
  have hm : m < M.length := by
    have : (m : Int) < (M.length : Int) := q2
    omega
  have z := congrArg (fun l => l[m]?) (hM a' c')
  simp only [List.getElem?_map, List.getElem?_range hm, Option.map_some, List.getElem?_eq_getElem hm] at z
  refine ⟨M[m], a', c', List.getElem_mem hm, q3, q4, ?_⟩
  rw [q5]
  exact Option.some.inj z
theorem seq_nx {f g : Sv} (e : f rc env h = .nx e1 h1) : sSeq f g rc env h = g rc e1 h1 := by
  unfold sSeq; rw [e]
theorem asg_ok {a : Ev} {i : Nat} {d : D} (e : a rc env h = .ok d h1) : sAsg a (gNm i) rc env h = .nx (env.set i (some d)) h1 := by
  unfold sAsg; rw [e]; rfl
theorem fn2 {k g i : Nat} {E : Ev} {y x : D} (e1 : env[i]? = some (some y)) (e2 : E ⟨1000, lv 1000 1000 code k, k⟩ env h = .ok x h1) : vFn g 2 [] (aCons (vVar i) (aCons E aNil)) ⟨1000, lv 1000 1000 code k, k⟩ env h = lv 1000 1000 code k 0 g [y, x] h1 := by
  have v1 : (aCons E aNil) ⟨1000, lv 1000 1000 code k, k⟩ env h = .ok [x] h1 := by
    unfold aCons; rw [e2]; rfl
  have v0 : (vVar i) ⟨1000, lv 1000 1000 code k, k⟩ env h = .ok y h := by
    unfold vVar; rw [e1]
  have v2 : (aCons (vVar i) (aCons E aNil)) ⟨1000, lv 1000 1000 code k, k⟩ env h = .ok [y, x] h1 := by
    show Out.bind ((vVar i) _ _ _) _ = _
    rw [v0, Out.bind_ok, v1]; rfl
  unfold vFn
  rw [v2]
  rfl
/-- x = pick(dice, E) -/
theorem asg_pick (hR : code gR = some ⟨2, 5, rollC⟩) (hP : code gP = some ⟨2, 2, pickC gR⟩) {k n iD i : Nat} {E : Ev} {x : D} {a b c : Int} {M : List D} (eD : env[iD]? = some (some (.obj n))) (eE : E ⟨1000, lv 1000 1000 code (k + 2), k + 2⟩ env h0 = .ok x h)
    (e : h[n]? = some (cell a b c)) (hn : pickN [.obj n, x] h = some (Int.ofNat M.length)) (hl : 0 < M.length) (hl2 : M.length < 1000) (hc1 : 0 ≤ c) (hc2 : c < 1000000)
    (hM : ∀ a' c' : Int, (List.range M.length).map (fun r => pickR (Int.ofNat r) (cell a' b c') [.obj n, x] h) = M.map fun d => .ok d (h.set n (cell a' b c'))) :
    ∃ (d : D) (a' c' : Int), d ∈ M ∧ 0 ≤ c' ∧ c' ≤ c + 1 ∧ sAsg (vFn gP 2 [] (aCons (vVar iD) (aCons E aNil))) (gNm i) ⟨1000, lv 1000 1000 code (k + 2), k + 2⟩ env h0 = .nx (env.set i (some d)) (h.set n (cell a' b c')) := by
  obtain ⟨d, a', c', h1, h2, h3, h4⟩ := pick_in hR hP (k := k) e hn hl hl2 hc1 hc2 hM
  exact ⟨d, a', c', h1, h2, h3, asg_ok (by rw [fn2 eD eE]; exact h4)⟩
/-! ### the dice made -/
theorem rens_ints {m : Nat → Option Nat} : ∀ ns : List Int, ren.rens m (ns.map D.int) = some (ns.map D.int)
  | [] => rfl
  | x :: r => by
    show (match some (D.int x) with | some d' => (match ren.rens m (r.map D.int) with | some r' => some (d' :: r') | none => none) | none => none) = _
    rw [rens_ints r]; rfl
theorem lt_len {ns : List Int} : (ns.map D.int).length = ns.length := List.length_map _
theorem dice_body {rc : Rc} {ns : List Int} {s : Nat} (hs : s < 100) : ∃ a b : Int, endF (diceC rc (startE 4 [.lsq (ns.map D.int), .int s]) []) = .ok (.obj 0) [cell a b 0] := by
  have hcell : ∃ x : Int, (vIf (vBl (vB ltO (vVar 1) (vCall bLen (aCons (vVar 0) aNil)))) (vCall bInt (aCons (vB ixdO (vVar 0) (vVar 1)) aNil)) (vB addO (vB mulO (vC (D.int (Int.ofNat 97))) (vVar 1)) (vC (D.int (Int.ofNat 59))))) rc (startE 4 [.lsq (ns.map D.int), .int s]) [] = .ok (.int x) [] := by
    have e1 : (vBl (vB ltO (vVar 1) (vCall bLen (aCons (vVar 0) aNil)))) rc (startE 4 [.lsq (ns.map D.int), .int s]) [] = .ok (decide ((s : Int) < ((ns.map D.int).length : Nat))) [] := rfl
    by_cases hlt : s < ns.length
    · refine ⟨ns[s], ?_⟩
      have e2 : (vB ixdO (vVar 0) (vVar 1)) rc (startE 4 [.lsq (ns.map D.int), .int s]) [] = (match atI (ns.map D.int) (s : Int) with | some d => .ok d [] | none => .bad) := rfl
      have e3 : atI (ns.map D.int) (s : Int) = some (.int ns[s]) := atI_nat (by rw [List.getElem?_map, List.getElem?_eq_getElem hlt]; rfl)
      rw [e3] at e2
      unfold vIf
      rw [e1, lt_len, decide_eq_true (by omega), Out.bind_ok]
      show Out.bind ((aCons (vB ixdO (vVar 0) (vVar 1)) aNil) _ _ _) _ = _
      have e4 : (aCons (vB ixdO (vVar 0) (vVar 1)) aNil) rc (startE 4 [.lsq (ns.map D.int), .int s]) [] = .ok [.int ns[s]] [] := by
        show Out.bind _ _ = _
        rw [e2]; rfl
      rw [e4]; rfl
    · refine ⟨97 * s + 59, ?_⟩
      unfold vIf
      rw [e1, lt_len, decide_eq_false (by omega), Out.bind_ok]
      show (Out.bind (intO (mulC 97 s) (97 * s) []) _) = _
      rw [mulC_of (k := 6) (l := 6) (by decide) (by omega) (by decide)]
      rfl
  obtain ⟨x, hx⟩ := hcell
  let x' : Int := if x < 0 then -x else x
  let lf : Int := (if x' - 10 ^ 17 > 0 then x' - 10 ^ 17 else 0).fmod (10 ^ 56 * 10 ^ 60)
  let m : Int := x'.fmod 1152921504606846863
  have hm : 0 ≤ m ∧ m < 1152921504606846863 := fmod_rng (by decide)
  refine ⟨lf, m * 73 + 1013 * s + 47 * (if decide (x < 0) then 1 else 0) + 37, ?_⟩
  unfold diceC
  have s1 : (startE 4 [D.lsq (ns.map D.int), D.int s]).set 2 (some (.int x)) = [some (.lsq (ns.map D.int)), some (.int s), some (.int x), none] := rfl
  rw [seq_nx (asg_ok hx), s1]
  have e2 : (vB modO (vCall bMax (aCons (vC (D.int (Int.ofNat 0))) (aCons (vB subO (vCall bAbs (aCons (vVar 2) aNil)) (vB powO (vC (D.int (Int.ofNat 10))) (vC (D.int (Int.ofNat 17))))) aNil))) (vB mulO (vB powO (vC (D.int (Int.ofNat 10))) (vC (D.int (Int.ofNat 56)))) (vB powO (vC (D.int (Int.ofNat 10))) (vC (D.int (Int.ofNat 60)))))) rc [some (.lsq (ns.map D.int)), some (.int s), some (.int x), none] [] = .ok (.int lf) [] := by
    have q1 : (vCall bMax (aCons (vC (D.int (Int.ofNat 0))) (aCons (vB subO (vCall bAbs (aCons (vVar 2) aNil)) (vB powO (vC (D.int (Int.ofNat 10))) (vC (D.int (Int.ofNat 17))))) aNil))) rc [some (.lsq (ns.map D.int)), some (.int s), some (.int x), none] [] = .ok (.int (if x' - 10 ^ 17 > 0 then x' - 10 ^ 17 else 0)) [] := by kernel_rfl
    have q2 : (vB mulO (vB powO (vC (D.int (Int.ofNat 10))) (vC (D.int (Int.ofNat 56)))) (vB powO (vC (D.int (Int.ofNat 10))) (vC (D.int (Int.ofNat 60))))) rc [some (.lsq (ns.map D.int)), some (.int s), some (.int x), none] [] = .ok (.int (10 ^ 56 * 10 ^ 60)) [] := by kernel_rfl
    rw [vB_go q1 q2]
    rfl
  rw [seq_nx (asg_ok e2)]
  have s2 : ([some (.lsq (ns.map D.int)), some (.int s), some (.int x), none] : En).set 3 (some (.int lf)) = [some (.lsq (ns.map D.int)), some (.int s), some (.int x), some (.int lf)] := rfl
  rw [s2]
  have m1 : mulC m 73 = true := mulC_of (k := 60) (l := 10) (by omega) (by decide) (by decide)
  have m2 : mulC 1013 s = true := mulC_of (k := 10) (l := 10) (by decide) (by omega) (by decide)
  have m3 : mulC 47 (if decide (x < 0) then 1 else 0) = true := mulC_of (k := 10) (l := 10) (by decide) (by split <;> decide) (by decide)
  have t1 : (vB mulO (vB modO (vCall bAbs (aCons (vVar 2) aNil)) (vC (D.int (Int.ofNat 1152921504606846863)))) (vC (D.int (Int.ofNat 73)))) rc [some (.lsq (ns.map D.int)), some (.int s), some (.int x), some (.int lf)] [] = .ok (.int (m * 73)) [] := by
    show intO (mulC m 73) (m * 73) [] = _
    rw [m1]; rfl
  have t2 : (vB mulO (vC (D.int (Int.ofNat 1013))) (vVar 1)) rc [some (.lsq (ns.map D.int)), some (.int s), some (.int x), some (.int lf)] [] = .ok (.int (1013 * s)) [] := by
    show intO (mulC 1013 s) (1013 * s) [] = _
    rw [m2]; rfl
  have t3 : (vB mulO (vC (D.int (Int.ofNat 47))) (vCall bInt (aCons (vB ltO (vVar 2) (vC (D.int (Int.ofNat 0)))) aNil))) rc [some (.lsq (ns.map D.int)), some (.int s), some (.int x), some (.int lf)] [] = .ok (.int (47 * (if decide (x < 0) then 1 else 0))) [] := by
    show intO (mulC 47 (if decide (x < 0) then 1 else 0)) (47 * (if decide (x < 0) then 1 else 0)) [] = _
    rw [m3]; rfl
  have t4 := vB_go (f := addO) (vB_go (f := addO) (vB_go (f := addO) t1 t2) t3) (b := vC (D.int (Int.ofNat 37))) (h2 := []) (y := .int 37) rfl
  have t5 : (aCons (vVar 3) (aCons (vB addO (vB addO (vB addO (vB mulO (vB modO (vCall bAbs (aCons (vVar 2) aNil)) (vC (D.int (Int.ofNat 1152921504606846863)))) (vC (D.int (Int.ofNat 73)))) (vB mulO (vC (D.int (Int.ofNat 1013))) (vVar 1))) (vB mulO (vC (D.int (Int.ofNat 47))) (vCall bInt (aCons (vB ltO (vVar 2) (vC (D.int (Int.ofNat 0)))) aNil)))) (vC (D.int (Int.ofNat 37)))) (aCons (vC (D.int (Int.ofNat 0))) aNil))) rc [some (.lsq (ns.map D.int)), some (.int s), some (.int x), some (.int lf)] [] = .ok [.int lf, .int (m * 73 + 1013 * s + 47 * (if decide (x < 0) then 1 else 0) + 37), .int 0] [] := by
    show Out.bind (Out.bind _ _) _ = _
    rw [t4]
    rfl
  show endF (Out.toS (Out.bind ((aCons (vVar 3) (aCons _ (aCons (vC (D.int (Int.ofNat 0))) aNil))) _ _ _) _) _) = _
  rw [t5]
  rfl
theorem dice_ok (hD : code gD = some ⟨2, 4, diceC⟩) {k : Nat} {h : AH} {ns : List Int} {s : Nat} (hs : s < 100) : ∃ a b : Int, lv 1000 1000 code (k + 1) 0 gD [.lsq (ns.map D.int), .int s] h = .ok (.obj h.length) (h ++ [cell a b 0]) := by
  obtain ⟨a, b, q⟩ := dice_body (rc := ⟨1000, lv 1000 1000 code k, k⟩) (ns := ns) hs
  refine ⟨a, b, ?_⟩
  rw [lv_at hD]
  unfold fnD gc
  have e1 : reach 1000 h [.lsq (ns.map D.int), .int s] [] = some [] := rfl
  have e2 : ren.rens (fun n => place [] n 0) [.lsq (ns.map D.int), .int s] = some [.lsq (ns.map D.int), .int s] := by
    show (match (match ren.rens (fun n => place [] n 0) (ns.map D.int) with | some ys => some (D.lsq ys) | none => none) with | some d' => some [d', .int s] | none => none) = _
    rw [rens_ints]
  have e3 : cut (fun n => place [] n 0) h [] = some [] := rfl
  rw [e1]
  simp only [e2, e3, q]
  rfl
/-! ### for -/
theorem forF_go {aj : AJ} {g : D → En → AH → SOut} {b : En → AH → SOut} {n i : Nat} {x : D} (e : aj i h = some (some x)) (eg : g x env h = .nx e1 h1) (eb : b e1 h1 = .nx e2 h2) : forF aj g b (n + 1) i env h = forF aj g b n (i + 1) e2 h2 := by
  simp only [forF, e, eg, eb]
theorem forF_end {aj : AJ} {g : D → En → AH → SOut} {b : En → AH → SOut} {n i : Nat} (e : aj i h = some none) : forF aj g b (n + 1) i env h = .nx env h := by
  simp only [forF, e]
end
end DC
/-! Dk3: a law's text case by case. -/
namespace DC
open PySem PySem.Spec PyProof.Rows L2
/-! ### tables checked by the kernel -/
def tabA {α : Type} (f : Nat → α) : Nat → List α
  | 0 => []
  | n + 1 => f n :: tabA f n
def tabB {α : Type} (f : Nat → α) : Nat → List α
  | 0 => []
  | n + 1 => f n :: tabB f n
theorem all1 {α : Type} {f g : Nat → α} : ∀ {n : Nat}, tabA f n = tabB g n → ∀ r, r < n → f r = g r
  | 0, _, r, h => absurd h (Nat.not_lt_zero _)
  | n + 1, e, r, h => by
    have e : f n :: tabA f n = g n :: tabB g n := e
    injection e with e1 e2
    by_cases q : r = n
    · subst q; exact e1
    · exact all1 e2 r (by omega)
theorem all2 {α : Type} {f g : Nat → Nat → α} {n m : Nat} (e : tabA (fun i => tabA (f i) m) n = tabB (fun i => tabB (g i) m) n) (i j : Nat) (hi : i < n) (hj : j < m) : f i j = g i j := all1 (all1 e i hi) j hj
theorem all3 {α : Type} {f g : Nat → Nat → Nat → α} {n m l : Nat} (e : tabA (fun i => tabA (fun j => tabA (f i j) l) m) n = tabB (fun i => tabB (fun j => tabB (g i j) l) m) n) (i j k : Nat) (hi : i < n) (hj : j < m) (hk : k < l) : f i j k = g i j k := all1 (all2 e i j hi hj) k hk
theorem all4 {α : Type} {f g : Nat → Nat → Nat → Nat → α} {n m l p : Nat} (e : tabA (fun i => tabA (fun j => tabA (fun k => tabA (f i j k) p) l) m) n = tabB (fun i => tabB (fun j => tabB (fun k => tabB (g i j k) p) l) m) n) (i j k x : Nat) (hi : i < n) (hj : j < m) (hk : k < l) (hx : x < p) : f i j k x = g i j k x := all1 (all3 e i j k hi hj hk) x hx
section
variable {code : Nat → Option Cd} {gR gP gD : Nat} {rc : Rc} {env e1 e2 : En} {h h0 h1 h2 : AH}
theorem pick_ix (hR : code gR = some ⟨2, 5, rollC⟩) (hP : code gP = some ⟨2, 2, pickC gR⟩) {k n : Nat} {x : D} {a b c : Int} {N : Nat} {M : Nat → D} (e : h[n]? = some (cell a b c)) (hn : pickN [.obj n, x] h = some (Int.ofNat N)) (hl : 0 < N) (hl2 : N < 1000) (hc1 : 0 ≤ c) (hc2 : c < 1000000)
    (hM : ∀ a' c' : Int, tabA (fun r => pickR (Int.ofNat r) (cell a' b c') [.obj n, x] h) N = tabB (fun r => .ok (M r) (h.set n (cell a' b c'))) N) :
    ∃ (r : Nat) (a' c' : Int), r < N ∧ 0 ≤ c' ∧ c' ≤ c + 1 ∧ lv 1000 1000 code (k + 2) 0 gP [.obj n, x] h = .ok (M r) (h.set n (cell a' b c')) := by
  obtain ⟨r, a', c', q1, q2, q3, q4, q5⟩ := pick_ok hR hP (k := k) (b := b) e hn (by show (0 : Int) < (N : Int); omega) (by
    show Nat.log2 N < 9000
    have := log2_le (n := N) (k := 9) (by omega)
    omega) hc1 hc2
  obtain ⟨m, rfl⟩ := Int.eq_ofNat_of_zero_le q1
  have hm : m < N := by
    have : (m : Int) < (N : Int) := q2
    omega
  exact ⟨m, a', c', hm, q3, q4, by rw [q5]; exact all1 (hM a' c') m hm⟩
/-- x = pick(dice, E) -/
theorem asg_pix (hR : code gR = some ⟨2, 5, rollC⟩) (hP : code gP = some ⟨2, 2, pickC gR⟩) {k n iD i : Nat} {E : Ev} {x : D} {a b c : Int} {N : Nat} {M : Nat → D} (eD : env[iD]? = some (some (.obj n))) (eE : E ⟨1000, lv 1000 1000 code (k + 2), k + 2⟩ env h0 = .ok x h)
    (e : h[n]? = some (cell a b c)) (hn : pickN [.obj n, x] h = some (Int.ofNat N)) (hl : 0 < N) (hl2 : N < 1000) (hc1 : 0 ≤ c) (hc2 : c < 1000000)
    (hM : ∀ a' c' : Int, tabA (fun r => pickR (Int.ofNat r) (cell a' b c') [.obj n, x] h) N = tabB (fun r => .ok (M r) (h.set n (cell a' b c'))) N) :
    ∃ (r : Nat) (a' c' : Int), r < N ∧ 0 ≤ c' ∧ c' ≤ c + 1 ∧ sAsg (vFn gP 2 [] (aCons (vVar iD) (aCons E aNil))) (gNm i) ⟨1000, lv 1000 1000 code (k + 2), k + 2⟩ env h0 = .nx (env.set i (some (M r))) (h.set n (cell a' b c')) := by
  obtain ⟨r, a', c', h1, h2, h3, h4⟩ := pick_ix hR hP (k := k) e hn hl hl2 hc1 hc2 hM
  exact ⟨r, a', c', h1, h2, h3, asg_ok (by rw [fn2 eD eE]; exact h4)⟩
/-! ### chains -/
theorem seq_go {f g : Sv} {o : SOut} (e : f rc env h = .nx e1 h1) (q : g rc e1 h1 = o) : sSeq f g rc env h = o := by
  rw [seq_nx e]; exact q
theorem forF_go2 {aj : AJ} {g : D → En → AH → SOut} {b : En → AH → SOut} {n i : Nat} {x : D} {o : SOut} (e : aj i h = some (some x)) (eg : g x env h = .nx e1 h1) (eb : b e1 h1 = .nx e2 h2) (q : forF aj g b n (i + 1) e2 h2 = o) : forF aj g b (n + 1) i env h = o := by
  rw [forF_go e eg eb]; exact q
theorem for_at {it : Iv} {g : Gv} {b : Sv} {aj : AJ} {o : SOut} (e : it rc env h = .ok aj h1) (q : forF aj (g rc) (b rc) rc.n 0 env h1 = o) : sFor it g b rc env h = o := by
  unfold sFor; rw [e]; exact q
/-- what a suite gives back, and the cell behind it -/
def rtv : SOut → Option (D × AO)
  | .rt d (c :: _) => some (d, c)
  | _ => none
theorem rtv_ok {o : SOut} {d : D} {c : AO} (e : rtv o = some (d, c)) : ∃ hs, o = .rt d (c :: hs) := by
  unfold rtv at e
  split at e
  · cases e; exact ⟨_, rfl⟩
  · cases e
/-- a call with the dice alone -/
theorem gc_one {body : List D → AH → Out D} {n : Nat} {a b c a' b' c' : Int} {v : Bool} {hs : AH} (e : h[n]? = some (cell a b c)) (q : body [.obj 0] [cell a b c] = .ok (.bl v) (cell a' b' c' :: hs)) : gc 1000 body [.obj n] h = .ok (.bl v) (h.set n (cell a' b' c')) := by
  have e1 : reach 1000 h [.obj n] [] = some [n] := by
    rw [reach_obj e]; rfl
  have e2 : ren.rens (fun m => place [n] m 0) [.obj n] = some [.obj 0] := by
    simp [ren.rens, ren, place]
  have e3 : cut (fun m => place [n] m 0) h [n] = some [cell a b c] := by
    simp [cut, e, renO, ren.rens, ren]
  unfold gc
  rw [e1]
  simp only [e2, e3, q]
  have e4 : home 1000 h [n] [.bl v] (cell a' b' c' :: hs) = some ([.bl v], h.set n (cell a' b' c')) := by
    show some ([D.bl v], h.set n (cell a' b' c') ++ []) = _
    rw [List.append_nil]
  show (match home 1000 h [n] [D.bl v] (cell a' b' c' :: hs) with | some ([d'], h') => Out.ok d' h' | _ => Out.bad) = _
  rw [e4]
theorem one_ok {g : Nat} {nn : Nat} {b : Sv} (hc : code g = some ⟨1, nn, b⟩) {k n : Nat} {x y z x' y' z' : Int} {v : Bool} {hs : AH} (e : h[n]? = some (cell x y z)) (q : b ⟨1000, lv 1000 1000 code k, k⟩ (startE nn [.obj 0]) [cell x y z] = .rt (.bl v) (cell x' y' z' :: hs)) :
    lv 1000 1000 code (k + 1) 0 g [.obj n] h = .ok (.bl v) (h.set n (cell x' y' z')) := by
  rw [lv_at hc]
  exact gc_one e (by show endF (b _ _ _) = _; rw [q]; rfl)
/-! ### the law's loop -/
theorem fn1 {k g i : Nat} {y : D} (e1 : env[i]? = some (some y)) : vFn g 1 [] (aCons (vVar i) aNil) ⟨1000, lv 1000 1000 code k, k⟩ env h = lv 1000 1000 code k 0 g [y] h := by
  have v0 : (vVar i) ⟨1000, lv 1000 1000 code k, k⟩ env h = .ok y h := by
    unfold vVar; rw [e1]
  have v2 : (aCons (vVar i) aNil) ⟨1000, lv 1000 1000 code k, k⟩ env h = .ok [y] h := by
    show Out.bind ((vVar i) _ _ _) _ = _
    rw [v0]; rfl
  unfold vFn
  rw [v2]
  rfl
theorem fn2v {k g i j : Nat} {y x : D} (e1 : env[i]? = some (some y)) (e2 : env[j]? = some (some x)) : vFn g 2 [] (aCons (vVar i) (aCons (vVar j) aNil)) ⟨1000, lv 1000 1000 code k, k⟩ env h = lv 1000 1000 code k 0 g [y, x] h :=
  fn2 e1 (by unfold vVar; rw [e2])
/-- how many turns: from 1 to m -/
theorem turns {m : Nat} {ns : List Int} (hm : 1 ≤ m) : ∃ n : Nat, 1 ≤ n ∧ n ≤ m ∧ (if (if (((ns.map D.int).length : Nat) : Int) < (m : Int) then (((ns.map D.int).length : Nat) : Int) else (m : Int)) > 1 then (if (((ns.map D.int).length : Nat) : Int) < (m : Int) then (((ns.map D.int).length : Nat) : Int) else (m : Int)) else 1) = (n : Int) := by
  rw [lt_len]
  by_cases h1 : (ns.length : Int) < (m : Int)
  · rw [if_pos h1]
    by_cases h2 : (ns.length : Int) > 1
    · exact ⟨ns.length, by omega, by omega, by rw [if_pos h2]⟩
    · exact ⟨1, by omega, by omega, by rw [if_neg h2]; rfl⟩
  · rw [if_neg h1]
    by_cases h2 : (m : Int) > 1
    · exact ⟨m, by omega, by omega, by rw [if_pos h2]⟩
    · exact ⟨1, by omega, by omega, by rw [if_neg h2]; rfl⟩
end
end DC
namespace DC
open PySem PySem.Spec PyProof.Rows L2
section
variable {code : Nat → Option Cd} {gR gP gD gT : Nat} {rc : Rc} {env e1 e2 : En} {h h0 h1 h2 : AH}
/-- the law's call -/
theorem gc_law {body : List D → AH → Out D} {ns : List Int} {v : Bool} {hs : AH} (q : body [.lsq (ns.map D.int)] [] = .ok (.bl v) hs) : gc 1000 body [.lsq (ns.map D.int)] [] = .ok (.bl v) [] := by
  unfold gc
  have e1 : reach 1000 [] [.lsq (ns.map D.int)] [] = some [] := rfl
  have e2 : ren.rens (fun n => place [] n 0) [.lsq (ns.map D.int)] = some [.lsq (ns.map D.int)] := by
    show (match (match ren.rens (fun n => place [] n 0) (ns.map D.int) with | some ys => some (D.lsq ys) | none => none) with | some d' => some [d'] | none => none) = _
    rw [rens_ints]
  have e3 : cut (fun n => place [] n 0) [] [] = some [] := rfl
  rw [e1]
  simp only [e2, e3, q]
  rfl
theorem law_ok {g nn : Nat} {b : Sv} (hc : code g = some ⟨1, nn, b⟩) {k : Nat} {ns : List Int} {v : Bool} {hs : AH} (q : b ⟨1000, lv 1000 1000 code k, k⟩ (startE nn [.lsq (ns.map D.int)]) [] = .rt (.bl v) hs) : ∃ h, lv 1000 1000 code (k + 1) 0 g [.lsq (ns.map D.int)] [] = .ok (.bl v) h := by
  refine ⟨[], ?_⟩
  rw [lv_at hc]
  exact gc_law (by show endF (b _ _ _) = _; rw [q]; rfl)
/-- range(max(1, min(m, len(script)))) -/
theorem it_ok {m : Nat} {ns : List Int} {e : En} (hm : 1 ≤ m) (hm2 : m < 100) : ∃ n : Nat, 1 ≤ n ∧ n ≤ m ∧ (iRng1 (aCons (vCall bMax (aCons (vC (D.int (Int.ofNat 1))) (aCons (vCall bMinX (aCons (vC (D.int (Int.ofNat m))) (aCons (vCall bLen (aCons (vVar 0) aNil)) aNil))) aNil))) aNil)) rc (some (.lsq (ns.map D.int)) :: e) h = .ok (ajRng 0 n) h := by
  obtain ⟨n, h1, h2, h3⟩ := turns (ns := ns) hm
  refine ⟨n, h1, h2, ?_⟩
  have q : (iRng1 (aCons (vCall bMax (aCons (vC (D.int (Int.ofNat 1))) (aCons (vCall bMinX (aCons (vC (D.int (Int.ofNat m))) (aCons (vCall bLen (aCons (vVar 0) aNil)) aNil))) aNil))) aNil)) rc (some (.lsq (ns.map D.int)) :: e) h =
      (match rgOk (if (if (((ns.map D.int).length : Nat) : Int) < (m : Int) then (((ns.map D.int).length : Nat) : Int) else (m : Int)) > 1 then (if (((ns.map D.int).length : Nat) : Int) < (m : Int) then (((ns.map D.int).length : Nat) : Int) else (m : Int)) else 1) with
        | true => .ok (ajRng 0 (if (if (((ns.map D.int).length : Nat) : Int) < (m : Int) then (((ns.map D.int).length : Nat) : Int) else (m : Int)) > 1 then (if (((ns.map D.int).length : Nat) : Int) < (m : Int) then (((ns.map D.int).length : Nat) : Int) else (m : Int)) else 1).toNat) h
        | false => .bad) := rfl
  rw [q, h3]
  have r1 : rgOk (n : Int) = true := by
    unfold rgOk
    rw [Bool.and_eq_true_iff]
    exact ⟨decide_eq_true (by omega), decide_eq_true (by omega)⟩
  rw [r1]
  rfl
theorem vTru_of {a : Ev} {b : Bool} (e : a rc env h = .ok (.bl b) h1) : vTru a rc env h = .ok b h1 := by
  unfold vTru; rw [e]; rfl
theorem last_cell {o : AO} : (h ++ [o])[h.length]? = some o := by
  rw [List.getElem?_append_right (Nat.le_refl _)]; simp
theorem set_last {o o' : AO} : (h ++ [o]).set h.length o' = h ++ [o'] := by
  rw [List.set_append_right _ _ (Nat.le_refl _), Nat.sub_self]; rfl
/-- one turn: dice = _law_dice(script, spot); if not right(dice) or not right(dice): return False -/
theorem turnA (hD : code gD = some ⟨2, 4, diceC⟩) {k m : Nat} {ns : List Int} {s : Nat} {y : Option D} {e : En} (hs : s < 100) (hm : m < 1000)
    (hT : ∀ (a b c : Int) (n : Nat) (h : AH), h[n]? = some (cell a b c) → 0 ≤ c → c < 900000 → ∃ a' c' : Int, 0 ≤ c' ∧ c' ≤ c + m ∧ lv 1000 1000 code (k + 1) 0 gT [.obj n] h = .ok (.bl true) (h.set n (cell a' b c'))) :
    ∃ a b c : Int, (sSeq (sAsg (vFn gD 2 [] (aCons (vVar 0) (aCons (vVar 1) aNil))) (gNm 2)) (sIf (vOrT (vNotT (vTru (vFn gT 1 [] (aCons (vVar 2) aNil)))) (vNotT (vTru (vFn gT 1 [] (aCons (vVar 2) aNil))))) (sRet (vC (D.bl false))) sNil)) ⟨1000, lv 1000 1000 code (k + 1), k + 1⟩
      (some (.lsq (ns.map D.int)) :: some (.int s) :: y :: e) h = .nx (some (.lsq (ns.map D.int)) :: some (.int s) :: some (.obj h.length) :: e) (h ++ [cell a b c]) := by
  obtain ⟨a, b, q⟩ := dice_ok (code := code) hD (k := k) (h := h) (ns := ns) hs
  obtain ⟨a1, c1, z1, z2, q1⟩ := hT a b 0 h.length (h ++ [cell a b 0]) last_cell (by decide) (by decide)
  rw [set_last] at q1
  obtain ⟨a2, c2, z3, z4, q2⟩ := hT a1 b c1 h.length (h ++ [cell a1 b c1]) last_cell z1 (by omega)
  rw [set_last] at q2
  refine ⟨a2, b, c2, ?_⟩
  refine seq_go (asg_ok (by rw [fn2v rfl rfl]; exact q)) ?_
  show sIf _ _ _ _ (some (.lsq (ns.map D.int)) :: some (.int s) :: some (.obj h.length) :: e) _ = _
  have t1 := vTru_of (show (vFn gT 1 [] (aCons (vVar 2) aNil)) ⟨1000, lv 1000 1000 code (k + 1), k + 1⟩ (some (.lsq (ns.map D.int)) :: some (.int s) :: some (.obj h.length) :: e) (h ++ [cell a b 0]) = .ok (.bl true) (h ++ [cell a1 b c1]) by rw [fn1 rfl]; exact q1)
  have t2 := vTru_of (show (vFn gT 1 [] (aCons (vVar 2) aNil)) ⟨1000, lv 1000 1000 code (k + 1), k + 1⟩ (some (.lsq (ns.map D.int)) :: some (.int s) :: some (.obj h.length) :: e) (h ++ [cell a1 b c1]) = .ok (.bl true) (h ++ [cell a2 b c2]) by rw [fn1 rfl]; exact q2)
  simp only [sIf, vOrT, vNotT, t1, t2, Out.bind, Out.toS, Bool.not_true]
  rfl
/-- one turn: if not right(_law_dice(script, spot)): return False -/
theorem turnB (hD : code gD = some ⟨2, 4, diceC⟩) {k m : Nat} {ns : List Int} {s : Nat} {e : En} (hs : s < 100)
    (hT : ∀ (a b c : Int) (n : Nat) (h : AH), h[n]? = some (cell a b c) → 0 ≤ c → c < 900000 → ∃ a' c' : Int, 0 ≤ c' ∧ c' ≤ c + m ∧ lv 1000 1000 code (k + 1) 0 gT [.obj n] h = .ok (.bl true) (h.set n (cell a' b c'))) :
    ∃ a b c : Int, (sIf (vNotT (vTru (vFn gT 1 [] (aCons (vFn gD 2 [] (aCons (vVar 0) (aCons (vVar 1) aNil))) aNil)))) (sRet (vC (D.bl false))) sNil) ⟨1000, lv 1000 1000 code (k + 1), k + 1⟩
      (some (.lsq (ns.map D.int)) :: some (.int s) :: e) h = .nx (some (.lsq (ns.map D.int)) :: some (.int s) :: e) (h ++ [cell a b c]) := by
  obtain ⟨a, b, q⟩ := dice_ok (code := code) hD (k := k) (h := h) (ns := ns) hs
  obtain ⟨a1, c1, z1, z2, q1⟩ := hT a b 0 h.length (h ++ [cell a b 0]) last_cell (by decide) (by decide)
  rw [set_last] at q1
  refine ⟨a1, b, c1, ?_⟩
  have t0 : (vFn gD 2 [] (aCons (vVar 0) (aCons (vVar 1) aNil))) ⟨1000, lv 1000 1000 code (k + 1), k + 1⟩ (some (.lsq (ns.map D.int)) :: some (.int s) :: e) h = .ok (.obj h.length) (h ++ [cell a b 0]) := by
    rw [fn2v rfl rfl]; exact q
  have t1 := vTru_of (show (vFn gT 1 [] (aCons (vFn gD 2 [] (aCons (vVar 0) (aCons (vVar 1) aNil))) aNil)) ⟨1000, lv 1000 1000 code (k + 1), k + 1⟩ (some (.lsq (ns.map D.int)) :: some (.int s) :: e) h = .ok (.bl true) (h ++ [cell a1 b c1]) by
    have v2 : (aCons (vFn gD 2 [] (aCons (vVar 0) (aCons (vVar 1) aNil))) aNil) ⟨1000, lv 1000 1000 code (k + 1), k + 1⟩ (some (.lsq (ns.map D.int)) :: some (.int s) :: e) h = .ok [.obj h.length] (h ++ [cell a b 0]) := by
      show Out.bind ((vFn gD 2 [] (aCons (vVar 0) (aCons (vVar 1) aNil))) _ _ _) _ = _
      rw [t0]; rfl
    show Out.bind ((aCons (vFn gD 2 [] (aCons (vVar 0) (aCons (vVar 1) aNil))) aNil) _ _ _) _ = _
    rw [v2]
    exact q1)
  simp only [sIf, vNotT, t1, Out.bind, Out.toS, Bool.not_true]
  rfl
end
end DC
namespace DC
open PySem PySem.Spec PyProof.Rows L2
def isT : SOut → Bool
  | .rt (.bl true) _ => true
  | _ => false
theorem isT_ok {o : SOut} (e : isT o = true) : ∃ hs, o = .rt (.bl true) hs := by
  unfold isT at e
  split at e
  · exact ⟨_, rfl⟩
  · cases e
end DC
/-! Dc28: the head's facts, the table of statics among them. -/
namespace DC
open PySem PySem.Spec PyProof.Rows L2
def asY (g : Addr → Option Obj) (n : Nat) : List Addr := He.asD g n ++ [cStatics]
def obsY (n : Nat) (fn : List He.DefD) (tf : List He.Defn) (ex : PySem.W.Frag → Bool) (g : Addr → Option Obj) : He.AlX := (He.obsT [] fn [] (He.frT g (asY g n)), ex (He.frT g (asY g n)) && He.tabsB g tf (He.frT g (asY g n)))
theorem saysY_of {n : Nat} {fn : List He.DefD} {tf : List He.Defn} {ex : PySem.W.Frag → Bool} {w : World} {h : Heap} (e : obsY n fn tf ex h.get? = He.valX fn [] w) : He.SaysX [] fn [] tf ex w h (He.frT h.get? (asY h.get? n)) := by
  have e1 : He.obsT [] fn [] (He.frT h.get? (asY h.get? n)) = He.valT fn [] w := congrArg (fun z : He.AlX => z.1) e
  have e2 : (ex (He.frT h.get? (asY h.get? n)) && He.tabsB h.get? tf (He.frT h.get? (asY h.get? n))) = true := congrArg (fun z : He.AlX => z.2) e
  obtain ⟨h1, h2⟩ := Bool.and_eq_true_iff.mp e2
  have key : ∀ p ∈ tf, PySem.W.codeHdIn (He.frT h.get? (asY h.get? n)) (He.cT (He.frT h.get? (asY h.get? n)) p).1 (He.cT (He.frT h.get? (asY h.get? n)) p).2 = true ∧ ∃ o, h.get? (He.cT (He.frT h.get? (asY h.get? n)) p).2 = some o ∧ He.emptyTab o = true := fun p hp => by
    obtain ⟨h3, h4⟩ := Bool.and_eq_true_iff.mp (List.all_eq_true.mp h2 p hp)
    refine ⟨h3, ?_⟩
    cases q : h.get? (He.cT (He.frT h.get? (asY h.get? n)) p).2 with
    | none =>
      rw [q] at h4
      cases h4
    | some o =>
      rw [q] at h4
      exact ⟨o, rfl, h4⟩
  exact ⟨e1, h1, fun p hp => (key p hp).1, fun p hp => by
    obtain ⟨_, o, q, z⟩ := key p hp
    exact He.frT_none q z, fun p hp => by
    obtain ⟨_, o, q, z⟩ := key p hp
    rw [q, He.emptyTab_eq z]⟩
def hookY (n : Nat) (fn : List He.DefD) (tf : List He.Defn) (ex : PySem.W.Frag → Bool) : PySem.W.Hook where
  α := He.AlX
  obs := fun s => obsY n fn tf ex s.heap.get?
  val := fun w => He.valX fn [] w
  says := fun w h => ∃ K : PySem.W.Frag, K.In h ∧ He.SaysX [] fn [] tf ex w h K
  of := fun _ _ e => ⟨_, He.frT_in, saysY_of e⟩
  keeps := fun _ _ _ ⟨K, hK, c⟩ k => ⟨K, PySem.W.Frag.In.keeps hK k, ⟨c.t, c.more, c.hd, c.out, fun p hp => k _ _ (c.empty p hp)⟩⟩
theorem obsY_eq {n : Nat} {fn : List He.DefD} {tf : List He.Defn} {ex : PySem.W.Frag → Bool} {g : Addr → Option Obj} {s : Shared} (h : ∀ a, g a = s.heap.get? a) : obsY n fn tf ex g = (hookY n fn tf ex).obs s := by
  have e : g = s.heap.get? := funext h
  rw [e] <;> rfl
end DC
namespace HT
open PySem PySem.Spec PyProof.Rows L2 DC
def top (i : Nat) : Stmt := PySem.Challenge.pw_deepcounts_k38_errors_of_forms.main.body.getD i (.Pass ⟨0, 0, 0, 0⟩)
def item (i j : Nat) : Stmt := match top i with | .ClassDef _ _ _ b _ _ _ _ _ _ _ => b.getD j (.Pass ⟨0, 0, 0, 0⟩) | _ => .Pass ⟨0, 0, 0, 0⟩
def f0 : Fn1 := ⟨⟨("is_whole", none), "is_whole", "is_whole", defArgs (top 8), defBody (top 8), defScope (top 8), [], []⟩, ["value"], false⟩
def f1 : Fn1 := ⟨⟨("is_short", none), "is_short", "is_short", defArgs (top 9), defBody (top 9), defScope (top 9), [], []⟩, ["value"], false⟩
def f2 : Fn1 := ⟨⟨("is_from", none), "is_from", "is_from", defArgs (top 10), defBody (top 10), defScope (top 10), [], []⟩, ["value", "least", "most"], false⟩
def f3 : Fn1 := ⟨⟨("are_short", none), "are_short", "are_short", defArgs (top 11), defBody (top 11), defScope (top 11), [], []⟩, ["value", "entry"], false⟩
def f4 : Fn1 := ⟨⟨("lowest_of", none), "lowest_of", "lowest_of", defArgs (top 17), defBody (top 17), defScope (top 17), [], []⟩, ["top", "bottom", "shared"], false⟩
def f5 : Fn1 := ⟨⟨("fraction_of", none), "fraction_of", "fraction_of", defArgs (top 18), defBody (top 18), defScope (top 18), [], []⟩, ["number"], false⟩
def f6 : Fn1 := ⟨⟨("plus_of", none), "plus_of", "plus_of", defArgs (top 19), defBody (top 19), defScope (top 19), [], []⟩, ["one", "other"], false⟩
def f7 : Fn1 := ⟨⟨("minus_of", none), "minus_of", "minus_of", defArgs (top 20), defBody (top 20), defScope (top 20), [], []⟩, ["one", "other"], false⟩
def f8 : Fn1 := ⟨⟨("times_of", none), "times_of", "times_of", defArgs (top 21), defBody (top 21), defScope (top 21), [], []⟩, ["one", "other"], false⟩
def f9 : Fn1 := ⟨⟨("over_of", none), "over_of", "over_of", defArgs (top 22), defBody (top 22), defScope (top 22), [], []⟩, ["one", "other"], false⟩
def f10 : Fn1 := ⟨⟨("total_of", none), "total_of", "total_of", defArgs (top 23), defBody (top 23), defScope (top 23), [], []⟩, ["fractions", "found", "one"], false⟩
def f11 : Fn1 := ⟨⟨("order_in", none), "order_in", "order_in", defArgs (top 24), defBody (top 24), defScope (top 24), [], []⟩, ["prime", "whole", "found", "left"], false⟩
def f12 : Fn1 := ⟨⟨("order_of_fraction", none), "order_of_fraction", "order_of_fraction", defArgs (top 25), defBody (top 25), defScope (top 25), [], []⟩, ["prime", "fraction"], false⟩
def f13 : Fn1 := ⟨⟨("power_of", none), "power_of", "power_of", defArgs (top 26), defBody (top 26), defScope (top 26), [], []⟩, ["number", "many", "found", "square", "left"], false⟩
def f14 : Fn1 := ⟨⟨("inverse_of", none), "inverse_of", "inverse_of", defArgs (top 27), defBody (top 27), defScope (top 27), [], []⟩, ["number", "whole", "old", "new", "first", "second", "times"], false⟩
def f15 : Fn1 := ⟨⟨("unit_in", none), "unit_in", "unit_in", defArgs (top 28), defBody (top 28), defScope (top 28), [], []⟩, ["prime", "fraction", "parts", "entry"], false⟩
def f16 : Fn1 := ⟨⟨("rest_in", none), "rest_in", "rest_in", defArgs (top 29), defBody (top 29), defScope (top 29), [], []⟩, ["prime", "fraction", "depth", "whole"], false⟩
def f17 : Fn1 := ⟨⟨("sign_in", none), "sign_in", "sign_in", defArgs (top 30), defBody (top 30), defScope (top 30), [], []⟩, ["prime", "fraction"], false⟩
def f18 : Fn1 := ⟨⟨("is_fraction_any", none), "is_fraction_any", "is_fraction_any", defArgs (top 31), defBody (top 31), defScope (top 31), [], []⟩, ["value", "entry"], false⟩
def f19 : Fn1 := ⟨⟨("is_number_any", none), "is_number_any", "is_number_any", defArgs (top 32), defBody (top 32), defScope (top 32), [], []⟩, ["value"], false⟩
def f20 : Fn1 := ⟨⟨("require_prime", none), "require_prime", "require_prime", defArgs (top 33), defBody (top 33), defScope (top 33), [], []⟩, ["value"], false⟩
def f21 : Fn1 := ⟨⟨("require_odd_prime", none), "require_odd_prime", "require_odd_prime", defArgs (top 34), defBody (top 34), defScope (top 34), [], []⟩, ["value"], false⟩
def f22 : Fn1 := ⟨⟨("are_moves", none), "are_moves", "are_moves", defArgs (top 36), defBody (top 36), defScope (top 36), [], []⟩, ["prime", "table", "shift", "row", "entry", "rows"], false⟩
def f23 : Fn1 := ⟨⟨("is_whole_rank", none), "is_whole_rank", "is_whole_rank", defArgs (top 37), defBody (top 37), defScope (top 37), [], []⟩, ["prime", "rows", "left", "at", "spots", "spot", "row", "head", "later", "back", "here", "there"], false⟩
def f24 : Fn1 := ⟨⟨("Parting", some "__init__"), "__init__", "Parting.__init__", defArgs (item 41 1), defBody (item 41 1), defScope (item 41 1), [], []⟩, ["self", "prime", "rows", "entry", "row", "other", "one"], false⟩
def f25 : Fn1 := ⟨⟨("Parting", some "add_place"), "add_place", "Parting.add_place", defArgs (item 41 2), defBody (item 41 2), defScope (item 41 2), [], []⟩, ["self", "goal", "place", "factor", "row", "at", "entry"], false⟩
def f26 : Fn1 := ⟨⟨("Parting", some "least_spot"), "least_spot", "Parting.least_spot", defArgs (item 41 3), defBody (item 41 3), defScope (item 41 3), [], []⟩, ["self", "spots", "one", "other", "order"], false⟩
def f27 : Fn1 := ⟨⟨("Parting", some "part_place"), "part_place", "Parting.part_place", defArgs (item 41 4), defBody (item 41 4), defScope (item 41 4), [], []⟩, ["self", "place", "other", "factor"], false⟩
def f28 : Fn1 := ⟨⟨("Parting", some "run"), "run", "Parting.run", defArgs (item 41 5), defBody (item 41 5), defScope (item 41 5), [], []⟩, ["self", "spot", "place"], false⟩
def f29 : Fn1 := ⟨⟨("parted_in", none), "parted_in", "parted_in", defArgs (top 42), defBody (top 42), defScope (top 42), [], []⟩, ["prime", "rows"], false⟩
def f30 : Fn1 := ⟨⟨("led_table", none), "led_table", "led_table", defArgs (top 43), defBody (top 43), defScope (top 43), [], []⟩, ["rows", "move", "size", "half", "at", "to", "row", "one"], false⟩
def f31 : Fn1 := ⟨⟨("list_of_diagonal", none), "list_of_diagonal", "list_of_diagonal", defArgs (top 44), defBody (top 44), defScope (top 44), [], []⟩, ["prime", "diagonal", "found", "entry", "order", "many", "sign"], false⟩
def f32 : Fn1 := ⟨⟨("is_form_table", none), "is_form_table", "is_form_table", defArgs (top 45), defBody (top 45), defScope (top 45), [], []⟩, ["value", "row", "one", "other"], false⟩
def f33 : Fn1 := ⟨⟨("require_form_table", none), "require_form_table", "require_form_table", defArgs (top 46), defBody (top 46), defScope (top 46), [], []⟩, ["value"], false⟩
def f34 : Fn1 := ⟨⟨("are_number_rows", none), "are_number_rows", "are_number_rows", defArgs (top 47), defBody (top 47), defScope (top 47), [], []⟩, ["size", "value", "row", "entry"], false⟩
def f35 : Fn1 := ⟨⟨("is_move_table", none), "is_move_table", "is_move_table", defArgs (top 48), defBody (top 48), defScope (top 48), [], []⟩, ["prime", "size", "value", "entry", "row"], false⟩
def f36 : Fn1 := ⟨⟨("is_diagonal", none), "is_diagonal", "is_diagonal", defArgs (top 49), defBody (top 49), defScope (top 49), [], []⟩, ["rows", "diagonal", "one", "row", "other"], false⟩
def f37 : Fn1 := ⟨⟨("list_in", none), "list_in", "list_in", defArgs (top 50), defBody (top 50), defScope (top 50), [], []⟩, ["prime", "table"], false⟩
def f38 : Fn1 := ⟨⟨("parted_form", none), "parted_form", "parted_form", defArgs (top 51), defBody (top 51), defScope (top 51), [], []⟩, ["prime", "table", "move", "diagonal", "row"], false⟩
def f39 : Fn1 := ⟨⟨("is_parted_form", none), "is_parted_form", "is_parted_form", defArgs (top 52), defBody (top 52), defScope (top 52), [], []⟩, ["prime", "table", "value", "size", "one", "move", "entry", "row", "rows"], false⟩
def f40 : Fn1 := ⟨⟨("form_list", none), "form_list", "form_list", defArgs (top 53), defBody (top 53), defScope (top 53), [], []⟩, ["prime", "table"], false⟩
def f41 : Fn1 := ⟨⟨("are_like_forms", none), "are_like_forms", "are_like_forms", defArgs (top 54), defBody (top 54), defScope (top 54), [], []⟩, ["prime", "one", "other"], false⟩
def f42 : Fn1 := ⟨⟨("_law_dice", none), "_law_dice", "_law_dice", defArgs (top 56), defBody (top 56), defScope (top 56), [], []⟩, ["script", "spot", "cell", "left"], false⟩
def f43 : Fn1 := ⟨⟨("_law_roll", none), "_law_roll", "_law_roll", defArgs (top 57), defBody (top 57), defScope (top 57), [], []⟩, ["dice", "total", "found", "one", "two"], false⟩
def f44 : Fn1 := ⟨⟨("_law_pick", none), "_law_pick", "_law_pick", defArgs (top 58), defBody (top 58), defScope (top 58), [], []⟩, ["dice", "items"], false⟩
def f45 : Fn1 := ⟨⟨("_law_met", none), "_law_met", "_law_met", defArgs (top 59), defBody (top 59), defScope (top 59), [], []⟩, ["call", "error"], false⟩
def f46 : Fn1 := ⟨⟨("_law_right", none), "_law_right", "_law_right", defArgs (top 60), defBody (top 60), defScope (top 60), [], []⟩, ["dice", "prime", "some", "bad", "good", "calls", "call", "bad_prime", "table", "fine", "due"], true⟩
def f47 : Fn1 := ⟨⟨("law", none), "law", "law", defArgs (top 61), defBody (top 61), defScope (top 61), [], []⟩, ["script", "spot", "dice", "one", "two", "told", "due"], true⟩
def fnsL : List Fn1 := [f0, f1, f2, f3, f4, f5, f6, f7, f8, f9, f10, f11, f12, f13, f14, f15, f16, f17, f18, f19, f20, f21, f22, f23, f24, f25, f26, f27, f28, f29, f30, f31, f32, f33, f34, f35, f36, f37, f38, f39, f40, f41, f42, f43, f44, f45, f46, f47]
def clsL : List Cl1 := [⟨"DepthError", none⟩, ⟨"InvalidTable", none⟩, ⟨"InvalidOperation", none⟩, ⟨"InvalidNumber", none⟩, ⟨"Parting", some ⟨[("own_left", 0), ("own_move", 1), ("own_prime", 2), ("own_table", 3)], [("__init__", 24), ("add_place", 25), ("least_spot", 26), ("part_place", 27), ("run", 28)], [], some 24⟩⟩]
def exL : List (Option (Option Str)) := [some none, some none, some none, some (some "given"), none]
def arL : List Nat := [1, 1, 3, 1, 2, 1, 2, 2, 2, 2, 1, 2, 2, 2, 2, 2, 3, 2, 1, 1, 1, 1, 3, 2, 3, 4, 1, 2, 1, 2, 2, 2, 1, 1, 2, 3, 2, 2, 2, 3, 2, 3, 2, 2, 2, 1, 1, 1]
def sbL : List ((Nat × Nat) × Bool) := [((0, 0), true), ((0, 1), false), ((0, 2), false), ((0, 3), false), ((1, 0), true), ((1, 1), true), ((1, 2), false), ((1, 3), false), ((2, 0), true), ((2, 1), false), ((2, 2), true), ((2, 3), false), ((3, 0), false), ((3, 1), false), ((3, 2), false), ((3, 3), true)]
def exT (c : Nat) : Option (Option Str) := (exL[c]?).join
def arT (g : Nat) : Option Nat := arL[g]?
def sbT (c d : Nat) : Option Bool := lk2 c d sbL
def pd : Pd := ⟨fnsL, clsL, exL, arL, [("GREATEST", (D.int (Int.ofNat 1000000000000000000000000000000000000000000000000000000000000))), ("PRIMES", (D.tup [(D.int (Int.ofNat 2)), (D.int (Int.ofNat 3)), (D.int (Int.ofNat 5)), (D.int (Int.ofNat 7)), (D.int (Int.ofNat 11)), (D.int (Int.ofNat 13))])), ("PAIR_SIZE", (D.int (Int.ofNat 2))), ("EVEN_PRIME", (D.int (Int.ofNat 2))), ("ZERO", (D.tup [(D.int (Int.ofNat 0)), (D.int (Int.ofNat 1))])), ("MAX_SIDE", (D.int (Int.ofNat 4))), ("PAIR", (D.int (Int.ofNat 2)))], [("gcd", "math.gcd")], ["IndexError", "ValueError", "abs", "all", "any", "bool", "enumerate", "int", "isinstance", "len", "list", "max", "min", "range", "repr", "sorted", "tuple", "zip"], sbL⟩
abbrev G : Gx := pd.G arT exT sbT
def metL : List (Nat × List Str) := [(45, f45.N)]
def gLaw : Nat := 47
def c0 : Sv := (sRet (vAnd (vIsi .int (vVar 0)) (vNot (vIsi .bl (vVar 0)))))
def c1 : Sv := (sRet (vAnd (vFn 0 1 [] (aCons (vVar 0) aNil)) (vChain ltO ltO (vU negO (vC (D.int (Int.ofNat 1000000000000000000000000000000000000000000000000000000000000)))) (vVar 0) (vC (D.int (Int.ofNat 1000000000000000000000000000000000000000000000000000000000000))))))
def c2 : Sv := (sRet (vAnd (vFn 0 1 [] (aCons (vVar 0) aNil)) (vChain leO leO (vVar 1) (vVar 0) (vVar 2))))
def c3 : Sv := (sRet (vAnd (vIsi .tup (vVar 0)) (vCall bAll (aCons (vLc (iSeq (vVar 0)) (gNm 1) tT (vFn 1 1 [] (aCons (vVar 1) aNil)) [1]) aNil))))
def c4 : Sv := (sSeq (sAsg (vIf (vBl (vB gtO (vVar 1) (vC (D.int (Int.ofNat 0))))) (vCall bGcd (aCons (vVar 0) (aCons (vVar 1) aNil))) (vU negO (vCall bGcd (aCons (vVar 0) (aCons (vVar 1) aNil))))) (gNm 2))
  (sRet (vTup (aCons (vB fdivO (vVar 0) (vVar 2)) (aCons (vB fdivO (vVar 1) (vVar 2)) aNil)))))
def c5 : Sv := (sRet (vIf (vTru (vIsi .tup (vVar 0))) (vVar 0) (vTup (aCons (vVar 0) (aCons (vC (D.int (Int.ofNat 1))) aNil)))))
def c6 : Sv := (sRet (vFn 4 2 [] (aCons (vB addO (vB mulO (vB ixdO (vVar 0) (vC (D.int (Int.ofNat 0)))) (vB ixdO (vVar 1) (vC (D.int (Int.ofNat 1))))) (vB mulO (vB ixdO (vVar 1) (vC (D.int (Int.ofNat 0)))) (vB ixdO (vVar 0) (vC (D.int (Int.ofNat 1)))))) (aCons (vB mulO (vB ixdO (vVar 0) (vC (D.int (Int.ofNat 1)))) (vB ixdO (vVar 1) (vC (D.int (Int.ofNat 1))))) aNil))))
def c7 : Sv := (sRet (vFn 4 2 [] (aCons (vB subO (vB mulO (vB ixdO (vVar 0) (vC (D.int (Int.ofNat 0)))) (vB ixdO (vVar 1) (vC (D.int (Int.ofNat 1))))) (vB mulO (vB ixdO (vVar 1) (vC (D.int (Int.ofNat 0)))) (vB ixdO (vVar 0) (vC (D.int (Int.ofNat 1)))))) (aCons (vB mulO (vB ixdO (vVar 0) (vC (D.int (Int.ofNat 1)))) (vB ixdO (vVar 1) (vC (D.int (Int.ofNat 1))))) aNil))))
def c8 : Sv := (sRet (vFn 4 2 [] (aCons (vB mulO (vB ixdO (vVar 0) (vC (D.int (Int.ofNat 0)))) (vB ixdO (vVar 1) (vC (D.int (Int.ofNat 0))))) (aCons (vB mulO (vB ixdO (vVar 0) (vC (D.int (Int.ofNat 1)))) (vB ixdO (vVar 1) (vC (D.int (Int.ofNat 1))))) aNil))))
def c9 : Sv := (sRet (vFn 4 2 [] (aCons (vB mulO (vB ixdO (vVar 0) (vC (D.int (Int.ofNat 0)))) (vB ixdO (vVar 1) (vC (D.int (Int.ofNat 1))))) (aCons (vB mulO (vB ixdO (vVar 0) (vC (D.int (Int.ofNat 1)))) (vB ixdO (vVar 1) (vC (D.int (Int.ofNat 0))))) aNil))))
def c10 : Sv := (sSeq (sAsg (vC (D.tup [(D.int (Int.ofNat 0)), (D.int (Int.ofNat 1))])) (gNm 1))
  (sSeq (sFor (iSeq (vVar 0)) (gNm 2) (sAsg (vFn 6 2 [] (aCons (vVar 1) (aCons (vVar 2) aNil))) (gNm 1)))
  (sRet (vVar 1))))
def c11 : Sv := (sSeq (sIf (vBl (vB eqO (vVar 1) (vC (D.int (Int.ofNat 0))))) (sRet (vC D.non)) sNil)
  (sSeq (sPar 2 3 (aCons (vC (D.int (Int.ofNat 0))) (aCons (vVar 1) aNil)))
  (sSeq (sWh (wT (vBl (vB eqO (vB modO (vVar 3) (vVar 0)) (vC (D.int (Int.ofNat 0)))))) (sSeq (sAug 3 fdivO (vVar 0))
  (sAug 2 iaddO (vC (D.int (Int.ofNat 1))))))
  (sRet (vVar 2)))))
def c12 : Sv := (sRet (vIf (vBl (vB eqO (vB ixdO (vVar 1) (vC (D.int (Int.ofNat 0)))) (vC (D.int (Int.ofNat 0))))) (vC D.non) (vB subO (vFn 11 2 [] (aCons (vVar 0) (aCons (vB ixdO (vVar 1) (vC (D.int (Int.ofNat 0)))) aNil))) (vFn 11 2 [] (aCons (vVar 0) (aCons (vB ixdO (vVar 1) (vC (D.int (Int.ofNat 1)))) aNil))))))
def c13 : Sv := (sSeq (sPar3 2 3 4 (aCons (vC (D.int (Int.ofNat 1))) (aCons (vVar 0) (aCons (vVar 1) aNil))))
  (sSeq (sWh (wT (vBl (vB gtO (vVar 4) (vC (D.int (Int.ofNat 0)))))) (sSeq (sIf (vBl (vB eqO (vB modO (vVar 4) (vC (D.int (Int.ofNat 2)))) (vC (D.int (Int.ofNat 1))))) (sAug 2 imulO (vVar 3)) sNil)
  (sSeq (sAug 3 imulO (vVar 3))
  (sAug 4 fdivO (vC (D.int (Int.ofNat 2)))))))
  (sRet (vVar 2))))
def c14 : Sv := (sSeq (sAsg (vTup (aCons (vVar 1) (aCons (vB modO (vVar 0) (vVar 1)) (aCons (vC (D.int (Int.ofNat 0))) (aCons (vC (D.int (Int.ofNat 1))) aNil))))) (gTp 4 (gsCons (gNm 2) (gsCons (gNm 3) (gsCons (gNm 4) (gsCons (gNm 5) gsNil))))))
  (sSeq (sWh (wT (vBl (vB gtO (vVar 3) (vC (D.int (Int.ofNat 0)))))) (sSeq (sAsg (vB fdivO (vVar 2) (vVar 3)) (gNm 6))
  (sSeq (sPar 2 3 (aCons (vVar 3) (aCons (vB subO (vVar 2) (vB mulO (vVar 6) (vVar 3))) aNil)))
  (sPar 4 5 (aCons (vVar 5) (aCons (vB subO (vVar 4) (vB mulO (vVar 6) (vVar 5))) aNil))))))
  (sRet (vB modO (vVar 4) (vVar 1)))))
def c15 : Sv := (sSeq (sAsg (vLc (iSeq (vVar 1)) (gNm 3) tT (vB fdivO (vVar 3) (vFn 13 2 [] (aCons (vVar 0) (aCons (vFn 11 2 [] (aCons (vVar 0) (aCons (vVar 3) aNil))) aNil)))) [3]) (gNm 2))
  (sRet (vTup (aCons (vB ixdO (vVar 2) (vC (D.int (Int.ofNat 0)))) (aCons (vB ixdO (vVar 2) (vC (D.int (Int.ofNat 1)))) aNil)))))
def c16 : Sv := (sSeq (sAsg (vFn 13 2 [] (aCons (vVar 0) (aCons (vVar 2) aNil))) (gNm 3))
  (sRet (vB modO (vB mulO (vB ixdO (vVar 1) (vC (D.int (Int.ofNat 0)))) (vFn 14 2 [] (aCons (vB ixdO (vVar 1) (vC (D.int (Int.ofNat 1)))) (aCons (vVar 3) aNil)))) (vVar 3))))
def c17 : Sv := (sRet (vIf (vBl (vB eqO (vB modO (vFn 13 2 [] (aCons (vFn 16 3 [] (aCons (vVar 0) (aCons (vVar 1) (aCons (vC (D.int (Int.ofNat 1))) aNil)))) (aCons (vB fdivO (vB subO (vVar 0) (vC (D.int (Int.ofNat 1)))) (vC (D.int (Int.ofNat 2)))) aNil))) (vVar 0)) (vC (D.int (Int.ofNat 1))))) (vC (D.int (Int.ofNat 1))) (vU negO (vC (D.int (Int.ofNat 1))))))
def c18 : Sv := (sSeq (sIf (vOrT (vNotT (vTru (vIsi .tup (vVar 0)))) (vOrT (vBl (vB neO (vCall bLen (aCons (vVar 0) aNil)) (vC (D.int (Int.ofNat 2))))) (vNotT (vTru (vCall bAll (aCons (vLc (iSeq (vVar 0)) (gNm 1) tT (vFn 0 1 [] (aCons (vVar 1) aNil)) [1]) aNil)))))) (sRet (vC (D.bl false))) sNil)
  (sRet (vAnd (vB gtO (vB ixdO (vVar 0) (vC (D.int (Int.ofNat 1)))) (vC (D.int (Int.ofNat 0)))) (vB eqO (vCall bGcd (aCons (vB ixdO (vVar 0) (vC (D.int (Int.ofNat 0)))) (aCons (vB ixdO (vVar 0) (vC (D.int (Int.ofNat 1)))) aNil))) (vC (D.int (Int.ofNat 1)))))))
def c19 : Sv := (sRet (vOr (vFn 0 1 [] (aCons (vVar 0) aNil)) (vFn 18 1 [] (aCons (vVar 0) aNil))))
def c20 : Sv := (sIf (vOrT (vNotT (vTru (vFn 2 3 [] (aCons (vVar 0) (aCons (vB ixdO (vC (D.tup [(D.int (Int.ofNat 2)), (D.int (Int.ofNat 3)), (D.int (Int.ofNat 5)), (D.int (Int.ofNat 7)), (D.int (Int.ofNat 11)), (D.int (Int.ofNat 13))])) (vC (D.int (Int.ofNat 0)))) (aCons (vB ixdO (vC (D.tup [(D.int (Int.ofNat 2)), (D.int (Int.ofNat 3)), (D.int (Int.ofNat 5)), (D.int (Int.ofNat 7)), (D.int (Int.ofNat 11)), (D.int (Int.ofNat 13))])) (vU negO (vC (D.int (Int.ofNat 1))))) aNil)))))) (vBl (vB notInO (vVar 0) (vC (D.tup [(D.int (Int.ofNat 2)), (D.int (Int.ofNat 3)), (D.int (Int.ofNat 5)), (D.int (Int.ofNat 7)), (D.int (Int.ofNat 11)), (D.int (Int.ofNat 13))]))))) (sRzI 3 (vVar 0)) sNil)
def c21 : Sv := (sSeq (sEx (vFn 20 1 [] (aCons (vVar 0) aNil)))
  (sIf (vBl (vB eqO (vVar 0) (vC (D.int (Int.ofNat 2))))) (sRzI 3 (vVar 0)) sNil))
def c22 : Sv := (sSeq (sIf (vTru (vCall bAny (aCons (vLc2 (iSeq (vTup (aStar (vVar 1) (aCons (vVar 2) aNil)))) (gNm 3) tT (iSeq (vVar 3)) (gNm 4) tT (vB eqO (vB modO (vB ixdO (vVar 4) (vC (D.int (Int.ofNat 1)))) (vVar 0)) (vC (D.int (Int.ofNat 0)))) [3, 4] [4]) aNil))) (sRet (vC (D.bl false))) sNil)
  (sSeq (sAsg (vLc (iSeq (vVar 1)) (gNm 3) tT (vLc (iSeq (vVar 3)) (gNm 4) tT (vB modO (vB mulO (vB ixdO (vVar 4) (vC (D.int (Int.ofNat 0)))) (vFn 14 2 [] (aCons (vB ixdO (vVar 4) (vC (D.int (Int.ofNat 1)))) (aCons (vVar 0) aNil)))) (vVar 0)) [4]) [3]) (gNm 5))
  (sRet (vFn 23 2 [] (aCons (vVar 0) (aCons (vVar 5) aNil))))))
def c23 : Sv := (sSeq (sAsg (vCall bList (aCons (vVar 1) aNil)) (gNm 2))
  (sSeq (sFor (iRng1 (aCons (vCall bLen (aCons (vVar 1) aNil)) aNil)) (gNm 3) (sSeq (sAsg (vLc (iEnum (aCons (vVar 2) aNil)) (gTp 2 (gsCons (gNm 5) (gsCons (gNm 6) gsNil))) (vBl (vB neO (vB ixdO (vVar 6) (vVar 3)) (vC (D.int (Int.ofNat 0))))) (vVar 5) [5, 6]) (gNm 4))
  (sSeq (sIf (vBl (vB eqO (vVar 4) (vLst aNil))) (sRet (vC (D.bl false))) sNil)
  (sSeq (sPar 7 8 (aCons (vB ixdO (vVar 2) (vB ixdO (vVar 4) (vC (D.int (Int.ofNat 0))))) (aCons (vLst aNil) aNil)))
  (sSeq (sAsg (vFn 14 2 [] (aCons (vB ixdO (vVar 7) (vVar 3)) (aCons (vVar 0) aNil))) (gNm 9))
  (sSeq (sFor (iEnum (aCons (vVar 2) aNil)) (gTp 2 (gsCons (gNm 5) (gsCons (gNm 6) gsNil))) (sIf (vBl (vB neO (vVar 5) (vB ixdO (vVar 4) (vC (D.int (Int.ofNat 0)))))) (sEx (vApp (vVar 8) (vLc (iZip (aCons (vVar 6) (aCons (vVar 7) aNil))) (gTp 2 (gsCons (gNm 10) (gsCons (gNm 11) gsNil))) tT (vB modO (vB subO (vVar 10) (vB mulO (vB mulO (vB ixdO (vVar 6) (vVar 3)) (vVar 9)) (vVar 11))) (vVar 0)) [10, 11]))) sNil))
  (sAsg (vVar 8) (gNm 2))))))))
  (sRet (vC (D.bl true)))))
def c24 : Sv := (sSeq (sAtt [(4, 2)] (vVar 0) (vVar 1))
  (sSeq (sAtt [(4, 3)] (vVar 0) (vLc (iSeq (vVar 2)) (gNm 4) tT (vLc (iSeq (vVar 4)) (gNm 3) tT (vTup (aCons (vVar 3) (aCons (vC (D.int (Int.ofNat 1))) aNil))) [3]) [4]))
  (sSeq (sAtt [(4, 1)] (vVar 0) (vLc (iRng1 (aCons (vCall bLen (aCons (vVar 2) aNil)) aNil)) (gNm 6) tT (vLc (iRng1 (aCons (vCall bLen (aCons (vVar 2) aNil)) aNil)) (gNm 5) tT (vTup (aCons (vCall bInt (aCons (vB eqO (vVar 6) (vVar 5)) aNil)) (aCons (vC (D.int (Int.ofNat 1))) aNil))) [5]) [6]))
  (sAtt [(4, 0)] (vVar 0) (vLstRg1 (vCall bLen (aCons (vVar 2) aNil)))))))
def c25 : Sv := (sSeq (sFor (iSeq (vLst (aStar (vAtt [(4, 1)] (vVar 0)) (aStar (vAtt [(4, 3)] (vVar 0)) aNil)))) (gNm 4) (sAsg (vFn 6 2 [] (aCons (vB ixdO (vVar 4) (vVar 1)) (aCons (vFn 8 2 [] (aCons (vVar 3) (aCons (vB ixdO (vVar 4) (vVar 2)) aNil))) aNil))) (gSb (vVar 4) (vVar 1))))
  (sFor (iEnum (aCons (vB ixdO (vAtt [(4, 3)] (vVar 0)) (vVar 2)) aNil)) (gTp 2 (gsCons (gNm 5) (gsCons (gNm 6) gsNil))) (sAsg (vFn 6 2 [] (aCons (vB ixdO (vB ixdO (vAtt [(4, 3)] (vVar 0)) (vVar 1)) (vVar 5)) (aCons (vFn 8 2 [] (aCons (vVar 3) (aCons (vVar 6) aNil))) aNil))) (gSb (vB ixdO (vAtt [(4, 3)] (vVar 0)) (vVar 1)) (vVar 5)))))
def c26 : Sv := (sSeq (sAsg (vLst aNil) (gNm 1))
  (sSeq (sFor (iSeq (vAtt [(4, 0)] (vVar 0))) (gNm 2) (sFor (iSeq (vAtt [(4, 0)] (vVar 0))) (gNm 3) (sSeq (sAsg (vFn 12 2 [] (aCons (vAtt [(4, 2)] (vVar 0)) (aCons (vB ixdO (vB ixdO (vAtt [(4, 3)] (vVar 0)) (vVar 2)) (vVar 3)) aNil))) (gNm 4))
  (sIf (vAndT (vBl (vB isNotO (vVar 4) (vC D.non))) (vBl (vB leO (vVar 2) (vVar 3)))) (sEx (vApp (vVar 1) (vTup (aCons (vVar 4) (aCons (vCall bInt (aCons (vB neO (vVar 2) (vVar 3)) aNil)) (aCons (vVar 2) (aCons (vVar 3) aNil))))))) sNil))))
  (sRet (vIf (vBl (vB neO (vVar 1) (vLst aNil))) (vSl (vCall bMinX (aCons (vVar 1) aNil)) (some (vC (D.int (Int.ofNat 2)))) none) (vC D.non)))))
def c27 : Sv := (sSeq (sAtt [(4, 0)] (vVar 0) (vLc (iSeq (vAtt [(4, 0)] (vVar 0))) (gNm 2) (vBl (vB neO (vVar 2) (vVar 1))) (vVar 2) [2]))
  (sFor (iSeq (vAtt [(4, 0)] (vVar 0))) (gNm 2) (sSeq (sAsg (vFn 9 2 [] (aCons (vB ixdO (vB ixdO (vAtt [(4, 3)] (vVar 0)) (vVar 1)) (vVar 2)) (aCons (vB ixdO (vB ixdO (vAtt [(4, 3)] (vVar 0)) (vVar 1)) (vVar 1)) aNil))) (gNm 3))
  (sEx (vMeth [(4, (25, 4, []))] (vVar 0) (aCons (vVar 2) (aCons (vVar 1) (aCons (vFn 7 2 [] (aCons (vC (D.tup [(D.int (Int.ofNat 0)), (D.int (Int.ofNat 1))])) (aCons (vVar 3) aNil))) aNil))))))))
def c28 : Sv := (sSeq (sWh (wNotN 1 (vMeth [(4, (26, 1, []))] (vVar 0) aNil)) (sSeq (sIf (vBl (vB neO (vB ixdO (vVar 1) (vC (D.int (Int.ofNat 0)))) (vB ixdO (vVar 1) (vC (D.int (Int.ofNat 1)))))) (sEx (vMeth [(4, (25, 4, []))] (vVar 0) (aCons (vB ixdO (vVar 1) (vC (D.int (Int.ofNat 0)))) (aCons (vB ixdO (vVar 1) (vC (D.int (Int.ofNat 1)))) (aCons (vTup (aCons (vC (D.int (Int.ofNat 1))) (aCons (vC (D.int (Int.ofNat 1))) aNil))) aNil))))) sNil)
  (sEx (vMeth [(4, (27, 2, []))] (vVar 0) (aCons (vB ixdO (vVar 1) (vC (D.int (Int.ofNat 0)))) aNil)))))
  (sRet (vTup (aCons (vAtt [(4, 1)] (vVar 0)) (aCons (vLc (iRng1 (aCons (vCall bLen (aCons (vAtt [(4, 3)] (vVar 0)) aNil)) aNil)) (gNm 2) tT (vB ixdO (vB ixdO (vAtt [(4, 3)] (vVar 0)) (vVar 2)) (vVar 2)) [2]) aNil)))))
def c29 : Sv := (sRet (vMeth [(4, (28, 1, []))] (vMk 4 4 24 3 [] (aCons (vVar 0) (aCons (vVar 1) aNil))) aNil))
def c30 : Sv := (sSeq (sAsg eBad (gNm 2))
  (sSeq sBad
  (sRet (vLc (iSeq (vVar 2)) (gNm 7) tT (vLc (iSeq (vVar 2)) (gNm 5) tT (vFn 10 1 [] (aCons (vLc (iSeq (vVar 2)) (gNm 4) tT (vFn 8 2 [] (aCons (vB ixdO (vB ixdO (vVar 1) (vVar 4)) (vVar 7)) (aCons (vB ixdO (vB ixdO (vVar 3) (vVar 4)) (vVar 5)) aNil))) [4]) aNil)) [5]) [7]))))
def c31 : Sv := (sSeq (sAsg vDNew (gNm 2))
  (sSeq (sFor (iSeq (vVar 1)) (gNm 3) (sSeq (sAsg (vFn 12 2 [] (aCons (vVar 0) (aCons (vVar 3) aNil))) (gNm 4))
  (sIf (vBl (vB isNotO (vVar 4) (vC D.non))) (sSeq (sAsg (vGet2 (vVar 2) (vVar 4) (vTup (aCons (vC (D.int (Int.ofNat 0))) (aCons (vC (D.int (Int.ofNat 1))) aNil)))) (gTp 2 (gsCons (gNm 5) (gsCons (gNm 6) gsNil))))
  (sAsg (vTup (aCons (vB addO (vVar 5) (vC (D.int (Int.ofNat 1)))) (aCons (vB mulO (vVar 6) (vFn 17 2 [] (aCons (vVar 0) (aCons (vFn 15 2 [] (aCons (vVar 0) (aCons (vVar 3) aNil))) aNil)))) aNil))) (gSb (vVar 2) (vVar 4)))) sNil)))
  (sRet (vCall bTuple (aCons (vLc (iSeq (vCall bSorted (aCons (vVar 2) aNil))) (gNm 4) tT (vTup (aCons (vVar 4) (aStar (vB ixdO (vVar 2) (vVar 4)) aNil))) [4]) aNil)))))
def c32 : Sv := (sSeq (sIf (vOrT (vNotT (vTru (vIsi .tup (vVar 0)))) (vNotT (vBl (vChain leO leO (vC (D.int (Int.ofNat 1))) (vCall bLen (aCons (vVar 0) aNil)) (vC (D.int (Int.ofNat 4))))))) (sRet (vC (D.bl false))) sNil)
  (sSeq (sIf (vNotT (vTru (vCall bAll (aCons (vLc (iSeq (vVar 0)) (gNm 1) tT (vAnd (vFn 3 1 [] (aCons (vVar 1) aNil)) (vB eqO (vCall bLen (aCons (vVar 1) aNil)) (vCall bLen (aCons (vVar 0) aNil)))) [1]) aNil)))) (sRet (vC (D.bl false))) sNil)
  (sRet (vCall bAll (aCons (vLc2 (iRng1 (aCons (vCall bLen (aCons (vVar 0) aNil)) aNil)) (gNm 2) tT (iRng1 (aCons (vVar 2) aNil)) (gNm 3) tT (vB eqO (vB ixdO (vB ixdO (vVar 0) (vVar 2)) (vVar 3)) (vB ixdO (vB ixdO (vVar 0) (vVar 3)) (vVar 2))) [2, 3] [3]) aNil)))))
def c33 : Sv := (sIf (vNotT (vTru (vFn 32 1 [] (aCons (vVar 0) aNil)))) (sRzT 1) sNil)
def c34 : Sv := (sSeq (sIf (vOrT (vNotT (vTru (vIsi .tup (vVar 1)))) (vBl (vB neO (vCall bLen (aCons (vVar 1) aNil)) (vVar 0)))) (sRet (vC (D.bl false))) sNil)
  (sSeq (sIf (vNotT (vTru (vCall bAll (aCons (vLc (iSeq (vVar 1)) (gNm 2) tT (vAnd (vIsi .tup (vVar 2)) (vB eqO (vCall bLen (aCons (vVar 2) aNil)) (vVar 0))) [2]) aNil)))) (sRet (vC (D.bl false))) sNil)
  (sRet (vCall bAll (aCons (vLc2 (iSeq (vVar 1)) (gNm 2) tT (iSeq (vVar 2)) (gNm 3) tT (vFn 19 1 [] (aCons (vVar 3) aNil)) [2, 3] [3]) aNil)))))
def c35 : Sv := (sSeq (sIf (vNotT (vTru (vFn 34 2 [] (aCons (vVar 1) (aCons (vVar 2) aNil))))) (sRet (vC (D.bl false))) sNil)
  (sRet (vFn 22 3 [] (aCons (vVar 0) (aCons (vLc (iSeq (vVar 2)) (gNm 4) tT (vLc (iSeq (vVar 4)) (gNm 3) tT (vFn 5 1 [] (aCons (vVar 3) aNil)) [3]) [4]) (aCons (vLst aNil) aNil))))))
def c36 : Sv := (sSeq (sFor (iEnum (aCons (vVar 0) aNil)) (gTp 2 (gsCons (gNm 2) (gsCons (gNm 3) gsNil))) (sIf (vBl (vB neO (vVar 3) (vLc (iRng1 (aCons (vCall bLen (aCons (vVar 3) aNil)) aNil)) (gNm 4) tT (vIf (vBl (vB eqO (vVar 2) (vVar 4))) (vB ixdO (vVar 1) (vVar 2)) (vC (D.tup [(D.int (Int.ofNat 0)), (D.int (Int.ofNat 1))]))) [4]))) (sRet (vC (D.bl false))) sNil))
  (sRet (vC (D.bl true))))
def c37 : Sv := (sRet (vFn 31 2 [] (aCons (vVar 0) (aCons (vB ixdO (vFn 29 2 [] (aCons (vVar 0) (aCons (vVar 1) aNil))) (vC (D.int (Int.ofNat 1)))) aNil))))
def c38 : Sv := (sSeq (sEx (vFn 21 1 [] (aCons (vVar 0) aNil)))
  (sSeq (sEx (vFn 33 1 [] (aCons (vVar 1) aNil)))
  (sSeq (sAsg (vFn 29 2 [] (aCons (vVar 0) (aCons (vVar 1) aNil))) (gTp 2 (gsCons (gNm 2) (gsCons (gNm 3) gsNil))))
  (sRet (vTup (aCons (vCall bTuple (aCons (vLc (iSeq (vVar 2)) (gNm 4) tT (vCall bTuple (aCons (vVar 4) aNil)) [4]) aNil)) (aCons (vCall bTuple (aCons (vVar 3) aNil)) aNil)))))))
def c39 : Sv := (sSeq (sEx (vFn 21 1 [] (aCons (vVar 0) aNil)))
  (sSeq (sEx (vFn 33 1 [] (aCons (vVar 1) aNil)))
  (sSeq (sAsg (vCall bLen (aCons (vVar 1) aNil)) (gNm 3))
  (sSeq (sIf (vOrT (vNotT (vTru (vIsi .tup (vVar 2)))) (vOrT (vBl (vB neO (vCall bLen (aCons (vVar 2) aNil)) (vC (D.int (Int.ofNat 2))))) (vNotT (vTru (vFn 35 3 [] (aCons (vVar 0) (aCons (vVar 3) (aCons (vB ixdO (vVar 2) (vC (D.int (Int.ofNat 0)))) aNil)))))))) (sRet (vC (D.bl false))) sNil)
  (sSeq (sIf (vOrT (vNotT (vTru (vIsi .tup (vB ixdO (vVar 2) (vC (D.int (Int.ofNat 1))))))) (vOrT (vBl (vB neO (vCall bLen (aCons (vB ixdO (vVar 2) (vC (D.int (Int.ofNat 1)))) aNil)) (vVar 3))) (vNotT (vTru (vCall bAll (aCons (vLc (iSeq (vB ixdO (vVar 2) (vC (D.int (Int.ofNat 1))))) (gNm 4) tT (vFn 19 1 [] (aCons (vVar 4) aNil)) [4]) aNil)))))) (sRet (vC (D.bl false))) sNil)
  (sSeq (sAsg (vLc (iSeq (vB ixdO (vVar 2) (vC (D.int (Int.ofNat 0))))) (gNm 7) tT (vLc (iSeq (vVar 7)) (gNm 6) tT (vFn 5 1 [] (aCons (vVar 6) aNil)) [6]) [7]) (gNm 5))
  (sSeq (sAsg (vLc (iSeq (vVar 1)) (gNm 7) tT (vLc (iSeq (vVar 7)) (gNm 6) tT (vFn 4 2 [] (aCons (vVar 6) (aCons (vC (D.int (Int.ofNat 1))) aNil))) [6]) [7]) (gNm 8))
  (sRet (vFn 36 2 [] (aCons (vFn 30 2 [] (aCons (vVar 8) (aCons (vVar 5) aNil))) (aCons (vLc (iSeq (vB ixdO (vVar 2) (vC (D.int (Int.ofNat 1))))) (gNm 6) tT (vFn 5 1 [] (aCons (vVar 6) aNil)) [6]) aNil)))))))))))
def c40 : Sv := (sSeq (sEx (vFn 21 1 [] (aCons (vVar 0) aNil)))
  (sSeq (sEx (vFn 33 1 [] (aCons (vVar 1) aNil)))
  (sRet (vFn 37 2 [] (aCons (vVar 0) (aCons (vVar 1) aNil))))))
def c41 : Sv := (sSeq (sEx (vFn 21 1 [] (aCons (vVar 0) aNil)))
  (sSeq (sEx (vFn 33 1 [] (aCons (vVar 1) aNil)))
  (sSeq (sEx (vFn 33 1 [] (aCons (vVar 2) aNil)))
  (sSeq (sIf (vBl (vB neO (vCall bLen (aCons (vVar 1) aNil)) (vCall bLen (aCons (vVar 2) aNil)))) (sRzT 2) sNil)
  (sRet (vB eqO (vFn 37 2 [] (aCons (vVar 0) (aCons (vVar 1) aNil))) (vFn 37 2 [] (aCons (vVar 0) (aCons (vVar 2) aNil)))))))))
def c42 : Sv := (sSeq (sAsg (vIf (vBl (vB ltO (vVar 1) (vCall bLen (aCons (vVar 0) aNil)))) (vCall bInt (aCons (vB ixdO (vVar 0) (vVar 1)) aNil)) (vB addO (vB mulO (vC (D.int (Int.ofNat 97))) (vVar 1)) (vC (D.int (Int.ofNat 59))))) (gNm 2))
  (sSeq (sAsg (vB modO (vCall bMax (aCons (vC (D.int (Int.ofNat 0))) (aCons (vB subO (vCall bAbs (aCons (vVar 2) aNil)) (vB powO (vC (D.int (Int.ofNat 10))) (vC (D.int (Int.ofNat 17))))) aNil))) (vB mulO (vB powO (vC (D.int (Int.ofNat 10))) (vC (D.int (Int.ofNat 56)))) (vB powO (vC (D.int (Int.ofNat 10))) (vC (D.int (Int.ofNat 60)))))) (gNm 3))
  (sRet (vLst (aCons (vVar 3) (aCons (vB addO (vB addO (vB addO (vB mulO (vB modO (vCall bAbs (aCons (vVar 2) aNil)) (vC (D.int (Int.ofNat 1152921504606846863)))) (vC (D.int (Int.ofNat 73)))) (vB mulO (vC (D.int (Int.ofNat 1013))) (vVar 1))) (vB mulO (vC (D.int (Int.ofNat 47))) (vCall bInt (aCons (vB ltO (vVar 2) (vC (D.int (Int.ofNat 0)))) aNil)))) (vC (D.int (Int.ofNat 37)))) (aCons (vC (D.int (Int.ofNat 0))) aNil)))))))
def c43 : Sv := (sSeq (sIf (vBl (vB gtO (vB ixdO (vVar 0) (vC (D.int (Int.ofNat 0)))) (vC (D.int (Int.ofNat 0))))) (sSeq (sAsg (vB modO (vCall bInt (aCons (vB ixdO (vVar 0) (vC (D.int (Int.ofNat 0)))) aNil)) (vVar 1)) (gNm 2))
  (sSeq (sAsg (vB fdivO (vB ixdO (vVar 0) (vC (D.int (Int.ofNat 0)))) (vVar 1)) (gSb (vVar 0) (vC (D.int (Int.ofNat 0)))))
  (sRet (vVar 2)))) sNil)
  (sSeq (sAsg (vB addO (vB ixdO (vVar 0) (vC (D.int (Int.ofNat 2)))) (vC (D.int (Int.ofNat 1)))) (gSb (vVar 0) (vC (D.int (Int.ofNat 2)))))
  (sSeq (sAsg (vB modO (vCall bInt (aCons (vB addO (vB ixdO (vVar 0) (vC (D.int (Int.ofNat 1)))) (vB mulO (vC (D.int (Int.ofNat 32452843))) (vB ixdO (vVar 0) (vC (D.int (Int.ofNat 2)))))) aNil)) (vC (D.int (Int.ofNat 2305843009213693613)))) (gNm 3))
  (sSeq (sAsg (vB addO (vB mulO (vB modO (vCall bInt (aCons (vB addO (vB mulO (vVar 3) (vVar 3)) (vB mulO (vC (D.int (Int.ofNat 109))) (vB ixdO (vVar 0) (vC (D.int (Int.ofNat 2)))))) aNil)) (vC (D.int (Int.ofNat 2305843009213693381)))) (vC (D.int (Int.ofNat 5915587)))) (vVar 3)) (gNm 4))
  (sRet (vB modO (vCall bInt (aCons (vB fdivO (vVar 4) (vC (D.int (Int.ofNat 65557)))) aNil)) (vVar 1)))))))
def c44 : Sv := (sRet (vB ixdO (vVar 1) (vFn 43 2 [] (aCons (vVar 0) (aCons (vCall bLen (aCons (vVar 1) aNil)) aNil)))))
def c45 : Sv := (sSeq (sTry sbT exT (sEx eBad) ((1, (uTup (uCons (uC (D.str [114, 101, 102, 117, 115, 101, 100])) (uCons (uC (D.str [116, 97, 98, 108, 101])) uNil)))) :: ((2, (uTup (uCons (uC (D.str [114, 101, 102, 117, 115, 101, 100])) (uCons (uC (D.str [111, 112, 101, 114, 97, 116, 105, 111, 110])) uNil)))) :: ((3, (uTup (uCons (uC (D.str [114, 101, 102, 117, 115, 101, 100])) (uCons (uC (D.str [110, 117, 109, 98, 101, 114])) (uCons (uRepr (uAtt (⟨#[103, 105, 118, 101, 110]⟩ : Str))) uNil))))) :: []))))
  (sRet (vTup (aCons (vC (D.str [102, 105, 110, 101])) aNil))))
def c46 : Sv := (sSeq (sAsg (vFn 44 2 [] (aCons (vVar 0) (aCons (vLst (aCons (vC D.non) (aCons (vC (D.int (Int.ofNat 0))) (aCons (vC (D.int (Int.ofNat 1))) (aCons (vC (D.int (Int.ofNat 2))) (aCons (vC (D.int (Int.ofNat 9))) (aCons (vC (D.int (Int.ofNat 17))) (aCons (vU negO (vC (D.int (Int.ofNat 3)))) (aCons (vC (D.bl true)) (aCons (vC (D.str [51])) (aCons (vTup (aCons (vC (D.int (Int.ofNat 3))) aNil)) (aCons (vB powO (vC (D.int (Int.ofNat 10))) (vC (D.int (Int.ofNat 60)))) aNil)))))))))))) aNil))) (gNm 1))
  (sSeq (sAsg (vLst (aCons (vC D.non) (aCons (vC (D.int (Int.ofNat 0))) (aCons (vTup aNil) (aCons (vTup (aCons (vTup aNil) aNil)) (aCons (vTup (aCons (vC (D.int (Int.ofNat 1))) aNil)) (aCons (vTup (aCons (vTup (aCons (vC (D.int (Int.ofNat 1))) (aCons (vC (D.int (Int.ofNat 2))) aNil))) aNil)) (aCons (vTup (aCons (vTup (aCons (vC (D.int (Int.ofNat 1))) (aCons (vC (D.int (Int.ofNat 2))) aNil))) (aCons (vTup (aCons (vC (D.int (Int.ofNat 3))) (aCons (vC (D.int (Int.ofNat 1))) aNil))) aNil))) (aCons (vTup (aCons (vTup (aCons (vC (D.int (Int.ofNat 1))) (aCons (vC (D.int (Int.ofNat 2))) aNil))) (aCons (vLst (aCons (vC (D.int (Int.ofNat 2))) (aCons (vC (D.int (Int.ofNat 1))) aNil))) aNil))) (aCons (vLst (aCons (vTup (aCons (vC (D.int (Int.ofNat 1))) aNil)) aNil)) (aCons (vTup (aCons (vTup (aCons (vC (D.bl true)) aNil)) aNil)) (aCons (vTup (aCons (vTup (aCons (vC (D.int (Int.ofNat 1))) (aCons (vC D.non) aNil))) (aCons (vTup (aCons (vC D.non) (aCons (vC (D.int (Int.ofNat 1))) aNil))) aNil))) (aCons (vC (D.str [49])) (aCons vDNew aNil)))))))))))))) (gNm 2))
  (sSeq (sAsg (vFn 44 2 [] (aCons (vVar 0) (aCons (vB addO (vVar 2) (vLst (aCons (vTup (aCons (vTup (aCons (vC (D.int (Int.ofNat 1))) (aCons (vC (D.int (Int.ofNat 0))) aNil))) (aCons (vTup (aCons (vC (D.int (Int.ofNat 0))) (aCons (vC (D.int (Int.ofNat 1))) (aCons (vC (D.int (Int.ofNat 0))) aNil)))) aNil))) (aCons (vTup (aCons (vTup (aCons (vC (D.int (Int.ofNat 1))) (aCons (vC (D.int (Int.ofNat 0))) aNil))) (aCons (vTup (aCons (vC (D.int (Int.ofNat 0))) aNil)) aNil))) (aCons (vTup (aCons (vTup (aCons (vB powO (vC (D.int (Int.ofNat 10))) (vC (D.int (Int.ofNat 60)))) aNil)) aNil)) (aCons (vTup (aCons (vTup (aCons (vTup (aCons (vC (D.int (Int.ofNat 1))) (aCons (vC (D.int (Int.ofNat 2))) aNil))) aNil)) aNil)) (aCons (vB mulO (vTup (aCons (vB mulO (vTup (aCons (vC (D.int (Int.ofNat 0))) aNil)) (vC (D.int (Int.ofNat 5)))) aNil)) (vC (D.int (Int.ofNat 5)))) (aCons (vTup (aCons (vTup (aCons (vC (D.int (Int.ofNat 1))) aNil)) (aCons (vTup (aCons (vC (D.int (Int.ofNat 1))) aNil)) aNil))) aNil)))))))) aNil))) (gNm 3))
  (sSeq (sAsg (vFn 44 2 [] (aCons (vVar 0) (aCons (vLst (aCons (vTup (aCons (vTup (aCons (vC (D.int (Int.ofNat 1))) aNil)) aNil)) (aCons (vTup (aCons (vTup (aCons (vC (D.int (Int.ofNat 0))) (aCons (vC (D.int (Int.ofNat 1))) aNil))) (aCons (vTup (aCons (vC (D.int (Int.ofNat 1))) (aCons (vC (D.int (Int.ofNat 0))) aNil))) aNil))) (aCons (vB mulO (vTup (aCons (vB mulO (vTup (aCons (vC (D.int (Int.ofNat 0))) aNil)) (vC (D.int (Int.ofNat 4)))) aNil)) (vC (D.int (Int.ofNat 4)))) (aCons (vTup (aCons (vTup (aCons (vB subO (vB powO (vC (D.int (Int.ofNat 10))) (vC (D.int (Int.ofNat 60)))) (vC (D.int (Int.ofNat 1)))) aNil)) aNil)) aNil))))) aNil))) (gNm 4))
  (sSeq (sAsg (vLst aNil) (gNm 5))
  (sSeq (sFor (iSeq (vTup (aCons (vC (D.fn 38)) (aCons (vC (D.fn 40)) aNil)))) (gNm 6) (sSeq (sEx (vApp (vVar 5) (vLam sbT exT 2 ((1, (uTup (uCons (uC (D.str [114, 101, 102, 117, 115, 101, 100])) (uCons (uC (D.str [116, 97, 98, 108, 101])) uNil)))) :: ((2, (uTup (uCons (uC (D.str [114, 101, 102, 117, 115, 101, 100])) (uCons (uC (D.str [111, 112, 101, 114, 97, 116, 105, 111, 110])) uNil)))) :: ((3, (uTup (uCons (uC (D.str [114, 101, 102, 117, 115, 101, 100])) (uCons (uC (D.str [110, 117, 109, 98, 101, 114])) (uCons (uRepr (uAtt (⟨#[103, 105, 118, 101, 110]⟩ : Str))) uNil))))) :: []))) (vTup (aCons (vC (D.str [102, 105, 110, 101])) aNil)) (vFnV 6 arT (aCons (vVar 1) (aCons (vVar 3) aNil))))))
  (sSeq (sEx (vApp (vVar 5) (vLam sbT exT 2 ((1, (uTup (uCons (uC (D.str [114, 101, 102, 117, 115, 101, 100])) (uCons (uC (D.str [116, 97, 98, 108, 101])) uNil)))) :: ((2, (uTup (uCons (uC (D.str [114, 101, 102, 117, 115, 101, 100])) (uCons (uC (D.str [111, 112, 101, 114, 97, 116, 105, 111, 110])) uNil)))) :: ((3, (uTup (uCons (uC (D.str [114, 101, 102, 117, 115, 101, 100])) (uCons (uC (D.str [110, 117, 109, 98, 101, 114])) (uCons (uRepr (uAtt (⟨#[103, 105, 118, 101, 110]⟩ : Str))) uNil))))) :: []))) (vTup (aCons (vC (D.str [102, 105, 110, 101])) aNil)) (vFnV 6 arT (aCons (vC (D.int (Int.ofNat 5))) (aCons (vVar 3) aNil))))))
  (sEx (vApp (vVar 5) (vLam sbT exT 2 ((1, (uTup (uCons (uC (D.str [114, 101, 102, 117, 115, 101, 100])) (uCons (uC (D.str [116, 97, 98, 108, 101])) uNil)))) :: ((2, (uTup (uCons (uC (D.str [114, 101, 102, 117, 115, 101, 100])) (uCons (uC (D.str [111, 112, 101, 114, 97, 116, 105, 111, 110])) uNil)))) :: ((3, (uTup (uCons (uC (D.str [114, 101, 102, 117, 115, 101, 100])) (uCons (uC (D.str [110, 117, 109, 98, 101, 114])) (uCons (uRepr (uAtt (⟨#[103, 105, 118, 101, 110]⟩ : Str))) uNil))))) :: []))) (vTup (aCons (vC (D.str [102, 105, 110, 101])) aNil)) (vFnV 6 arT (aCons (vC (D.int (Int.ofNat 5))) (aCons (vVar 4) aNil)))))))))
  (sSeq (sEx (vApp (vVar 5) (vLam sbT exT 2 ((1, (uTup (uCons (uC (D.str [114, 101, 102, 117, 115, 101, 100])) (uCons (uC (D.str [116, 97, 98, 108, 101])) uNil)))) :: ((2, (uTup (uCons (uC (D.str [114, 101, 102, 117, 115, 101, 100])) (uCons (uC (D.str [111, 112, 101, 114, 97, 116, 105, 111, 110])) uNil)))) :: ((3, (uTup (uCons (uC (D.str [114, 101, 102, 117, 115, 101, 100])) (uCons (uC (D.str [110, 117, 109, 98, 101, 114])) (uCons (uRepr (uAtt (⟨#[103, 105, 118, 101, 110]⟩ : Str))) uNil))))) :: []))) (vTup (aCons (vC (D.str [102, 105, 110, 101])) aNil)) (vFn 39 3 [] (aCons (vVar 1) (aCons (vVar 3) (aCons (vVar 3) aNil)))))))
  (sSeq (sEx (vApp (vVar 5) (vLam sbT exT 2 ((1, (uTup (uCons (uC (D.str [114, 101, 102, 117, 115, 101, 100])) (uCons (uC (D.str [116, 97, 98, 108, 101])) uNil)))) :: ((2, (uTup (uCons (uC (D.str [114, 101, 102, 117, 115, 101, 100])) (uCons (uC (D.str [111, 112, 101, 114, 97, 116, 105, 111, 110])) uNil)))) :: ((3, (uTup (uCons (uC (D.str [114, 101, 102, 117, 115, 101, 100])) (uCons (uC (D.str [110, 117, 109, 98, 101, 114])) (uCons (uRepr (uAtt (⟨#[103, 105, 118, 101, 110]⟩ : Str))) uNil))))) :: []))) (vTup (aCons (vC (D.str [102, 105, 110, 101])) aNil)) (vFn 39 3 [] (aCons (vC (D.int (Int.ofNat 3))) (aCons (vVar 3) (aCons (vVar 3) aNil)))))))
  (sSeq (sEx (vApp (vVar 5) (vLam sbT exT 2 ((1, (uTup (uCons (uC (D.str [114, 101, 102, 117, 115, 101, 100])) (uCons (uC (D.str [116, 97, 98, 108, 101])) uNil)))) :: ((2, (uTup (uCons (uC (D.str [114, 101, 102, 117, 115, 101, 100])) (uCons (uC (D.str [111, 112, 101, 114, 97, 116, 105, 111, 110])) uNil)))) :: ((3, (uTup (uCons (uC (D.str [114, 101, 102, 117, 115, 101, 100])) (uCons (uC (D.str [110, 117, 109, 98, 101, 114])) (uCons (uRepr (uAtt (⟨#[103, 105, 118, 101, 110]⟩ : Str))) uNil))))) :: []))) (vTup (aCons (vC (D.str [102, 105, 110, 101])) aNil)) (vFn 39 3 [] (aCons (vC (D.int (Int.ofNat 3))) (aCons (vVar 4) (aCons (vVar 3) aNil)))))))
  (sSeq (sEx (vApp (vVar 5) (vLam sbT exT 2 ((1, (uTup (uCons (uC (D.str [114, 101, 102, 117, 115, 101, 100])) (uCons (uC (D.str [116, 97, 98, 108, 101])) uNil)))) :: ((2, (uTup (uCons (uC (D.str [114, 101, 102, 117, 115, 101, 100])) (uCons (uC (D.str [111, 112, 101, 114, 97, 116, 105, 111, 110])) uNil)))) :: ((3, (uTup (uCons (uC (D.str [114, 101, 102, 117, 115, 101, 100])) (uCons (uC (D.str [110, 117, 109, 98, 101, 114])) (uCons (uRepr (uAtt (⟨#[103, 105, 118, 101, 110]⟩ : Str))) uNil))))) :: []))) (vTup (aCons (vC (D.str [102, 105, 110, 101])) aNil)) (vFn 41 3 [] (aCons (vVar 1) (aCons (vVar 3) (aCons (vVar 3) aNil)))))))
  (sSeq (sEx (vApp (vVar 5) (vLam sbT exT 2 ((1, (uTup (uCons (uC (D.str [114, 101, 102, 117, 115, 101, 100])) (uCons (uC (D.str [116, 97, 98, 108, 101])) uNil)))) :: ((2, (uTup (uCons (uC (D.str [114, 101, 102, 117, 115, 101, 100])) (uCons (uC (D.str [111, 112, 101, 114, 97, 116, 105, 111, 110])) uNil)))) :: ((3, (uTup (uCons (uC (D.str [114, 101, 102, 117, 115, 101, 100])) (uCons (uC (D.str [110, 117, 109, 98, 101, 114])) (uCons (uRepr (uAtt (⟨#[103, 105, 118, 101, 110]⟩ : Str))) uNil))))) :: []))) (vTup (aCons (vC (D.str [102, 105, 110, 101])) aNil)) (vFn 41 3 [] (aCons (vC (D.int (Int.ofNat 7))) (aCons (vVar 3) (aCons (vVar 4) aNil)))))))
  (sSeq (sEx (vApp (vVar 5) (vLam sbT exT 2 ((1, (uTup (uCons (uC (D.str [114, 101, 102, 117, 115, 101, 100])) (uCons (uC (D.str [116, 97, 98, 108, 101])) uNil)))) :: ((2, (uTup (uCons (uC (D.str [114, 101, 102, 117, 115, 101, 100])) (uCons (uC (D.str [111, 112, 101, 114, 97, 116, 105, 111, 110])) uNil)))) :: ((3, (uTup (uCons (uC (D.str [114, 101, 102, 117, 115, 101, 100])) (uCons (uC (D.str [110, 117, 109, 98, 101, 114])) (uCons (uRepr (uAtt (⟨#[103, 105, 118, 101, 110]⟩ : Str))) uNil))))) :: []))) (vTup (aCons (vC (D.str [102, 105, 110, 101])) aNil)) (vFn 41 3 [] (aCons (vC (D.int (Int.ofNat 7))) (aCons (vVar 4) (aCons (vVar 3) aNil)))))))
  (sSeq (sEx (vApp (vVar 5) (vLam sbT exT 2 ((1, (uTup (uCons (uC (D.str [114, 101, 102, 117, 115, 101, 100])) (uCons (uC (D.str [116, 97, 98, 108, 101])) uNil)))) :: ((2, (uTup (uCons (uC (D.str [114, 101, 102, 117, 115, 101, 100])) (uCons (uC (D.str [111, 112, 101, 114, 97, 116, 105, 111, 110])) uNil)))) :: ((3, (uTup (uCons (uC (D.str [114, 101, 102, 117, 115, 101, 100])) (uCons (uC (D.str [110, 117, 109, 98, 101, 114])) (uCons (uRepr (uAtt (⟨#[103, 105, 118, 101, 110]⟩ : Str))) uNil))))) :: []))) (vTup (aCons (vC (D.str [102, 105, 110, 101])) aNil)) (vFn 41 3 [] (aCons (vC (D.int (Int.ofNat 7))) (aCons (vVar 4) (aCons (vVar 4) aNil)))))))
  (sSeq (sPar3 7 8 9 (aCons (vTup (aCons (vC (D.str [114, 101, 102, 117, 115, 101, 100])) (aCons (vC (D.str [110, 117, 109, 98, 101, 114])) (aCons (vCall bRepr (aCons (vVar 1) aNil)) aNil)))) (aCons (vTup (aCons (vC (D.str [114, 101, 102, 117, 115, 101, 100])) (aCons (vC (D.str [116, 97, 98, 108, 101])) aNil))) (aCons (vTup (aCons (vC (D.str [102, 105, 110, 101])) aNil)) aNil))))
  (sSeq (sAsg (vB addO (vB mulO (vLst (aCons (vVar 7) (aCons (vVar 8) (aCons (vVar 9) aNil)))) (vC (D.int (Int.ofNat 3)))) (vLst (aCons (vVar 7) (aCons (vVar 8) (aCons (vVar 8) (aCons (vVar 9) aNil)))))) (gNm 10))
  (sRet (vAnd (vB eqO (vVar 5) (vVar 10)) (vNot (vFn 39 3 [] (aCons (vC (D.int (Int.ofNat 3))) (aCons (vVar 4) (aCons (vVar 3) aNil))))))))))))))))))))))
def c47 : Sv := (sSeq (sFor (iRng1 (aCons (vCall bMax (aCons (vC (D.int (Int.ofNat 1))) (aCons (vCall bMinX (aCons (vC (D.int (Int.ofNat 4))) (aCons (vCall bLen (aCons (vVar 0) aNil)) aNil))) aNil))) aNil)) (gNm 1) (sSeq (sAsg (vFn 42 2 [] (aCons (vVar 0) (aCons (vVar 1) aNil))) (gNm 2))
  (sIf (vOrT (vNotT (vTru (vFn 46 1 [] (aCons (vVar 2) aNil)))) (vNotT (vTru (vFn 46 1 [] (aCons (vVar 2) aNil))))) (sRet (vC (D.bl false))) sNil)))
  (sSeq (sAsg (vTup (aCons (vTup (aCons (vTup (aCons (vC (D.int (Int.ofNat 1))) aNil)) aNil)) (aCons (vTup (aCons (vTup (aCons (vC (D.int (Int.ofNat 1))) (aCons (vC (D.int (Int.ofNat 0))) aNil))) (aCons (vTup (aCons (vC (D.int (Int.ofNat 0))) (aCons (vC (D.int (Int.ofNat 1))) aNil))) aNil))) aNil))) (gTp 2 (gsCons (gNm 3) (gsCons (gNm 4) gsNil))))
  (sSeq (sAsg (vLst (aCons (vLam sbT exT 2 ((1, (uTup (uCons (uC (D.str [114, 101, 102, 117, 115, 101, 100])) (uCons (uC (D.str [116, 97, 98, 108, 101])) uNil)))) :: ((2, (uTup (uCons (uC (D.str [114, 101, 102, 117, 115, 101, 100])) (uCons (uC (D.str [111, 112, 101, 114, 97, 116, 105, 111, 110])) uNil)))) :: ((3, (uTup (uCons (uC (D.str [114, 101, 102, 117, 115, 101, 100])) (uCons (uC (D.str [110, 117, 109, 98, 101, 114])) (uCons (uRepr (uAtt (⟨#[103, 105, 118, 101, 110]⟩ : Str))) uNil))))) :: []))) (vTup (aCons (vC (D.str [102, 105, 110, 101])) aNil)) (vFn 41 3 [] (aCons (vC (D.int (Int.ofNat 3))) (aCons (vVar 3) (aCons (vVar 4) aNil))))) aNil)) (gNm 5))
  (sSeq (sEx (vApp (vVar 5) (vLam sbT exT 2 ((1, (uTup (uCons (uC (D.str [114, 101, 102, 117, 115, 101, 100])) (uCons (uC (D.str [116, 97, 98, 108, 101])) uNil)))) :: ((2, (uTup (uCons (uC (D.str [114, 101, 102, 117, 115, 101, 100])) (uCons (uC (D.str [111, 112, 101, 114, 97, 116, 105, 111, 110])) uNil)))) :: ((3, (uTup (uCons (uC (D.str [114, 101, 102, 117, 115, 101, 100])) (uCons (uC (D.str [110, 117, 109, 98, 101, 114])) (uCons (uRepr (uAtt (⟨#[103, 105, 118, 101, 110]⟩ : Str))) uNil))))) :: []))) (vTup (aCons (vC (D.str [102, 105, 110, 101])) aNil)) (vFn 41 3 [] (aCons (vC (D.int (Int.ofNat 2))) (aCons (vVar 3) (aCons (vVar 4) aNil)))))))
  (sSeq (sEx (vApp (vVar 5) (vLam sbT exT 2 ((1, (uTup (uCons (uC (D.str [114, 101, 102, 117, 115, 101, 100])) (uCons (uC (D.str [116, 97, 98, 108, 101])) uNil)))) :: ((2, (uTup (uCons (uC (D.str [114, 101, 102, 117, 115, 101, 100])) (uCons (uC (D.str [111, 112, 101, 114, 97, 116, 105, 111, 110])) uNil)))) :: ((3, (uTup (uCons (uC (D.str [114, 101, 102, 117, 115, 101, 100])) (uCons (uC (D.str [110, 117, 109, 98, 101, 114])) (uCons (uRepr (uAtt (⟨#[103, 105, 118, 101, 110]⟩ : Str))) uNil))))) :: []))) (vTup (aCons (vC (D.str [102, 105, 110, 101])) aNil)) (vFn 41 3 [] (aCons (vC (D.int (Int.ofNat 3))) (aCons (vVar 4) (aCons (vVar 3) aNil)))))))
  (sSeq (sEx (vApp (vVar 5) (vLam sbT exT 2 ((1, (uTup (uCons (uC (D.str [114, 101, 102, 117, 115, 101, 100])) (uCons (uC (D.str [116, 97, 98, 108, 101])) uNil)))) :: ((2, (uTup (uCons (uC (D.str [114, 101, 102, 117, 115, 101, 100])) (uCons (uC (D.str [111, 112, 101, 114, 97, 116, 105, 111, 110])) uNil)))) :: ((3, (uTup (uCons (uC (D.str [114, 101, 102, 117, 115, 101, 100])) (uCons (uC (D.str [110, 117, 109, 98, 101, 114])) (uCons (uRepr (uAtt (⟨#[103, 105, 118, 101, 110]⟩ : Str))) uNil))))) :: []))) (vTup (aCons (vC (D.str [102, 105, 110, 101])) aNil)) (vFn 41 3 [] (aCons (vC (D.int (Int.ofNat 3))) (aCons (vVar 4) (aCons (vVar 4) aNil)))))))
  (sSeq (sAsg (vLst (aCons (vTup (aCons (vC (D.str [114, 101, 102, 117, 115, 101, 100])) (aCons (vC (D.str [111, 112, 101, 114, 97, 116, 105, 111, 110])) aNil))) (aCons (vTup (aCons (vC (D.str [114, 101, 102, 117, 115, 101, 100])) (aCons (vC (D.str [110, 117, 109, 98, 101, 114])) (aCons (vC (D.str [50])) aNil)))) (aCons (vTup (aCons (vC (D.str [114, 101, 102, 117, 115, 101, 100])) (aCons (vC (D.str [111, 112, 101, 114, 97, 116, 105, 111, 110])) aNil))) (aCons (vTup (aCons (vC (D.str [102, 105, 110, 101])) aNil)) aNil))))) (gNm 6))
  (sRet (vAnd (vB eqO (vVar 5) (vVar 6)) (vB eqO (vC (D.int (Int.ofNat 4))) (vC (D.int (Int.ofNat 4)))))))))))))
def codes : List Cd := [⟨1, 1, c0⟩, ⟨1, 1, c1⟩, ⟨3, 3, c2⟩, ⟨1, 2, c3⟩, ⟨2, 3, c4⟩, ⟨1, 1, c5⟩, ⟨2, 2, c6⟩, ⟨2, 2, c7⟩, ⟨2, 2, c8⟩, ⟨2, 2, c9⟩, ⟨1, 3, c10⟩, ⟨2, 4, c11⟩, ⟨2, 2, c12⟩, ⟨2, 5, c13⟩, ⟨2, 7, c14⟩, ⟨2, 4, c15⟩, ⟨3, 4, c16⟩, ⟨2, 2, c17⟩, ⟨1, 2, c18⟩, ⟨1, 1, c19⟩, ⟨1, 1, c20⟩, ⟨1, 1, c21⟩, ⟨3, 6, c22⟩, ⟨2, 12, c23⟩, ⟨3, 7, c24⟩, ⟨4, 7, c25⟩, ⟨1, 5, c26⟩, ⟨2, 4, c27⟩, ⟨1, 3, c28⟩, ⟨2, 2, c29⟩, ⟨2, 8, c30⟩, ⟨2, 7, c31⟩, ⟨1, 4, c32⟩, ⟨1, 1, c33⟩, ⟨2, 4, c34⟩, ⟨3, 5, c35⟩, ⟨2, 5, c36⟩, ⟨2, 2, c37⟩, ⟨2, 5, c38⟩, ⟨3, 9, c39⟩, ⟨2, 2, c40⟩, ⟨3, 3, c41⟩, ⟨2, 4, c42⟩, ⟨2, 5, c43⟩, ⟨2, 2, c44⟩, ⟨1, 2, c45⟩, ⟨1, 11, c46⟩, ⟨1, 7, c47⟩]
def qe1 : Ev := (vLst (aCons (vC D.non) (aCons (vC (D.int (Int.ofNat 0))) (aCons (vC (D.int (Int.ofNat 1))) (aCons (vC (D.int (Int.ofNat 2))) (aCons (vC (D.int (Int.ofNat 9))) (aCons (vC (D.int (Int.ofNat 17))) (aCons (vU negO (vC (D.int (Int.ofNat 3)))) (aCons (vC (D.bl true)) (aCons (vC (D.str [51])) (aCons (vTup (aCons (vC (D.int (Int.ofNat 3))) aNil)) (aCons (vB powO (vC (D.int (Int.ofNat 10))) (vC (D.int (Int.ofNat 60)))) aNil))))))))))))
def qT2 (i0 : Nat) : D := ([D.non, (D.int (Int.ofNat 0)), (D.int (Int.ofNat 1)), (D.int (Int.ofNat 2)), (D.int (Int.ofNat 9)), (D.int (Int.ofNat 17)), (D.int (Int.negSucc 2)), (D.bl true), (D.str [51]), (D.tup [(D.int (Int.ofNat 3))]), (D.int (Int.ofNat 1000000000000000000000000000000000000000000000000000000000000))]).getD i0 D.non
def qs4 : Sv := (sAsg (vLst (aCons (vC D.non) (aCons (vC (D.int (Int.ofNat 0))) (aCons (vTup aNil) (aCons (vTup (aCons (vTup aNil) aNil)) (aCons (vTup (aCons (vC (D.int (Int.ofNat 1))) aNil)) (aCons (vTup (aCons (vTup (aCons (vC (D.int (Int.ofNat 1))) (aCons (vC (D.int (Int.ofNat 2))) aNil))) aNil)) (aCons (vTup (aCons (vTup (aCons (vC (D.int (Int.ofNat 1))) (aCons (vC (D.int (Int.ofNat 2))) aNil))) (aCons (vTup (aCons (vC (D.int (Int.ofNat 3))) (aCons (vC (D.int (Int.ofNat 1))) aNil))) aNil))) (aCons (vTup (aCons (vTup (aCons (vC (D.int (Int.ofNat 1))) (aCons (vC (D.int (Int.ofNat 2))) aNil))) (aCons (vLst (aCons (vC (D.int (Int.ofNat 2))) (aCons (vC (D.int (Int.ofNat 1))) aNil))) aNil))) (aCons (vLst (aCons (vTup (aCons (vC (D.int (Int.ofNat 1))) aNil)) aNil)) (aCons (vTup (aCons (vTup (aCons (vC (D.bl true)) aNil)) aNil)) (aCons (vTup (aCons (vTup (aCons (vC (D.int (Int.ofNat 1))) (aCons (vC D.non) aNil))) (aCons (vTup (aCons (vC D.non) (aCons (vC (D.int (Int.ofNat 1))) aNil))) aNil))) (aCons (vC (D.str [49])) (aCons vDNew aNil)))))))))))))) (gNm 2))
def qe6 : Ev := (vB addO (vVar 2) (vLst (aCons (vTup (aCons (vTup (aCons (vC (D.int (Int.ofNat 1))) (aCons (vC (D.int (Int.ofNat 0))) aNil))) (aCons (vTup (aCons (vC (D.int (Int.ofNat 0))) (aCons (vC (D.int (Int.ofNat 1))) (aCons (vC (D.int (Int.ofNat 0))) aNil)))) aNil))) (aCons (vTup (aCons (vTup (aCons (vC (D.int (Int.ofNat 1))) (aCons (vC (D.int (Int.ofNat 0))) aNil))) (aCons (vTup (aCons (vC (D.int (Int.ofNat 0))) aNil)) aNil))) (aCons (vTup (aCons (vTup (aCons (vB powO (vC (D.int (Int.ofNat 10))) (vC (D.int (Int.ofNat 60)))) aNil)) aNil)) (aCons (vTup (aCons (vTup (aCons (vTup (aCons (vC (D.int (Int.ofNat 1))) (aCons (vC (D.int (Int.ofNat 2))) aNil))) aNil)) aNil)) (aCons (vB mulO (vTup (aCons (vB mulO (vTup (aCons (vC (D.int (Int.ofNat 0))) aNil)) (vC (D.int (Int.ofNat 5)))) aNil)) (vC (D.int (Int.ofNat 5)))) (aCons (vTup (aCons (vTup (aCons (vC (D.int (Int.ofNat 1))) aNil)) (aCons (vTup (aCons (vC (D.int (Int.ofNat 1))) aNil)) aNil))) aNil))))))))
def qT7 (i0 : Nat) : D := ([D.non, (D.int (Int.ofNat 0)), (D.tup []), (D.tup [(D.tup [])]), (D.tup [(D.int (Int.ofNat 1))]), (D.tup [(D.tup [(D.int (Int.ofNat 1)), (D.int (Int.ofNat 2))])]), (D.tup [(D.tup [(D.int (Int.ofNat 1)), (D.int (Int.ofNat 2))]), (D.tup [(D.int (Int.ofNat 3)), (D.int (Int.ofNat 1))])]), (D.tup [(D.tup [(D.int (Int.ofNat 1)), (D.int (Int.ofNat 2))]), (D.obj 2)]), (D.obj 3), (D.tup [(D.tup [(D.bl true)])]), (D.tup [(D.tup [(D.int (Int.ofNat 1)), D.non]), (D.tup [D.non, (D.int (Int.ofNat 1))])]), (D.str [49]), (D.obj 4), (D.tup [(D.tup [(D.int (Int.ofNat 1)), (D.int (Int.ofNat 0))]), (D.tup [(D.int (Int.ofNat 0)), (D.int (Int.ofNat 1)), (D.int (Int.ofNat 0))])]), (D.tup [(D.tup [(D.int (Int.ofNat 1)), (D.int (Int.ofNat 0))]), (D.tup [(D.int (Int.ofNat 0))])]), (D.tup [(D.tup [(D.int (Int.ofNat 1000000000000000000000000000000000000000000000000000000000000))])]), (D.tup [(D.tup [(D.tup [(D.int (Int.ofNat 1)), (D.int (Int.ofNat 2))])])]), (D.tup [(D.tup [(D.int (Int.ofNat 0)), (D.int (Int.ofNat 0)), (D.int (Int.ofNat 0)), (D.int (Int.ofNat 0)), (D.int (Int.ofNat 0))]), (D.tup [(D.int (Int.ofNat 0)), (D.int (Int.ofNat 0)), (D.int (Int.ofNat 0)), (D.int (Int.ofNat 0)), (D.int (Int.ofNat 0))]), (D.tup [(D.int (Int.ofNat 0)), (D.int (Int.ofNat 0)), (D.int (Int.ofNat 0)), (D.int (Int.ofNat 0)), (D.int (Int.ofNat 0))]), (D.tup [(D.int (Int.ofNat 0)), (D.int (Int.ofNat 0)), (D.int (Int.ofNat 0)), (D.int (Int.ofNat 0)), (D.int (Int.ofNat 0))]), (D.tup [(D.int (Int.ofNat 0)), (D.int (Int.ofNat 0)), (D.int (Int.ofNat 0)), (D.int (Int.ofNat 0)), (D.int (Int.ofNat 0))])]), (D.tup [(D.tup [(D.int (Int.ofNat 1))]), (D.tup [(D.int (Int.ofNat 1))])])]).getD i0 D.non
def qe9 : Ev := (vLst (aCons (vTup (aCons (vTup (aCons (vC (D.int (Int.ofNat 1))) aNil)) aNil)) (aCons (vTup (aCons (vTup (aCons (vC (D.int (Int.ofNat 0))) (aCons (vC (D.int (Int.ofNat 1))) aNil))) (aCons (vTup (aCons (vC (D.int (Int.ofNat 1))) (aCons (vC (D.int (Int.ofNat 0))) aNil))) aNil))) (aCons (vB mulO (vTup (aCons (vB mulO (vTup (aCons (vC (D.int (Int.ofNat 0))) aNil)) (vC (D.int (Int.ofNat 4)))) aNil)) (vC (D.int (Int.ofNat 4)))) (aCons (vTup (aCons (vTup (aCons (vB subO (vB powO (vC (D.int (Int.ofNat 10))) (vC (D.int (Int.ofNat 60)))) (vC (D.int (Int.ofNat 1)))) aNil)) aNil)) aNil)))))
def qT10 (i0 : Nat) : D := ([(D.tup [(D.tup [(D.int (Int.ofNat 1))])]), (D.tup [(D.tup [(D.int (Int.ofNat 0)), (D.int (Int.ofNat 1))]), (D.tup [(D.int (Int.ofNat 1)), (D.int (Int.ofNat 0))])]), (D.tup [(D.tup [(D.int (Int.ofNat 0)), (D.int (Int.ofNat 0)), (D.int (Int.ofNat 0)), (D.int (Int.ofNat 0))]), (D.tup [(D.int (Int.ofNat 0)), (D.int (Int.ofNat 0)), (D.int (Int.ofNat 0)), (D.int (Int.ofNat 0))]), (D.tup [(D.int (Int.ofNat 0)), (D.int (Int.ofNat 0)), (D.int (Int.ofNat 0)), (D.int (Int.ofNat 0))]), (D.tup [(D.int (Int.ofNat 0)), (D.int (Int.ofNat 0)), (D.int (Int.ofNat 0)), (D.int (Int.ofNat 0))])]), (D.tup [(D.tup [(D.int (Int.ofNat 999999999999999999999999999999999999999999999999999999999999))])])]).getD i0 D.non
def qs12 : Sv := (sAsg (vLst aNil) (gNm 5))
def qs14 : Sv := (sEx (vApp (vVar 5) (vLam sbT exT 2 ((1, (uTup (uCons (uC (D.str [114, 101, 102, 117, 115, 101, 100])) (uCons (uC (D.str [116, 97, 98, 108, 101])) uNil)))) :: ((2, (uTup (uCons (uC (D.str [114, 101, 102, 117, 115, 101, 100])) (uCons (uC (D.str [111, 112, 101, 114, 97, 116, 105, 111, 110])) uNil)))) :: ((3, (uTup (uCons (uC (D.str [114, 101, 102, 117, 115, 101, 100])) (uCons (uC (D.str [110, 117, 109, 98, 101, 114])) (uCons (uRepr (uAtt (⟨#[103, 105, 118, 101, 110]⟩ : Str))) uNil))))) :: []))) (vTup (aCons (vC (D.str [102, 105, 110, 101])) aNil)) (vFnV 6 arT (aCons (vVar 1) (aCons (vVar 3) aNil))))))
def qT15 (i0 : Nat) : D := ([(D.tup [(D.str [114, 101, 102, 117, 115, 101, 100]), (D.str [110, 117, 109, 98, 101, 114]), (D.str [78, 111, 110, 101])]), (D.tup [(D.str [114, 101, 102, 117, 115, 101, 100]), (D.str [110, 117, 109, 98, 101, 114]), (D.str [48])]), (D.tup [(D.str [114, 101, 102, 117, 115, 101, 100]), (D.str [110, 117, 109, 98, 101, 114]), (D.str [49])]), (D.tup [(D.str [114, 101, 102, 117, 115, 101, 100]), (D.str [110, 117, 109, 98, 101, 114]), (D.str [50])]), (D.tup [(D.str [114, 101, 102, 117, 115, 101, 100]), (D.str [110, 117, 109, 98, 101, 114]), (D.str [57])]), (D.tup [(D.str [114, 101, 102, 117, 115, 101, 100]), (D.str [110, 117, 109, 98, 101, 114]), (D.str [49, 55])]), (D.tup [(D.str [114, 101, 102, 117, 115, 101, 100]), (D.str [110, 117, 109, 98, 101, 114]), (D.str [45, 51])]), (D.tup [(D.str [114, 101, 102, 117, 115, 101, 100]), (D.str [110, 117, 109, 98, 101, 114]), (D.str [84, 114, 117, 101])]), (D.tup [(D.str [114, 101, 102, 117, 115, 101, 100]), (D.str [110, 117, 109, 98, 101, 114]), (D.str [39, 51, 39])]), (D.tup [(D.str [114, 101, 102, 117, 115, 101, 100]), (D.str [110, 117, 109, 98, 101, 114]), (D.str [40, 51, 44, 41])]), (D.tup [(D.str [114, 101, 102, 117, 115, 101, 100]), (D.str [110, 117, 109, 98, 101, 114]), (D.str [49, 48, 48, 48, 48, 48, 48, 48, 48, 48, 48, 48, 48, 48, 48, 48, 48, 48, 48, 48, 48, 48, 48, 48, 48, 48, 48, 48, 48, 48, 48, 48, 48, 48, 48, 48, 48, 48, 48, 48, 48, 48, 48, 48, 48, 48, 48, 48, 48, 48, 48, 48, 48, 48, 48, 48, 48, 48, 48, 48, 48])])]).getD i0 D.non
def qs17 : Sv := (sEx (vApp (vVar 5) (vLam sbT exT 2 ((1, (uTup (uCons (uC (D.str [114, 101, 102, 117, 115, 101, 100])) (uCons (uC (D.str [116, 97, 98, 108, 101])) uNil)))) :: ((2, (uTup (uCons (uC (D.str [114, 101, 102, 117, 115, 101, 100])) (uCons (uC (D.str [111, 112, 101, 114, 97, 116, 105, 111, 110])) uNil)))) :: ((3, (uTup (uCons (uC (D.str [114, 101, 102, 117, 115, 101, 100])) (uCons (uC (D.str [110, 117, 109, 98, 101, 114])) (uCons (uRepr (uAtt (⟨#[103, 105, 118, 101, 110]⟩ : Str))) uNil))))) :: []))) (vTup (aCons (vC (D.str [102, 105, 110, 101])) aNil)) (vFnV 6 arT (aCons (vC (D.int (Int.ofNat 5))) (aCons (vVar 3) aNil))))))
def qs19 : Sv := (sEx (vApp (vVar 5) (vLam sbT exT 2 ((1, (uTup (uCons (uC (D.str [114, 101, 102, 117, 115, 101, 100])) (uCons (uC (D.str [116, 97, 98, 108, 101])) uNil)))) :: ((2, (uTup (uCons (uC (D.str [114, 101, 102, 117, 115, 101, 100])) (uCons (uC (D.str [111, 112, 101, 114, 97, 116, 105, 111, 110])) uNil)))) :: ((3, (uTup (uCons (uC (D.str [114, 101, 102, 117, 115, 101, 100])) (uCons (uC (D.str [110, 117, 109, 98, 101, 114])) (uCons (uRepr (uAtt (⟨#[103, 105, 118, 101, 110]⟩ : Str))) uNil))))) :: []))) (vTup (aCons (vC (D.str [102, 105, 110, 101])) aNil)) (vFnV 6 arT (aCons (vC (D.int (Int.ofNat 5))) (aCons (vVar 4) aNil))))))
def qs21 : Sv := (sEx (vApp (vVar 5) (vLam sbT exT 2 ((1, (uTup (uCons (uC (D.str [114, 101, 102, 117, 115, 101, 100])) (uCons (uC (D.str [116, 97, 98, 108, 101])) uNil)))) :: ((2, (uTup (uCons (uC (D.str [114, 101, 102, 117, 115, 101, 100])) (uCons (uC (D.str [111, 112, 101, 114, 97, 116, 105, 111, 110])) uNil)))) :: ((3, (uTup (uCons (uC (D.str [114, 101, 102, 117, 115, 101, 100])) (uCons (uC (D.str [110, 117, 109, 98, 101, 114])) (uCons (uRepr (uAtt (⟨#[103, 105, 118, 101, 110]⟩ : Str))) uNil))))) :: []))) (vTup (aCons (vC (D.str [102, 105, 110, 101])) aNil)) (vFnV 6 arT (aCons (vVar 1) (aCons (vVar 3) aNil))))))
def qT22 (i0 : Nat) : D := ([(D.tup [(D.str [114, 101, 102, 117, 115, 101, 100]), (D.str [110, 117, 109, 98, 101, 114]), (D.str [78, 111, 110, 101])]), (D.tup [(D.str [114, 101, 102, 117, 115, 101, 100]), (D.str [110, 117, 109, 98, 101, 114]), (D.str [48])]), (D.tup [(D.str [114, 101, 102, 117, 115, 101, 100]), (D.str [110, 117, 109, 98, 101, 114]), (D.str [49])]), (D.tup [(D.str [114, 101, 102, 117, 115, 101, 100]), (D.str [110, 117, 109, 98, 101, 114]), (D.str [50])]), (D.tup [(D.str [114, 101, 102, 117, 115, 101, 100]), (D.str [110, 117, 109, 98, 101, 114]), (D.str [57])]), (D.tup [(D.str [114, 101, 102, 117, 115, 101, 100]), (D.str [110, 117, 109, 98, 101, 114]), (D.str [49, 55])]), (D.tup [(D.str [114, 101, 102, 117, 115, 101, 100]), (D.str [110, 117, 109, 98, 101, 114]), (D.str [45, 51])]), (D.tup [(D.str [114, 101, 102, 117, 115, 101, 100]), (D.str [110, 117, 109, 98, 101, 114]), (D.str [84, 114, 117, 101])]), (D.tup [(D.str [114, 101, 102, 117, 115, 101, 100]), (D.str [110, 117, 109, 98, 101, 114]), (D.str [39, 51, 39])]), (D.tup [(D.str [114, 101, 102, 117, 115, 101, 100]), (D.str [110, 117, 109, 98, 101, 114]), (D.str [40, 51, 44, 41])]), (D.tup [(D.str [114, 101, 102, 117, 115, 101, 100]), (D.str [110, 117, 109, 98, 101, 114]), (D.str [49, 48, 48, 48, 48, 48, 48, 48, 48, 48, 48, 48, 48, 48, 48, 48, 48, 48, 48, 48, 48, 48, 48, 48, 48, 48, 48, 48, 48, 48, 48, 48, 48, 48, 48, 48, 48, 48, 48, 48, 48, 48, 48, 48, 48, 48, 48, 48, 48, 48, 48, 48, 48, 48, 48, 48, 48, 48, 48, 48, 48])])]).getD i0 D.non
def qs24 : Sv := (sEx (vApp (vVar 5) (vLam sbT exT 2 ((1, (uTup (uCons (uC (D.str [114, 101, 102, 117, 115, 101, 100])) (uCons (uC (D.str [116, 97, 98, 108, 101])) uNil)))) :: ((2, (uTup (uCons (uC (D.str [114, 101, 102, 117, 115, 101, 100])) (uCons (uC (D.str [111, 112, 101, 114, 97, 116, 105, 111, 110])) uNil)))) :: ((3, (uTup (uCons (uC (D.str [114, 101, 102, 117, 115, 101, 100])) (uCons (uC (D.str [110, 117, 109, 98, 101, 114])) (uCons (uRepr (uAtt (⟨#[103, 105, 118, 101, 110]⟩ : Str))) uNil))))) :: []))) (vTup (aCons (vC (D.str [102, 105, 110, 101])) aNil)) (vFnV 6 arT (aCons (vC (D.int (Int.ofNat 5))) (aCons (vVar 3) aNil))))))
def qs26 : Sv := (sEx (vApp (vVar 5) (vLam sbT exT 2 ((1, (uTup (uCons (uC (D.str [114, 101, 102, 117, 115, 101, 100])) (uCons (uC (D.str [116, 97, 98, 108, 101])) uNil)))) :: ((2, (uTup (uCons (uC (D.str [114, 101, 102, 117, 115, 101, 100])) (uCons (uC (D.str [111, 112, 101, 114, 97, 116, 105, 111, 110])) uNil)))) :: ((3, (uTup (uCons (uC (D.str [114, 101, 102, 117, 115, 101, 100])) (uCons (uC (D.str [110, 117, 109, 98, 101, 114])) (uCons (uRepr (uAtt (⟨#[103, 105, 118, 101, 110]⟩ : Str))) uNil))))) :: []))) (vTup (aCons (vC (D.str [102, 105, 110, 101])) aNil)) (vFnV 6 arT (aCons (vC (D.int (Int.ofNat 5))) (aCons (vVar 4) aNil))))))
def qs28 : Sv := (sEx (vApp (vVar 5) (vLam sbT exT 2 ((1, (uTup (uCons (uC (D.str [114, 101, 102, 117, 115, 101, 100])) (uCons (uC (D.str [116, 97, 98, 108, 101])) uNil)))) :: ((2, (uTup (uCons (uC (D.str [114, 101, 102, 117, 115, 101, 100])) (uCons (uC (D.str [111, 112, 101, 114, 97, 116, 105, 111, 110])) uNil)))) :: ((3, (uTup (uCons (uC (D.str [114, 101, 102, 117, 115, 101, 100])) (uCons (uC (D.str [110, 117, 109, 98, 101, 114])) (uCons (uRepr (uAtt (⟨#[103, 105, 118, 101, 110]⟩ : Str))) uNil))))) :: []))) (vTup (aCons (vC (D.str [102, 105, 110, 101])) aNil)) (vFn 39 3 [] (aCons (vVar 1) (aCons (vVar 3) (aCons (vVar 3) aNil)))))))
def qT29 (i0 : Nat) : D := ([(D.tup [(D.str [114, 101, 102, 117, 115, 101, 100]), (D.str [110, 117, 109, 98, 101, 114]), (D.str [78, 111, 110, 101])]), (D.tup [(D.str [114, 101, 102, 117, 115, 101, 100]), (D.str [110, 117, 109, 98, 101, 114]), (D.str [48])]), (D.tup [(D.str [114, 101, 102, 117, 115, 101, 100]), (D.str [110, 117, 109, 98, 101, 114]), (D.str [49])]), (D.tup [(D.str [114, 101, 102, 117, 115, 101, 100]), (D.str [110, 117, 109, 98, 101, 114]), (D.str [50])]), (D.tup [(D.str [114, 101, 102, 117, 115, 101, 100]), (D.str [110, 117, 109, 98, 101, 114]), (D.str [57])]), (D.tup [(D.str [114, 101, 102, 117, 115, 101, 100]), (D.str [110, 117, 109, 98, 101, 114]), (D.str [49, 55])]), (D.tup [(D.str [114, 101, 102, 117, 115, 101, 100]), (D.str [110, 117, 109, 98, 101, 114]), (D.str [45, 51])]), (D.tup [(D.str [114, 101, 102, 117, 115, 101, 100]), (D.str [110, 117, 109, 98, 101, 114]), (D.str [84, 114, 117, 101])]), (D.tup [(D.str [114, 101, 102, 117, 115, 101, 100]), (D.str [110, 117, 109, 98, 101, 114]), (D.str [39, 51, 39])]), (D.tup [(D.str [114, 101, 102, 117, 115, 101, 100]), (D.str [110, 117, 109, 98, 101, 114]), (D.str [40, 51, 44, 41])]), (D.tup [(D.str [114, 101, 102, 117, 115, 101, 100]), (D.str [110, 117, 109, 98, 101, 114]), (D.str [49, 48, 48, 48, 48, 48, 48, 48, 48, 48, 48, 48, 48, 48, 48, 48, 48, 48, 48, 48, 48, 48, 48, 48, 48, 48, 48, 48, 48, 48, 48, 48, 48, 48, 48, 48, 48, 48, 48, 48, 48, 48, 48, 48, 48, 48, 48, 48, 48, 48, 48, 48, 48, 48, 48, 48, 48, 48, 48, 48, 48])])]).getD i0 D.non
def qs31 : Sv := (sEx (vApp (vVar 5) (vLam sbT exT 2 ((1, (uTup (uCons (uC (D.str [114, 101, 102, 117, 115, 101, 100])) (uCons (uC (D.str [116, 97, 98, 108, 101])) uNil)))) :: ((2, (uTup (uCons (uC (D.str [114, 101, 102, 117, 115, 101, 100])) (uCons (uC (D.str [111, 112, 101, 114, 97, 116, 105, 111, 110])) uNil)))) :: ((3, (uTup (uCons (uC (D.str [114, 101, 102, 117, 115, 101, 100])) (uCons (uC (D.str [110, 117, 109, 98, 101, 114])) (uCons (uRepr (uAtt (⟨#[103, 105, 118, 101, 110]⟩ : Str))) uNil))))) :: []))) (vTup (aCons (vC (D.str [102, 105, 110, 101])) aNil)) (vFn 39 3 [] (aCons (vC (D.int (Int.ofNat 3))) (aCons (vVar 3) (aCons (vVar 3) aNil)))))))
def qs33 : Sv := (sEx (vApp (vVar 5) (vLam sbT exT 2 ((1, (uTup (uCons (uC (D.str [114, 101, 102, 117, 115, 101, 100])) (uCons (uC (D.str [116, 97, 98, 108, 101])) uNil)))) :: ((2, (uTup (uCons (uC (D.str [114, 101, 102, 117, 115, 101, 100])) (uCons (uC (D.str [111, 112, 101, 114, 97, 116, 105, 111, 110])) uNil)))) :: ((3, (uTup (uCons (uC (D.str [114, 101, 102, 117, 115, 101, 100])) (uCons (uC (D.str [110, 117, 109, 98, 101, 114])) (uCons (uRepr (uAtt (⟨#[103, 105, 118, 101, 110]⟩ : Str))) uNil))))) :: []))) (vTup (aCons (vC (D.str [102, 105, 110, 101])) aNil)) (vFn 39 3 [] (aCons (vC (D.int (Int.ofNat 3))) (aCons (vVar 4) (aCons (vVar 3) aNil)))))))
def qs35 : Sv := (sEx (vApp (vVar 5) (vLam sbT exT 2 ((1, (uTup (uCons (uC (D.str [114, 101, 102, 117, 115, 101, 100])) (uCons (uC (D.str [116, 97, 98, 108, 101])) uNil)))) :: ((2, (uTup (uCons (uC (D.str [114, 101, 102, 117, 115, 101, 100])) (uCons (uC (D.str [111, 112, 101, 114, 97, 116, 105, 111, 110])) uNil)))) :: ((3, (uTup (uCons (uC (D.str [114, 101, 102, 117, 115, 101, 100])) (uCons (uC (D.str [110, 117, 109, 98, 101, 114])) (uCons (uRepr (uAtt (⟨#[103, 105, 118, 101, 110]⟩ : Str))) uNil))))) :: []))) (vTup (aCons (vC (D.str [102, 105, 110, 101])) aNil)) (vFn 41 3 [] (aCons (vVar 1) (aCons (vVar 3) (aCons (vVar 3) aNil)))))))
def qT36 (i0 : Nat) : D := ([(D.tup [(D.str [114, 101, 102, 117, 115, 101, 100]), (D.str [110, 117, 109, 98, 101, 114]), (D.str [78, 111, 110, 101])]), (D.tup [(D.str [114, 101, 102, 117, 115, 101, 100]), (D.str [110, 117, 109, 98, 101, 114]), (D.str [48])]), (D.tup [(D.str [114, 101, 102, 117, 115, 101, 100]), (D.str [110, 117, 109, 98, 101, 114]), (D.str [49])]), (D.tup [(D.str [114, 101, 102, 117, 115, 101, 100]), (D.str [110, 117, 109, 98, 101, 114]), (D.str [50])]), (D.tup [(D.str [114, 101, 102, 117, 115, 101, 100]), (D.str [110, 117, 109, 98, 101, 114]), (D.str [57])]), (D.tup [(D.str [114, 101, 102, 117, 115, 101, 100]), (D.str [110, 117, 109, 98, 101, 114]), (D.str [49, 55])]), (D.tup [(D.str [114, 101, 102, 117, 115, 101, 100]), (D.str [110, 117, 109, 98, 101, 114]), (D.str [45, 51])]), (D.tup [(D.str [114, 101, 102, 117, 115, 101, 100]), (D.str [110, 117, 109, 98, 101, 114]), (D.str [84, 114, 117, 101])]), (D.tup [(D.str [114, 101, 102, 117, 115, 101, 100]), (D.str [110, 117, 109, 98, 101, 114]), (D.str [39, 51, 39])]), (D.tup [(D.str [114, 101, 102, 117, 115, 101, 100]), (D.str [110, 117, 109, 98, 101, 114]), (D.str [40, 51, 44, 41])]), (D.tup [(D.str [114, 101, 102, 117, 115, 101, 100]), (D.str [110, 117, 109, 98, 101, 114]), (D.str [49, 48, 48, 48, 48, 48, 48, 48, 48, 48, 48, 48, 48, 48, 48, 48, 48, 48, 48, 48, 48, 48, 48, 48, 48, 48, 48, 48, 48, 48, 48, 48, 48, 48, 48, 48, 48, 48, 48, 48, 48, 48, 48, 48, 48, 48, 48, 48, 48, 48, 48, 48, 48, 48, 48, 48, 48, 48, 48, 48, 48])])]).getD i0 D.non
def qs38 : Sv := (sEx (vApp (vVar 5) (vLam sbT exT 2 ((1, (uTup (uCons (uC (D.str [114, 101, 102, 117, 115, 101, 100])) (uCons (uC (D.str [116, 97, 98, 108, 101])) uNil)))) :: ((2, (uTup (uCons (uC (D.str [114, 101, 102, 117, 115, 101, 100])) (uCons (uC (D.str [111, 112, 101, 114, 97, 116, 105, 111, 110])) uNil)))) :: ((3, (uTup (uCons (uC (D.str [114, 101, 102, 117, 115, 101, 100])) (uCons (uC (D.str [110, 117, 109, 98, 101, 114])) (uCons (uRepr (uAtt (⟨#[103, 105, 118, 101, 110]⟩ : Str))) uNil))))) :: []))) (vTup (aCons (vC (D.str [102, 105, 110, 101])) aNil)) (vFn 41 3 [] (aCons (vC (D.int (Int.ofNat 7))) (aCons (vVar 3) (aCons (vVar 4) aNil)))))))
def qs40 : Sv := (sEx (vApp (vVar 5) (vLam sbT exT 2 ((1, (uTup (uCons (uC (D.str [114, 101, 102, 117, 115, 101, 100])) (uCons (uC (D.str [116, 97, 98, 108, 101])) uNil)))) :: ((2, (uTup (uCons (uC (D.str [114, 101, 102, 117, 115, 101, 100])) (uCons (uC (D.str [111, 112, 101, 114, 97, 116, 105, 111, 110])) uNil)))) :: ((3, (uTup (uCons (uC (D.str [114, 101, 102, 117, 115, 101, 100])) (uCons (uC (D.str [110, 117, 109, 98, 101, 114])) (uCons (uRepr (uAtt (⟨#[103, 105, 118, 101, 110]⟩ : Str))) uNil))))) :: []))) (vTup (aCons (vC (D.str [102, 105, 110, 101])) aNil)) (vFn 41 3 [] (aCons (vC (D.int (Int.ofNat 7))) (aCons (vVar 4) (aCons (vVar 3) aNil)))))))
def qs42 : Sv := (sEx (vApp (vVar 5) (vLam sbT exT 2 ((1, (uTup (uCons (uC (D.str [114, 101, 102, 117, 115, 101, 100])) (uCons (uC (D.str [116, 97, 98, 108, 101])) uNil)))) :: ((2, (uTup (uCons (uC (D.str [114, 101, 102, 117, 115, 101, 100])) (uCons (uC (D.str [111, 112, 101, 114, 97, 116, 105, 111, 110])) uNil)))) :: ((3, (uTup (uCons (uC (D.str [114, 101, 102, 117, 115, 101, 100])) (uCons (uC (D.str [110, 117, 109, 98, 101, 114])) (uCons (uRepr (uAtt (⟨#[103, 105, 118, 101, 110]⟩ : Str))) uNil))))) :: []))) (vTup (aCons (vC (D.str [102, 105, 110, 101])) aNil)) (vFn 41 3 [] (aCons (vC (D.int (Int.ofNat 7))) (aCons (vVar 4) (aCons (vVar 4) aNil)))))))
def qz44 : Sv := (sSeq (sPar3 7 8 9 (aCons (vTup (aCons (vC (D.str [114, 101, 102, 117, 115, 101, 100])) (aCons (vC (D.str [110, 117, 109, 98, 101, 114])) (aCons (vCall bRepr (aCons (vVar 1) aNil)) aNil)))) (aCons (vTup (aCons (vC (D.str [114, 101, 102, 117, 115, 101, 100])) (aCons (vC (D.str [116, 97, 98, 108, 101])) aNil))) (aCons (vTup (aCons (vC (D.str [102, 105, 110, 101])) aNil)) aNil))))
  (sSeq (sAsg (vB addO (vB mulO (vLst (aCons (vVar 7) (aCons (vVar 8) (aCons (vVar 9) aNil)))) (vC (D.int (Int.ofNat 3)))) (vLst (aCons (vVar 7) (aCons (vVar 8) (aCons (vVar 8) (aCons (vVar 9) aNil)))))) (gNm 10))
  (sRet (vAnd (vB eqO (vVar 5) (vVar 10)) (vNot (vFn 39 3 [] (aCons (vC (D.int (Int.ofNat 3))) (aCons (vVar 4) (aCons (vVar 3) aNil)))))))))
def rcq : Rc := ⟨1000, lv 1000 1000 (codeOfL codes) 28, 28⟩
theorem qp3 (a b c : Int)  (hc1 : 0 ≤ c) (hc2 : c < 1000000) : ∃ (r0 : Nat) (a' c' : Int), r0 < 11 ∧ 0 ≤ c' ∧ c' ≤ c + 1 ∧ sAsg (vFn 44 2 [] (aCons (vVar 0) (aCons qe1 aNil))) (gNm 1) rcq [some (D.obj 0), none, none, none, none, none, none, none, none, none, none] [(cell a b c)] = .nx [some (D.obj 0), some (qT2 r0), none, none, none, none, none, none, none, none, none] [(cell a' b c'), (AO.lst [D.non, (D.int (Int.ofNat 0)), (D.int (Int.ofNat 1)), (D.int (Int.ofNat 2)), (D.int (Int.ofNat 9)), (D.int (Int.ofNat 17)), (D.int (Int.negSucc 2)), (D.bl true), (D.str [51]), (D.tup [(D.int (Int.ofNat 3))]), (D.int (Int.ofNat 1000000000000000000000000000000000000000000000000000000000000))])] :=
  asg_pix (code := codeOfL codes) (gR := 43) (k := 26) (n := 0) (x := (D.obj 1)) (h := [(cell a b c), (AO.lst [D.non, (D.int (Int.ofNat 0)), (D.int (Int.ofNat 1)), (D.int (Int.ofNat 2)), (D.int (Int.ofNat 9)), (D.int (Int.ofNat 17)), (D.int (Int.negSucc 2)), (D.bl true), (D.str [51]), (D.tup [(D.int (Int.ofNat 3))]), (D.int (Int.ofNat 1000000000000000000000000000000000000000000000000000000000000))])]) (N := 11) (M := qT2) rfl rfl rfl (by kernel_rfl) rfl (by kernel_rfl) (by decide) (by decide) hc1 hc2 (fun a' c' => by kernel_rfl)
theorem qt5 (a b c : Int) (v0 : D)   : qs4 rcq [some (D.obj 0), some v0, none, none, none, none, none, none, none, none, none] [(cell a b c), (AO.lst [D.non, (D.int (Int.ofNat 0)), (D.int (Int.ofNat 1)), (D.int (Int.ofNat 2)), (D.int (Int.ofNat 9)), (D.int (Int.ofNat 17)), (D.int (Int.negSucc 2)), (D.bl true), (D.str [51]), (D.tup [(D.int (Int.ofNat 3))]), (D.int (Int.ofNat 1000000000000000000000000000000000000000000000000000000000000))])] = SOut.nx [some (D.obj 0), some v0, some (D.obj 5), none, none, none, none, none, none, none, none] [(cell a b c), (AO.lst [D.non, (D.int (Int.ofNat 0)), (D.int (Int.ofNat 1)), (D.int (Int.ofNat 2)), (D.int (Int.ofNat 9)), (D.int (Int.ofNat 17)), (D.int (Int.negSucc 2)), (D.bl true), (D.str [51]), (D.tup [(D.int (Int.ofNat 3))]), (D.int (Int.ofNat 1000000000000000000000000000000000000000000000000000000000000))]), (AO.lst [(D.int (Int.ofNat 2)), (D.int (Int.ofNat 1))]), (AO.lst [(D.tup [(D.int (Int.ofNat 1))])]), (AO.dct false []), (AO.lst [D.non, (D.int (Int.ofNat 0)), (D.tup []), (D.tup [(D.tup [])]), (D.tup [(D.int (Int.ofNat 1))]), (D.tup [(D.tup [(D.int (Int.ofNat 1)), (D.int (Int.ofNat 2))])]), (D.tup [(D.tup [(D.int (Int.ofNat 1)), (D.int (Int.ofNat 2))]), (D.tup [(D.int (Int.ofNat 3)), (D.int (Int.ofNat 1))])]), (D.tup [(D.tup [(D.int (Int.ofNat 1)), (D.int (Int.ofNat 2))]), (D.obj 2)]), (D.obj 3), (D.tup [(D.tup [(D.bl true)])]), (D.tup [(D.tup [(D.int (Int.ofNat 1)), D.non]), (D.tup [D.non, (D.int (Int.ofNat 1))])]), (D.str [49]), (D.obj 4)])] := by kernel_rfl
theorem qp8 (a b c : Int) (v0 : D) (hc1 : 0 ≤ c) (hc2 : c < 1000000) : ∃ (r1 : Nat) (a' c' : Int), r1 < 19 ∧ 0 ≤ c' ∧ c' ≤ c + 1 ∧ sAsg (vFn 44 2 [] (aCons (vVar 0) (aCons qe6 aNil))) (gNm 3) rcq [some (D.obj 0), some v0, some (D.obj 5), none, none, none, none, none, none, none, none] [(cell a b c), (AO.lst [D.non, (D.int (Int.ofNat 0)), (D.int (Int.ofNat 1)), (D.int (Int.ofNat 2)), (D.int (Int.ofNat 9)), (D.int (Int.ofNat 17)), (D.int (Int.negSucc 2)), (D.bl true), (D.str [51]), (D.tup [(D.int (Int.ofNat 3))]), (D.int (Int.ofNat 1000000000000000000000000000000000000000000000000000000000000))]), (AO.lst [(D.int (Int.ofNat 2)), (D.int (Int.ofNat 1))]), (AO.lst [(D.tup [(D.int (Int.ofNat 1))])]), (AO.dct false []), (AO.lst [D.non, (D.int (Int.ofNat 0)), (D.tup []), (D.tup [(D.tup [])]), (D.tup [(D.int (Int.ofNat 1))]), (D.tup [(D.tup [(D.int (Int.ofNat 1)), (D.int (Int.ofNat 2))])]), (D.tup [(D.tup [(D.int (Int.ofNat 1)), (D.int (Int.ofNat 2))]), (D.tup [(D.int (Int.ofNat 3)), (D.int (Int.ofNat 1))])]), (D.tup [(D.tup [(D.int (Int.ofNat 1)), (D.int (Int.ofNat 2))]), (D.obj 2)]), (D.obj 3), (D.tup [(D.tup [(D.bl true)])]), (D.tup [(D.tup [(D.int (Int.ofNat 1)), D.non]), (D.tup [D.non, (D.int (Int.ofNat 1))])]), (D.str [49]), (D.obj 4)])] = .nx [some (D.obj 0), some v0, some (D.obj 5), some (qT7 r1), none, none, none, none, none, none, none] [(cell a' b c'), (AO.lst [D.non, (D.int (Int.ofNat 0)), (D.int (Int.ofNat 1)), (D.int (Int.ofNat 2)), (D.int (Int.ofNat 9)), (D.int (Int.ofNat 17)), (D.int (Int.negSucc 2)), (D.bl true), (D.str [51]), (D.tup [(D.int (Int.ofNat 3))]), (D.int (Int.ofNat 1000000000000000000000000000000000000000000000000000000000000))]), (AO.lst [(D.int (Int.ofNat 2)), (D.int (Int.ofNat 1))]), (AO.lst [(D.tup [(D.int (Int.ofNat 1))])]), (AO.dct false []), (AO.lst [D.non, (D.int (Int.ofNat 0)), (D.tup []), (D.tup [(D.tup [])]), (D.tup [(D.int (Int.ofNat 1))]), (D.tup [(D.tup [(D.int (Int.ofNat 1)), (D.int (Int.ofNat 2))])]), (D.tup [(D.tup [(D.int (Int.ofNat 1)), (D.int (Int.ofNat 2))]), (D.tup [(D.int (Int.ofNat 3)), (D.int (Int.ofNat 1))])]), (D.tup [(D.tup [(D.int (Int.ofNat 1)), (D.int (Int.ofNat 2))]), (D.obj 2)]), (D.obj 3), (D.tup [(D.tup [(D.bl true)])]), (D.tup [(D.tup [(D.int (Int.ofNat 1)), D.non]), (D.tup [D.non, (D.int (Int.ofNat 1))])]), (D.str [49]), (D.obj 4)]), (AO.lst [(D.tup [(D.tup [(D.int (Int.ofNat 1)), (D.int (Int.ofNat 0))]), (D.tup [(D.int (Int.ofNat 0)), (D.int (Int.ofNat 1)), (D.int (Int.ofNat 0))])]), (D.tup [(D.tup [(D.int (Int.ofNat 1)), (D.int (Int.ofNat 0))]), (D.tup [(D.int (Int.ofNat 0))])]), (D.tup [(D.tup [(D.int (Int.ofNat 1000000000000000000000000000000000000000000000000000000000000))])]), (D.tup [(D.tup [(D.tup [(D.int (Int.ofNat 1)), (D.int (Int.ofNat 2))])])]), (D.tup [(D.tup [(D.int (Int.ofNat 0)), (D.int (Int.ofNat 0)), (D.int (Int.ofNat 0)), (D.int (Int.ofNat 0)), (D.int (Int.ofNat 0))]), (D.tup [(D.int (Int.ofNat 0)), (D.int (Int.ofNat 0)), (D.int (Int.ofNat 0)), (D.int (Int.ofNat 0)), (D.int (Int.ofNat 0))]), (D.tup [(D.int (Int.ofNat 0)), (D.int (Int.ofNat 0)), (D.int (Int.ofNat 0)), (D.int (Int.ofNat 0)), (D.int (Int.ofNat 0))]), (D.tup [(D.int (Int.ofNat 0)), (D.int (Int.ofNat 0)), (D.int (Int.ofNat 0)), (D.int (Int.ofNat 0)), (D.int (Int.ofNat 0))]), (D.tup [(D.int (Int.ofNat 0)), (D.int (Int.ofNat 0)), (D.int (Int.ofNat 0)), (D.int (Int.ofNat 0)), (D.int (Int.ofNat 0))])]), (D.tup [(D.tup [(D.int (Int.ofNat 1))]), (D.tup [(D.int (Int.ofNat 1))])])]), (AO.lst [D.non, (D.int (Int.ofNat 0)), (D.tup []), (D.tup [(D.tup [])]), (D.tup [(D.int (Int.ofNat 1))]), (D.tup [(D.tup [(D.int (Int.ofNat 1)), (D.int (Int.ofNat 2))])]), (D.tup [(D.tup [(D.int (Int.ofNat 1)), (D.int (Int.ofNat 2))]), (D.tup [(D.int (Int.ofNat 3)), (D.int (Int.ofNat 1))])]), (D.tup [(D.tup [(D.int (Int.ofNat 1)), (D.int (Int.ofNat 2))]), (D.obj 2)]), (D.obj 3), (D.tup [(D.tup [(D.bl true)])]), (D.tup [(D.tup [(D.int (Int.ofNat 1)), D.non]), (D.tup [D.non, (D.int (Int.ofNat 1))])]), (D.str [49]), (D.obj 4), (D.tup [(D.tup [(D.int (Int.ofNat 1)), (D.int (Int.ofNat 0))]), (D.tup [(D.int (Int.ofNat 0)), (D.int (Int.ofNat 1)), (D.int (Int.ofNat 0))])]), (D.tup [(D.tup [(D.int (Int.ofNat 1)), (D.int (Int.ofNat 0))]), (D.tup [(D.int (Int.ofNat 0))])]), (D.tup [(D.tup [(D.int (Int.ofNat 1000000000000000000000000000000000000000000000000000000000000))])]), (D.tup [(D.tup [(D.tup [(D.int (Int.ofNat 1)), (D.int (Int.ofNat 2))])])]), (D.tup [(D.tup [(D.int (Int.ofNat 0)), (D.int (Int.ofNat 0)), (D.int (Int.ofNat 0)), (D.int (Int.ofNat 0)), (D.int (Int.ofNat 0))]), (D.tup [(D.int (Int.ofNat 0)), (D.int (Int.ofNat 0)), (D.int (Int.ofNat 0)), (D.int (Int.ofNat 0)), (D.int (Int.ofNat 0))]), (D.tup [(D.int (Int.ofNat 0)), (D.int (Int.ofNat 0)), (D.int (Int.ofNat 0)), (D.int (Int.ofNat 0)), (D.int (Int.ofNat 0))]), (D.tup [(D.int (Int.ofNat 0)), (D.int (Int.ofNat 0)), (D.int (Int.ofNat 0)), (D.int (Int.ofNat 0)), (D.int (Int.ofNat 0))]), (D.tup [(D.int (Int.ofNat 0)), (D.int (Int.ofNat 0)), (D.int (Int.ofNat 0)), (D.int (Int.ofNat 0)), (D.int (Int.ofNat 0))])]), (D.tup [(D.tup [(D.int (Int.ofNat 1))]), (D.tup [(D.int (Int.ofNat 1))])])])] :=
  asg_pix (code := codeOfL codes) (gR := 43) (k := 26) (n := 0) (x := (D.obj 7)) (h := [(cell a b c), (AO.lst [D.non, (D.int (Int.ofNat 0)), (D.int (Int.ofNat 1)), (D.int (Int.ofNat 2)), (D.int (Int.ofNat 9)), (D.int (Int.ofNat 17)), (D.int (Int.negSucc 2)), (D.bl true), (D.str [51]), (D.tup [(D.int (Int.ofNat 3))]), (D.int (Int.ofNat 1000000000000000000000000000000000000000000000000000000000000))]), (AO.lst [(D.int (Int.ofNat 2)), (D.int (Int.ofNat 1))]), (AO.lst [(D.tup [(D.int (Int.ofNat 1))])]), (AO.dct false []), (AO.lst [D.non, (D.int (Int.ofNat 0)), (D.tup []), (D.tup [(D.tup [])]), (D.tup [(D.int (Int.ofNat 1))]), (D.tup [(D.tup [(D.int (Int.ofNat 1)), (D.int (Int.ofNat 2))])]), (D.tup [(D.tup [(D.int (Int.ofNat 1)), (D.int (Int.ofNat 2))]), (D.tup [(D.int (Int.ofNat 3)), (D.int (Int.ofNat 1))])]), (D.tup [(D.tup [(D.int (Int.ofNat 1)), (D.int (Int.ofNat 2))]), (D.obj 2)]), (D.obj 3), (D.tup [(D.tup [(D.bl true)])]), (D.tup [(D.tup [(D.int (Int.ofNat 1)), D.non]), (D.tup [D.non, (D.int (Int.ofNat 1))])]), (D.str [49]), (D.obj 4)]), (AO.lst [(D.tup [(D.tup [(D.int (Int.ofNat 1)), (D.int (Int.ofNat 0))]), (D.tup [(D.int (Int.ofNat 0)), (D.int (Int.ofNat 1)), (D.int (Int.ofNat 0))])]), (D.tup [(D.tup [(D.int (Int.ofNat 1)), (D.int (Int.ofNat 0))]), (D.tup [(D.int (Int.ofNat 0))])]), (D.tup [(D.tup [(D.int (Int.ofNat 1000000000000000000000000000000000000000000000000000000000000))])]), (D.tup [(D.tup [(D.tup [(D.int (Int.ofNat 1)), (D.int (Int.ofNat 2))])])]), (D.tup [(D.tup [(D.int (Int.ofNat 0)), (D.int (Int.ofNat 0)), (D.int (Int.ofNat 0)), (D.int (Int.ofNat 0)), (D.int (Int.ofNat 0))]), (D.tup [(D.int (Int.ofNat 0)), (D.int (Int.ofNat 0)), (D.int (Int.ofNat 0)), (D.int (Int.ofNat 0)), (D.int (Int.ofNat 0))]), (D.tup [(D.int (Int.ofNat 0)), (D.int (Int.ofNat 0)), (D.int (Int.ofNat 0)), (D.int (Int.ofNat 0)), (D.int (Int.ofNat 0))]), (D.tup [(D.int (Int.ofNat 0)), (D.int (Int.ofNat 0)), (D.int (Int.ofNat 0)), (D.int (Int.ofNat 0)), (D.int (Int.ofNat 0))]), (D.tup [(D.int (Int.ofNat 0)), (D.int (Int.ofNat 0)), (D.int (Int.ofNat 0)), (D.int (Int.ofNat 0)), (D.int (Int.ofNat 0))])]), (D.tup [(D.tup [(D.int (Int.ofNat 1))]), (D.tup [(D.int (Int.ofNat 1))])])]), (AO.lst [D.non, (D.int (Int.ofNat 0)), (D.tup []), (D.tup [(D.tup [])]), (D.tup [(D.int (Int.ofNat 1))]), (D.tup [(D.tup [(D.int (Int.ofNat 1)), (D.int (Int.ofNat 2))])]), (D.tup [(D.tup [(D.int (Int.ofNat 1)), (D.int (Int.ofNat 2))]), (D.tup [(D.int (Int.ofNat 3)), (D.int (Int.ofNat 1))])]), (D.tup [(D.tup [(D.int (Int.ofNat 1)), (D.int (Int.ofNat 2))]), (D.obj 2)]), (D.obj 3), (D.tup [(D.tup [(D.bl true)])]), (D.tup [(D.tup [(D.int (Int.ofNat 1)), D.non]), (D.tup [D.non, (D.int (Int.ofNat 1))])]), (D.str [49]), (D.obj 4), (D.tup [(D.tup [(D.int (Int.ofNat 1)), (D.int (Int.ofNat 0))]), (D.tup [(D.int (Int.ofNat 0)), (D.int (Int.ofNat 1)), (D.int (Int.ofNat 0))])]), (D.tup [(D.tup [(D.int (Int.ofNat 1)), (D.int (Int.ofNat 0))]), (D.tup [(D.int (Int.ofNat 0))])]), (D.tup [(D.tup [(D.int (Int.ofNat 1000000000000000000000000000000000000000000000000000000000000))])]), (D.tup [(D.tup [(D.tup [(D.int (Int.ofNat 1)), (D.int (Int.ofNat 2))])])]), (D.tup [(D.tup [(D.int (Int.ofNat 0)), (D.int (Int.ofNat 0)), (D.int (Int.ofNat 0)), (D.int (Int.ofNat 0)), (D.int (Int.ofNat 0))]), (D.tup [(D.int (Int.ofNat 0)), (D.int (Int.ofNat 0)), (D.int (Int.ofNat 0)), (D.int (Int.ofNat 0)), (D.int (Int.ofNat 0))]), (D.tup [(D.int (Int.ofNat 0)), (D.int (Int.ofNat 0)), (D.int (Int.ofNat 0)), (D.int (Int.ofNat 0)), (D.int (Int.ofNat 0))]), (D.tup [(D.int (Int.ofNat 0)), (D.int (Int.ofNat 0)), (D.int (Int.ofNat 0)), (D.int (Int.ofNat 0)), (D.int (Int.ofNat 0))]), (D.tup [(D.int (Int.ofNat 0)), (D.int (Int.ofNat 0)), (D.int (Int.ofNat 0)), (D.int (Int.ofNat 0)), (D.int (Int.ofNat 0))])]), (D.tup [(D.tup [(D.int (Int.ofNat 1))]), (D.tup [(D.int (Int.ofNat 1))])])])]) (N := 19) (M := qT7) rfl rfl rfl (by kernel_rfl) rfl (by kernel_rfl) (by decide) (by decide) hc1 hc2 (fun a' c' => by kernel_rfl)
theorem qp11 (a b c : Int) (v0 : D) (v1 : D) (hc1 : 0 ≤ c) (hc2 : c < 1000000) : ∃ (r2 : Nat) (a' c' : Int), r2 < 4 ∧ 0 ≤ c' ∧ c' ≤ c + 1 ∧ sAsg (vFn 44 2 [] (aCons (vVar 0) (aCons qe9 aNil))) (gNm 4) rcq [some (D.obj 0), some v0, some (D.obj 5), some v1, none, none, none, none, none, none, none] [(cell a b c), (AO.lst [D.non, (D.int (Int.ofNat 0)), (D.int (Int.ofNat 1)), (D.int (Int.ofNat 2)), (D.int (Int.ofNat 9)), (D.int (Int.ofNat 17)), (D.int (Int.negSucc 2)), (D.bl true), (D.str [51]), (D.tup [(D.int (Int.ofNat 3))]), (D.int (Int.ofNat 1000000000000000000000000000000000000000000000000000000000000))]), (AO.lst [(D.int (Int.ofNat 2)), (D.int (Int.ofNat 1))]), (AO.lst [(D.tup [(D.int (Int.ofNat 1))])]), (AO.dct false []), (AO.lst [D.non, (D.int (Int.ofNat 0)), (D.tup []), (D.tup [(D.tup [])]), (D.tup [(D.int (Int.ofNat 1))]), (D.tup [(D.tup [(D.int (Int.ofNat 1)), (D.int (Int.ofNat 2))])]), (D.tup [(D.tup [(D.int (Int.ofNat 1)), (D.int (Int.ofNat 2))]), (D.tup [(D.int (Int.ofNat 3)), (D.int (Int.ofNat 1))])]), (D.tup [(D.tup [(D.int (Int.ofNat 1)), (D.int (Int.ofNat 2))]), (D.obj 2)]), (D.obj 3), (D.tup [(D.tup [(D.bl true)])]), (D.tup [(D.tup [(D.int (Int.ofNat 1)), D.non]), (D.tup [D.non, (D.int (Int.ofNat 1))])]), (D.str [49]), (D.obj 4)]), (AO.lst [(D.tup [(D.tup [(D.int (Int.ofNat 1)), (D.int (Int.ofNat 0))]), (D.tup [(D.int (Int.ofNat 0)), (D.int (Int.ofNat 1)), (D.int (Int.ofNat 0))])]), (D.tup [(D.tup [(D.int (Int.ofNat 1)), (D.int (Int.ofNat 0))]), (D.tup [(D.int (Int.ofNat 0))])]), (D.tup [(D.tup [(D.int (Int.ofNat 1000000000000000000000000000000000000000000000000000000000000))])]), (D.tup [(D.tup [(D.tup [(D.int (Int.ofNat 1)), (D.int (Int.ofNat 2))])])]), (D.tup [(D.tup [(D.int (Int.ofNat 0)), (D.int (Int.ofNat 0)), (D.int (Int.ofNat 0)), (D.int (Int.ofNat 0)), (D.int (Int.ofNat 0))]), (D.tup [(D.int (Int.ofNat 0)), (D.int (Int.ofNat 0)), (D.int (Int.ofNat 0)), (D.int (Int.ofNat 0)), (D.int (Int.ofNat 0))]), (D.tup [(D.int (Int.ofNat 0)), (D.int (Int.ofNat 0)), (D.int (Int.ofNat 0)), (D.int (Int.ofNat 0)), (D.int (Int.ofNat 0))]), (D.tup [(D.int (Int.ofNat 0)), (D.int (Int.ofNat 0)), (D.int (Int.ofNat 0)), (D.int (Int.ofNat 0)), (D.int (Int.ofNat 0))]), (D.tup [(D.int (Int.ofNat 0)), (D.int (Int.ofNat 0)), (D.int (Int.ofNat 0)), (D.int (Int.ofNat 0)), (D.int (Int.ofNat 0))])]), (D.tup [(D.tup [(D.int (Int.ofNat 1))]), (D.tup [(D.int (Int.ofNat 1))])])]), (AO.lst [D.non, (D.int (Int.ofNat 0)), (D.tup []), (D.tup [(D.tup [])]), (D.tup [(D.int (Int.ofNat 1))]), (D.tup [(D.tup [(D.int (Int.ofNat 1)), (D.int (Int.ofNat 2))])]), (D.tup [(D.tup [(D.int (Int.ofNat 1)), (D.int (Int.ofNat 2))]), (D.tup [(D.int (Int.ofNat 3)), (D.int (Int.ofNat 1))])]), (D.tup [(D.tup [(D.int (Int.ofNat 1)), (D.int (Int.ofNat 2))]), (D.obj 2)]), (D.obj 3), (D.tup [(D.tup [(D.bl true)])]), (D.tup [(D.tup [(D.int (Int.ofNat 1)), D.non]), (D.tup [D.non, (D.int (Int.ofNat 1))])]), (D.str [49]), (D.obj 4), (D.tup [(D.tup [(D.int (Int.ofNat 1)), (D.int (Int.ofNat 0))]), (D.tup [(D.int (Int.ofNat 0)), (D.int (Int.ofNat 1)), (D.int (Int.ofNat 0))])]), (D.tup [(D.tup [(D.int (Int.ofNat 1)), (D.int (Int.ofNat 0))]), (D.tup [(D.int (Int.ofNat 0))])]), (D.tup [(D.tup [(D.int (Int.ofNat 1000000000000000000000000000000000000000000000000000000000000))])]), (D.tup [(D.tup [(D.tup [(D.int (Int.ofNat 1)), (D.int (Int.ofNat 2))])])]), (D.tup [(D.tup [(D.int (Int.ofNat 0)), (D.int (Int.ofNat 0)), (D.int (Int.ofNat 0)), (D.int (Int.ofNat 0)), (D.int (Int.ofNat 0))]), (D.tup [(D.int (Int.ofNat 0)), (D.int (Int.ofNat 0)), (D.int (Int.ofNat 0)), (D.int (Int.ofNat 0)), (D.int (Int.ofNat 0))]), (D.tup [(D.int (Int.ofNat 0)), (D.int (Int.ofNat 0)), (D.int (Int.ofNat 0)), (D.int (Int.ofNat 0)), (D.int (Int.ofNat 0))]), (D.tup [(D.int (Int.ofNat 0)), (D.int (Int.ofNat 0)), (D.int (Int.ofNat 0)), (D.int (Int.ofNat 0)), (D.int (Int.ofNat 0))]), (D.tup [(D.int (Int.ofNat 0)), (D.int (Int.ofNat 0)), (D.int (Int.ofNat 0)), (D.int (Int.ofNat 0)), (D.int (Int.ofNat 0))])]), (D.tup [(D.tup [(D.int (Int.ofNat 1))]), (D.tup [(D.int (Int.ofNat 1))])])])] = .nx [some (D.obj 0), some v0, some (D.obj 5), some v1, some (qT10 r2), none, none, none, none, none, none] [(cell a' b c'), (AO.lst [D.non, (D.int (Int.ofNat 0)), (D.int (Int.ofNat 1)), (D.int (Int.ofNat 2)), (D.int (Int.ofNat 9)), (D.int (Int.ofNat 17)), (D.int (Int.negSucc 2)), (D.bl true), (D.str [51]), (D.tup [(D.int (Int.ofNat 3))]), (D.int (Int.ofNat 1000000000000000000000000000000000000000000000000000000000000))]), (AO.lst [(D.int (Int.ofNat 2)), (D.int (Int.ofNat 1))]), (AO.lst [(D.tup [(D.int (Int.ofNat 1))])]), (AO.dct false []), (AO.lst [D.non, (D.int (Int.ofNat 0)), (D.tup []), (D.tup [(D.tup [])]), (D.tup [(D.int (Int.ofNat 1))]), (D.tup [(D.tup [(D.int (Int.ofNat 1)), (D.int (Int.ofNat 2))])]), (D.tup [(D.tup [(D.int (Int.ofNat 1)), (D.int (Int.ofNat 2))]), (D.tup [(D.int (Int.ofNat 3)), (D.int (Int.ofNat 1))])]), (D.tup [(D.tup [(D.int (Int.ofNat 1)), (D.int (Int.ofNat 2))]), (D.obj 2)]), (D.obj 3), (D.tup [(D.tup [(D.bl true)])]), (D.tup [(D.tup [(D.int (Int.ofNat 1)), D.non]), (D.tup [D.non, (D.int (Int.ofNat 1))])]), (D.str [49]), (D.obj 4)]), (AO.lst [(D.tup [(D.tup [(D.int (Int.ofNat 1)), (D.int (Int.ofNat 0))]), (D.tup [(D.int (Int.ofNat 0)), (D.int (Int.ofNat 1)), (D.int (Int.ofNat 0))])]), (D.tup [(D.tup [(D.int (Int.ofNat 1)), (D.int (Int.ofNat 0))]), (D.tup [(D.int (Int.ofNat 0))])]), (D.tup [(D.tup [(D.int (Int.ofNat 1000000000000000000000000000000000000000000000000000000000000))])]), (D.tup [(D.tup [(D.tup [(D.int (Int.ofNat 1)), (D.int (Int.ofNat 2))])])]), (D.tup [(D.tup [(D.int (Int.ofNat 0)), (D.int (Int.ofNat 0)), (D.int (Int.ofNat 0)), (D.int (Int.ofNat 0)), (D.int (Int.ofNat 0))]), (D.tup [(D.int (Int.ofNat 0)), (D.int (Int.ofNat 0)), (D.int (Int.ofNat 0)), (D.int (Int.ofNat 0)), (D.int (Int.ofNat 0))]), (D.tup [(D.int (Int.ofNat 0)), (D.int (Int.ofNat 0)), (D.int (Int.ofNat 0)), (D.int (Int.ofNat 0)), (D.int (Int.ofNat 0))]), (D.tup [(D.int (Int.ofNat 0)), (D.int (Int.ofNat 0)), (D.int (Int.ofNat 0)), (D.int (Int.ofNat 0)), (D.int (Int.ofNat 0))]), (D.tup [(D.int (Int.ofNat 0)), (D.int (Int.ofNat 0)), (D.int (Int.ofNat 0)), (D.int (Int.ofNat 0)), (D.int (Int.ofNat 0))])]), (D.tup [(D.tup [(D.int (Int.ofNat 1))]), (D.tup [(D.int (Int.ofNat 1))])])]), (AO.lst [D.non, (D.int (Int.ofNat 0)), (D.tup []), (D.tup [(D.tup [])]), (D.tup [(D.int (Int.ofNat 1))]), (D.tup [(D.tup [(D.int (Int.ofNat 1)), (D.int (Int.ofNat 2))])]), (D.tup [(D.tup [(D.int (Int.ofNat 1)), (D.int (Int.ofNat 2))]), (D.tup [(D.int (Int.ofNat 3)), (D.int (Int.ofNat 1))])]), (D.tup [(D.tup [(D.int (Int.ofNat 1)), (D.int (Int.ofNat 2))]), (D.obj 2)]), (D.obj 3), (D.tup [(D.tup [(D.bl true)])]), (D.tup [(D.tup [(D.int (Int.ofNat 1)), D.non]), (D.tup [D.non, (D.int (Int.ofNat 1))])]), (D.str [49]), (D.obj 4), (D.tup [(D.tup [(D.int (Int.ofNat 1)), (D.int (Int.ofNat 0))]), (D.tup [(D.int (Int.ofNat 0)), (D.int (Int.ofNat 1)), (D.int (Int.ofNat 0))])]), (D.tup [(D.tup [(D.int (Int.ofNat 1)), (D.int (Int.ofNat 0))]), (D.tup [(D.int (Int.ofNat 0))])]), (D.tup [(D.tup [(D.int (Int.ofNat 1000000000000000000000000000000000000000000000000000000000000))])]), (D.tup [(D.tup [(D.tup [(D.int (Int.ofNat 1)), (D.int (Int.ofNat 2))])])]), (D.tup [(D.tup [(D.int (Int.ofNat 0)), (D.int (Int.ofNat 0)), (D.int (Int.ofNat 0)), (D.int (Int.ofNat 0)), (D.int (Int.ofNat 0))]), (D.tup [(D.int (Int.ofNat 0)), (D.int (Int.ofNat 0)), (D.int (Int.ofNat 0)), (D.int (Int.ofNat 0)), (D.int (Int.ofNat 0))]), (D.tup [(D.int (Int.ofNat 0)), (D.int (Int.ofNat 0)), (D.int (Int.ofNat 0)), (D.int (Int.ofNat 0)), (D.int (Int.ofNat 0))]), (D.tup [(D.int (Int.ofNat 0)), (D.int (Int.ofNat 0)), (D.int (Int.ofNat 0)), (D.int (Int.ofNat 0)), (D.int (Int.ofNat 0))]), (D.tup [(D.int (Int.ofNat 0)), (D.int (Int.ofNat 0)), (D.int (Int.ofNat 0)), (D.int (Int.ofNat 0)), (D.int (Int.ofNat 0))])]), (D.tup [(D.tup [(D.int (Int.ofNat 1))]), (D.tup [(D.int (Int.ofNat 1))])])]), (AO.lst [(D.tup [(D.tup [(D.int (Int.ofNat 1))])]), (D.tup [(D.tup [(D.int (Int.ofNat 0)), (D.int (Int.ofNat 1))]), (D.tup [(D.int (Int.ofNat 1)), (D.int (Int.ofNat 0))])]), (D.tup [(D.tup [(D.int (Int.ofNat 0)), (D.int (Int.ofNat 0)), (D.int (Int.ofNat 0)), (D.int (Int.ofNat 0))]), (D.tup [(D.int (Int.ofNat 0)), (D.int (Int.ofNat 0)), (D.int (Int.ofNat 0)), (D.int (Int.ofNat 0))]), (D.tup [(D.int (Int.ofNat 0)), (D.int (Int.ofNat 0)), (D.int (Int.ofNat 0)), (D.int (Int.ofNat 0))]), (D.tup [(D.int (Int.ofNat 0)), (D.int (Int.ofNat 0)), (D.int (Int.ofNat 0)), (D.int (Int.ofNat 0))])]), (D.tup [(D.tup [(D.int (Int.ofNat 999999999999999999999999999999999999999999999999999999999999))])])])] :=
  asg_pix (code := codeOfL codes) (gR := 43) (k := 26) (n := 0) (x := (D.obj 8)) (h := [(cell a b c), (AO.lst [D.non, (D.int (Int.ofNat 0)), (D.int (Int.ofNat 1)), (D.int (Int.ofNat 2)), (D.int (Int.ofNat 9)), (D.int (Int.ofNat 17)), (D.int (Int.negSucc 2)), (D.bl true), (D.str [51]), (D.tup [(D.int (Int.ofNat 3))]), (D.int (Int.ofNat 1000000000000000000000000000000000000000000000000000000000000))]), (AO.lst [(D.int (Int.ofNat 2)), (D.int (Int.ofNat 1))]), (AO.lst [(D.tup [(D.int (Int.ofNat 1))])]), (AO.dct false []), (AO.lst [D.non, (D.int (Int.ofNat 0)), (D.tup []), (D.tup [(D.tup [])]), (D.tup [(D.int (Int.ofNat 1))]), (D.tup [(D.tup [(D.int (Int.ofNat 1)), (D.int (Int.ofNat 2))])]), (D.tup [(D.tup [(D.int (Int.ofNat 1)), (D.int (Int.ofNat 2))]), (D.tup [(D.int (Int.ofNat 3)), (D.int (Int.ofNat 1))])]), (D.tup [(D.tup [(D.int (Int.ofNat 1)), (D.int (Int.ofNat 2))]), (D.obj 2)]), (D.obj 3), (D.tup [(D.tup [(D.bl true)])]), (D.tup [(D.tup [(D.int (Int.ofNat 1)), D.non]), (D.tup [D.non, (D.int (Int.ofNat 1))])]), (D.str [49]), (D.obj 4)]), (AO.lst [(D.tup [(D.tup [(D.int (Int.ofNat 1)), (D.int (Int.ofNat 0))]), (D.tup [(D.int (Int.ofNat 0)), (D.int (Int.ofNat 1)), (D.int (Int.ofNat 0))])]), (D.tup [(D.tup [(D.int (Int.ofNat 1)), (D.int (Int.ofNat 0))]), (D.tup [(D.int (Int.ofNat 0))])]), (D.tup [(D.tup [(D.int (Int.ofNat 1000000000000000000000000000000000000000000000000000000000000))])]), (D.tup [(D.tup [(D.tup [(D.int (Int.ofNat 1)), (D.int (Int.ofNat 2))])])]), (D.tup [(D.tup [(D.int (Int.ofNat 0)), (D.int (Int.ofNat 0)), (D.int (Int.ofNat 0)), (D.int (Int.ofNat 0)), (D.int (Int.ofNat 0))]), (D.tup [(D.int (Int.ofNat 0)), (D.int (Int.ofNat 0)), (D.int (Int.ofNat 0)), (D.int (Int.ofNat 0)), (D.int (Int.ofNat 0))]), (D.tup [(D.int (Int.ofNat 0)), (D.int (Int.ofNat 0)), (D.int (Int.ofNat 0)), (D.int (Int.ofNat 0)), (D.int (Int.ofNat 0))]), (D.tup [(D.int (Int.ofNat 0)), (D.int (Int.ofNat 0)), (D.int (Int.ofNat 0)), (D.int (Int.ofNat 0)), (D.int (Int.ofNat 0))]), (D.tup [(D.int (Int.ofNat 0)), (D.int (Int.ofNat 0)), (D.int (Int.ofNat 0)), (D.int (Int.ofNat 0)), (D.int (Int.ofNat 0))])]), (D.tup [(D.tup [(D.int (Int.ofNat 1))]), (D.tup [(D.int (Int.ofNat 1))])])]), (AO.lst [D.non, (D.int (Int.ofNat 0)), (D.tup []), (D.tup [(D.tup [])]), (D.tup [(D.int (Int.ofNat 1))]), (D.tup [(D.tup [(D.int (Int.ofNat 1)), (D.int (Int.ofNat 2))])]), (D.tup [(D.tup [(D.int (Int.ofNat 1)), (D.int (Int.ofNat 2))]), (D.tup [(D.int (Int.ofNat 3)), (D.int (Int.ofNat 1))])]), (D.tup [(D.tup [(D.int (Int.ofNat 1)), (D.int (Int.ofNat 2))]), (D.obj 2)]), (D.obj 3), (D.tup [(D.tup [(D.bl true)])]), (D.tup [(D.tup [(D.int (Int.ofNat 1)), D.non]), (D.tup [D.non, (D.int (Int.ofNat 1))])]), (D.str [49]), (D.obj 4), (D.tup [(D.tup [(D.int (Int.ofNat 1)), (D.int (Int.ofNat 0))]), (D.tup [(D.int (Int.ofNat 0)), (D.int (Int.ofNat 1)), (D.int (Int.ofNat 0))])]), (D.tup [(D.tup [(D.int (Int.ofNat 1)), (D.int (Int.ofNat 0))]), (D.tup [(D.int (Int.ofNat 0))])]), (D.tup [(D.tup [(D.int (Int.ofNat 1000000000000000000000000000000000000000000000000000000000000))])]), (D.tup [(D.tup [(D.tup [(D.int (Int.ofNat 1)), (D.int (Int.ofNat 2))])])]), (D.tup [(D.tup [(D.int (Int.ofNat 0)), (D.int (Int.ofNat 0)), (D.int (Int.ofNat 0)), (D.int (Int.ofNat 0)), (D.int (Int.ofNat 0))]), (D.tup [(D.int (Int.ofNat 0)), (D.int (Int.ofNat 0)), (D.int (Int.ofNat 0)), (D.int (Int.ofNat 0)), (D.int (Int.ofNat 0))]), (D.tup [(D.int (Int.ofNat 0)), (D.int (Int.ofNat 0)), (D.int (Int.ofNat 0)), (D.int (Int.ofNat 0)), (D.int (Int.ofNat 0))]), (D.tup [(D.int (Int.ofNat 0)), (D.int (Int.ofNat 0)), (D.int (Int.ofNat 0)), (D.int (Int.ofNat 0)), (D.int (Int.ofNat 0))]), (D.tup [(D.int (Int.ofNat 0)), (D.int (Int.ofNat 0)), (D.int (Int.ofNat 0)), (D.int (Int.ofNat 0)), (D.int (Int.ofNat 0))])]), (D.tup [(D.tup [(D.int (Int.ofNat 1))]), (D.tup [(D.int (Int.ofNat 1))])])]), (AO.lst [(D.tup [(D.tup [(D.int (Int.ofNat 1))])]), (D.tup [(D.tup [(D.int (Int.ofNat 0)), (D.int (Int.ofNat 1))]), (D.tup [(D.int (Int.ofNat 1)), (D.int (Int.ofNat 0))])]), (D.tup [(D.tup [(D.int (Int.ofNat 0)), (D.int (Int.ofNat 0)), (D.int (Int.ofNat 0)), (D.int (Int.ofNat 0))]), (D.tup [(D.int (Int.ofNat 0)), (D.int (Int.ofNat 0)), (D.int (Int.ofNat 0)), (D.int (Int.ofNat 0))]), (D.tup [(D.int (Int.ofNat 0)), (D.int (Int.ofNat 0)), (D.int (Int.ofNat 0)), (D.int (Int.ofNat 0))]), (D.tup [(D.int (Int.ofNat 0)), (D.int (Int.ofNat 0)), (D.int (Int.ofNat 0)), (D.int (Int.ofNat 0))])]), (D.tup [(D.tup [(D.int (Int.ofNat 999999999999999999999999999999999999999999999999999999999999))])])])]) (N := 4) (M := qT10) rfl rfl rfl (by kernel_rfl) rfl (by kernel_rfl) (by decide) (by decide) hc1 hc2 (fun a' c' => by kernel_rfl)
theorem qt13 (a b c : Int) (v0 : D) (v1 : D) (v2 : D)   : qs12 rcq [some (D.obj 0), some v0, some (D.obj 5), some v1, some v2, none, none, none, none, none, none] [(cell a b c), (AO.lst [D.non, (D.int (Int.ofNat 0)), (D.int (Int.ofNat 1)), (D.int (Int.ofNat 2)), (D.int (Int.ofNat 9)), (D.int (Int.ofNat 17)), (D.int (Int.negSucc 2)), (D.bl true), (D.str [51]), (D.tup [(D.int (Int.ofNat 3))]), (D.int (Int.ofNat 1000000000000000000000000000000000000000000000000000000000000))]), (AO.lst [(D.int (Int.ofNat 2)), (D.int (Int.ofNat 1))]), (AO.lst [(D.tup [(D.int (Int.ofNat 1))])]), (AO.dct false []), (AO.lst [D.non, (D.int (Int.ofNat 0)), (D.tup []), (D.tup [(D.tup [])]), (D.tup [(D.int (Int.ofNat 1))]), (D.tup [(D.tup [(D.int (Int.ofNat 1)), (D.int (Int.ofNat 2))])]), (D.tup [(D.tup [(D.int (Int.ofNat 1)), (D.int (Int.ofNat 2))]), (D.tup [(D.int (Int.ofNat 3)), (D.int (Int.ofNat 1))])]), (D.tup [(D.tup [(D.int (Int.ofNat 1)), (D.int (Int.ofNat 2))]), (D.obj 2)]), (D.obj 3), (D.tup [(D.tup [(D.bl true)])]), (D.tup [(D.tup [(D.int (Int.ofNat 1)), D.non]), (D.tup [D.non, (D.int (Int.ofNat 1))])]), (D.str [49]), (D.obj 4)]), (AO.lst [(D.tup [(D.tup [(D.int (Int.ofNat 1)), (D.int (Int.ofNat 0))]), (D.tup [(D.int (Int.ofNat 0)), (D.int (Int.ofNat 1)), (D.int (Int.ofNat 0))])]), (D.tup [(D.tup [(D.int (Int.ofNat 1)), (D.int (Int.ofNat 0))]), (D.tup [(D.int (Int.ofNat 0))])]), (D.tup [(D.tup [(D.int (Int.ofNat 1000000000000000000000000000000000000000000000000000000000000))])]), (D.tup [(D.tup [(D.tup [(D.int (Int.ofNat 1)), (D.int (Int.ofNat 2))])])]), (D.tup [(D.tup [(D.int (Int.ofNat 0)), (D.int (Int.ofNat 0)), (D.int (Int.ofNat 0)), (D.int (Int.ofNat 0)), (D.int (Int.ofNat 0))]), (D.tup [(D.int (Int.ofNat 0)), (D.int (Int.ofNat 0)), (D.int (Int.ofNat 0)), (D.int (Int.ofNat 0)), (D.int (Int.ofNat 0))]), (D.tup [(D.int (Int.ofNat 0)), (D.int (Int.ofNat 0)), (D.int (Int.ofNat 0)), (D.int (Int.ofNat 0)), (D.int (Int.ofNat 0))]), (D.tup [(D.int (Int.ofNat 0)), (D.int (Int.ofNat 0)), (D.int (Int.ofNat 0)), (D.int (Int.ofNat 0)), (D.int (Int.ofNat 0))]), (D.tup [(D.int (Int.ofNat 0)), (D.int (Int.ofNat 0)), (D.int (Int.ofNat 0)), (D.int (Int.ofNat 0)), (D.int (Int.ofNat 0))])]), (D.tup [(D.tup [(D.int (Int.ofNat 1))]), (D.tup [(D.int (Int.ofNat 1))])])]), (AO.lst [D.non, (D.int (Int.ofNat 0)), (D.tup []), (D.tup [(D.tup [])]), (D.tup [(D.int (Int.ofNat 1))]), (D.tup [(D.tup [(D.int (Int.ofNat 1)), (D.int (Int.ofNat 2))])]), (D.tup [(D.tup [(D.int (Int.ofNat 1)), (D.int (Int.ofNat 2))]), (D.tup [(D.int (Int.ofNat 3)), (D.int (Int.ofNat 1))])]), (D.tup [(D.tup [(D.int (Int.ofNat 1)), (D.int (Int.ofNat 2))]), (D.obj 2)]), (D.obj 3), (D.tup [(D.tup [(D.bl true)])]), (D.tup [(D.tup [(D.int (Int.ofNat 1)), D.non]), (D.tup [D.non, (D.int (Int.ofNat 1))])]), (D.str [49]), (D.obj 4), (D.tup [(D.tup [(D.int (Int.ofNat 1)), (D.int (Int.ofNat 0))]), (D.tup [(D.int (Int.ofNat 0)), (D.int (Int.ofNat 1)), (D.int (Int.ofNat 0))])]), (D.tup [(D.tup [(D.int (Int.ofNat 1)), (D.int (Int.ofNat 0))]), (D.tup [(D.int (Int.ofNat 0))])]), (D.tup [(D.tup [(D.int (Int.ofNat 1000000000000000000000000000000000000000000000000000000000000))])]), (D.tup [(D.tup [(D.tup [(D.int (Int.ofNat 1)), (D.int (Int.ofNat 2))])])]), (D.tup [(D.tup [(D.int (Int.ofNat 0)), (D.int (Int.ofNat 0)), (D.int (Int.ofNat 0)), (D.int (Int.ofNat 0)), (D.int (Int.ofNat 0))]), (D.tup [(D.int (Int.ofNat 0)), (D.int (Int.ofNat 0)), (D.int (Int.ofNat 0)), (D.int (Int.ofNat 0)), (D.int (Int.ofNat 0))]), (D.tup [(D.int (Int.ofNat 0)), (D.int (Int.ofNat 0)), (D.int (Int.ofNat 0)), (D.int (Int.ofNat 0)), (D.int (Int.ofNat 0))]), (D.tup [(D.int (Int.ofNat 0)), (D.int (Int.ofNat 0)), (D.int (Int.ofNat 0)), (D.int (Int.ofNat 0)), (D.int (Int.ofNat 0))]), (D.tup [(D.int (Int.ofNat 0)), (D.int (Int.ofNat 0)), (D.int (Int.ofNat 0)), (D.int (Int.ofNat 0)), (D.int (Int.ofNat 0))])]), (D.tup [(D.tup [(D.int (Int.ofNat 1))]), (D.tup [(D.int (Int.ofNat 1))])])]), (AO.lst [(D.tup [(D.tup [(D.int (Int.ofNat 1))])]), (D.tup [(D.tup [(D.int (Int.ofNat 0)), (D.int (Int.ofNat 1))]), (D.tup [(D.int (Int.ofNat 1)), (D.int (Int.ofNat 0))])]), (D.tup [(D.tup [(D.int (Int.ofNat 0)), (D.int (Int.ofNat 0)), (D.int (Int.ofNat 0)), (D.int (Int.ofNat 0))]), (D.tup [(D.int (Int.ofNat 0)), (D.int (Int.ofNat 0)), (D.int (Int.ofNat 0)), (D.int (Int.ofNat 0))]), (D.tup [(D.int (Int.ofNat 0)), (D.int (Int.ofNat 0)), (D.int (Int.ofNat 0)), (D.int (Int.ofNat 0))]), (D.tup [(D.int (Int.ofNat 0)), (D.int (Int.ofNat 0)), (D.int (Int.ofNat 0)), (D.int (Int.ofNat 0))])]), (D.tup [(D.tup [(D.int (Int.ofNat 999999999999999999999999999999999999999999999999999999999999))])])])] = SOut.nx [some (D.obj 0), some v0, some (D.obj 5), some v1, some v2, some (D.obj 9), none, none, none, none, none] [(cell a b c), (AO.lst [D.non, (D.int (Int.ofNat 0)), (D.int (Int.ofNat 1)), (D.int (Int.ofNat 2)), (D.int (Int.ofNat 9)), (D.int (Int.ofNat 17)), (D.int (Int.negSucc 2)), (D.bl true), (D.str [51]), (D.tup [(D.int (Int.ofNat 3))]), (D.int (Int.ofNat 1000000000000000000000000000000000000000000000000000000000000))]), (AO.lst [(D.int (Int.ofNat 2)), (D.int (Int.ofNat 1))]), (AO.lst [(D.tup [(D.int (Int.ofNat 1))])]), (AO.dct false []), (AO.lst [D.non, (D.int (Int.ofNat 0)), (D.tup []), (D.tup [(D.tup [])]), (D.tup [(D.int (Int.ofNat 1))]), (D.tup [(D.tup [(D.int (Int.ofNat 1)), (D.int (Int.ofNat 2))])]), (D.tup [(D.tup [(D.int (Int.ofNat 1)), (D.int (Int.ofNat 2))]), (D.tup [(D.int (Int.ofNat 3)), (D.int (Int.ofNat 1))])]), (D.tup [(D.tup [(D.int (Int.ofNat 1)), (D.int (Int.ofNat 2))]), (D.obj 2)]), (D.obj 3), (D.tup [(D.tup [(D.bl true)])]), (D.tup [(D.tup [(D.int (Int.ofNat 1)), D.non]), (D.tup [D.non, (D.int (Int.ofNat 1))])]), (D.str [49]), (D.obj 4)]), (AO.lst [(D.tup [(D.tup [(D.int (Int.ofNat 1)), (D.int (Int.ofNat 0))]), (D.tup [(D.int (Int.ofNat 0)), (D.int (Int.ofNat 1)), (D.int (Int.ofNat 0))])]), (D.tup [(D.tup [(D.int (Int.ofNat 1)), (D.int (Int.ofNat 0))]), (D.tup [(D.int (Int.ofNat 0))])]), (D.tup [(D.tup [(D.int (Int.ofNat 1000000000000000000000000000000000000000000000000000000000000))])]), (D.tup [(D.tup [(D.tup [(D.int (Int.ofNat 1)), (D.int (Int.ofNat 2))])])]), (D.tup [(D.tup [(D.int (Int.ofNat 0)), (D.int (Int.ofNat 0)), (D.int (Int.ofNat 0)), (D.int (Int.ofNat 0)), (D.int (Int.ofNat 0))]), (D.tup [(D.int (Int.ofNat 0)), (D.int (Int.ofNat 0)), (D.int (Int.ofNat 0)), (D.int (Int.ofNat 0)), (D.int (Int.ofNat 0))]), (D.tup [(D.int (Int.ofNat 0)), (D.int (Int.ofNat 0)), (D.int (Int.ofNat 0)), (D.int (Int.ofNat 0)), (D.int (Int.ofNat 0))]), (D.tup [(D.int (Int.ofNat 0)), (D.int (Int.ofNat 0)), (D.int (Int.ofNat 0)), (D.int (Int.ofNat 0)), (D.int (Int.ofNat 0))]), (D.tup [(D.int (Int.ofNat 0)), (D.int (Int.ofNat 0)), (D.int (Int.ofNat 0)), (D.int (Int.ofNat 0)), (D.int (Int.ofNat 0))])]), (D.tup [(D.tup [(D.int (Int.ofNat 1))]), (D.tup [(D.int (Int.ofNat 1))])])]), (AO.lst [D.non, (D.int (Int.ofNat 0)), (D.tup []), (D.tup [(D.tup [])]), (D.tup [(D.int (Int.ofNat 1))]), (D.tup [(D.tup [(D.int (Int.ofNat 1)), (D.int (Int.ofNat 2))])]), (D.tup [(D.tup [(D.int (Int.ofNat 1)), (D.int (Int.ofNat 2))]), (D.tup [(D.int (Int.ofNat 3)), (D.int (Int.ofNat 1))])]), (D.tup [(D.tup [(D.int (Int.ofNat 1)), (D.int (Int.ofNat 2))]), (D.obj 2)]), (D.obj 3), (D.tup [(D.tup [(D.bl true)])]), (D.tup [(D.tup [(D.int (Int.ofNat 1)), D.non]), (D.tup [D.non, (D.int (Int.ofNat 1))])]), (D.str [49]), (D.obj 4), (D.tup [(D.tup [(D.int (Int.ofNat 1)), (D.int (Int.ofNat 0))]), (D.tup [(D.int (Int.ofNat 0)), (D.int (Int.ofNat 1)), (D.int (Int.ofNat 0))])]), (D.tup [(D.tup [(D.int (Int.ofNat 1)), (D.int (Int.ofNat 0))]), (D.tup [(D.int (Int.ofNat 0))])]), (D.tup [(D.tup [(D.int (Int.ofNat 1000000000000000000000000000000000000000000000000000000000000))])]), (D.tup [(D.tup [(D.tup [(D.int (Int.ofNat 1)), (D.int (Int.ofNat 2))])])]), (D.tup [(D.tup [(D.int (Int.ofNat 0)), (D.int (Int.ofNat 0)), (D.int (Int.ofNat 0)), (D.int (Int.ofNat 0)), (D.int (Int.ofNat 0))]), (D.tup [(D.int (Int.ofNat 0)), (D.int (Int.ofNat 0)), (D.int (Int.ofNat 0)), (D.int (Int.ofNat 0)), (D.int (Int.ofNat 0))]), (D.tup [(D.int (Int.ofNat 0)), (D.int (Int.ofNat 0)), (D.int (Int.ofNat 0)), (D.int (Int.ofNat 0)), (D.int (Int.ofNat 0))]), (D.tup [(D.int (Int.ofNat 0)), (D.int (Int.ofNat 0)), (D.int (Int.ofNat 0)), (D.int (Int.ofNat 0)), (D.int (Int.ofNat 0))]), (D.tup [(D.int (Int.ofNat 0)), (D.int (Int.ofNat 0)), (D.int (Int.ofNat 0)), (D.int (Int.ofNat 0)), (D.int (Int.ofNat 0))])]), (D.tup [(D.tup [(D.int (Int.ofNat 1))]), (D.tup [(D.int (Int.ofNat 1))])])]), (AO.lst [(D.tup [(D.tup [(D.int (Int.ofNat 1))])]), (D.tup [(D.tup [(D.int (Int.ofNat 0)), (D.int (Int.ofNat 1))]), (D.tup [(D.int (Int.ofNat 1)), (D.int (Int.ofNat 0))])]), (D.tup [(D.tup [(D.int (Int.ofNat 0)), (D.int (Int.ofNat 0)), (D.int (Int.ofNat 0)), (D.int (Int.ofNat 0))]), (D.tup [(D.int (Int.ofNat 0)), (D.int (Int.ofNat 0)), (D.int (Int.ofNat 0)), (D.int (Int.ofNat 0))]), (D.tup [(D.int (Int.ofNat 0)), (D.int (Int.ofNat 0)), (D.int (Int.ofNat 0)), (D.int (Int.ofNat 0))]), (D.tup [(D.int (Int.ofNat 0)), (D.int (Int.ofNat 0)), (D.int (Int.ofNat 0)), (D.int (Int.ofNat 0))])]), (D.tup [(D.tup [(D.int (Int.ofNat 999999999999999999999999999999999999999999999999999999999999))])])]), (AO.lst [])] := by kernel_rfl
theorem qt16 (a b c : Int) (v0 : D) (r0 : Nat) (r1 : Nat) (h0 : r0 < 11) (h1 : r1 < 19) : qs14 rcq [some (D.obj 0), some (qT2 r0), some (D.obj 5), some (qT7 r1), some v0, some (D.obj 9), some (D.fn 38), none, none, none, none] [(cell a b c), (AO.lst [D.non, (D.int (Int.ofNat 0)), (D.int (Int.ofNat 1)), (D.int (Int.ofNat 2)), (D.int (Int.ofNat 9)), (D.int (Int.ofNat 17)), (D.int (Int.negSucc 2)), (D.bl true), (D.str [51]), (D.tup [(D.int (Int.ofNat 3))]), (D.int (Int.ofNat 1000000000000000000000000000000000000000000000000000000000000))]), (AO.lst [(D.int (Int.ofNat 2)), (D.int (Int.ofNat 1))]), (AO.lst [(D.tup [(D.int (Int.ofNat 1))])]), (AO.dct false []), (AO.lst [D.non, (D.int (Int.ofNat 0)), (D.tup []), (D.tup [(D.tup [])]), (D.tup [(D.int (Int.ofNat 1))]), (D.tup [(D.tup [(D.int (Int.ofNat 1)), (D.int (Int.ofNat 2))])]), (D.tup [(D.tup [(D.int (Int.ofNat 1)), (D.int (Int.ofNat 2))]), (D.tup [(D.int (Int.ofNat 3)), (D.int (Int.ofNat 1))])]), (D.tup [(D.tup [(D.int (Int.ofNat 1)), (D.int (Int.ofNat 2))]), (D.obj 2)]), (D.obj 3), (D.tup [(D.tup [(D.bl true)])]), (D.tup [(D.tup [(D.int (Int.ofNat 1)), D.non]), (D.tup [D.non, (D.int (Int.ofNat 1))])]), (D.str [49]), (D.obj 4)]), (AO.lst [(D.tup [(D.tup [(D.int (Int.ofNat 1)), (D.int (Int.ofNat 0))]), (D.tup [(D.int (Int.ofNat 0)), (D.int (Int.ofNat 1)), (D.int (Int.ofNat 0))])]), (D.tup [(D.tup [(D.int (Int.ofNat 1)), (D.int (Int.ofNat 0))]), (D.tup [(D.int (Int.ofNat 0))])]), (D.tup [(D.tup [(D.int (Int.ofNat 1000000000000000000000000000000000000000000000000000000000000))])]), (D.tup [(D.tup [(D.tup [(D.int (Int.ofNat 1)), (D.int (Int.ofNat 2))])])]), (D.tup [(D.tup [(D.int (Int.ofNat 0)), (D.int (Int.ofNat 0)), (D.int (Int.ofNat 0)), (D.int (Int.ofNat 0)), (D.int (Int.ofNat 0))]), (D.tup [(D.int (Int.ofNat 0)), (D.int (Int.ofNat 0)), (D.int (Int.ofNat 0)), (D.int (Int.ofNat 0)), (D.int (Int.ofNat 0))]), (D.tup [(D.int (Int.ofNat 0)), (D.int (Int.ofNat 0)), (D.int (Int.ofNat 0)), (D.int (Int.ofNat 0)), (D.int (Int.ofNat 0))]), (D.tup [(D.int (Int.ofNat 0)), (D.int (Int.ofNat 0)), (D.int (Int.ofNat 0)), (D.int (Int.ofNat 0)), (D.int (Int.ofNat 0))]), (D.tup [(D.int (Int.ofNat 0)), (D.int (Int.ofNat 0)), (D.int (Int.ofNat 0)), (D.int (Int.ofNat 0)), (D.int (Int.ofNat 0))])]), (D.tup [(D.tup [(D.int (Int.ofNat 1))]), (D.tup [(D.int (Int.ofNat 1))])])]), (AO.lst [D.non, (D.int (Int.ofNat 0)), (D.tup []), (D.tup [(D.tup [])]), (D.tup [(D.int (Int.ofNat 1))]), (D.tup [(D.tup [(D.int (Int.ofNat 1)), (D.int (Int.ofNat 2))])]), (D.tup [(D.tup [(D.int (Int.ofNat 1)), (D.int (Int.ofNat 2))]), (D.tup [(D.int (Int.ofNat 3)), (D.int (Int.ofNat 1))])]), (D.tup [(D.tup [(D.int (Int.ofNat 1)), (D.int (Int.ofNat 2))]), (D.obj 2)]), (D.obj 3), (D.tup [(D.tup [(D.bl true)])]), (D.tup [(D.tup [(D.int (Int.ofNat 1)), D.non]), (D.tup [D.non, (D.int (Int.ofNat 1))])]), (D.str [49]), (D.obj 4), (D.tup [(D.tup [(D.int (Int.ofNat 1)), (D.int (Int.ofNat 0))]), (D.tup [(D.int (Int.ofNat 0)), (D.int (Int.ofNat 1)), (D.int (Int.ofNat 0))])]), (D.tup [(D.tup [(D.int (Int.ofNat 1)), (D.int (Int.ofNat 0))]), (D.tup [(D.int (Int.ofNat 0))])]), (D.tup [(D.tup [(D.int (Int.ofNat 1000000000000000000000000000000000000000000000000000000000000))])]), (D.tup [(D.tup [(D.tup [(D.int (Int.ofNat 1)), (D.int (Int.ofNat 2))])])]), (D.tup [(D.tup [(D.int (Int.ofNat 0)), (D.int (Int.ofNat 0)), (D.int (Int.ofNat 0)), (D.int (Int.ofNat 0)), (D.int (Int.ofNat 0))]), (D.tup [(D.int (Int.ofNat 0)), (D.int (Int.ofNat 0)), (D.int (Int.ofNat 0)), (D.int (Int.ofNat 0)), (D.int (Int.ofNat 0))]), (D.tup [(D.int (Int.ofNat 0)), (D.int (Int.ofNat 0)), (D.int (Int.ofNat 0)), (D.int (Int.ofNat 0)), (D.int (Int.ofNat 0))]), (D.tup [(D.int (Int.ofNat 0)), (D.int (Int.ofNat 0)), (D.int (Int.ofNat 0)), (D.int (Int.ofNat 0)), (D.int (Int.ofNat 0))]), (D.tup [(D.int (Int.ofNat 0)), (D.int (Int.ofNat 0)), (D.int (Int.ofNat 0)), (D.int (Int.ofNat 0)), (D.int (Int.ofNat 0))])]), (D.tup [(D.tup [(D.int (Int.ofNat 1))]), (D.tup [(D.int (Int.ofNat 1))])])]), (AO.lst [(D.tup [(D.tup [(D.int (Int.ofNat 1))])]), (D.tup [(D.tup [(D.int (Int.ofNat 0)), (D.int (Int.ofNat 1))]), (D.tup [(D.int (Int.ofNat 1)), (D.int (Int.ofNat 0))])]), (D.tup [(D.tup [(D.int (Int.ofNat 0)), (D.int (Int.ofNat 0)), (D.int (Int.ofNat 0)), (D.int (Int.ofNat 0))]), (D.tup [(D.int (Int.ofNat 0)), (D.int (Int.ofNat 0)), (D.int (Int.ofNat 0)), (D.int (Int.ofNat 0))]), (D.tup [(D.int (Int.ofNat 0)), (D.int (Int.ofNat 0)), (D.int (Int.ofNat 0)), (D.int (Int.ofNat 0))]), (D.tup [(D.int (Int.ofNat 0)), (D.int (Int.ofNat 0)), (D.int (Int.ofNat 0)), (D.int (Int.ofNat 0))])]), (D.tup [(D.tup [(D.int (Int.ofNat 999999999999999999999999999999999999999999999999999999999999))])])]), (AO.lst [])] = SOut.nx [some (D.obj 0), some (qT2 r0), some (D.obj 5), some (qT7 r1), some v0, some (D.obj 9), some (D.fn 38), none, none, none, none] [(cell a b c), (AO.lst [D.non, (D.int (Int.ofNat 0)), (D.int (Int.ofNat 1)), (D.int (Int.ofNat 2)), (D.int (Int.ofNat 9)), (D.int (Int.ofNat 17)), (D.int (Int.negSucc 2)), (D.bl true), (D.str [51]), (D.tup [(D.int (Int.ofNat 3))]), (D.int (Int.ofNat 1000000000000000000000000000000000000000000000000000000000000))]), (AO.lst [(D.int (Int.ofNat 2)), (D.int (Int.ofNat 1))]), (AO.lst [(D.tup [(D.int (Int.ofNat 1))])]), (AO.dct false []), (AO.lst [D.non, (D.int (Int.ofNat 0)), (D.tup []), (D.tup [(D.tup [])]), (D.tup [(D.int (Int.ofNat 1))]), (D.tup [(D.tup [(D.int (Int.ofNat 1)), (D.int (Int.ofNat 2))])]), (D.tup [(D.tup [(D.int (Int.ofNat 1)), (D.int (Int.ofNat 2))]), (D.tup [(D.int (Int.ofNat 3)), (D.int (Int.ofNat 1))])]), (D.tup [(D.tup [(D.int (Int.ofNat 1)), (D.int (Int.ofNat 2))]), (D.obj 2)]), (D.obj 3), (D.tup [(D.tup [(D.bl true)])]), (D.tup [(D.tup [(D.int (Int.ofNat 1)), D.non]), (D.tup [D.non, (D.int (Int.ofNat 1))])]), (D.str [49]), (D.obj 4)]), (AO.lst [(D.tup [(D.tup [(D.int (Int.ofNat 1)), (D.int (Int.ofNat 0))]), (D.tup [(D.int (Int.ofNat 0)), (D.int (Int.ofNat 1)), (D.int (Int.ofNat 0))])]), (D.tup [(D.tup [(D.int (Int.ofNat 1)), (D.int (Int.ofNat 0))]), (D.tup [(D.int (Int.ofNat 0))])]), (D.tup [(D.tup [(D.int (Int.ofNat 1000000000000000000000000000000000000000000000000000000000000))])]), (D.tup [(D.tup [(D.tup [(D.int (Int.ofNat 1)), (D.int (Int.ofNat 2))])])]), (D.tup [(D.tup [(D.int (Int.ofNat 0)), (D.int (Int.ofNat 0)), (D.int (Int.ofNat 0)), (D.int (Int.ofNat 0)), (D.int (Int.ofNat 0))]), (D.tup [(D.int (Int.ofNat 0)), (D.int (Int.ofNat 0)), (D.int (Int.ofNat 0)), (D.int (Int.ofNat 0)), (D.int (Int.ofNat 0))]), (D.tup [(D.int (Int.ofNat 0)), (D.int (Int.ofNat 0)), (D.int (Int.ofNat 0)), (D.int (Int.ofNat 0)), (D.int (Int.ofNat 0))]), (D.tup [(D.int (Int.ofNat 0)), (D.int (Int.ofNat 0)), (D.int (Int.ofNat 0)), (D.int (Int.ofNat 0)), (D.int (Int.ofNat 0))]), (D.tup [(D.int (Int.ofNat 0)), (D.int (Int.ofNat 0)), (D.int (Int.ofNat 0)), (D.int (Int.ofNat 0)), (D.int (Int.ofNat 0))])]), (D.tup [(D.tup [(D.int (Int.ofNat 1))]), (D.tup [(D.int (Int.ofNat 1))])])]), (AO.lst [D.non, (D.int (Int.ofNat 0)), (D.tup []), (D.tup [(D.tup [])]), (D.tup [(D.int (Int.ofNat 1))]), (D.tup [(D.tup [(D.int (Int.ofNat 1)), (D.int (Int.ofNat 2))])]), (D.tup [(D.tup [(D.int (Int.ofNat 1)), (D.int (Int.ofNat 2))]), (D.tup [(D.int (Int.ofNat 3)), (D.int (Int.ofNat 1))])]), (D.tup [(D.tup [(D.int (Int.ofNat 1)), (D.int (Int.ofNat 2))]), (D.obj 2)]), (D.obj 3), (D.tup [(D.tup [(D.bl true)])]), (D.tup [(D.tup [(D.int (Int.ofNat 1)), D.non]), (D.tup [D.non, (D.int (Int.ofNat 1))])]), (D.str [49]), (D.obj 4), (D.tup [(D.tup [(D.int (Int.ofNat 1)), (D.int (Int.ofNat 0))]), (D.tup [(D.int (Int.ofNat 0)), (D.int (Int.ofNat 1)), (D.int (Int.ofNat 0))])]), (D.tup [(D.tup [(D.int (Int.ofNat 1)), (D.int (Int.ofNat 0))]), (D.tup [(D.int (Int.ofNat 0))])]), (D.tup [(D.tup [(D.int (Int.ofNat 1000000000000000000000000000000000000000000000000000000000000))])]), (D.tup [(D.tup [(D.tup [(D.int (Int.ofNat 1)), (D.int (Int.ofNat 2))])])]), (D.tup [(D.tup [(D.int (Int.ofNat 0)), (D.int (Int.ofNat 0)), (D.int (Int.ofNat 0)), (D.int (Int.ofNat 0)), (D.int (Int.ofNat 0))]), (D.tup [(D.int (Int.ofNat 0)), (D.int (Int.ofNat 0)), (D.int (Int.ofNat 0)), (D.int (Int.ofNat 0)), (D.int (Int.ofNat 0))]), (D.tup [(D.int (Int.ofNat 0)), (D.int (Int.ofNat 0)), (D.int (Int.ofNat 0)), (D.int (Int.ofNat 0)), (D.int (Int.ofNat 0))]), (D.tup [(D.int (Int.ofNat 0)), (D.int (Int.ofNat 0)), (D.int (Int.ofNat 0)), (D.int (Int.ofNat 0)), (D.int (Int.ofNat 0))]), (D.tup [(D.int (Int.ofNat 0)), (D.int (Int.ofNat 0)), (D.int (Int.ofNat 0)), (D.int (Int.ofNat 0)), (D.int (Int.ofNat 0))])]), (D.tup [(D.tup [(D.int (Int.ofNat 1))]), (D.tup [(D.int (Int.ofNat 1))])])]), (AO.lst [(D.tup [(D.tup [(D.int (Int.ofNat 1))])]), (D.tup [(D.tup [(D.int (Int.ofNat 0)), (D.int (Int.ofNat 1))]), (D.tup [(D.int (Int.ofNat 1)), (D.int (Int.ofNat 0))])]), (D.tup [(D.tup [(D.int (Int.ofNat 0)), (D.int (Int.ofNat 0)), (D.int (Int.ofNat 0)), (D.int (Int.ofNat 0))]), (D.tup [(D.int (Int.ofNat 0)), (D.int (Int.ofNat 0)), (D.int (Int.ofNat 0)), (D.int (Int.ofNat 0))]), (D.tup [(D.int (Int.ofNat 0)), (D.int (Int.ofNat 0)), (D.int (Int.ofNat 0)), (D.int (Int.ofNat 0))]), (D.tup [(D.int (Int.ofNat 0)), (D.int (Int.ofNat 0)), (D.int (Int.ofNat 0)), (D.int (Int.ofNat 0))])]), (D.tup [(D.tup [(D.int (Int.ofNat 999999999999999999999999999999999999999999999999999999999999))])])]), (AO.lst [(qT15 r0)])] := all2 (f := fun r0 r1 => qs14 rcq [some (D.obj 0), some (qT2 r0), some (D.obj 5), some (qT7 r1), some v0, some (D.obj 9), some (D.fn 38), none, none, none, none] [(cell a b c), (AO.lst [D.non, (D.int (Int.ofNat 0)), (D.int (Int.ofNat 1)), (D.int (Int.ofNat 2)), (D.int (Int.ofNat 9)), (D.int (Int.ofNat 17)), (D.int (Int.negSucc 2)), (D.bl true), (D.str [51]), (D.tup [(D.int (Int.ofNat 3))]), (D.int (Int.ofNat 1000000000000000000000000000000000000000000000000000000000000))]), (AO.lst [(D.int (Int.ofNat 2)), (D.int (Int.ofNat 1))]), (AO.lst [(D.tup [(D.int (Int.ofNat 1))])]), (AO.dct false []), (AO.lst [D.non, (D.int (Int.ofNat 0)), (D.tup []), (D.tup [(D.tup [])]), (D.tup [(D.int (Int.ofNat 1))]), (D.tup [(D.tup [(D.int (Int.ofNat 1)), (D.int (Int.ofNat 2))])]), (D.tup [(D.tup [(D.int (Int.ofNat 1)), (D.int (Int.ofNat 2))]), (D.tup [(D.int (Int.ofNat 3)), (D.int (Int.ofNat 1))])]), (D.tup [(D.tup [(D.int (Int.ofNat 1)), (D.int (Int.ofNat 2))]), (D.obj 2)]), (D.obj 3), (D.tup [(D.tup [(D.bl true)])]), (D.tup [(D.tup [(D.int (Int.ofNat 1)), D.non]), (D.tup [D.non, (D.int (Int.ofNat 1))])]), (D.str [49]), (D.obj 4)]), (AO.lst [(D.tup [(D.tup [(D.int (Int.ofNat 1)), (D.int (Int.ofNat 0))]), (D.tup [(D.int (Int.ofNat 0)), (D.int (Int.ofNat 1)), (D.int (Int.ofNat 0))])]), (D.tup [(D.tup [(D.int (Int.ofNat 1)), (D.int (Int.ofNat 0))]), (D.tup [(D.int (Int.ofNat 0))])]), (D.tup [(D.tup [(D.int (Int.ofNat 1000000000000000000000000000000000000000000000000000000000000))])]), (D.tup [(D.tup [(D.tup [(D.int (Int.ofNat 1)), (D.int (Int.ofNat 2))])])]), (D.tup [(D.tup [(D.int (Int.ofNat 0)), (D.int (Int.ofNat 0)), (D.int (Int.ofNat 0)), (D.int (Int.ofNat 0)), (D.int (Int.ofNat 0))]), (D.tup [(D.int (Int.ofNat 0)), (D.int (Int.ofNat 0)), (D.int (Int.ofNat 0)), (D.int (Int.ofNat 0)), (D.int (Int.ofNat 0))]), (D.tup [(D.int (Int.ofNat 0)), (D.int (Int.ofNat 0)), (D.int (Int.ofNat 0)), (D.int (Int.ofNat 0)), (D.int (Int.ofNat 0))]), (D.tup [(D.int (Int.ofNat 0)), (D.int (Int.ofNat 0)), (D.int (Int.ofNat 0)), (D.int (Int.ofNat 0)), (D.int (Int.ofNat 0))]), (D.tup [(D.int (Int.ofNat 0)), (D.int (Int.ofNat 0)), (D.int (Int.ofNat 0)), (D.int (Int.ofNat 0)), (D.int (Int.ofNat 0))])]), (D.tup [(D.tup [(D.int (Int.ofNat 1))]), (D.tup [(D.int (Int.ofNat 1))])])]), (AO.lst [D.non, (D.int (Int.ofNat 0)), (D.tup []), (D.tup [(D.tup [])]), (D.tup [(D.int (Int.ofNat 1))]), (D.tup [(D.tup [(D.int (Int.ofNat 1)), (D.int (Int.ofNat 2))])]), (D.tup [(D.tup [(D.int (Int.ofNat 1)), (D.int (Int.ofNat 2))]), (D.tup [(D.int (Int.ofNat 3)), (D.int (Int.ofNat 1))])]), (D.tup [(D.tup [(D.int (Int.ofNat 1)), (D.int (Int.ofNat 2))]), (D.obj 2)]), (D.obj 3), (D.tup [(D.tup [(D.bl true)])]), (D.tup [(D.tup [(D.int (Int.ofNat 1)), D.non]), (D.tup [D.non, (D.int (Int.ofNat 1))])]), (D.str [49]), (D.obj 4), (D.tup [(D.tup [(D.int (Int.ofNat 1)), (D.int (Int.ofNat 0))]), (D.tup [(D.int (Int.ofNat 0)), (D.int (Int.ofNat 1)), (D.int (Int.ofNat 0))])]), (D.tup [(D.tup [(D.int (Int.ofNat 1)), (D.int (Int.ofNat 0))]), (D.tup [(D.int (Int.ofNat 0))])]), (D.tup [(D.tup [(D.int (Int.ofNat 1000000000000000000000000000000000000000000000000000000000000))])]), (D.tup [(D.tup [(D.tup [(D.int (Int.ofNat 1)), (D.int (Int.ofNat 2))])])]), (D.tup [(D.tup [(D.int (Int.ofNat 0)), (D.int (Int.ofNat 0)), (D.int (Int.ofNat 0)), (D.int (Int.ofNat 0)), (D.int (Int.ofNat 0))]), (D.tup [(D.int (Int.ofNat 0)), (D.int (Int.ofNat 0)), (D.int (Int.ofNat 0)), (D.int (Int.ofNat 0)), (D.int (Int.ofNat 0))]), (D.tup [(D.int (Int.ofNat 0)), (D.int (Int.ofNat 0)), (D.int (Int.ofNat 0)), (D.int (Int.ofNat 0)), (D.int (Int.ofNat 0))]), (D.tup [(D.int (Int.ofNat 0)), (D.int (Int.ofNat 0)), (D.int (Int.ofNat 0)), (D.int (Int.ofNat 0)), (D.int (Int.ofNat 0))]), (D.tup [(D.int (Int.ofNat 0)), (D.int (Int.ofNat 0)), (D.int (Int.ofNat 0)), (D.int (Int.ofNat 0)), (D.int (Int.ofNat 0))])]), (D.tup [(D.tup [(D.int (Int.ofNat 1))]), (D.tup [(D.int (Int.ofNat 1))])])]), (AO.lst [(D.tup [(D.tup [(D.int (Int.ofNat 1))])]), (D.tup [(D.tup [(D.int (Int.ofNat 0)), (D.int (Int.ofNat 1))]), (D.tup [(D.int (Int.ofNat 1)), (D.int (Int.ofNat 0))])]), (D.tup [(D.tup [(D.int (Int.ofNat 0)), (D.int (Int.ofNat 0)), (D.int (Int.ofNat 0)), (D.int (Int.ofNat 0))]), (D.tup [(D.int (Int.ofNat 0)), (D.int (Int.ofNat 0)), (D.int (Int.ofNat 0)), (D.int (Int.ofNat 0))]), (D.tup [(D.int (Int.ofNat 0)), (D.int (Int.ofNat 0)), (D.int (Int.ofNat 0)), (D.int (Int.ofNat 0))]), (D.tup [(D.int (Int.ofNat 0)), (D.int (Int.ofNat 0)), (D.int (Int.ofNat 0)), (D.int (Int.ofNat 0))])]), (D.tup [(D.tup [(D.int (Int.ofNat 999999999999999999999999999999999999999999999999999999999999))])])]), (AO.lst [])]) (g := fun r0 r1 => SOut.nx [some (D.obj 0), some (qT2 r0), some (D.obj 5), some (qT7 r1), some v0, some (D.obj 9), some (D.fn 38), none, none, none, none] [(cell a b c), (AO.lst [D.non, (D.int (Int.ofNat 0)), (D.int (Int.ofNat 1)), (D.int (Int.ofNat 2)), (D.int (Int.ofNat 9)), (D.int (Int.ofNat 17)), (D.int (Int.negSucc 2)), (D.bl true), (D.str [51]), (D.tup [(D.int (Int.ofNat 3))]), (D.int (Int.ofNat 1000000000000000000000000000000000000000000000000000000000000))]), (AO.lst [(D.int (Int.ofNat 2)), (D.int (Int.ofNat 1))]), (AO.lst [(D.tup [(D.int (Int.ofNat 1))])]), (AO.dct false []), (AO.lst [D.non, (D.int (Int.ofNat 0)), (D.tup []), (D.tup [(D.tup [])]), (D.tup [(D.int (Int.ofNat 1))]), (D.tup [(D.tup [(D.int (Int.ofNat 1)), (D.int (Int.ofNat 2))])]), (D.tup [(D.tup [(D.int (Int.ofNat 1)), (D.int (Int.ofNat 2))]), (D.tup [(D.int (Int.ofNat 3)), (D.int (Int.ofNat 1))])]), (D.tup [(D.tup [(D.int (Int.ofNat 1)), (D.int (Int.ofNat 2))]), (D.obj 2)]), (D.obj 3), (D.tup [(D.tup [(D.bl true)])]), (D.tup [(D.tup [(D.int (Int.ofNat 1)), D.non]), (D.tup [D.non, (D.int (Int.ofNat 1))])]), (D.str [49]), (D.obj 4)]), (AO.lst [(D.tup [(D.tup [(D.int (Int.ofNat 1)), (D.int (Int.ofNat 0))]), (D.tup [(D.int (Int.ofNat 0)), (D.int (Int.ofNat 1)), (D.int (Int.ofNat 0))])]), (D.tup [(D.tup [(D.int (Int.ofNat 1)), (D.int (Int.ofNat 0))]), (D.tup [(D.int (Int.ofNat 0))])]), (D.tup [(D.tup [(D.int (Int.ofNat 1000000000000000000000000000000000000000000000000000000000000))])]), (D.tup [(D.tup [(D.tup [(D.int (Int.ofNat 1)), (D.int (Int.ofNat 2))])])]), (D.tup [(D.tup [(D.int (Int.ofNat 0)), (D.int (Int.ofNat 0)), (D.int (Int.ofNat 0)), (D.int (Int.ofNat 0)), (D.int (Int.ofNat 0))]), (D.tup [(D.int (Int.ofNat 0)), (D.int (Int.ofNat 0)), (D.int (Int.ofNat 0)), (D.int (Int.ofNat 0)), (D.int (Int.ofNat 0))]), (D.tup [(D.int (Int.ofNat 0)), (D.int (Int.ofNat 0)), (D.int (Int.ofNat 0)), (D.int (Int.ofNat 0)), (D.int (Int.ofNat 0))]), (D.tup [(D.int (Int.ofNat 0)), (D.int (Int.ofNat 0)), (D.int (Int.ofNat 0)), (D.int (Int.ofNat 0)), (D.int (Int.ofNat 0))]), (D.tup [(D.int (Int.ofNat 0)), (D.int (Int.ofNat 0)), (D.int (Int.ofNat 0)), (D.int (Int.ofNat 0)), (D.int (Int.ofNat 0))])]), (D.tup [(D.tup [(D.int (Int.ofNat 1))]), (D.tup [(D.int (Int.ofNat 1))])])]), (AO.lst [D.non, (D.int (Int.ofNat 0)), (D.tup []), (D.tup [(D.tup [])]), (D.tup [(D.int (Int.ofNat 1))]), (D.tup [(D.tup [(D.int (Int.ofNat 1)), (D.int (Int.ofNat 2))])]), (D.tup [(D.tup [(D.int (Int.ofNat 1)), (D.int (Int.ofNat 2))]), (D.tup [(D.int (Int.ofNat 3)), (D.int (Int.ofNat 1))])]), (D.tup [(D.tup [(D.int (Int.ofNat 1)), (D.int (Int.ofNat 2))]), (D.obj 2)]), (D.obj 3), (D.tup [(D.tup [(D.bl true)])]), (D.tup [(D.tup [(D.int (Int.ofNat 1)), D.non]), (D.tup [D.non, (D.int (Int.ofNat 1))])]), (D.str [49]), (D.obj 4), (D.tup [(D.tup [(D.int (Int.ofNat 1)), (D.int (Int.ofNat 0))]), (D.tup [(D.int (Int.ofNat 0)), (D.int (Int.ofNat 1)), (D.int (Int.ofNat 0))])]), (D.tup [(D.tup [(D.int (Int.ofNat 1)), (D.int (Int.ofNat 0))]), (D.tup [(D.int (Int.ofNat 0))])]), (D.tup [(D.tup [(D.int (Int.ofNat 1000000000000000000000000000000000000000000000000000000000000))])]), (D.tup [(D.tup [(D.tup [(D.int (Int.ofNat 1)), (D.int (Int.ofNat 2))])])]), (D.tup [(D.tup [(D.int (Int.ofNat 0)), (D.int (Int.ofNat 0)), (D.int (Int.ofNat 0)), (D.int (Int.ofNat 0)), (D.int (Int.ofNat 0))]), (D.tup [(D.int (Int.ofNat 0)), (D.int (Int.ofNat 0)), (D.int (Int.ofNat 0)), (D.int (Int.ofNat 0)), (D.int (Int.ofNat 0))]), (D.tup [(D.int (Int.ofNat 0)), (D.int (Int.ofNat 0)), (D.int (Int.ofNat 0)), (D.int (Int.ofNat 0)), (D.int (Int.ofNat 0))]), (D.tup [(D.int (Int.ofNat 0)), (D.int (Int.ofNat 0)), (D.int (Int.ofNat 0)), (D.int (Int.ofNat 0)), (D.int (Int.ofNat 0))]), (D.tup [(D.int (Int.ofNat 0)), (D.int (Int.ofNat 0)), (D.int (Int.ofNat 0)), (D.int (Int.ofNat 0)), (D.int (Int.ofNat 0))])]), (D.tup [(D.tup [(D.int (Int.ofNat 1))]), (D.tup [(D.int (Int.ofNat 1))])])]), (AO.lst [(D.tup [(D.tup [(D.int (Int.ofNat 1))])]), (D.tup [(D.tup [(D.int (Int.ofNat 0)), (D.int (Int.ofNat 1))]), (D.tup [(D.int (Int.ofNat 1)), (D.int (Int.ofNat 0))])]), (D.tup [(D.tup [(D.int (Int.ofNat 0)), (D.int (Int.ofNat 0)), (D.int (Int.ofNat 0)), (D.int (Int.ofNat 0))]), (D.tup [(D.int (Int.ofNat 0)), (D.int (Int.ofNat 0)), (D.int (Int.ofNat 0)), (D.int (Int.ofNat 0))]), (D.tup [(D.int (Int.ofNat 0)), (D.int (Int.ofNat 0)), (D.int (Int.ofNat 0)), (D.int (Int.ofNat 0))]), (D.tup [(D.int (Int.ofNat 0)), (D.int (Int.ofNat 0)), (D.int (Int.ofNat 0)), (D.int (Int.ofNat 0))])]), (D.tup [(D.tup [(D.int (Int.ofNat 999999999999999999999999999999999999999999999999999999999999))])])]), (AO.lst [(qT15 r0)])]) (n := 11) (m := 19) (by kernel_rfl) r0 r1 h0 h1
theorem qt18 (a b c : Int) (v0 : D) (v1 : D) (v2 : D) (r1 : Nat) (h1 : r1 < 19) : qs17 rcq [some (D.obj 0), some v0, some (D.obj 5), some (qT7 r1), some v1, some (D.obj 9), some (D.fn 38), none, none, none, none] [(cell a b c), (AO.lst [D.non, (D.int (Int.ofNat 0)), (D.int (Int.ofNat 1)), (D.int (Int.ofNat 2)), (D.int (Int.ofNat 9)), (D.int (Int.ofNat 17)), (D.int (Int.negSucc 2)), (D.bl true), (D.str [51]), (D.tup [(D.int (Int.ofNat 3))]), (D.int (Int.ofNat 1000000000000000000000000000000000000000000000000000000000000))]), (AO.lst [(D.int (Int.ofNat 2)), (D.int (Int.ofNat 1))]), (AO.lst [(D.tup [(D.int (Int.ofNat 1))])]), (AO.dct false []), (AO.lst [D.non, (D.int (Int.ofNat 0)), (D.tup []), (D.tup [(D.tup [])]), (D.tup [(D.int (Int.ofNat 1))]), (D.tup [(D.tup [(D.int (Int.ofNat 1)), (D.int (Int.ofNat 2))])]), (D.tup [(D.tup [(D.int (Int.ofNat 1)), (D.int (Int.ofNat 2))]), (D.tup [(D.int (Int.ofNat 3)), (D.int (Int.ofNat 1))])]), (D.tup [(D.tup [(D.int (Int.ofNat 1)), (D.int (Int.ofNat 2))]), (D.obj 2)]), (D.obj 3), (D.tup [(D.tup [(D.bl true)])]), (D.tup [(D.tup [(D.int (Int.ofNat 1)), D.non]), (D.tup [D.non, (D.int (Int.ofNat 1))])]), (D.str [49]), (D.obj 4)]), (AO.lst [(D.tup [(D.tup [(D.int (Int.ofNat 1)), (D.int (Int.ofNat 0))]), (D.tup [(D.int (Int.ofNat 0)), (D.int (Int.ofNat 1)), (D.int (Int.ofNat 0))])]), (D.tup [(D.tup [(D.int (Int.ofNat 1)), (D.int (Int.ofNat 0))]), (D.tup [(D.int (Int.ofNat 0))])]), (D.tup [(D.tup [(D.int (Int.ofNat 1000000000000000000000000000000000000000000000000000000000000))])]), (D.tup [(D.tup [(D.tup [(D.int (Int.ofNat 1)), (D.int (Int.ofNat 2))])])]), (D.tup [(D.tup [(D.int (Int.ofNat 0)), (D.int (Int.ofNat 0)), (D.int (Int.ofNat 0)), (D.int (Int.ofNat 0)), (D.int (Int.ofNat 0))]), (D.tup [(D.int (Int.ofNat 0)), (D.int (Int.ofNat 0)), (D.int (Int.ofNat 0)), (D.int (Int.ofNat 0)), (D.int (Int.ofNat 0))]), (D.tup [(D.int (Int.ofNat 0)), (D.int (Int.ofNat 0)), (D.int (Int.ofNat 0)), (D.int (Int.ofNat 0)), (D.int (Int.ofNat 0))]), (D.tup [(D.int (Int.ofNat 0)), (D.int (Int.ofNat 0)), (D.int (Int.ofNat 0)), (D.int (Int.ofNat 0)), (D.int (Int.ofNat 0))]), (D.tup [(D.int (Int.ofNat 0)), (D.int (Int.ofNat 0)), (D.int (Int.ofNat 0)), (D.int (Int.ofNat 0)), (D.int (Int.ofNat 0))])]), (D.tup [(D.tup [(D.int (Int.ofNat 1))]), (D.tup [(D.int (Int.ofNat 1))])])]), (AO.lst [D.non, (D.int (Int.ofNat 0)), (D.tup []), (D.tup [(D.tup [])]), (D.tup [(D.int (Int.ofNat 1))]), (D.tup [(D.tup [(D.int (Int.ofNat 1)), (D.int (Int.ofNat 2))])]), (D.tup [(D.tup [(D.int (Int.ofNat 1)), (D.int (Int.ofNat 2))]), (D.tup [(D.int (Int.ofNat 3)), (D.int (Int.ofNat 1))])]), (D.tup [(D.tup [(D.int (Int.ofNat 1)), (D.int (Int.ofNat 2))]), (D.obj 2)]), (D.obj 3), (D.tup [(D.tup [(D.bl true)])]), (D.tup [(D.tup [(D.int (Int.ofNat 1)), D.non]), (D.tup [D.non, (D.int (Int.ofNat 1))])]), (D.str [49]), (D.obj 4), (D.tup [(D.tup [(D.int (Int.ofNat 1)), (D.int (Int.ofNat 0))]), (D.tup [(D.int (Int.ofNat 0)), (D.int (Int.ofNat 1)), (D.int (Int.ofNat 0))])]), (D.tup [(D.tup [(D.int (Int.ofNat 1)), (D.int (Int.ofNat 0))]), (D.tup [(D.int (Int.ofNat 0))])]), (D.tup [(D.tup [(D.int (Int.ofNat 1000000000000000000000000000000000000000000000000000000000000))])]), (D.tup [(D.tup [(D.tup [(D.int (Int.ofNat 1)), (D.int (Int.ofNat 2))])])]), (D.tup [(D.tup [(D.int (Int.ofNat 0)), (D.int (Int.ofNat 0)), (D.int (Int.ofNat 0)), (D.int (Int.ofNat 0)), (D.int (Int.ofNat 0))]), (D.tup [(D.int (Int.ofNat 0)), (D.int (Int.ofNat 0)), (D.int (Int.ofNat 0)), (D.int (Int.ofNat 0)), (D.int (Int.ofNat 0))]), (D.tup [(D.int (Int.ofNat 0)), (D.int (Int.ofNat 0)), (D.int (Int.ofNat 0)), (D.int (Int.ofNat 0)), (D.int (Int.ofNat 0))]), (D.tup [(D.int (Int.ofNat 0)), (D.int (Int.ofNat 0)), (D.int (Int.ofNat 0)), (D.int (Int.ofNat 0)), (D.int (Int.ofNat 0))]), (D.tup [(D.int (Int.ofNat 0)), (D.int (Int.ofNat 0)), (D.int (Int.ofNat 0)), (D.int (Int.ofNat 0)), (D.int (Int.ofNat 0))])]), (D.tup [(D.tup [(D.int (Int.ofNat 1))]), (D.tup [(D.int (Int.ofNat 1))])])]), (AO.lst [(D.tup [(D.tup [(D.int (Int.ofNat 1))])]), (D.tup [(D.tup [(D.int (Int.ofNat 0)), (D.int (Int.ofNat 1))]), (D.tup [(D.int (Int.ofNat 1)), (D.int (Int.ofNat 0))])]), (D.tup [(D.tup [(D.int (Int.ofNat 0)), (D.int (Int.ofNat 0)), (D.int (Int.ofNat 0)), (D.int (Int.ofNat 0))]), (D.tup [(D.int (Int.ofNat 0)), (D.int (Int.ofNat 0)), (D.int (Int.ofNat 0)), (D.int (Int.ofNat 0))]), (D.tup [(D.int (Int.ofNat 0)), (D.int (Int.ofNat 0)), (D.int (Int.ofNat 0)), (D.int (Int.ofNat 0))]), (D.tup [(D.int (Int.ofNat 0)), (D.int (Int.ofNat 0)), (D.int (Int.ofNat 0)), (D.int (Int.ofNat 0))])]), (D.tup [(D.tup [(D.int (Int.ofNat 999999999999999999999999999999999999999999999999999999999999))])])]), (AO.lst [v2])] = SOut.nx [some (D.obj 0), some v0, some (D.obj 5), some (qT7 r1), some v1, some (D.obj 9), some (D.fn 38), none, none, none, none] [(cell a b c), (AO.lst [D.non, (D.int (Int.ofNat 0)), (D.int (Int.ofNat 1)), (D.int (Int.ofNat 2)), (D.int (Int.ofNat 9)), (D.int (Int.ofNat 17)), (D.int (Int.negSucc 2)), (D.bl true), (D.str [51]), (D.tup [(D.int (Int.ofNat 3))]), (D.int (Int.ofNat 1000000000000000000000000000000000000000000000000000000000000))]), (AO.lst [(D.int (Int.ofNat 2)), (D.int (Int.ofNat 1))]), (AO.lst [(D.tup [(D.int (Int.ofNat 1))])]), (AO.dct false []), (AO.lst [D.non, (D.int (Int.ofNat 0)), (D.tup []), (D.tup [(D.tup [])]), (D.tup [(D.int (Int.ofNat 1))]), (D.tup [(D.tup [(D.int (Int.ofNat 1)), (D.int (Int.ofNat 2))])]), (D.tup [(D.tup [(D.int (Int.ofNat 1)), (D.int (Int.ofNat 2))]), (D.tup [(D.int (Int.ofNat 3)), (D.int (Int.ofNat 1))])]), (D.tup [(D.tup [(D.int (Int.ofNat 1)), (D.int (Int.ofNat 2))]), (D.obj 2)]), (D.obj 3), (D.tup [(D.tup [(D.bl true)])]), (D.tup [(D.tup [(D.int (Int.ofNat 1)), D.non]), (D.tup [D.non, (D.int (Int.ofNat 1))])]), (D.str [49]), (D.obj 4)]), (AO.lst [(D.tup [(D.tup [(D.int (Int.ofNat 1)), (D.int (Int.ofNat 0))]), (D.tup [(D.int (Int.ofNat 0)), (D.int (Int.ofNat 1)), (D.int (Int.ofNat 0))])]), (D.tup [(D.tup [(D.int (Int.ofNat 1)), (D.int (Int.ofNat 0))]), (D.tup [(D.int (Int.ofNat 0))])]), (D.tup [(D.tup [(D.int (Int.ofNat 1000000000000000000000000000000000000000000000000000000000000))])]), (D.tup [(D.tup [(D.tup [(D.int (Int.ofNat 1)), (D.int (Int.ofNat 2))])])]), (D.tup [(D.tup [(D.int (Int.ofNat 0)), (D.int (Int.ofNat 0)), (D.int (Int.ofNat 0)), (D.int (Int.ofNat 0)), (D.int (Int.ofNat 0))]), (D.tup [(D.int (Int.ofNat 0)), (D.int (Int.ofNat 0)), (D.int (Int.ofNat 0)), (D.int (Int.ofNat 0)), (D.int (Int.ofNat 0))]), (D.tup [(D.int (Int.ofNat 0)), (D.int (Int.ofNat 0)), (D.int (Int.ofNat 0)), (D.int (Int.ofNat 0)), (D.int (Int.ofNat 0))]), (D.tup [(D.int (Int.ofNat 0)), (D.int (Int.ofNat 0)), (D.int (Int.ofNat 0)), (D.int (Int.ofNat 0)), (D.int (Int.ofNat 0))]), (D.tup [(D.int (Int.ofNat 0)), (D.int (Int.ofNat 0)), (D.int (Int.ofNat 0)), (D.int (Int.ofNat 0)), (D.int (Int.ofNat 0))])]), (D.tup [(D.tup [(D.int (Int.ofNat 1))]), (D.tup [(D.int (Int.ofNat 1))])])]), (AO.lst [D.non, (D.int (Int.ofNat 0)), (D.tup []), (D.tup [(D.tup [])]), (D.tup [(D.int (Int.ofNat 1))]), (D.tup [(D.tup [(D.int (Int.ofNat 1)), (D.int (Int.ofNat 2))])]), (D.tup [(D.tup [(D.int (Int.ofNat 1)), (D.int (Int.ofNat 2))]), (D.tup [(D.int (Int.ofNat 3)), (D.int (Int.ofNat 1))])]), (D.tup [(D.tup [(D.int (Int.ofNat 1)), (D.int (Int.ofNat 2))]), (D.obj 2)]), (D.obj 3), (D.tup [(D.tup [(D.bl true)])]), (D.tup [(D.tup [(D.int (Int.ofNat 1)), D.non]), (D.tup [D.non, (D.int (Int.ofNat 1))])]), (D.str [49]), (D.obj 4), (D.tup [(D.tup [(D.int (Int.ofNat 1)), (D.int (Int.ofNat 0))]), (D.tup [(D.int (Int.ofNat 0)), (D.int (Int.ofNat 1)), (D.int (Int.ofNat 0))])]), (D.tup [(D.tup [(D.int (Int.ofNat 1)), (D.int (Int.ofNat 0))]), (D.tup [(D.int (Int.ofNat 0))])]), (D.tup [(D.tup [(D.int (Int.ofNat 1000000000000000000000000000000000000000000000000000000000000))])]), (D.tup [(D.tup [(D.tup [(D.int (Int.ofNat 1)), (D.int (Int.ofNat 2))])])]), (D.tup [(D.tup [(D.int (Int.ofNat 0)), (D.int (Int.ofNat 0)), (D.int (Int.ofNat 0)), (D.int (Int.ofNat 0)), (D.int (Int.ofNat 0))]), (D.tup [(D.int (Int.ofNat 0)), (D.int (Int.ofNat 0)), (D.int (Int.ofNat 0)), (D.int (Int.ofNat 0)), (D.int (Int.ofNat 0))]), (D.tup [(D.int (Int.ofNat 0)), (D.int (Int.ofNat 0)), (D.int (Int.ofNat 0)), (D.int (Int.ofNat 0)), (D.int (Int.ofNat 0))]), (D.tup [(D.int (Int.ofNat 0)), (D.int (Int.ofNat 0)), (D.int (Int.ofNat 0)), (D.int (Int.ofNat 0)), (D.int (Int.ofNat 0))]), (D.tup [(D.int (Int.ofNat 0)), (D.int (Int.ofNat 0)), (D.int (Int.ofNat 0)), (D.int (Int.ofNat 0)), (D.int (Int.ofNat 0))])]), (D.tup [(D.tup [(D.int (Int.ofNat 1))]), (D.tup [(D.int (Int.ofNat 1))])])]), (AO.lst [(D.tup [(D.tup [(D.int (Int.ofNat 1))])]), (D.tup [(D.tup [(D.int (Int.ofNat 0)), (D.int (Int.ofNat 1))]), (D.tup [(D.int (Int.ofNat 1)), (D.int (Int.ofNat 0))])]), (D.tup [(D.tup [(D.int (Int.ofNat 0)), (D.int (Int.ofNat 0)), (D.int (Int.ofNat 0)), (D.int (Int.ofNat 0))]), (D.tup [(D.int (Int.ofNat 0)), (D.int (Int.ofNat 0)), (D.int (Int.ofNat 0)), (D.int (Int.ofNat 0))]), (D.tup [(D.int (Int.ofNat 0)), (D.int (Int.ofNat 0)), (D.int (Int.ofNat 0)), (D.int (Int.ofNat 0))]), (D.tup [(D.int (Int.ofNat 0)), (D.int (Int.ofNat 0)), (D.int (Int.ofNat 0)), (D.int (Int.ofNat 0))])]), (D.tup [(D.tup [(D.int (Int.ofNat 999999999999999999999999999999999999999999999999999999999999))])])]), (AO.lst [v2, (D.tup [(D.str [114, 101, 102, 117, 115, 101, 100]), (D.str [116, 97, 98, 108, 101])])])] := all1 (f := fun r1 => qs17 rcq [some (D.obj 0), some v0, some (D.obj 5), some (qT7 r1), some v1, some (D.obj 9), some (D.fn 38), none, none, none, none] [(cell a b c), (AO.lst [D.non, (D.int (Int.ofNat 0)), (D.int (Int.ofNat 1)), (D.int (Int.ofNat 2)), (D.int (Int.ofNat 9)), (D.int (Int.ofNat 17)), (D.int (Int.negSucc 2)), (D.bl true), (D.str [51]), (D.tup [(D.int (Int.ofNat 3))]), (D.int (Int.ofNat 1000000000000000000000000000000000000000000000000000000000000))]), (AO.lst [(D.int (Int.ofNat 2)), (D.int (Int.ofNat 1))]), (AO.lst [(D.tup [(D.int (Int.ofNat 1))])]), (AO.dct false []), (AO.lst [D.non, (D.int (Int.ofNat 0)), (D.tup []), (D.tup [(D.tup [])]), (D.tup [(D.int (Int.ofNat 1))]), (D.tup [(D.tup [(D.int (Int.ofNat 1)), (D.int (Int.ofNat 2))])]), (D.tup [(D.tup [(D.int (Int.ofNat 1)), (D.int (Int.ofNat 2))]), (D.tup [(D.int (Int.ofNat 3)), (D.int (Int.ofNat 1))])]), (D.tup [(D.tup [(D.int (Int.ofNat 1)), (D.int (Int.ofNat 2))]), (D.obj 2)]), (D.obj 3), (D.tup [(D.tup [(D.bl true)])]), (D.tup [(D.tup [(D.int (Int.ofNat 1)), D.non]), (D.tup [D.non, (D.int (Int.ofNat 1))])]), (D.str [49]), (D.obj 4)]), (AO.lst [(D.tup [(D.tup [(D.int (Int.ofNat 1)), (D.int (Int.ofNat 0))]), (D.tup [(D.int (Int.ofNat 0)), (D.int (Int.ofNat 1)), (D.int (Int.ofNat 0))])]), (D.tup [(D.tup [(D.int (Int.ofNat 1)), (D.int (Int.ofNat 0))]), (D.tup [(D.int (Int.ofNat 0))])]), (D.tup [(D.tup [(D.int (Int.ofNat 1000000000000000000000000000000000000000000000000000000000000))])]), (D.tup [(D.tup [(D.tup [(D.int (Int.ofNat 1)), (D.int (Int.ofNat 2))])])]), (D.tup [(D.tup [(D.int (Int.ofNat 0)), (D.int (Int.ofNat 0)), (D.int (Int.ofNat 0)), (D.int (Int.ofNat 0)), (D.int (Int.ofNat 0))]), (D.tup [(D.int (Int.ofNat 0)), (D.int (Int.ofNat 0)), (D.int (Int.ofNat 0)), (D.int (Int.ofNat 0)), (D.int (Int.ofNat 0))]), (D.tup [(D.int (Int.ofNat 0)), (D.int (Int.ofNat 0)), (D.int (Int.ofNat 0)), (D.int (Int.ofNat 0)), (D.int (Int.ofNat 0))]), (D.tup [(D.int (Int.ofNat 0)), (D.int (Int.ofNat 0)), (D.int (Int.ofNat 0)), (D.int (Int.ofNat 0)), (D.int (Int.ofNat 0))]), (D.tup [(D.int (Int.ofNat 0)), (D.int (Int.ofNat 0)), (D.int (Int.ofNat 0)), (D.int (Int.ofNat 0)), (D.int (Int.ofNat 0))])]), (D.tup [(D.tup [(D.int (Int.ofNat 1))]), (D.tup [(D.int (Int.ofNat 1))])])]), (AO.lst [D.non, (D.int (Int.ofNat 0)), (D.tup []), (D.tup [(D.tup [])]), (D.tup [(D.int (Int.ofNat 1))]), (D.tup [(D.tup [(D.int (Int.ofNat 1)), (D.int (Int.ofNat 2))])]), (D.tup [(D.tup [(D.int (Int.ofNat 1)), (D.int (Int.ofNat 2))]), (D.tup [(D.int (Int.ofNat 3)), (D.int (Int.ofNat 1))])]), (D.tup [(D.tup [(D.int (Int.ofNat 1)), (D.int (Int.ofNat 2))]), (D.obj 2)]), (D.obj 3), (D.tup [(D.tup [(D.bl true)])]), (D.tup [(D.tup [(D.int (Int.ofNat 1)), D.non]), (D.tup [D.non, (D.int (Int.ofNat 1))])]), (D.str [49]), (D.obj 4), (D.tup [(D.tup [(D.int (Int.ofNat 1)), (D.int (Int.ofNat 0))]), (D.tup [(D.int (Int.ofNat 0)), (D.int (Int.ofNat 1)), (D.int (Int.ofNat 0))])]), (D.tup [(D.tup [(D.int (Int.ofNat 1)), (D.int (Int.ofNat 0))]), (D.tup [(D.int (Int.ofNat 0))])]), (D.tup [(D.tup [(D.int (Int.ofNat 1000000000000000000000000000000000000000000000000000000000000))])]), (D.tup [(D.tup [(D.tup [(D.int (Int.ofNat 1)), (D.int (Int.ofNat 2))])])]), (D.tup [(D.tup [(D.int (Int.ofNat 0)), (D.int (Int.ofNat 0)), (D.int (Int.ofNat 0)), (D.int (Int.ofNat 0)), (D.int (Int.ofNat 0))]), (D.tup [(D.int (Int.ofNat 0)), (D.int (Int.ofNat 0)), (D.int (Int.ofNat 0)), (D.int (Int.ofNat 0)), (D.int (Int.ofNat 0))]), (D.tup [(D.int (Int.ofNat 0)), (D.int (Int.ofNat 0)), (D.int (Int.ofNat 0)), (D.int (Int.ofNat 0)), (D.int (Int.ofNat 0))]), (D.tup [(D.int (Int.ofNat 0)), (D.int (Int.ofNat 0)), (D.int (Int.ofNat 0)), (D.int (Int.ofNat 0)), (D.int (Int.ofNat 0))]), (D.tup [(D.int (Int.ofNat 0)), (D.int (Int.ofNat 0)), (D.int (Int.ofNat 0)), (D.int (Int.ofNat 0)), (D.int (Int.ofNat 0))])]), (D.tup [(D.tup [(D.int (Int.ofNat 1))]), (D.tup [(D.int (Int.ofNat 1))])])]), (AO.lst [(D.tup [(D.tup [(D.int (Int.ofNat 1))])]), (D.tup [(D.tup [(D.int (Int.ofNat 0)), (D.int (Int.ofNat 1))]), (D.tup [(D.int (Int.ofNat 1)), (D.int (Int.ofNat 0))])]), (D.tup [(D.tup [(D.int (Int.ofNat 0)), (D.int (Int.ofNat 0)), (D.int (Int.ofNat 0)), (D.int (Int.ofNat 0))]), (D.tup [(D.int (Int.ofNat 0)), (D.int (Int.ofNat 0)), (D.int (Int.ofNat 0)), (D.int (Int.ofNat 0))]), (D.tup [(D.int (Int.ofNat 0)), (D.int (Int.ofNat 0)), (D.int (Int.ofNat 0)), (D.int (Int.ofNat 0))]), (D.tup [(D.int (Int.ofNat 0)), (D.int (Int.ofNat 0)), (D.int (Int.ofNat 0)), (D.int (Int.ofNat 0))])]), (D.tup [(D.tup [(D.int (Int.ofNat 999999999999999999999999999999999999999999999999999999999999))])])]), (AO.lst [v2])]) (g := fun r1 => SOut.nx [some (D.obj 0), some v0, some (D.obj 5), some (qT7 r1), some v1, some (D.obj 9), some (D.fn 38), none, none, none, none] [(cell a b c), (AO.lst [D.non, (D.int (Int.ofNat 0)), (D.int (Int.ofNat 1)), (D.int (Int.ofNat 2)), (D.int (Int.ofNat 9)), (D.int (Int.ofNat 17)), (D.int (Int.negSucc 2)), (D.bl true), (D.str [51]), (D.tup [(D.int (Int.ofNat 3))]), (D.int (Int.ofNat 1000000000000000000000000000000000000000000000000000000000000))]), (AO.lst [(D.int (Int.ofNat 2)), (D.int (Int.ofNat 1))]), (AO.lst [(D.tup [(D.int (Int.ofNat 1))])]), (AO.dct false []), (AO.lst [D.non, (D.int (Int.ofNat 0)), (D.tup []), (D.tup [(D.tup [])]), (D.tup [(D.int (Int.ofNat 1))]), (D.tup [(D.tup [(D.int (Int.ofNat 1)), (D.int (Int.ofNat 2))])]), (D.tup [(D.tup [(D.int (Int.ofNat 1)), (D.int (Int.ofNat 2))]), (D.tup [(D.int (Int.ofNat 3)), (D.int (Int.ofNat 1))])]), (D.tup [(D.tup [(D.int (Int.ofNat 1)), (D.int (Int.ofNat 2))]), (D.obj 2)]), (D.obj 3), (D.tup [(D.tup [(D.bl true)])]), (D.tup [(D.tup [(D.int (Int.ofNat 1)), D.non]), (D.tup [D.non, (D.int (Int.ofNat 1))])]), (D.str [49]), (D.obj 4)]), (AO.lst [(D.tup [(D.tup [(D.int (Int.ofNat 1)), (D.int (Int.ofNat 0))]), (D.tup [(D.int (Int.ofNat 0)), (D.int (Int.ofNat 1)), (D.int (Int.ofNat 0))])]), (D.tup [(D.tup [(D.int (Int.ofNat 1)), (D.int (Int.ofNat 0))]), (D.tup [(D.int (Int.ofNat 0))])]), (D.tup [(D.tup [(D.int (Int.ofNat 1000000000000000000000000000000000000000000000000000000000000))])]), (D.tup [(D.tup [(D.tup [(D.int (Int.ofNat 1)), (D.int (Int.ofNat 2))])])]), (D.tup [(D.tup [(D.int (Int.ofNat 0)), (D.int (Int.ofNat 0)), (D.int (Int.ofNat 0)), (D.int (Int.ofNat 0)), (D.int (Int.ofNat 0))]), (D.tup [(D.int (Int.ofNat 0)), (D.int (Int.ofNat 0)), (D.int (Int.ofNat 0)), (D.int (Int.ofNat 0)), (D.int (Int.ofNat 0))]), (D.tup [(D.int (Int.ofNat 0)), (D.int (Int.ofNat 0)), (D.int (Int.ofNat 0)), (D.int (Int.ofNat 0)), (D.int (Int.ofNat 0))]), (D.tup [(D.int (Int.ofNat 0)), (D.int (Int.ofNat 0)), (D.int (Int.ofNat 0)), (D.int (Int.ofNat 0)), (D.int (Int.ofNat 0))]), (D.tup [(D.int (Int.ofNat 0)), (D.int (Int.ofNat 0)), (D.int (Int.ofNat 0)), (D.int (Int.ofNat 0)), (D.int (Int.ofNat 0))])]), (D.tup [(D.tup [(D.int (Int.ofNat 1))]), (D.tup [(D.int (Int.ofNat 1))])])]), (AO.lst [D.non, (D.int (Int.ofNat 0)), (D.tup []), (D.tup [(D.tup [])]), (D.tup [(D.int (Int.ofNat 1))]), (D.tup [(D.tup [(D.int (Int.ofNat 1)), (D.int (Int.ofNat 2))])]), (D.tup [(D.tup [(D.int (Int.ofNat 1)), (D.int (Int.ofNat 2))]), (D.tup [(D.int (Int.ofNat 3)), (D.int (Int.ofNat 1))])]), (D.tup [(D.tup [(D.int (Int.ofNat 1)), (D.int (Int.ofNat 2))]), (D.obj 2)]), (D.obj 3), (D.tup [(D.tup [(D.bl true)])]), (D.tup [(D.tup [(D.int (Int.ofNat 1)), D.non]), (D.tup [D.non, (D.int (Int.ofNat 1))])]), (D.str [49]), (D.obj 4), (D.tup [(D.tup [(D.int (Int.ofNat 1)), (D.int (Int.ofNat 0))]), (D.tup [(D.int (Int.ofNat 0)), (D.int (Int.ofNat 1)), (D.int (Int.ofNat 0))])]), (D.tup [(D.tup [(D.int (Int.ofNat 1)), (D.int (Int.ofNat 0))]), (D.tup [(D.int (Int.ofNat 0))])]), (D.tup [(D.tup [(D.int (Int.ofNat 1000000000000000000000000000000000000000000000000000000000000))])]), (D.tup [(D.tup [(D.tup [(D.int (Int.ofNat 1)), (D.int (Int.ofNat 2))])])]), (D.tup [(D.tup [(D.int (Int.ofNat 0)), (D.int (Int.ofNat 0)), (D.int (Int.ofNat 0)), (D.int (Int.ofNat 0)), (D.int (Int.ofNat 0))]), (D.tup [(D.int (Int.ofNat 0)), (D.int (Int.ofNat 0)), (D.int (Int.ofNat 0)), (D.int (Int.ofNat 0)), (D.int (Int.ofNat 0))]), (D.tup [(D.int (Int.ofNat 0)), (D.int (Int.ofNat 0)), (D.int (Int.ofNat 0)), (D.int (Int.ofNat 0)), (D.int (Int.ofNat 0))]), (D.tup [(D.int (Int.ofNat 0)), (D.int (Int.ofNat 0)), (D.int (Int.ofNat 0)), (D.int (Int.ofNat 0)), (D.int (Int.ofNat 0))]), (D.tup [(D.int (Int.ofNat 0)), (D.int (Int.ofNat 0)), (D.int (Int.ofNat 0)), (D.int (Int.ofNat 0)), (D.int (Int.ofNat 0))])]), (D.tup [(D.tup [(D.int (Int.ofNat 1))]), (D.tup [(D.int (Int.ofNat 1))])])]), (AO.lst [(D.tup [(D.tup [(D.int (Int.ofNat 1))])]), (D.tup [(D.tup [(D.int (Int.ofNat 0)), (D.int (Int.ofNat 1))]), (D.tup [(D.int (Int.ofNat 1)), (D.int (Int.ofNat 0))])]), (D.tup [(D.tup [(D.int (Int.ofNat 0)), (D.int (Int.ofNat 0)), (D.int (Int.ofNat 0)), (D.int (Int.ofNat 0))]), (D.tup [(D.int (Int.ofNat 0)), (D.int (Int.ofNat 0)), (D.int (Int.ofNat 0)), (D.int (Int.ofNat 0))]), (D.tup [(D.int (Int.ofNat 0)), (D.int (Int.ofNat 0)), (D.int (Int.ofNat 0)), (D.int (Int.ofNat 0))]), (D.tup [(D.int (Int.ofNat 0)), (D.int (Int.ofNat 0)), (D.int (Int.ofNat 0)), (D.int (Int.ofNat 0))])]), (D.tup [(D.tup [(D.int (Int.ofNat 999999999999999999999999999999999999999999999999999999999999))])])]), (AO.lst [v2, (D.tup [(D.str [114, 101, 102, 117, 115, 101, 100]), (D.str [116, 97, 98, 108, 101])])])]) (n := 19) (by kernel_rfl) r1 h1
theorem qt20 (a b c : Int) (v0 : D) (v1 : D) (v2 : D) (r2 : Nat) (h2 : r2 < 4) : qs19 rcq [some (D.obj 0), some v0, some (D.obj 5), some v1, some (qT10 r2), some (D.obj 9), some (D.fn 38), none, none, none, none] [(cell a b c), (AO.lst [D.non, (D.int (Int.ofNat 0)), (D.int (Int.ofNat 1)), (D.int (Int.ofNat 2)), (D.int (Int.ofNat 9)), (D.int (Int.ofNat 17)), (D.int (Int.negSucc 2)), (D.bl true), (D.str [51]), (D.tup [(D.int (Int.ofNat 3))]), (D.int (Int.ofNat 1000000000000000000000000000000000000000000000000000000000000))]), (AO.lst [(D.int (Int.ofNat 2)), (D.int (Int.ofNat 1))]), (AO.lst [(D.tup [(D.int (Int.ofNat 1))])]), (AO.dct false []), (AO.lst [D.non, (D.int (Int.ofNat 0)), (D.tup []), (D.tup [(D.tup [])]), (D.tup [(D.int (Int.ofNat 1))]), (D.tup [(D.tup [(D.int (Int.ofNat 1)), (D.int (Int.ofNat 2))])]), (D.tup [(D.tup [(D.int (Int.ofNat 1)), (D.int (Int.ofNat 2))]), (D.tup [(D.int (Int.ofNat 3)), (D.int (Int.ofNat 1))])]), (D.tup [(D.tup [(D.int (Int.ofNat 1)), (D.int (Int.ofNat 2))]), (D.obj 2)]), (D.obj 3), (D.tup [(D.tup [(D.bl true)])]), (D.tup [(D.tup [(D.int (Int.ofNat 1)), D.non]), (D.tup [D.non, (D.int (Int.ofNat 1))])]), (D.str [49]), (D.obj 4)]), (AO.lst [(D.tup [(D.tup [(D.int (Int.ofNat 1)), (D.int (Int.ofNat 0))]), (D.tup [(D.int (Int.ofNat 0)), (D.int (Int.ofNat 1)), (D.int (Int.ofNat 0))])]), (D.tup [(D.tup [(D.int (Int.ofNat 1)), (D.int (Int.ofNat 0))]), (D.tup [(D.int (Int.ofNat 0))])]), (D.tup [(D.tup [(D.int (Int.ofNat 1000000000000000000000000000000000000000000000000000000000000))])]), (D.tup [(D.tup [(D.tup [(D.int (Int.ofNat 1)), (D.int (Int.ofNat 2))])])]), (D.tup [(D.tup [(D.int (Int.ofNat 0)), (D.int (Int.ofNat 0)), (D.int (Int.ofNat 0)), (D.int (Int.ofNat 0)), (D.int (Int.ofNat 0))]), (D.tup [(D.int (Int.ofNat 0)), (D.int (Int.ofNat 0)), (D.int (Int.ofNat 0)), (D.int (Int.ofNat 0)), (D.int (Int.ofNat 0))]), (D.tup [(D.int (Int.ofNat 0)), (D.int (Int.ofNat 0)), (D.int (Int.ofNat 0)), (D.int (Int.ofNat 0)), (D.int (Int.ofNat 0))]), (D.tup [(D.int (Int.ofNat 0)), (D.int (Int.ofNat 0)), (D.int (Int.ofNat 0)), (D.int (Int.ofNat 0)), (D.int (Int.ofNat 0))]), (D.tup [(D.int (Int.ofNat 0)), (D.int (Int.ofNat 0)), (D.int (Int.ofNat 0)), (D.int (Int.ofNat 0)), (D.int (Int.ofNat 0))])]), (D.tup [(D.tup [(D.int (Int.ofNat 1))]), (D.tup [(D.int (Int.ofNat 1))])])]), (AO.lst [D.non, (D.int (Int.ofNat 0)), (D.tup []), (D.tup [(D.tup [])]), (D.tup [(D.int (Int.ofNat 1))]), (D.tup [(D.tup [(D.int (Int.ofNat 1)), (D.int (Int.ofNat 2))])]), (D.tup [(D.tup [(D.int (Int.ofNat 1)), (D.int (Int.ofNat 2))]), (D.tup [(D.int (Int.ofNat 3)), (D.int (Int.ofNat 1))])]), (D.tup [(D.tup [(D.int (Int.ofNat 1)), (D.int (Int.ofNat 2))]), (D.obj 2)]), (D.obj 3), (D.tup [(D.tup [(D.bl true)])]), (D.tup [(D.tup [(D.int (Int.ofNat 1)), D.non]), (D.tup [D.non, (D.int (Int.ofNat 1))])]), (D.str [49]), (D.obj 4), (D.tup [(D.tup [(D.int (Int.ofNat 1)), (D.int (Int.ofNat 0))]), (D.tup [(D.int (Int.ofNat 0)), (D.int (Int.ofNat 1)), (D.int (Int.ofNat 0))])]), (D.tup [(D.tup [(D.int (Int.ofNat 1)), (D.int (Int.ofNat 0))]), (D.tup [(D.int (Int.ofNat 0))])]), (D.tup [(D.tup [(D.int (Int.ofNat 1000000000000000000000000000000000000000000000000000000000000))])]), (D.tup [(D.tup [(D.tup [(D.int (Int.ofNat 1)), (D.int (Int.ofNat 2))])])]), (D.tup [(D.tup [(D.int (Int.ofNat 0)), (D.int (Int.ofNat 0)), (D.int (Int.ofNat 0)), (D.int (Int.ofNat 0)), (D.int (Int.ofNat 0))]), (D.tup [(D.int (Int.ofNat 0)), (D.int (Int.ofNat 0)), (D.int (Int.ofNat 0)), (D.int (Int.ofNat 0)), (D.int (Int.ofNat 0))]), (D.tup [(D.int (Int.ofNat 0)), (D.int (Int.ofNat 0)), (D.int (Int.ofNat 0)), (D.int (Int.ofNat 0)), (D.int (Int.ofNat 0))]), (D.tup [(D.int (Int.ofNat 0)), (D.int (Int.ofNat 0)), (D.int (Int.ofNat 0)), (D.int (Int.ofNat 0)), (D.int (Int.ofNat 0))]), (D.tup [(D.int (Int.ofNat 0)), (D.int (Int.ofNat 0)), (D.int (Int.ofNat 0)), (D.int (Int.ofNat 0)), (D.int (Int.ofNat 0))])]), (D.tup [(D.tup [(D.int (Int.ofNat 1))]), (D.tup [(D.int (Int.ofNat 1))])])]), (AO.lst [(D.tup [(D.tup [(D.int (Int.ofNat 1))])]), (D.tup [(D.tup [(D.int (Int.ofNat 0)), (D.int (Int.ofNat 1))]), (D.tup [(D.int (Int.ofNat 1)), (D.int (Int.ofNat 0))])]), (D.tup [(D.tup [(D.int (Int.ofNat 0)), (D.int (Int.ofNat 0)), (D.int (Int.ofNat 0)), (D.int (Int.ofNat 0))]), (D.tup [(D.int (Int.ofNat 0)), (D.int (Int.ofNat 0)), (D.int (Int.ofNat 0)), (D.int (Int.ofNat 0))]), (D.tup [(D.int (Int.ofNat 0)), (D.int (Int.ofNat 0)), (D.int (Int.ofNat 0)), (D.int (Int.ofNat 0))]), (D.tup [(D.int (Int.ofNat 0)), (D.int (Int.ofNat 0)), (D.int (Int.ofNat 0)), (D.int (Int.ofNat 0))])]), (D.tup [(D.tup [(D.int (Int.ofNat 999999999999999999999999999999999999999999999999999999999999))])])]), (AO.lst [v2, (D.tup [(D.str [114, 101, 102, 117, 115, 101, 100]), (D.str [116, 97, 98, 108, 101])])])] = SOut.nx [some (D.obj 0), some v0, some (D.obj 5), some v1, some (qT10 r2), some (D.obj 9), some (D.fn 38), none, none, none, none] [(cell a b c), (AO.lst [D.non, (D.int (Int.ofNat 0)), (D.int (Int.ofNat 1)), (D.int (Int.ofNat 2)), (D.int (Int.ofNat 9)), (D.int (Int.ofNat 17)), (D.int (Int.negSucc 2)), (D.bl true), (D.str [51]), (D.tup [(D.int (Int.ofNat 3))]), (D.int (Int.ofNat 1000000000000000000000000000000000000000000000000000000000000))]), (AO.lst [(D.int (Int.ofNat 2)), (D.int (Int.ofNat 1))]), (AO.lst [(D.tup [(D.int (Int.ofNat 1))])]), (AO.dct false []), (AO.lst [D.non, (D.int (Int.ofNat 0)), (D.tup []), (D.tup [(D.tup [])]), (D.tup [(D.int (Int.ofNat 1))]), (D.tup [(D.tup [(D.int (Int.ofNat 1)), (D.int (Int.ofNat 2))])]), (D.tup [(D.tup [(D.int (Int.ofNat 1)), (D.int (Int.ofNat 2))]), (D.tup [(D.int (Int.ofNat 3)), (D.int (Int.ofNat 1))])]), (D.tup [(D.tup [(D.int (Int.ofNat 1)), (D.int (Int.ofNat 2))]), (D.obj 2)]), (D.obj 3), (D.tup [(D.tup [(D.bl true)])]), (D.tup [(D.tup [(D.int (Int.ofNat 1)), D.non]), (D.tup [D.non, (D.int (Int.ofNat 1))])]), (D.str [49]), (D.obj 4)]), (AO.lst [(D.tup [(D.tup [(D.int (Int.ofNat 1)), (D.int (Int.ofNat 0))]), (D.tup [(D.int (Int.ofNat 0)), (D.int (Int.ofNat 1)), (D.int (Int.ofNat 0))])]), (D.tup [(D.tup [(D.int (Int.ofNat 1)), (D.int (Int.ofNat 0))]), (D.tup [(D.int (Int.ofNat 0))])]), (D.tup [(D.tup [(D.int (Int.ofNat 1000000000000000000000000000000000000000000000000000000000000))])]), (D.tup [(D.tup [(D.tup [(D.int (Int.ofNat 1)), (D.int (Int.ofNat 2))])])]), (D.tup [(D.tup [(D.int (Int.ofNat 0)), (D.int (Int.ofNat 0)), (D.int (Int.ofNat 0)), (D.int (Int.ofNat 0)), (D.int (Int.ofNat 0))]), (D.tup [(D.int (Int.ofNat 0)), (D.int (Int.ofNat 0)), (D.int (Int.ofNat 0)), (D.int (Int.ofNat 0)), (D.int (Int.ofNat 0))]), (D.tup [(D.int (Int.ofNat 0)), (D.int (Int.ofNat 0)), (D.int (Int.ofNat 0)), (D.int (Int.ofNat 0)), (D.int (Int.ofNat 0))]), (D.tup [(D.int (Int.ofNat 0)), (D.int (Int.ofNat 0)), (D.int (Int.ofNat 0)), (D.int (Int.ofNat 0)), (D.int (Int.ofNat 0))]), (D.tup [(D.int (Int.ofNat 0)), (D.int (Int.ofNat 0)), (D.int (Int.ofNat 0)), (D.int (Int.ofNat 0)), (D.int (Int.ofNat 0))])]), (D.tup [(D.tup [(D.int (Int.ofNat 1))]), (D.tup [(D.int (Int.ofNat 1))])])]), (AO.lst [D.non, (D.int (Int.ofNat 0)), (D.tup []), (D.tup [(D.tup [])]), (D.tup [(D.int (Int.ofNat 1))]), (D.tup [(D.tup [(D.int (Int.ofNat 1)), (D.int (Int.ofNat 2))])]), (D.tup [(D.tup [(D.int (Int.ofNat 1)), (D.int (Int.ofNat 2))]), (D.tup [(D.int (Int.ofNat 3)), (D.int (Int.ofNat 1))])]), (D.tup [(D.tup [(D.int (Int.ofNat 1)), (D.int (Int.ofNat 2))]), (D.obj 2)]), (D.obj 3), (D.tup [(D.tup [(D.bl true)])]), (D.tup [(D.tup [(D.int (Int.ofNat 1)), D.non]), (D.tup [D.non, (D.int (Int.ofNat 1))])]), (D.str [49]), (D.obj 4), (D.tup [(D.tup [(D.int (Int.ofNat 1)), (D.int (Int.ofNat 0))]), (D.tup [(D.int (Int.ofNat 0)), (D.int (Int.ofNat 1)), (D.int (Int.ofNat 0))])]), (D.tup [(D.tup [(D.int (Int.ofNat 1)), (D.int (Int.ofNat 0))]), (D.tup [(D.int (Int.ofNat 0))])]), (D.tup [(D.tup [(D.int (Int.ofNat 1000000000000000000000000000000000000000000000000000000000000))])]), (D.tup [(D.tup [(D.tup [(D.int (Int.ofNat 1)), (D.int (Int.ofNat 2))])])]), (D.tup [(D.tup [(D.int (Int.ofNat 0)), (D.int (Int.ofNat 0)), (D.int (Int.ofNat 0)), (D.int (Int.ofNat 0)), (D.int (Int.ofNat 0))]), (D.tup [(D.int (Int.ofNat 0)), (D.int (Int.ofNat 0)), (D.int (Int.ofNat 0)), (D.int (Int.ofNat 0)), (D.int (Int.ofNat 0))]), (D.tup [(D.int (Int.ofNat 0)), (D.int (Int.ofNat 0)), (D.int (Int.ofNat 0)), (D.int (Int.ofNat 0)), (D.int (Int.ofNat 0))]), (D.tup [(D.int (Int.ofNat 0)), (D.int (Int.ofNat 0)), (D.int (Int.ofNat 0)), (D.int (Int.ofNat 0)), (D.int (Int.ofNat 0))]), (D.tup [(D.int (Int.ofNat 0)), (D.int (Int.ofNat 0)), (D.int (Int.ofNat 0)), (D.int (Int.ofNat 0)), (D.int (Int.ofNat 0))])]), (D.tup [(D.tup [(D.int (Int.ofNat 1))]), (D.tup [(D.int (Int.ofNat 1))])])]), (AO.lst [(D.tup [(D.tup [(D.int (Int.ofNat 1))])]), (D.tup [(D.tup [(D.int (Int.ofNat 0)), (D.int (Int.ofNat 1))]), (D.tup [(D.int (Int.ofNat 1)), (D.int (Int.ofNat 0))])]), (D.tup [(D.tup [(D.int (Int.ofNat 0)), (D.int (Int.ofNat 0)), (D.int (Int.ofNat 0)), (D.int (Int.ofNat 0))]), (D.tup [(D.int (Int.ofNat 0)), (D.int (Int.ofNat 0)), (D.int (Int.ofNat 0)), (D.int (Int.ofNat 0))]), (D.tup [(D.int (Int.ofNat 0)), (D.int (Int.ofNat 0)), (D.int (Int.ofNat 0)), (D.int (Int.ofNat 0))]), (D.tup [(D.int (Int.ofNat 0)), (D.int (Int.ofNat 0)), (D.int (Int.ofNat 0)), (D.int (Int.ofNat 0))])]), (D.tup [(D.tup [(D.int (Int.ofNat 999999999999999999999999999999999999999999999999999999999999))])])]), (AO.lst [v2, (D.tup [(D.str [114, 101, 102, 117, 115, 101, 100]), (D.str [116, 97, 98, 108, 101])]), (D.tup [(D.str [102, 105, 110, 101])])])] := all1 (f := fun r2 => qs19 rcq [some (D.obj 0), some v0, some (D.obj 5), some v1, some (qT10 r2), some (D.obj 9), some (D.fn 38), none, none, none, none] [(cell a b c), (AO.lst [D.non, (D.int (Int.ofNat 0)), (D.int (Int.ofNat 1)), (D.int (Int.ofNat 2)), (D.int (Int.ofNat 9)), (D.int (Int.ofNat 17)), (D.int (Int.negSucc 2)), (D.bl true), (D.str [51]), (D.tup [(D.int (Int.ofNat 3))]), (D.int (Int.ofNat 1000000000000000000000000000000000000000000000000000000000000))]), (AO.lst [(D.int (Int.ofNat 2)), (D.int (Int.ofNat 1))]), (AO.lst [(D.tup [(D.int (Int.ofNat 1))])]), (AO.dct false []), (AO.lst [D.non, (D.int (Int.ofNat 0)), (D.tup []), (D.tup [(D.tup [])]), (D.tup [(D.int (Int.ofNat 1))]), (D.tup [(D.tup [(D.int (Int.ofNat 1)), (D.int (Int.ofNat 2))])]), (D.tup [(D.tup [(D.int (Int.ofNat 1)), (D.int (Int.ofNat 2))]), (D.tup [(D.int (Int.ofNat 3)), (D.int (Int.ofNat 1))])]), (D.tup [(D.tup [(D.int (Int.ofNat 1)), (D.int (Int.ofNat 2))]), (D.obj 2)]), (D.obj 3), (D.tup [(D.tup [(D.bl true)])]), (D.tup [(D.tup [(D.int (Int.ofNat 1)), D.non]), (D.tup [D.non, (D.int (Int.ofNat 1))])]), (D.str [49]), (D.obj 4)]), (AO.lst [(D.tup [(D.tup [(D.int (Int.ofNat 1)), (D.int (Int.ofNat 0))]), (D.tup [(D.int (Int.ofNat 0)), (D.int (Int.ofNat 1)), (D.int (Int.ofNat 0))])]), (D.tup [(D.tup [(D.int (Int.ofNat 1)), (D.int (Int.ofNat 0))]), (D.tup [(D.int (Int.ofNat 0))])]), (D.tup [(D.tup [(D.int (Int.ofNat 1000000000000000000000000000000000000000000000000000000000000))])]), (D.tup [(D.tup [(D.tup [(D.int (Int.ofNat 1)), (D.int (Int.ofNat 2))])])]), (D.tup [(D.tup [(D.int (Int.ofNat 0)), (D.int (Int.ofNat 0)), (D.int (Int.ofNat 0)), (D.int (Int.ofNat 0)), (D.int (Int.ofNat 0))]), (D.tup [(D.int (Int.ofNat 0)), (D.int (Int.ofNat 0)), (D.int (Int.ofNat 0)), (D.int (Int.ofNat 0)), (D.int (Int.ofNat 0))]), (D.tup [(D.int (Int.ofNat 0)), (D.int (Int.ofNat 0)), (D.int (Int.ofNat 0)), (D.int (Int.ofNat 0)), (D.int (Int.ofNat 0))]), (D.tup [(D.int (Int.ofNat 0)), (D.int (Int.ofNat 0)), (D.int (Int.ofNat 0)), (D.int (Int.ofNat 0)), (D.int (Int.ofNat 0))]), (D.tup [(D.int (Int.ofNat 0)), (D.int (Int.ofNat 0)), (D.int (Int.ofNat 0)), (D.int (Int.ofNat 0)), (D.int (Int.ofNat 0))])]), (D.tup [(D.tup [(D.int (Int.ofNat 1))]), (D.tup [(D.int (Int.ofNat 1))])])]), (AO.lst [D.non, (D.int (Int.ofNat 0)), (D.tup []), (D.tup [(D.tup [])]), (D.tup [(D.int (Int.ofNat 1))]), (D.tup [(D.tup [(D.int (Int.ofNat 1)), (D.int (Int.ofNat 2))])]), (D.tup [(D.tup [(D.int (Int.ofNat 1)), (D.int (Int.ofNat 2))]), (D.tup [(D.int (Int.ofNat 3)), (D.int (Int.ofNat 1))])]), (D.tup [(D.tup [(D.int (Int.ofNat 1)), (D.int (Int.ofNat 2))]), (D.obj 2)]), (D.obj 3), (D.tup [(D.tup [(D.bl true)])]), (D.tup [(D.tup [(D.int (Int.ofNat 1)), D.non]), (D.tup [D.non, (D.int (Int.ofNat 1))])]), (D.str [49]), (D.obj 4), (D.tup [(D.tup [(D.int (Int.ofNat 1)), (D.int (Int.ofNat 0))]), (D.tup [(D.int (Int.ofNat 0)), (D.int (Int.ofNat 1)), (D.int (Int.ofNat 0))])]), (D.tup [(D.tup [(D.int (Int.ofNat 1)), (D.int (Int.ofNat 0))]), (D.tup [(D.int (Int.ofNat 0))])]), (D.tup [(D.tup [(D.int (Int.ofNat 1000000000000000000000000000000000000000000000000000000000000))])]), (D.tup [(D.tup [(D.tup [(D.int (Int.ofNat 1)), (D.int (Int.ofNat 2))])])]), (D.tup [(D.tup [(D.int (Int.ofNat 0)), (D.int (Int.ofNat 0)), (D.int (Int.ofNat 0)), (D.int (Int.ofNat 0)), (D.int (Int.ofNat 0))]), (D.tup [(D.int (Int.ofNat 0)), (D.int (Int.ofNat 0)), (D.int (Int.ofNat 0)), (D.int (Int.ofNat 0)), (D.int (Int.ofNat 0))]), (D.tup [(D.int (Int.ofNat 0)), (D.int (Int.ofNat 0)), (D.int (Int.ofNat 0)), (D.int (Int.ofNat 0)), (D.int (Int.ofNat 0))]), (D.tup [(D.int (Int.ofNat 0)), (D.int (Int.ofNat 0)), (D.int (Int.ofNat 0)), (D.int (Int.ofNat 0)), (D.int (Int.ofNat 0))]), (D.tup [(D.int (Int.ofNat 0)), (D.int (Int.ofNat 0)), (D.int (Int.ofNat 0)), (D.int (Int.ofNat 0)), (D.int (Int.ofNat 0))])]), (D.tup [(D.tup [(D.int (Int.ofNat 1))]), (D.tup [(D.int (Int.ofNat 1))])])]), (AO.lst [(D.tup [(D.tup [(D.int (Int.ofNat 1))])]), (D.tup [(D.tup [(D.int (Int.ofNat 0)), (D.int (Int.ofNat 1))]), (D.tup [(D.int (Int.ofNat 1)), (D.int (Int.ofNat 0))])]), (D.tup [(D.tup [(D.int (Int.ofNat 0)), (D.int (Int.ofNat 0)), (D.int (Int.ofNat 0)), (D.int (Int.ofNat 0))]), (D.tup [(D.int (Int.ofNat 0)), (D.int (Int.ofNat 0)), (D.int (Int.ofNat 0)), (D.int (Int.ofNat 0))]), (D.tup [(D.int (Int.ofNat 0)), (D.int (Int.ofNat 0)), (D.int (Int.ofNat 0)), (D.int (Int.ofNat 0))]), (D.tup [(D.int (Int.ofNat 0)), (D.int (Int.ofNat 0)), (D.int (Int.ofNat 0)), (D.int (Int.ofNat 0))])]), (D.tup [(D.tup [(D.int (Int.ofNat 999999999999999999999999999999999999999999999999999999999999))])])]), (AO.lst [v2, (D.tup [(D.str [114, 101, 102, 117, 115, 101, 100]), (D.str [116, 97, 98, 108, 101])])])]) (g := fun r2 => SOut.nx [some (D.obj 0), some v0, some (D.obj 5), some v1, some (qT10 r2), some (D.obj 9), some (D.fn 38), none, none, none, none] [(cell a b c), (AO.lst [D.non, (D.int (Int.ofNat 0)), (D.int (Int.ofNat 1)), (D.int (Int.ofNat 2)), (D.int (Int.ofNat 9)), (D.int (Int.ofNat 17)), (D.int (Int.negSucc 2)), (D.bl true), (D.str [51]), (D.tup [(D.int (Int.ofNat 3))]), (D.int (Int.ofNat 1000000000000000000000000000000000000000000000000000000000000))]), (AO.lst [(D.int (Int.ofNat 2)), (D.int (Int.ofNat 1))]), (AO.lst [(D.tup [(D.int (Int.ofNat 1))])]), (AO.dct false []), (AO.lst [D.non, (D.int (Int.ofNat 0)), (D.tup []), (D.tup [(D.tup [])]), (D.tup [(D.int (Int.ofNat 1))]), (D.tup [(D.tup [(D.int (Int.ofNat 1)), (D.int (Int.ofNat 2))])]), (D.tup [(D.tup [(D.int (Int.ofNat 1)), (D.int (Int.ofNat 2))]), (D.tup [(D.int (Int.ofNat 3)), (D.int (Int.ofNat 1))])]), (D.tup [(D.tup [(D.int (Int.ofNat 1)), (D.int (Int.ofNat 2))]), (D.obj 2)]), (D.obj 3), (D.tup [(D.tup [(D.bl true)])]), (D.tup [(D.tup [(D.int (Int.ofNat 1)), D.non]), (D.tup [D.non, (D.int (Int.ofNat 1))])]), (D.str [49]), (D.obj 4)]), (AO.lst [(D.tup [(D.tup [(D.int (Int.ofNat 1)), (D.int (Int.ofNat 0))]), (D.tup [(D.int (Int.ofNat 0)), (D.int (Int.ofNat 1)), (D.int (Int.ofNat 0))])]), (D.tup [(D.tup [(D.int (Int.ofNat 1)), (D.int (Int.ofNat 0))]), (D.tup [(D.int (Int.ofNat 0))])]), (D.tup [(D.tup [(D.int (Int.ofNat 1000000000000000000000000000000000000000000000000000000000000))])]), (D.tup [(D.tup [(D.tup [(D.int (Int.ofNat 1)), (D.int (Int.ofNat 2))])])]), (D.tup [(D.tup [(D.int (Int.ofNat 0)), (D.int (Int.ofNat 0)), (D.int (Int.ofNat 0)), (D.int (Int.ofNat 0)), (D.int (Int.ofNat 0))]), (D.tup [(D.int (Int.ofNat 0)), (D.int (Int.ofNat 0)), (D.int (Int.ofNat 0)), (D.int (Int.ofNat 0)), (D.int (Int.ofNat 0))]), (D.tup [(D.int (Int.ofNat 0)), (D.int (Int.ofNat 0)), (D.int (Int.ofNat 0)), (D.int (Int.ofNat 0)), (D.int (Int.ofNat 0))]), (D.tup [(D.int (Int.ofNat 0)), (D.int (Int.ofNat 0)), (D.int (Int.ofNat 0)), (D.int (Int.ofNat 0)), (D.int (Int.ofNat 0))]), (D.tup [(D.int (Int.ofNat 0)), (D.int (Int.ofNat 0)), (D.int (Int.ofNat 0)), (D.int (Int.ofNat 0)), (D.int (Int.ofNat 0))])]), (D.tup [(D.tup [(D.int (Int.ofNat 1))]), (D.tup [(D.int (Int.ofNat 1))])])]), (AO.lst [D.non, (D.int (Int.ofNat 0)), (D.tup []), (D.tup [(D.tup [])]), (D.tup [(D.int (Int.ofNat 1))]), (D.tup [(D.tup [(D.int (Int.ofNat 1)), (D.int (Int.ofNat 2))])]), (D.tup [(D.tup [(D.int (Int.ofNat 1)), (D.int (Int.ofNat 2))]), (D.tup [(D.int (Int.ofNat 3)), (D.int (Int.ofNat 1))])]), (D.tup [(D.tup [(D.int (Int.ofNat 1)), (D.int (Int.ofNat 2))]), (D.obj 2)]), (D.obj 3), (D.tup [(D.tup [(D.bl true)])]), (D.tup [(D.tup [(D.int (Int.ofNat 1)), D.non]), (D.tup [D.non, (D.int (Int.ofNat 1))])]), (D.str [49]), (D.obj 4), (D.tup [(D.tup [(D.int (Int.ofNat 1)), (D.int (Int.ofNat 0))]), (D.tup [(D.int (Int.ofNat 0)), (D.int (Int.ofNat 1)), (D.int (Int.ofNat 0))])]), (D.tup [(D.tup [(D.int (Int.ofNat 1)), (D.int (Int.ofNat 0))]), (D.tup [(D.int (Int.ofNat 0))])]), (D.tup [(D.tup [(D.int (Int.ofNat 1000000000000000000000000000000000000000000000000000000000000))])]), (D.tup [(D.tup [(D.tup [(D.int (Int.ofNat 1)), (D.int (Int.ofNat 2))])])]), (D.tup [(D.tup [(D.int (Int.ofNat 0)), (D.int (Int.ofNat 0)), (D.int (Int.ofNat 0)), (D.int (Int.ofNat 0)), (D.int (Int.ofNat 0))]), (D.tup [(D.int (Int.ofNat 0)), (D.int (Int.ofNat 0)), (D.int (Int.ofNat 0)), (D.int (Int.ofNat 0)), (D.int (Int.ofNat 0))]), (D.tup [(D.int (Int.ofNat 0)), (D.int (Int.ofNat 0)), (D.int (Int.ofNat 0)), (D.int (Int.ofNat 0)), (D.int (Int.ofNat 0))]), (D.tup [(D.int (Int.ofNat 0)), (D.int (Int.ofNat 0)), (D.int (Int.ofNat 0)), (D.int (Int.ofNat 0)), (D.int (Int.ofNat 0))]), (D.tup [(D.int (Int.ofNat 0)), (D.int (Int.ofNat 0)), (D.int (Int.ofNat 0)), (D.int (Int.ofNat 0)), (D.int (Int.ofNat 0))])]), (D.tup [(D.tup [(D.int (Int.ofNat 1))]), (D.tup [(D.int (Int.ofNat 1))])])]), (AO.lst [(D.tup [(D.tup [(D.int (Int.ofNat 1))])]), (D.tup [(D.tup [(D.int (Int.ofNat 0)), (D.int (Int.ofNat 1))]), (D.tup [(D.int (Int.ofNat 1)), (D.int (Int.ofNat 0))])]), (D.tup [(D.tup [(D.int (Int.ofNat 0)), (D.int (Int.ofNat 0)), (D.int (Int.ofNat 0)), (D.int (Int.ofNat 0))]), (D.tup [(D.int (Int.ofNat 0)), (D.int (Int.ofNat 0)), (D.int (Int.ofNat 0)), (D.int (Int.ofNat 0))]), (D.tup [(D.int (Int.ofNat 0)), (D.int (Int.ofNat 0)), (D.int (Int.ofNat 0)), (D.int (Int.ofNat 0))]), (D.tup [(D.int (Int.ofNat 0)), (D.int (Int.ofNat 0)), (D.int (Int.ofNat 0)), (D.int (Int.ofNat 0))])]), (D.tup [(D.tup [(D.int (Int.ofNat 999999999999999999999999999999999999999999999999999999999999))])])]), (AO.lst [v2, (D.tup [(D.str [114, 101, 102, 117, 115, 101, 100]), (D.str [116, 97, 98, 108, 101])]), (D.tup [(D.str [102, 105, 110, 101])])])]) (n := 4) (by kernel_rfl) r2 h2
theorem qt23 (a b c : Int) (v0 : D) (r0 : Nat) (r1 : Nat) (h0 : r0 < 11) (h1 : r1 < 19) : qs21 rcq [some (D.obj 0), some (qT2 r0), some (D.obj 5), some (qT7 r1), some v0, some (D.obj 9), some (D.fn 40), none, none, none, none] [(cell a b c), (AO.lst [D.non, (D.int (Int.ofNat 0)), (D.int (Int.ofNat 1)), (D.int (Int.ofNat 2)), (D.int (Int.ofNat 9)), (D.int (Int.ofNat 17)), (D.int (Int.negSucc 2)), (D.bl true), (D.str [51]), (D.tup [(D.int (Int.ofNat 3))]), (D.int (Int.ofNat 1000000000000000000000000000000000000000000000000000000000000))]), (AO.lst [(D.int (Int.ofNat 2)), (D.int (Int.ofNat 1))]), (AO.lst [(D.tup [(D.int (Int.ofNat 1))])]), (AO.dct false []), (AO.lst [D.non, (D.int (Int.ofNat 0)), (D.tup []), (D.tup [(D.tup [])]), (D.tup [(D.int (Int.ofNat 1))]), (D.tup [(D.tup [(D.int (Int.ofNat 1)), (D.int (Int.ofNat 2))])]), (D.tup [(D.tup [(D.int (Int.ofNat 1)), (D.int (Int.ofNat 2))]), (D.tup [(D.int (Int.ofNat 3)), (D.int (Int.ofNat 1))])]), (D.tup [(D.tup [(D.int (Int.ofNat 1)), (D.int (Int.ofNat 2))]), (D.obj 2)]), (D.obj 3), (D.tup [(D.tup [(D.bl true)])]), (D.tup [(D.tup [(D.int (Int.ofNat 1)), D.non]), (D.tup [D.non, (D.int (Int.ofNat 1))])]), (D.str [49]), (D.obj 4)]), (AO.lst [(D.tup [(D.tup [(D.int (Int.ofNat 1)), (D.int (Int.ofNat 0))]), (D.tup [(D.int (Int.ofNat 0)), (D.int (Int.ofNat 1)), (D.int (Int.ofNat 0))])]), (D.tup [(D.tup [(D.int (Int.ofNat 1)), (D.int (Int.ofNat 0))]), (D.tup [(D.int (Int.ofNat 0))])]), (D.tup [(D.tup [(D.int (Int.ofNat 1000000000000000000000000000000000000000000000000000000000000))])]), (D.tup [(D.tup [(D.tup [(D.int (Int.ofNat 1)), (D.int (Int.ofNat 2))])])]), (D.tup [(D.tup [(D.int (Int.ofNat 0)), (D.int (Int.ofNat 0)), (D.int (Int.ofNat 0)), (D.int (Int.ofNat 0)), (D.int (Int.ofNat 0))]), (D.tup [(D.int (Int.ofNat 0)), (D.int (Int.ofNat 0)), (D.int (Int.ofNat 0)), (D.int (Int.ofNat 0)), (D.int (Int.ofNat 0))]), (D.tup [(D.int (Int.ofNat 0)), (D.int (Int.ofNat 0)), (D.int (Int.ofNat 0)), (D.int (Int.ofNat 0)), (D.int (Int.ofNat 0))]), (D.tup [(D.int (Int.ofNat 0)), (D.int (Int.ofNat 0)), (D.int (Int.ofNat 0)), (D.int (Int.ofNat 0)), (D.int (Int.ofNat 0))]), (D.tup [(D.int (Int.ofNat 0)), (D.int (Int.ofNat 0)), (D.int (Int.ofNat 0)), (D.int (Int.ofNat 0)), (D.int (Int.ofNat 0))])]), (D.tup [(D.tup [(D.int (Int.ofNat 1))]), (D.tup [(D.int (Int.ofNat 1))])])]), (AO.lst [D.non, (D.int (Int.ofNat 0)), (D.tup []), (D.tup [(D.tup [])]), (D.tup [(D.int (Int.ofNat 1))]), (D.tup [(D.tup [(D.int (Int.ofNat 1)), (D.int (Int.ofNat 2))])]), (D.tup [(D.tup [(D.int (Int.ofNat 1)), (D.int (Int.ofNat 2))]), (D.tup [(D.int (Int.ofNat 3)), (D.int (Int.ofNat 1))])]), (D.tup [(D.tup [(D.int (Int.ofNat 1)), (D.int (Int.ofNat 2))]), (D.obj 2)]), (D.obj 3), (D.tup [(D.tup [(D.bl true)])]), (D.tup [(D.tup [(D.int (Int.ofNat 1)), D.non]), (D.tup [D.non, (D.int (Int.ofNat 1))])]), (D.str [49]), (D.obj 4), (D.tup [(D.tup [(D.int (Int.ofNat 1)), (D.int (Int.ofNat 0))]), (D.tup [(D.int (Int.ofNat 0)), (D.int (Int.ofNat 1)), (D.int (Int.ofNat 0))])]), (D.tup [(D.tup [(D.int (Int.ofNat 1)), (D.int (Int.ofNat 0))]), (D.tup [(D.int (Int.ofNat 0))])]), (D.tup [(D.tup [(D.int (Int.ofNat 1000000000000000000000000000000000000000000000000000000000000))])]), (D.tup [(D.tup [(D.tup [(D.int (Int.ofNat 1)), (D.int (Int.ofNat 2))])])]), (D.tup [(D.tup [(D.int (Int.ofNat 0)), (D.int (Int.ofNat 0)), (D.int (Int.ofNat 0)), (D.int (Int.ofNat 0)), (D.int (Int.ofNat 0))]), (D.tup [(D.int (Int.ofNat 0)), (D.int (Int.ofNat 0)), (D.int (Int.ofNat 0)), (D.int (Int.ofNat 0)), (D.int (Int.ofNat 0))]), (D.tup [(D.int (Int.ofNat 0)), (D.int (Int.ofNat 0)), (D.int (Int.ofNat 0)), (D.int (Int.ofNat 0)), (D.int (Int.ofNat 0))]), (D.tup [(D.int (Int.ofNat 0)), (D.int (Int.ofNat 0)), (D.int (Int.ofNat 0)), (D.int (Int.ofNat 0)), (D.int (Int.ofNat 0))]), (D.tup [(D.int (Int.ofNat 0)), (D.int (Int.ofNat 0)), (D.int (Int.ofNat 0)), (D.int (Int.ofNat 0)), (D.int (Int.ofNat 0))])]), (D.tup [(D.tup [(D.int (Int.ofNat 1))]), (D.tup [(D.int (Int.ofNat 1))])])]), (AO.lst [(D.tup [(D.tup [(D.int (Int.ofNat 1))])]), (D.tup [(D.tup [(D.int (Int.ofNat 0)), (D.int (Int.ofNat 1))]), (D.tup [(D.int (Int.ofNat 1)), (D.int (Int.ofNat 0))])]), (D.tup [(D.tup [(D.int (Int.ofNat 0)), (D.int (Int.ofNat 0)), (D.int (Int.ofNat 0)), (D.int (Int.ofNat 0))]), (D.tup [(D.int (Int.ofNat 0)), (D.int (Int.ofNat 0)), (D.int (Int.ofNat 0)), (D.int (Int.ofNat 0))]), (D.tup [(D.int (Int.ofNat 0)), (D.int (Int.ofNat 0)), (D.int (Int.ofNat 0)), (D.int (Int.ofNat 0))]), (D.tup [(D.int (Int.ofNat 0)), (D.int (Int.ofNat 0)), (D.int (Int.ofNat 0)), (D.int (Int.ofNat 0))])]), (D.tup [(D.tup [(D.int (Int.ofNat 999999999999999999999999999999999999999999999999999999999999))])])]), (AO.lst [(qT15 r0), (D.tup [(D.str [114, 101, 102, 117, 115, 101, 100]), (D.str [116, 97, 98, 108, 101])]), (D.tup [(D.str [102, 105, 110, 101])])])] = SOut.nx [some (D.obj 0), some (qT2 r0), some (D.obj 5), some (qT7 r1), some v0, some (D.obj 9), some (D.fn 40), none, none, none, none] [(cell a b c), (AO.lst [D.non, (D.int (Int.ofNat 0)), (D.int (Int.ofNat 1)), (D.int (Int.ofNat 2)), (D.int (Int.ofNat 9)), (D.int (Int.ofNat 17)), (D.int (Int.negSucc 2)), (D.bl true), (D.str [51]), (D.tup [(D.int (Int.ofNat 3))]), (D.int (Int.ofNat 1000000000000000000000000000000000000000000000000000000000000))]), (AO.lst [(D.int (Int.ofNat 2)), (D.int (Int.ofNat 1))]), (AO.lst [(D.tup [(D.int (Int.ofNat 1))])]), (AO.dct false []), (AO.lst [D.non, (D.int (Int.ofNat 0)), (D.tup []), (D.tup [(D.tup [])]), (D.tup [(D.int (Int.ofNat 1))]), (D.tup [(D.tup [(D.int (Int.ofNat 1)), (D.int (Int.ofNat 2))])]), (D.tup [(D.tup [(D.int (Int.ofNat 1)), (D.int (Int.ofNat 2))]), (D.tup [(D.int (Int.ofNat 3)), (D.int (Int.ofNat 1))])]), (D.tup [(D.tup [(D.int (Int.ofNat 1)), (D.int (Int.ofNat 2))]), (D.obj 2)]), (D.obj 3), (D.tup [(D.tup [(D.bl true)])]), (D.tup [(D.tup [(D.int (Int.ofNat 1)), D.non]), (D.tup [D.non, (D.int (Int.ofNat 1))])]), (D.str [49]), (D.obj 4)]), (AO.lst [(D.tup [(D.tup [(D.int (Int.ofNat 1)), (D.int (Int.ofNat 0))]), (D.tup [(D.int (Int.ofNat 0)), (D.int (Int.ofNat 1)), (D.int (Int.ofNat 0))])]), (D.tup [(D.tup [(D.int (Int.ofNat 1)), (D.int (Int.ofNat 0))]), (D.tup [(D.int (Int.ofNat 0))])]), (D.tup [(D.tup [(D.int (Int.ofNat 1000000000000000000000000000000000000000000000000000000000000))])]), (D.tup [(D.tup [(D.tup [(D.int (Int.ofNat 1)), (D.int (Int.ofNat 2))])])]), (D.tup [(D.tup [(D.int (Int.ofNat 0)), (D.int (Int.ofNat 0)), (D.int (Int.ofNat 0)), (D.int (Int.ofNat 0)), (D.int (Int.ofNat 0))]), (D.tup [(D.int (Int.ofNat 0)), (D.int (Int.ofNat 0)), (D.int (Int.ofNat 0)), (D.int (Int.ofNat 0)), (D.int (Int.ofNat 0))]), (D.tup [(D.int (Int.ofNat 0)), (D.int (Int.ofNat 0)), (D.int (Int.ofNat 0)), (D.int (Int.ofNat 0)), (D.int (Int.ofNat 0))]), (D.tup [(D.int (Int.ofNat 0)), (D.int (Int.ofNat 0)), (D.int (Int.ofNat 0)), (D.int (Int.ofNat 0)), (D.int (Int.ofNat 0))]), (D.tup [(D.int (Int.ofNat 0)), (D.int (Int.ofNat 0)), (D.int (Int.ofNat 0)), (D.int (Int.ofNat 0)), (D.int (Int.ofNat 0))])]), (D.tup [(D.tup [(D.int (Int.ofNat 1))]), (D.tup [(D.int (Int.ofNat 1))])])]), (AO.lst [D.non, (D.int (Int.ofNat 0)), (D.tup []), (D.tup [(D.tup [])]), (D.tup [(D.int (Int.ofNat 1))]), (D.tup [(D.tup [(D.int (Int.ofNat 1)), (D.int (Int.ofNat 2))])]), (D.tup [(D.tup [(D.int (Int.ofNat 1)), (D.int (Int.ofNat 2))]), (D.tup [(D.int (Int.ofNat 3)), (D.int (Int.ofNat 1))])]), (D.tup [(D.tup [(D.int (Int.ofNat 1)), (D.int (Int.ofNat 2))]), (D.obj 2)]), (D.obj 3), (D.tup [(D.tup [(D.bl true)])]), (D.tup [(D.tup [(D.int (Int.ofNat 1)), D.non]), (D.tup [D.non, (D.int (Int.ofNat 1))])]), (D.str [49]), (D.obj 4), (D.tup [(D.tup [(D.int (Int.ofNat 1)), (D.int (Int.ofNat 0))]), (D.tup [(D.int (Int.ofNat 0)), (D.int (Int.ofNat 1)), (D.int (Int.ofNat 0))])]), (D.tup [(D.tup [(D.int (Int.ofNat 1)), (D.int (Int.ofNat 0))]), (D.tup [(D.int (Int.ofNat 0))])]), (D.tup [(D.tup [(D.int (Int.ofNat 1000000000000000000000000000000000000000000000000000000000000))])]), (D.tup [(D.tup [(D.tup [(D.int (Int.ofNat 1)), (D.int (Int.ofNat 2))])])]), (D.tup [(D.tup [(D.int (Int.ofNat 0)), (D.int (Int.ofNat 0)), (D.int (Int.ofNat 0)), (D.int (Int.ofNat 0)), (D.int (Int.ofNat 0))]), (D.tup [(D.int (Int.ofNat 0)), (D.int (Int.ofNat 0)), (D.int (Int.ofNat 0)), (D.int (Int.ofNat 0)), (D.int (Int.ofNat 0))]), (D.tup [(D.int (Int.ofNat 0)), (D.int (Int.ofNat 0)), (D.int (Int.ofNat 0)), (D.int (Int.ofNat 0)), (D.int (Int.ofNat 0))]), (D.tup [(D.int (Int.ofNat 0)), (D.int (Int.ofNat 0)), (D.int (Int.ofNat 0)), (D.int (Int.ofNat 0)), (D.int (Int.ofNat 0))]), (D.tup [(D.int (Int.ofNat 0)), (D.int (Int.ofNat 0)), (D.int (Int.ofNat 0)), (D.int (Int.ofNat 0)), (D.int (Int.ofNat 0))])]), (D.tup [(D.tup [(D.int (Int.ofNat 1))]), (D.tup [(D.int (Int.ofNat 1))])])]), (AO.lst [(D.tup [(D.tup [(D.int (Int.ofNat 1))])]), (D.tup [(D.tup [(D.int (Int.ofNat 0)), (D.int (Int.ofNat 1))]), (D.tup [(D.int (Int.ofNat 1)), (D.int (Int.ofNat 0))])]), (D.tup [(D.tup [(D.int (Int.ofNat 0)), (D.int (Int.ofNat 0)), (D.int (Int.ofNat 0)), (D.int (Int.ofNat 0))]), (D.tup [(D.int (Int.ofNat 0)), (D.int (Int.ofNat 0)), (D.int (Int.ofNat 0)), (D.int (Int.ofNat 0))]), (D.tup [(D.int (Int.ofNat 0)), (D.int (Int.ofNat 0)), (D.int (Int.ofNat 0)), (D.int (Int.ofNat 0))]), (D.tup [(D.int (Int.ofNat 0)), (D.int (Int.ofNat 0)), (D.int (Int.ofNat 0)), (D.int (Int.ofNat 0))])]), (D.tup [(D.tup [(D.int (Int.ofNat 999999999999999999999999999999999999999999999999999999999999))])])]), (AO.lst [(qT15 r0), (D.tup [(D.str [114, 101, 102, 117, 115, 101, 100]), (D.str [116, 97, 98, 108, 101])]), (D.tup [(D.str [102, 105, 110, 101])]), (qT22 r0)])] := all2 (f := fun r0 r1 => qs21 rcq [some (D.obj 0), some (qT2 r0), some (D.obj 5), some (qT7 r1), some v0, some (D.obj 9), some (D.fn 40), none, none, none, none] [(cell a b c), (AO.lst [D.non, (D.int (Int.ofNat 0)), (D.int (Int.ofNat 1)), (D.int (Int.ofNat 2)), (D.int (Int.ofNat 9)), (D.int (Int.ofNat 17)), (D.int (Int.negSucc 2)), (D.bl true), (D.str [51]), (D.tup [(D.int (Int.ofNat 3))]), (D.int (Int.ofNat 1000000000000000000000000000000000000000000000000000000000000))]), (AO.lst [(D.int (Int.ofNat 2)), (D.int (Int.ofNat 1))]), (AO.lst [(D.tup [(D.int (Int.ofNat 1))])]), (AO.dct false []), (AO.lst [D.non, (D.int (Int.ofNat 0)), (D.tup []), (D.tup [(D.tup [])]), (D.tup [(D.int (Int.ofNat 1))]), (D.tup [(D.tup [(D.int (Int.ofNat 1)), (D.int (Int.ofNat 2))])]), (D.tup [(D.tup [(D.int (Int.ofNat 1)), (D.int (Int.ofNat 2))]), (D.tup [(D.int (Int.ofNat 3)), (D.int (Int.ofNat 1))])]), (D.tup [(D.tup [(D.int (Int.ofNat 1)), (D.int (Int.ofNat 2))]), (D.obj 2)]), (D.obj 3), (D.tup [(D.tup [(D.bl true)])]), (D.tup [(D.tup [(D.int (Int.ofNat 1)), D.non]), (D.tup [D.non, (D.int (Int.ofNat 1))])]), (D.str [49]), (D.obj 4)]), (AO.lst [(D.tup [(D.tup [(D.int (Int.ofNat 1)), (D.int (Int.ofNat 0))]), (D.tup [(D.int (Int.ofNat 0)), (D.int (Int.ofNat 1)), (D.int (Int.ofNat 0))])]), (D.tup [(D.tup [(D.int (Int.ofNat 1)), (D.int (Int.ofNat 0))]), (D.tup [(D.int (Int.ofNat 0))])]), (D.tup [(D.tup [(D.int (Int.ofNat 1000000000000000000000000000000000000000000000000000000000000))])]), (D.tup [(D.tup [(D.tup [(D.int (Int.ofNat 1)), (D.int (Int.ofNat 2))])])]), (D.tup [(D.tup [(D.int (Int.ofNat 0)), (D.int (Int.ofNat 0)), (D.int (Int.ofNat 0)), (D.int (Int.ofNat 0)), (D.int (Int.ofNat 0))]), (D.tup [(D.int (Int.ofNat 0)), (D.int (Int.ofNat 0)), (D.int (Int.ofNat 0)), (D.int (Int.ofNat 0)), (D.int (Int.ofNat 0))]), (D.tup [(D.int (Int.ofNat 0)), (D.int (Int.ofNat 0)), (D.int (Int.ofNat 0)), (D.int (Int.ofNat 0)), (D.int (Int.ofNat 0))]), (D.tup [(D.int (Int.ofNat 0)), (D.int (Int.ofNat 0)), (D.int (Int.ofNat 0)), (D.int (Int.ofNat 0)), (D.int (Int.ofNat 0))]), (D.tup [(D.int (Int.ofNat 0)), (D.int (Int.ofNat 0)), (D.int (Int.ofNat 0)), (D.int (Int.ofNat 0)), (D.int (Int.ofNat 0))])]), (D.tup [(D.tup [(D.int (Int.ofNat 1))]), (D.tup [(D.int (Int.ofNat 1))])])]), (AO.lst [D.non, (D.int (Int.ofNat 0)), (D.tup []), (D.tup [(D.tup [])]), (D.tup [(D.int (Int.ofNat 1))]), (D.tup [(D.tup [(D.int (Int.ofNat 1)), (D.int (Int.ofNat 2))])]), (D.tup [(D.tup [(D.int (Int.ofNat 1)), (D.int (Int.ofNat 2))]), (D.tup [(D.int (Int.ofNat 3)), (D.int (Int.ofNat 1))])]), (D.tup [(D.tup [(D.int (Int.ofNat 1)), (D.int (Int.ofNat 2))]), (D.obj 2)]), (D.obj 3), (D.tup [(D.tup [(D.bl true)])]), (D.tup [(D.tup [(D.int (Int.ofNat 1)), D.non]), (D.tup [D.non, (D.int (Int.ofNat 1))])]), (D.str [49]), (D.obj 4), (D.tup [(D.tup [(D.int (Int.ofNat 1)), (D.int (Int.ofNat 0))]), (D.tup [(D.int (Int.ofNat 0)), (D.int (Int.ofNat 1)), (D.int (Int.ofNat 0))])]), (D.tup [(D.tup [(D.int (Int.ofNat 1)), (D.int (Int.ofNat 0))]), (D.tup [(D.int (Int.ofNat 0))])]), (D.tup [(D.tup [(D.int (Int.ofNat 1000000000000000000000000000000000000000000000000000000000000))])]), (D.tup [(D.tup [(D.tup [(D.int (Int.ofNat 1)), (D.int (Int.ofNat 2))])])]), (D.tup [(D.tup [(D.int (Int.ofNat 0)), (D.int (Int.ofNat 0)), (D.int (Int.ofNat 0)), (D.int (Int.ofNat 0)), (D.int (Int.ofNat 0))]), (D.tup [(D.int (Int.ofNat 0)), (D.int (Int.ofNat 0)), (D.int (Int.ofNat 0)), (D.int (Int.ofNat 0)), (D.int (Int.ofNat 0))]), (D.tup [(D.int (Int.ofNat 0)), (D.int (Int.ofNat 0)), (D.int (Int.ofNat 0)), (D.int (Int.ofNat 0)), (D.int (Int.ofNat 0))]), (D.tup [(D.int (Int.ofNat 0)), (D.int (Int.ofNat 0)), (D.int (Int.ofNat 0)), (D.int (Int.ofNat 0)), (D.int (Int.ofNat 0))]), (D.tup [(D.int (Int.ofNat 0)), (D.int (Int.ofNat 0)), (D.int (Int.ofNat 0)), (D.int (Int.ofNat 0)), (D.int (Int.ofNat 0))])]), (D.tup [(D.tup [(D.int (Int.ofNat 1))]), (D.tup [(D.int (Int.ofNat 1))])])]), (AO.lst [(D.tup [(D.tup [(D.int (Int.ofNat 1))])]), (D.tup [(D.tup [(D.int (Int.ofNat 0)), (D.int (Int.ofNat 1))]), (D.tup [(D.int (Int.ofNat 1)), (D.int (Int.ofNat 0))])]), (D.tup [(D.tup [(D.int (Int.ofNat 0)), (D.int (Int.ofNat 0)), (D.int (Int.ofNat 0)), (D.int (Int.ofNat 0))]), (D.tup [(D.int (Int.ofNat 0)), (D.int (Int.ofNat 0)), (D.int (Int.ofNat 0)), (D.int (Int.ofNat 0))]), (D.tup [(D.int (Int.ofNat 0)), (D.int (Int.ofNat 0)), (D.int (Int.ofNat 0)), (D.int (Int.ofNat 0))]), (D.tup [(D.int (Int.ofNat 0)), (D.int (Int.ofNat 0)), (D.int (Int.ofNat 0)), (D.int (Int.ofNat 0))])]), (D.tup [(D.tup [(D.int (Int.ofNat 999999999999999999999999999999999999999999999999999999999999))])])]), (AO.lst [(qT15 r0), (D.tup [(D.str [114, 101, 102, 117, 115, 101, 100]), (D.str [116, 97, 98, 108, 101])]), (D.tup [(D.str [102, 105, 110, 101])])])]) (g := fun r0 r1 => SOut.nx [some (D.obj 0), some (qT2 r0), some (D.obj 5), some (qT7 r1), some v0, some (D.obj 9), some (D.fn 40), none, none, none, none] [(cell a b c), (AO.lst [D.non, (D.int (Int.ofNat 0)), (D.int (Int.ofNat 1)), (D.int (Int.ofNat 2)), (D.int (Int.ofNat 9)), (D.int (Int.ofNat 17)), (D.int (Int.negSucc 2)), (D.bl true), (D.str [51]), (D.tup [(D.int (Int.ofNat 3))]), (D.int (Int.ofNat 1000000000000000000000000000000000000000000000000000000000000))]), (AO.lst [(D.int (Int.ofNat 2)), (D.int (Int.ofNat 1))]), (AO.lst [(D.tup [(D.int (Int.ofNat 1))])]), (AO.dct false []), (AO.lst [D.non, (D.int (Int.ofNat 0)), (D.tup []), (D.tup [(D.tup [])]), (D.tup [(D.int (Int.ofNat 1))]), (D.tup [(D.tup [(D.int (Int.ofNat 1)), (D.int (Int.ofNat 2))])]), (D.tup [(D.tup [(D.int (Int.ofNat 1)), (D.int (Int.ofNat 2))]), (D.tup [(D.int (Int.ofNat 3)), (D.int (Int.ofNat 1))])]), (D.tup [(D.tup [(D.int (Int.ofNat 1)), (D.int (Int.ofNat 2))]), (D.obj 2)]), (D.obj 3), (D.tup [(D.tup [(D.bl true)])]), (D.tup [(D.tup [(D.int (Int.ofNat 1)), D.non]), (D.tup [D.non, (D.int (Int.ofNat 1))])]), (D.str [49]), (D.obj 4)]), (AO.lst [(D.tup [(D.tup [(D.int (Int.ofNat 1)), (D.int (Int.ofNat 0))]), (D.tup [(D.int (Int.ofNat 0)), (D.int (Int.ofNat 1)), (D.int (Int.ofNat 0))])]), (D.tup [(D.tup [(D.int (Int.ofNat 1)), (D.int (Int.ofNat 0))]), (D.tup [(D.int (Int.ofNat 0))])]), (D.tup [(D.tup [(D.int (Int.ofNat 1000000000000000000000000000000000000000000000000000000000000))])]), (D.tup [(D.tup [(D.tup [(D.int (Int.ofNat 1)), (D.int (Int.ofNat 2))])])]), (D.tup [(D.tup [(D.int (Int.ofNat 0)), (D.int (Int.ofNat 0)), (D.int (Int.ofNat 0)), (D.int (Int.ofNat 0)), (D.int (Int.ofNat 0))]), (D.tup [(D.int (Int.ofNat 0)), (D.int (Int.ofNat 0)), (D.int (Int.ofNat 0)), (D.int (Int.ofNat 0)), (D.int (Int.ofNat 0))]), (D.tup [(D.int (Int.ofNat 0)), (D.int (Int.ofNat 0)), (D.int (Int.ofNat 0)), (D.int (Int.ofNat 0)), (D.int (Int.ofNat 0))]), (D.tup [(D.int (Int.ofNat 0)), (D.int (Int.ofNat 0)), (D.int (Int.ofNat 0)), (D.int (Int.ofNat 0)), (D.int (Int.ofNat 0))]), (D.tup [(D.int (Int.ofNat 0)), (D.int (Int.ofNat 0)), (D.int (Int.ofNat 0)), (D.int (Int.ofNat 0)), (D.int (Int.ofNat 0))])]), (D.tup [(D.tup [(D.int (Int.ofNat 1))]), (D.tup [(D.int (Int.ofNat 1))])])]), (AO.lst [D.non, (D.int (Int.ofNat 0)), (D.tup []), (D.tup [(D.tup [])]), (D.tup [(D.int (Int.ofNat 1))]), (D.tup [(D.tup [(D.int (Int.ofNat 1)), (D.int (Int.ofNat 2))])]), (D.tup [(D.tup [(D.int (Int.ofNat 1)), (D.int (Int.ofNat 2))]), (D.tup [(D.int (Int.ofNat 3)), (D.int (Int.ofNat 1))])]), (D.tup [(D.tup [(D.int (Int.ofNat 1)), (D.int (Int.ofNat 2))]), (D.obj 2)]), (D.obj 3), (D.tup [(D.tup [(D.bl true)])]), (D.tup [(D.tup [(D.int (Int.ofNat 1)), D.non]), (D.tup [D.non, (D.int (Int.ofNat 1))])]), (D.str [49]), (D.obj 4), (D.tup [(D.tup [(D.int (Int.ofNat 1)), (D.int (Int.ofNat 0))]), (D.tup [(D.int (Int.ofNat 0)), (D.int (Int.ofNat 1)), (D.int (Int.ofNat 0))])]), (D.tup [(D.tup [(D.int (Int.ofNat 1)), (D.int (Int.ofNat 0))]), (D.tup [(D.int (Int.ofNat 0))])]), (D.tup [(D.tup [(D.int (Int.ofNat 1000000000000000000000000000000000000000000000000000000000000))])]), (D.tup [(D.tup [(D.tup [(D.int (Int.ofNat 1)), (D.int (Int.ofNat 2))])])]), (D.tup [(D.tup [(D.int (Int.ofNat 0)), (D.int (Int.ofNat 0)), (D.int (Int.ofNat 0)), (D.int (Int.ofNat 0)), (D.int (Int.ofNat 0))]), (D.tup [(D.int (Int.ofNat 0)), (D.int (Int.ofNat 0)), (D.int (Int.ofNat 0)), (D.int (Int.ofNat 0)), (D.int (Int.ofNat 0))]), (D.tup [(D.int (Int.ofNat 0)), (D.int (Int.ofNat 0)), (D.int (Int.ofNat 0)), (D.int (Int.ofNat 0)), (D.int (Int.ofNat 0))]), (D.tup [(D.int (Int.ofNat 0)), (D.int (Int.ofNat 0)), (D.int (Int.ofNat 0)), (D.int (Int.ofNat 0)), (D.int (Int.ofNat 0))]), (D.tup [(D.int (Int.ofNat 0)), (D.int (Int.ofNat 0)), (D.int (Int.ofNat 0)), (D.int (Int.ofNat 0)), (D.int (Int.ofNat 0))])]), (D.tup [(D.tup [(D.int (Int.ofNat 1))]), (D.tup [(D.int (Int.ofNat 1))])])]), (AO.lst [(D.tup [(D.tup [(D.int (Int.ofNat 1))])]), (D.tup [(D.tup [(D.int (Int.ofNat 0)), (D.int (Int.ofNat 1))]), (D.tup [(D.int (Int.ofNat 1)), (D.int (Int.ofNat 0))])]), (D.tup [(D.tup [(D.int (Int.ofNat 0)), (D.int (Int.ofNat 0)), (D.int (Int.ofNat 0)), (D.int (Int.ofNat 0))]), (D.tup [(D.int (Int.ofNat 0)), (D.int (Int.ofNat 0)), (D.int (Int.ofNat 0)), (D.int (Int.ofNat 0))]), (D.tup [(D.int (Int.ofNat 0)), (D.int (Int.ofNat 0)), (D.int (Int.ofNat 0)), (D.int (Int.ofNat 0))]), (D.tup [(D.int (Int.ofNat 0)), (D.int (Int.ofNat 0)), (D.int (Int.ofNat 0)), (D.int (Int.ofNat 0))])]), (D.tup [(D.tup [(D.int (Int.ofNat 999999999999999999999999999999999999999999999999999999999999))])])]), (AO.lst [(qT15 r0), (D.tup [(D.str [114, 101, 102, 117, 115, 101, 100]), (D.str [116, 97, 98, 108, 101])]), (D.tup [(D.str [102, 105, 110, 101])]), (qT22 r0)])]) (n := 11) (m := 19) (by kernel_rfl) r0 r1 h0 h1
theorem qt25 (a b c : Int) (v0 : D) (v1 : D) (v2 : D) (v3 : D) (r1 : Nat) (h1 : r1 < 19) : qs24 rcq [some (D.obj 0), some v0, some (D.obj 5), some (qT7 r1), some v1, some (D.obj 9), some (D.fn 40), none, none, none, none] [(cell a b c), (AO.lst [D.non, (D.int (Int.ofNat 0)), (D.int (Int.ofNat 1)), (D.int (Int.ofNat 2)), (D.int (Int.ofNat 9)), (D.int (Int.ofNat 17)), (D.int (Int.negSucc 2)), (D.bl true), (D.str [51]), (D.tup [(D.int (Int.ofNat 3))]), (D.int (Int.ofNat 1000000000000000000000000000000000000000000000000000000000000))]), (AO.lst [(D.int (Int.ofNat 2)), (D.int (Int.ofNat 1))]), (AO.lst [(D.tup [(D.int (Int.ofNat 1))])]), (AO.dct false []), (AO.lst [D.non, (D.int (Int.ofNat 0)), (D.tup []), (D.tup [(D.tup [])]), (D.tup [(D.int (Int.ofNat 1))]), (D.tup [(D.tup [(D.int (Int.ofNat 1)), (D.int (Int.ofNat 2))])]), (D.tup [(D.tup [(D.int (Int.ofNat 1)), (D.int (Int.ofNat 2))]), (D.tup [(D.int (Int.ofNat 3)), (D.int (Int.ofNat 1))])]), (D.tup [(D.tup [(D.int (Int.ofNat 1)), (D.int (Int.ofNat 2))]), (D.obj 2)]), (D.obj 3), (D.tup [(D.tup [(D.bl true)])]), (D.tup [(D.tup [(D.int (Int.ofNat 1)), D.non]), (D.tup [D.non, (D.int (Int.ofNat 1))])]), (D.str [49]), (D.obj 4)]), (AO.lst [(D.tup [(D.tup [(D.int (Int.ofNat 1)), (D.int (Int.ofNat 0))]), (D.tup [(D.int (Int.ofNat 0)), (D.int (Int.ofNat 1)), (D.int (Int.ofNat 0))])]), (D.tup [(D.tup [(D.int (Int.ofNat 1)), (D.int (Int.ofNat 0))]), (D.tup [(D.int (Int.ofNat 0))])]), (D.tup [(D.tup [(D.int (Int.ofNat 1000000000000000000000000000000000000000000000000000000000000))])]), (D.tup [(D.tup [(D.tup [(D.int (Int.ofNat 1)), (D.int (Int.ofNat 2))])])]), (D.tup [(D.tup [(D.int (Int.ofNat 0)), (D.int (Int.ofNat 0)), (D.int (Int.ofNat 0)), (D.int (Int.ofNat 0)), (D.int (Int.ofNat 0))]), (D.tup [(D.int (Int.ofNat 0)), (D.int (Int.ofNat 0)), (D.int (Int.ofNat 0)), (D.int (Int.ofNat 0)), (D.int (Int.ofNat 0))]), (D.tup [(D.int (Int.ofNat 0)), (D.int (Int.ofNat 0)), (D.int (Int.ofNat 0)), (D.int (Int.ofNat 0)), (D.int (Int.ofNat 0))]), (D.tup [(D.int (Int.ofNat 0)), (D.int (Int.ofNat 0)), (D.int (Int.ofNat 0)), (D.int (Int.ofNat 0)), (D.int (Int.ofNat 0))]), (D.tup [(D.int (Int.ofNat 0)), (D.int (Int.ofNat 0)), (D.int (Int.ofNat 0)), (D.int (Int.ofNat 0)), (D.int (Int.ofNat 0))])]), (D.tup [(D.tup [(D.int (Int.ofNat 1))]), (D.tup [(D.int (Int.ofNat 1))])])]), (AO.lst [D.non, (D.int (Int.ofNat 0)), (D.tup []), (D.tup [(D.tup [])]), (D.tup [(D.int (Int.ofNat 1))]), (D.tup [(D.tup [(D.int (Int.ofNat 1)), (D.int (Int.ofNat 2))])]), (D.tup [(D.tup [(D.int (Int.ofNat 1)), (D.int (Int.ofNat 2))]), (D.tup [(D.int (Int.ofNat 3)), (D.int (Int.ofNat 1))])]), (D.tup [(D.tup [(D.int (Int.ofNat 1)), (D.int (Int.ofNat 2))]), (D.obj 2)]), (D.obj 3), (D.tup [(D.tup [(D.bl true)])]), (D.tup [(D.tup [(D.int (Int.ofNat 1)), D.non]), (D.tup [D.non, (D.int (Int.ofNat 1))])]), (D.str [49]), (D.obj 4), (D.tup [(D.tup [(D.int (Int.ofNat 1)), (D.int (Int.ofNat 0))]), (D.tup [(D.int (Int.ofNat 0)), (D.int (Int.ofNat 1)), (D.int (Int.ofNat 0))])]), (D.tup [(D.tup [(D.int (Int.ofNat 1)), (D.int (Int.ofNat 0))]), (D.tup [(D.int (Int.ofNat 0))])]), (D.tup [(D.tup [(D.int (Int.ofNat 1000000000000000000000000000000000000000000000000000000000000))])]), (D.tup [(D.tup [(D.tup [(D.int (Int.ofNat 1)), (D.int (Int.ofNat 2))])])]), (D.tup [(D.tup [(D.int (Int.ofNat 0)), (D.int (Int.ofNat 0)), (D.int (Int.ofNat 0)), (D.int (Int.ofNat 0)), (D.int (Int.ofNat 0))]), (D.tup [(D.int (Int.ofNat 0)), (D.int (Int.ofNat 0)), (D.int (Int.ofNat 0)), (D.int (Int.ofNat 0)), (D.int (Int.ofNat 0))]), (D.tup [(D.int (Int.ofNat 0)), (D.int (Int.ofNat 0)), (D.int (Int.ofNat 0)), (D.int (Int.ofNat 0)), (D.int (Int.ofNat 0))]), (D.tup [(D.int (Int.ofNat 0)), (D.int (Int.ofNat 0)), (D.int (Int.ofNat 0)), (D.int (Int.ofNat 0)), (D.int (Int.ofNat 0))]), (D.tup [(D.int (Int.ofNat 0)), (D.int (Int.ofNat 0)), (D.int (Int.ofNat 0)), (D.int (Int.ofNat 0)), (D.int (Int.ofNat 0))])]), (D.tup [(D.tup [(D.int (Int.ofNat 1))]), (D.tup [(D.int (Int.ofNat 1))])])]), (AO.lst [(D.tup [(D.tup [(D.int (Int.ofNat 1))])]), (D.tup [(D.tup [(D.int (Int.ofNat 0)), (D.int (Int.ofNat 1))]), (D.tup [(D.int (Int.ofNat 1)), (D.int (Int.ofNat 0))])]), (D.tup [(D.tup [(D.int (Int.ofNat 0)), (D.int (Int.ofNat 0)), (D.int (Int.ofNat 0)), (D.int (Int.ofNat 0))]), (D.tup [(D.int (Int.ofNat 0)), (D.int (Int.ofNat 0)), (D.int (Int.ofNat 0)), (D.int (Int.ofNat 0))]), (D.tup [(D.int (Int.ofNat 0)), (D.int (Int.ofNat 0)), (D.int (Int.ofNat 0)), (D.int (Int.ofNat 0))]), (D.tup [(D.int (Int.ofNat 0)), (D.int (Int.ofNat 0)), (D.int (Int.ofNat 0)), (D.int (Int.ofNat 0))])]), (D.tup [(D.tup [(D.int (Int.ofNat 999999999999999999999999999999999999999999999999999999999999))])])]), (AO.lst [v2, (D.tup [(D.str [114, 101, 102, 117, 115, 101, 100]), (D.str [116, 97, 98, 108, 101])]), (D.tup [(D.str [102, 105, 110, 101])]), v3])] = SOut.nx [some (D.obj 0), some v0, some (D.obj 5), some (qT7 r1), some v1, some (D.obj 9), some (D.fn 40), none, none, none, none] [(cell a b c), (AO.lst [D.non, (D.int (Int.ofNat 0)), (D.int (Int.ofNat 1)), (D.int (Int.ofNat 2)), (D.int (Int.ofNat 9)), (D.int (Int.ofNat 17)), (D.int (Int.negSucc 2)), (D.bl true), (D.str [51]), (D.tup [(D.int (Int.ofNat 3))]), (D.int (Int.ofNat 1000000000000000000000000000000000000000000000000000000000000))]), (AO.lst [(D.int (Int.ofNat 2)), (D.int (Int.ofNat 1))]), (AO.lst [(D.tup [(D.int (Int.ofNat 1))])]), (AO.dct false []), (AO.lst [D.non, (D.int (Int.ofNat 0)), (D.tup []), (D.tup [(D.tup [])]), (D.tup [(D.int (Int.ofNat 1))]), (D.tup [(D.tup [(D.int (Int.ofNat 1)), (D.int (Int.ofNat 2))])]), (D.tup [(D.tup [(D.int (Int.ofNat 1)), (D.int (Int.ofNat 2))]), (D.tup [(D.int (Int.ofNat 3)), (D.int (Int.ofNat 1))])]), (D.tup [(D.tup [(D.int (Int.ofNat 1)), (D.int (Int.ofNat 2))]), (D.obj 2)]), (D.obj 3), (D.tup [(D.tup [(D.bl true)])]), (D.tup [(D.tup [(D.int (Int.ofNat 1)), D.non]), (D.tup [D.non, (D.int (Int.ofNat 1))])]), (D.str [49]), (D.obj 4)]), (AO.lst [(D.tup [(D.tup [(D.int (Int.ofNat 1)), (D.int (Int.ofNat 0))]), (D.tup [(D.int (Int.ofNat 0)), (D.int (Int.ofNat 1)), (D.int (Int.ofNat 0))])]), (D.tup [(D.tup [(D.int (Int.ofNat 1)), (D.int (Int.ofNat 0))]), (D.tup [(D.int (Int.ofNat 0))])]), (D.tup [(D.tup [(D.int (Int.ofNat 1000000000000000000000000000000000000000000000000000000000000))])]), (D.tup [(D.tup [(D.tup [(D.int (Int.ofNat 1)), (D.int (Int.ofNat 2))])])]), (D.tup [(D.tup [(D.int (Int.ofNat 0)), (D.int (Int.ofNat 0)), (D.int (Int.ofNat 0)), (D.int (Int.ofNat 0)), (D.int (Int.ofNat 0))]), (D.tup [(D.int (Int.ofNat 0)), (D.int (Int.ofNat 0)), (D.int (Int.ofNat 0)), (D.int (Int.ofNat 0)), (D.int (Int.ofNat 0))]), (D.tup [(D.int (Int.ofNat 0)), (D.int (Int.ofNat 0)), (D.int (Int.ofNat 0)), (D.int (Int.ofNat 0)), (D.int (Int.ofNat 0))]), (D.tup [(D.int (Int.ofNat 0)), (D.int (Int.ofNat 0)), (D.int (Int.ofNat 0)), (D.int (Int.ofNat 0)), (D.int (Int.ofNat 0))]), (D.tup [(D.int (Int.ofNat 0)), (D.int (Int.ofNat 0)), (D.int (Int.ofNat 0)), (D.int (Int.ofNat 0)), (D.int (Int.ofNat 0))])]), (D.tup [(D.tup [(D.int (Int.ofNat 1))]), (D.tup [(D.int (Int.ofNat 1))])])]), (AO.lst [D.non, (D.int (Int.ofNat 0)), (D.tup []), (D.tup [(D.tup [])]), (D.tup [(D.int (Int.ofNat 1))]), (D.tup [(D.tup [(D.int (Int.ofNat 1)), (D.int (Int.ofNat 2))])]), (D.tup [(D.tup [(D.int (Int.ofNat 1)), (D.int (Int.ofNat 2))]), (D.tup [(D.int (Int.ofNat 3)), (D.int (Int.ofNat 1))])]), (D.tup [(D.tup [(D.int (Int.ofNat 1)), (D.int (Int.ofNat 2))]), (D.obj 2)]), (D.obj 3), (D.tup [(D.tup [(D.bl true)])]), (D.tup [(D.tup [(D.int (Int.ofNat 1)), D.non]), (D.tup [D.non, (D.int (Int.ofNat 1))])]), (D.str [49]), (D.obj 4), (D.tup [(D.tup [(D.int (Int.ofNat 1)), (D.int (Int.ofNat 0))]), (D.tup [(D.int (Int.ofNat 0)), (D.int (Int.ofNat 1)), (D.int (Int.ofNat 0))])]), (D.tup [(D.tup [(D.int (Int.ofNat 1)), (D.int (Int.ofNat 0))]), (D.tup [(D.int (Int.ofNat 0))])]), (D.tup [(D.tup [(D.int (Int.ofNat 1000000000000000000000000000000000000000000000000000000000000))])]), (D.tup [(D.tup [(D.tup [(D.int (Int.ofNat 1)), (D.int (Int.ofNat 2))])])]), (D.tup [(D.tup [(D.int (Int.ofNat 0)), (D.int (Int.ofNat 0)), (D.int (Int.ofNat 0)), (D.int (Int.ofNat 0)), (D.int (Int.ofNat 0))]), (D.tup [(D.int (Int.ofNat 0)), (D.int (Int.ofNat 0)), (D.int (Int.ofNat 0)), (D.int (Int.ofNat 0)), (D.int (Int.ofNat 0))]), (D.tup [(D.int (Int.ofNat 0)), (D.int (Int.ofNat 0)), (D.int (Int.ofNat 0)), (D.int (Int.ofNat 0)), (D.int (Int.ofNat 0))]), (D.tup [(D.int (Int.ofNat 0)), (D.int (Int.ofNat 0)), (D.int (Int.ofNat 0)), (D.int (Int.ofNat 0)), (D.int (Int.ofNat 0))]), (D.tup [(D.int (Int.ofNat 0)), (D.int (Int.ofNat 0)), (D.int (Int.ofNat 0)), (D.int (Int.ofNat 0)), (D.int (Int.ofNat 0))])]), (D.tup [(D.tup [(D.int (Int.ofNat 1))]), (D.tup [(D.int (Int.ofNat 1))])])]), (AO.lst [(D.tup [(D.tup [(D.int (Int.ofNat 1))])]), (D.tup [(D.tup [(D.int (Int.ofNat 0)), (D.int (Int.ofNat 1))]), (D.tup [(D.int (Int.ofNat 1)), (D.int (Int.ofNat 0))])]), (D.tup [(D.tup [(D.int (Int.ofNat 0)), (D.int (Int.ofNat 0)), (D.int (Int.ofNat 0)), (D.int (Int.ofNat 0))]), (D.tup [(D.int (Int.ofNat 0)), (D.int (Int.ofNat 0)), (D.int (Int.ofNat 0)), (D.int (Int.ofNat 0))]), (D.tup [(D.int (Int.ofNat 0)), (D.int (Int.ofNat 0)), (D.int (Int.ofNat 0)), (D.int (Int.ofNat 0))]), (D.tup [(D.int (Int.ofNat 0)), (D.int (Int.ofNat 0)), (D.int (Int.ofNat 0)), (D.int (Int.ofNat 0))])]), (D.tup [(D.tup [(D.int (Int.ofNat 999999999999999999999999999999999999999999999999999999999999))])])]), (AO.lst [v2, (D.tup [(D.str [114, 101, 102, 117, 115, 101, 100]), (D.str [116, 97, 98, 108, 101])]), (D.tup [(D.str [102, 105, 110, 101])]), v3, (D.tup [(D.str [114, 101, 102, 117, 115, 101, 100]), (D.str [116, 97, 98, 108, 101])])])] := all1 (f := fun r1 => qs24 rcq [some (D.obj 0), some v0, some (D.obj 5), some (qT7 r1), some v1, some (D.obj 9), some (D.fn 40), none, none, none, none] [(cell a b c), (AO.lst [D.non, (D.int (Int.ofNat 0)), (D.int (Int.ofNat 1)), (D.int (Int.ofNat 2)), (D.int (Int.ofNat 9)), (D.int (Int.ofNat 17)), (D.int (Int.negSucc 2)), (D.bl true), (D.str [51]), (D.tup [(D.int (Int.ofNat 3))]), (D.int (Int.ofNat 1000000000000000000000000000000000000000000000000000000000000))]), (AO.lst [(D.int (Int.ofNat 2)), (D.int (Int.ofNat 1))]), (AO.lst [(D.tup [(D.int (Int.ofNat 1))])]), (AO.dct false []), (AO.lst [D.non, (D.int (Int.ofNat 0)), (D.tup []), (D.tup [(D.tup [])]), (D.tup [(D.int (Int.ofNat 1))]), (D.tup [(D.tup [(D.int (Int.ofNat 1)), (D.int (Int.ofNat 2))])]), (D.tup [(D.tup [(D.int (Int.ofNat 1)), (D.int (Int.ofNat 2))]), (D.tup [(D.int (Int.ofNat 3)), (D.int (Int.ofNat 1))])]), (D.tup [(D.tup [(D.int (Int.ofNat 1)), (D.int (Int.ofNat 2))]), (D.obj 2)]), (D.obj 3), (D.tup [(D.tup [(D.bl true)])]), (D.tup [(D.tup [(D.int (Int.ofNat 1)), D.non]), (D.tup [D.non, (D.int (Int.ofNat 1))])]), (D.str [49]), (D.obj 4)]), (AO.lst [(D.tup [(D.tup [(D.int (Int.ofNat 1)), (D.int (Int.ofNat 0))]), (D.tup [(D.int (Int.ofNat 0)), (D.int (Int.ofNat 1)), (D.int (Int.ofNat 0))])]), (D.tup [(D.tup [(D.int (Int.ofNat 1)), (D.int (Int.ofNat 0))]), (D.tup [(D.int (Int.ofNat 0))])]), (D.tup [(D.tup [(D.int (Int.ofNat 1000000000000000000000000000000000000000000000000000000000000))])]), (D.tup [(D.tup [(D.tup [(D.int (Int.ofNat 1)), (D.int (Int.ofNat 2))])])]), (D.tup [(D.tup [(D.int (Int.ofNat 0)), (D.int (Int.ofNat 0)), (D.int (Int.ofNat 0)), (D.int (Int.ofNat 0)), (D.int (Int.ofNat 0))]), (D.tup [(D.int (Int.ofNat 0)), (D.int (Int.ofNat 0)), (D.int (Int.ofNat 0)), (D.int (Int.ofNat 0)), (D.int (Int.ofNat 0))]), (D.tup [(D.int (Int.ofNat 0)), (D.int (Int.ofNat 0)), (D.int (Int.ofNat 0)), (D.int (Int.ofNat 0)), (D.int (Int.ofNat 0))]), (D.tup [(D.int (Int.ofNat 0)), (D.int (Int.ofNat 0)), (D.int (Int.ofNat 0)), (D.int (Int.ofNat 0)), (D.int (Int.ofNat 0))]), (D.tup [(D.int (Int.ofNat 0)), (D.int (Int.ofNat 0)), (D.int (Int.ofNat 0)), (D.int (Int.ofNat 0)), (D.int (Int.ofNat 0))])]), (D.tup [(D.tup [(D.int (Int.ofNat 1))]), (D.tup [(D.int (Int.ofNat 1))])])]), (AO.lst [D.non, (D.int (Int.ofNat 0)), (D.tup []), (D.tup [(D.tup [])]), (D.tup [(D.int (Int.ofNat 1))]), (D.tup [(D.tup [(D.int (Int.ofNat 1)), (D.int (Int.ofNat 2))])]), (D.tup [(D.tup [(D.int (Int.ofNat 1)), (D.int (Int.ofNat 2))]), (D.tup [(D.int (Int.ofNat 3)), (D.int (Int.ofNat 1))])]), (D.tup [(D.tup [(D.int (Int.ofNat 1)), (D.int (Int.ofNat 2))]), (D.obj 2)]), (D.obj 3), (D.tup [(D.tup [(D.bl true)])]), (D.tup [(D.tup [(D.int (Int.ofNat 1)), D.non]), (D.tup [D.non, (D.int (Int.ofNat 1))])]), (D.str [49]), (D.obj 4), (D.tup [(D.tup [(D.int (Int.ofNat 1)), (D.int (Int.ofNat 0))]), (D.tup [(D.int (Int.ofNat 0)), (D.int (Int.ofNat 1)), (D.int (Int.ofNat 0))])]), (D.tup [(D.tup [(D.int (Int.ofNat 1)), (D.int (Int.ofNat 0))]), (D.tup [(D.int (Int.ofNat 0))])]), (D.tup [(D.tup [(D.int (Int.ofNat 1000000000000000000000000000000000000000000000000000000000000))])]), (D.tup [(D.tup [(D.tup [(D.int (Int.ofNat 1)), (D.int (Int.ofNat 2))])])]), (D.tup [(D.tup [(D.int (Int.ofNat 0)), (D.int (Int.ofNat 0)), (D.int (Int.ofNat 0)), (D.int (Int.ofNat 0)), (D.int (Int.ofNat 0))]), (D.tup [(D.int (Int.ofNat 0)), (D.int (Int.ofNat 0)), (D.int (Int.ofNat 0)), (D.int (Int.ofNat 0)), (D.int (Int.ofNat 0))]), (D.tup [(D.int (Int.ofNat 0)), (D.int (Int.ofNat 0)), (D.int (Int.ofNat 0)), (D.int (Int.ofNat 0)), (D.int (Int.ofNat 0))]), (D.tup [(D.int (Int.ofNat 0)), (D.int (Int.ofNat 0)), (D.int (Int.ofNat 0)), (D.int (Int.ofNat 0)), (D.int (Int.ofNat 0))]), (D.tup [(D.int (Int.ofNat 0)), (D.int (Int.ofNat 0)), (D.int (Int.ofNat 0)), (D.int (Int.ofNat 0)), (D.int (Int.ofNat 0))])]), (D.tup [(D.tup [(D.int (Int.ofNat 1))]), (D.tup [(D.int (Int.ofNat 1))])])]), (AO.lst [(D.tup [(D.tup [(D.int (Int.ofNat 1))])]), (D.tup [(D.tup [(D.int (Int.ofNat 0)), (D.int (Int.ofNat 1))]), (D.tup [(D.int (Int.ofNat 1)), (D.int (Int.ofNat 0))])]), (D.tup [(D.tup [(D.int (Int.ofNat 0)), (D.int (Int.ofNat 0)), (D.int (Int.ofNat 0)), (D.int (Int.ofNat 0))]), (D.tup [(D.int (Int.ofNat 0)), (D.int (Int.ofNat 0)), (D.int (Int.ofNat 0)), (D.int (Int.ofNat 0))]), (D.tup [(D.int (Int.ofNat 0)), (D.int (Int.ofNat 0)), (D.int (Int.ofNat 0)), (D.int (Int.ofNat 0))]), (D.tup [(D.int (Int.ofNat 0)), (D.int (Int.ofNat 0)), (D.int (Int.ofNat 0)), (D.int (Int.ofNat 0))])]), (D.tup [(D.tup [(D.int (Int.ofNat 999999999999999999999999999999999999999999999999999999999999))])])]), (AO.lst [v2, (D.tup [(D.str [114, 101, 102, 117, 115, 101, 100]), (D.str [116, 97, 98, 108, 101])]), (D.tup [(D.str [102, 105, 110, 101])]), v3])]) (g := fun r1 => SOut.nx [some (D.obj 0), some v0, some (D.obj 5), some (qT7 r1), some v1, some (D.obj 9), some (D.fn 40), none, none, none, none] [(cell a b c), (AO.lst [D.non, (D.int (Int.ofNat 0)), (D.int (Int.ofNat 1)), (D.int (Int.ofNat 2)), (D.int (Int.ofNat 9)), (D.int (Int.ofNat 17)), (D.int (Int.negSucc 2)), (D.bl true), (D.str [51]), (D.tup [(D.int (Int.ofNat 3))]), (D.int (Int.ofNat 1000000000000000000000000000000000000000000000000000000000000))]), (AO.lst [(D.int (Int.ofNat 2)), (D.int (Int.ofNat 1))]), (AO.lst [(D.tup [(D.int (Int.ofNat 1))])]), (AO.dct false []), (AO.lst [D.non, (D.int (Int.ofNat 0)), (D.tup []), (D.tup [(D.tup [])]), (D.tup [(D.int (Int.ofNat 1))]), (D.tup [(D.tup [(D.int (Int.ofNat 1)), (D.int (Int.ofNat 2))])]), (D.tup [(D.tup [(D.int (Int.ofNat 1)), (D.int (Int.ofNat 2))]), (D.tup [(D.int (Int.ofNat 3)), (D.int (Int.ofNat 1))])]), (D.tup [(D.tup [(D.int (Int.ofNat 1)), (D.int (Int.ofNat 2))]), (D.obj 2)]), (D.obj 3), (D.tup [(D.tup [(D.bl true)])]), (D.tup [(D.tup [(D.int (Int.ofNat 1)), D.non]), (D.tup [D.non, (D.int (Int.ofNat 1))])]), (D.str [49]), (D.obj 4)]), (AO.lst [(D.tup [(D.tup [(D.int (Int.ofNat 1)), (D.int (Int.ofNat 0))]), (D.tup [(D.int (Int.ofNat 0)), (D.int (Int.ofNat 1)), (D.int (Int.ofNat 0))])]), (D.tup [(D.tup [(D.int (Int.ofNat 1)), (D.int (Int.ofNat 0))]), (D.tup [(D.int (Int.ofNat 0))])]), (D.tup [(D.tup [(D.int (Int.ofNat 1000000000000000000000000000000000000000000000000000000000000))])]), (D.tup [(D.tup [(D.tup [(D.int (Int.ofNat 1)), (D.int (Int.ofNat 2))])])]), (D.tup [(D.tup [(D.int (Int.ofNat 0)), (D.int (Int.ofNat 0)), (D.int (Int.ofNat 0)), (D.int (Int.ofNat 0)), (D.int (Int.ofNat 0))]), (D.tup [(D.int (Int.ofNat 0)), (D.int (Int.ofNat 0)), (D.int (Int.ofNat 0)), (D.int (Int.ofNat 0)), (D.int (Int.ofNat 0))]), (D.tup [(D.int (Int.ofNat 0)), (D.int (Int.ofNat 0)), (D.int (Int.ofNat 0)), (D.int (Int.ofNat 0)), (D.int (Int.ofNat 0))]), (D.tup [(D.int (Int.ofNat 0)), (D.int (Int.ofNat 0)), (D.int (Int.ofNat 0)), (D.int (Int.ofNat 0)), (D.int (Int.ofNat 0))]), (D.tup [(D.int (Int.ofNat 0)), (D.int (Int.ofNat 0)), (D.int (Int.ofNat 0)), (D.int (Int.ofNat 0)), (D.int (Int.ofNat 0))])]), (D.tup [(D.tup [(D.int (Int.ofNat 1))]), (D.tup [(D.int (Int.ofNat 1))])])]), (AO.lst [D.non, (D.int (Int.ofNat 0)), (D.tup []), (D.tup [(D.tup [])]), (D.tup [(D.int (Int.ofNat 1))]), (D.tup [(D.tup [(D.int (Int.ofNat 1)), (D.int (Int.ofNat 2))])]), (D.tup [(D.tup [(D.int (Int.ofNat 1)), (D.int (Int.ofNat 2))]), (D.tup [(D.int (Int.ofNat 3)), (D.int (Int.ofNat 1))])]), (D.tup [(D.tup [(D.int (Int.ofNat 1)), (D.int (Int.ofNat 2))]), (D.obj 2)]), (D.obj 3), (D.tup [(D.tup [(D.bl true)])]), (D.tup [(D.tup [(D.int (Int.ofNat 1)), D.non]), (D.tup [D.non, (D.int (Int.ofNat 1))])]), (D.str [49]), (D.obj 4), (D.tup [(D.tup [(D.int (Int.ofNat 1)), (D.int (Int.ofNat 0))]), (D.tup [(D.int (Int.ofNat 0)), (D.int (Int.ofNat 1)), (D.int (Int.ofNat 0))])]), (D.tup [(D.tup [(D.int (Int.ofNat 1)), (D.int (Int.ofNat 0))]), (D.tup [(D.int (Int.ofNat 0))])]), (D.tup [(D.tup [(D.int (Int.ofNat 1000000000000000000000000000000000000000000000000000000000000))])]), (D.tup [(D.tup [(D.tup [(D.int (Int.ofNat 1)), (D.int (Int.ofNat 2))])])]), (D.tup [(D.tup [(D.int (Int.ofNat 0)), (D.int (Int.ofNat 0)), (D.int (Int.ofNat 0)), (D.int (Int.ofNat 0)), (D.int (Int.ofNat 0))]), (D.tup [(D.int (Int.ofNat 0)), (D.int (Int.ofNat 0)), (D.int (Int.ofNat 0)), (D.int (Int.ofNat 0)), (D.int (Int.ofNat 0))]), (D.tup [(D.int (Int.ofNat 0)), (D.int (Int.ofNat 0)), (D.int (Int.ofNat 0)), (D.int (Int.ofNat 0)), (D.int (Int.ofNat 0))]), (D.tup [(D.int (Int.ofNat 0)), (D.int (Int.ofNat 0)), (D.int (Int.ofNat 0)), (D.int (Int.ofNat 0)), (D.int (Int.ofNat 0))]), (D.tup [(D.int (Int.ofNat 0)), (D.int (Int.ofNat 0)), (D.int (Int.ofNat 0)), (D.int (Int.ofNat 0)), (D.int (Int.ofNat 0))])]), (D.tup [(D.tup [(D.int (Int.ofNat 1))]), (D.tup [(D.int (Int.ofNat 1))])])]), (AO.lst [(D.tup [(D.tup [(D.int (Int.ofNat 1))])]), (D.tup [(D.tup [(D.int (Int.ofNat 0)), (D.int (Int.ofNat 1))]), (D.tup [(D.int (Int.ofNat 1)), (D.int (Int.ofNat 0))])]), (D.tup [(D.tup [(D.int (Int.ofNat 0)), (D.int (Int.ofNat 0)), (D.int (Int.ofNat 0)), (D.int (Int.ofNat 0))]), (D.tup [(D.int (Int.ofNat 0)), (D.int (Int.ofNat 0)), (D.int (Int.ofNat 0)), (D.int (Int.ofNat 0))]), (D.tup [(D.int (Int.ofNat 0)), (D.int (Int.ofNat 0)), (D.int (Int.ofNat 0)), (D.int (Int.ofNat 0))]), (D.tup [(D.int (Int.ofNat 0)), (D.int (Int.ofNat 0)), (D.int (Int.ofNat 0)), (D.int (Int.ofNat 0))])]), (D.tup [(D.tup [(D.int (Int.ofNat 999999999999999999999999999999999999999999999999999999999999))])])]), (AO.lst [v2, (D.tup [(D.str [114, 101, 102, 117, 115, 101, 100]), (D.str [116, 97, 98, 108, 101])]), (D.tup [(D.str [102, 105, 110, 101])]), v3, (D.tup [(D.str [114, 101, 102, 117, 115, 101, 100]), (D.str [116, 97, 98, 108, 101])])])]) (n := 19) (by kernel_rfl) r1 h1
theorem qt27 (a b c : Int) (v0 : D) (v1 : D) (v2 : D) (v3 : D) (r2 : Nat) (h2 : r2 < 4) : qs26 rcq [some (D.obj 0), some v0, some (D.obj 5), some v1, some (qT10 r2), some (D.obj 9), some (D.fn 40), none, none, none, none] [(cell a b c), (AO.lst [D.non, (D.int (Int.ofNat 0)), (D.int (Int.ofNat 1)), (D.int (Int.ofNat 2)), (D.int (Int.ofNat 9)), (D.int (Int.ofNat 17)), (D.int (Int.negSucc 2)), (D.bl true), (D.str [51]), (D.tup [(D.int (Int.ofNat 3))]), (D.int (Int.ofNat 1000000000000000000000000000000000000000000000000000000000000))]), (AO.lst [(D.int (Int.ofNat 2)), (D.int (Int.ofNat 1))]), (AO.lst [(D.tup [(D.int (Int.ofNat 1))])]), (AO.dct false []), (AO.lst [D.non, (D.int (Int.ofNat 0)), (D.tup []), (D.tup [(D.tup [])]), (D.tup [(D.int (Int.ofNat 1))]), (D.tup [(D.tup [(D.int (Int.ofNat 1)), (D.int (Int.ofNat 2))])]), (D.tup [(D.tup [(D.int (Int.ofNat 1)), (D.int (Int.ofNat 2))]), (D.tup [(D.int (Int.ofNat 3)), (D.int (Int.ofNat 1))])]), (D.tup [(D.tup [(D.int (Int.ofNat 1)), (D.int (Int.ofNat 2))]), (D.obj 2)]), (D.obj 3), (D.tup [(D.tup [(D.bl true)])]), (D.tup [(D.tup [(D.int (Int.ofNat 1)), D.non]), (D.tup [D.non, (D.int (Int.ofNat 1))])]), (D.str [49]), (D.obj 4)]), (AO.lst [(D.tup [(D.tup [(D.int (Int.ofNat 1)), (D.int (Int.ofNat 0))]), (D.tup [(D.int (Int.ofNat 0)), (D.int (Int.ofNat 1)), (D.int (Int.ofNat 0))])]), (D.tup [(D.tup [(D.int (Int.ofNat 1)), (D.int (Int.ofNat 0))]), (D.tup [(D.int (Int.ofNat 0))])]), (D.tup [(D.tup [(D.int (Int.ofNat 1000000000000000000000000000000000000000000000000000000000000))])]), (D.tup [(D.tup [(D.tup [(D.int (Int.ofNat 1)), (D.int (Int.ofNat 2))])])]), (D.tup [(D.tup [(D.int (Int.ofNat 0)), (D.int (Int.ofNat 0)), (D.int (Int.ofNat 0)), (D.int (Int.ofNat 0)), (D.int (Int.ofNat 0))]), (D.tup [(D.int (Int.ofNat 0)), (D.int (Int.ofNat 0)), (D.int (Int.ofNat 0)), (D.int (Int.ofNat 0)), (D.int (Int.ofNat 0))]), (D.tup [(D.int (Int.ofNat 0)), (D.int (Int.ofNat 0)), (D.int (Int.ofNat 0)), (D.int (Int.ofNat 0)), (D.int (Int.ofNat 0))]), (D.tup [(D.int (Int.ofNat 0)), (D.int (Int.ofNat 0)), (D.int (Int.ofNat 0)), (D.int (Int.ofNat 0)), (D.int (Int.ofNat 0))]), (D.tup [(D.int (Int.ofNat 0)), (D.int (Int.ofNat 0)), (D.int (Int.ofNat 0)), (D.int (Int.ofNat 0)), (D.int (Int.ofNat 0))])]), (D.tup [(D.tup [(D.int (Int.ofNat 1))]), (D.tup [(D.int (Int.ofNat 1))])])]), (AO.lst [D.non, (D.int (Int.ofNat 0)), (D.tup []), (D.tup [(D.tup [])]), (D.tup [(D.int (Int.ofNat 1))]), (D.tup [(D.tup [(D.int (Int.ofNat 1)), (D.int (Int.ofNat 2))])]), (D.tup [(D.tup [(D.int (Int.ofNat 1)), (D.int (Int.ofNat 2))]), (D.tup [(D.int (Int.ofNat 3)), (D.int (Int.ofNat 1))])]), (D.tup [(D.tup [(D.int (Int.ofNat 1)), (D.int (Int.ofNat 2))]), (D.obj 2)]), (D.obj 3), (D.tup [(D.tup [(D.bl true)])]), (D.tup [(D.tup [(D.int (Int.ofNat 1)), D.non]), (D.tup [D.non, (D.int (Int.ofNat 1))])]), (D.str [49]), (D.obj 4), (D.tup [(D.tup [(D.int (Int.ofNat 1)), (D.int (Int.ofNat 0))]), (D.tup [(D.int (Int.ofNat 0)), (D.int (Int.ofNat 1)), (D.int (Int.ofNat 0))])]), (D.tup [(D.tup [(D.int (Int.ofNat 1)), (D.int (Int.ofNat 0))]), (D.tup [(D.int (Int.ofNat 0))])]), (D.tup [(D.tup [(D.int (Int.ofNat 1000000000000000000000000000000000000000000000000000000000000))])]), (D.tup [(D.tup [(D.tup [(D.int (Int.ofNat 1)), (D.int (Int.ofNat 2))])])]), (D.tup [(D.tup [(D.int (Int.ofNat 0)), (D.int (Int.ofNat 0)), (D.int (Int.ofNat 0)), (D.int (Int.ofNat 0)), (D.int (Int.ofNat 0))]), (D.tup [(D.int (Int.ofNat 0)), (D.int (Int.ofNat 0)), (D.int (Int.ofNat 0)), (D.int (Int.ofNat 0)), (D.int (Int.ofNat 0))]), (D.tup [(D.int (Int.ofNat 0)), (D.int (Int.ofNat 0)), (D.int (Int.ofNat 0)), (D.int (Int.ofNat 0)), (D.int (Int.ofNat 0))]), (D.tup [(D.int (Int.ofNat 0)), (D.int (Int.ofNat 0)), (D.int (Int.ofNat 0)), (D.int (Int.ofNat 0)), (D.int (Int.ofNat 0))]), (D.tup [(D.int (Int.ofNat 0)), (D.int (Int.ofNat 0)), (D.int (Int.ofNat 0)), (D.int (Int.ofNat 0)), (D.int (Int.ofNat 0))])]), (D.tup [(D.tup [(D.int (Int.ofNat 1))]), (D.tup [(D.int (Int.ofNat 1))])])]), (AO.lst [(D.tup [(D.tup [(D.int (Int.ofNat 1))])]), (D.tup [(D.tup [(D.int (Int.ofNat 0)), (D.int (Int.ofNat 1))]), (D.tup [(D.int (Int.ofNat 1)), (D.int (Int.ofNat 0))])]), (D.tup [(D.tup [(D.int (Int.ofNat 0)), (D.int (Int.ofNat 0)), (D.int (Int.ofNat 0)), (D.int (Int.ofNat 0))]), (D.tup [(D.int (Int.ofNat 0)), (D.int (Int.ofNat 0)), (D.int (Int.ofNat 0)), (D.int (Int.ofNat 0))]), (D.tup [(D.int (Int.ofNat 0)), (D.int (Int.ofNat 0)), (D.int (Int.ofNat 0)), (D.int (Int.ofNat 0))]), (D.tup [(D.int (Int.ofNat 0)), (D.int (Int.ofNat 0)), (D.int (Int.ofNat 0)), (D.int (Int.ofNat 0))])]), (D.tup [(D.tup [(D.int (Int.ofNat 999999999999999999999999999999999999999999999999999999999999))])])]), (AO.lst [v2, (D.tup [(D.str [114, 101, 102, 117, 115, 101, 100]), (D.str [116, 97, 98, 108, 101])]), (D.tup [(D.str [102, 105, 110, 101])]), v3, (D.tup [(D.str [114, 101, 102, 117, 115, 101, 100]), (D.str [116, 97, 98, 108, 101])])])] = SOut.nx [some (D.obj 0), some v0, some (D.obj 5), some v1, some (qT10 r2), some (D.obj 9), some (D.fn 40), none, none, none, none] [(cell a b c), (AO.lst [D.non, (D.int (Int.ofNat 0)), (D.int (Int.ofNat 1)), (D.int (Int.ofNat 2)), (D.int (Int.ofNat 9)), (D.int (Int.ofNat 17)), (D.int (Int.negSucc 2)), (D.bl true), (D.str [51]), (D.tup [(D.int (Int.ofNat 3))]), (D.int (Int.ofNat 1000000000000000000000000000000000000000000000000000000000000))]), (AO.lst [(D.int (Int.ofNat 2)), (D.int (Int.ofNat 1))]), (AO.lst [(D.tup [(D.int (Int.ofNat 1))])]), (AO.dct false []), (AO.lst [D.non, (D.int (Int.ofNat 0)), (D.tup []), (D.tup [(D.tup [])]), (D.tup [(D.int (Int.ofNat 1))]), (D.tup [(D.tup [(D.int (Int.ofNat 1)), (D.int (Int.ofNat 2))])]), (D.tup [(D.tup [(D.int (Int.ofNat 1)), (D.int (Int.ofNat 2))]), (D.tup [(D.int (Int.ofNat 3)), (D.int (Int.ofNat 1))])]), (D.tup [(D.tup [(D.int (Int.ofNat 1)), (D.int (Int.ofNat 2))]), (D.obj 2)]), (D.obj 3), (D.tup [(D.tup [(D.bl true)])]), (D.tup [(D.tup [(D.int (Int.ofNat 1)), D.non]), (D.tup [D.non, (D.int (Int.ofNat 1))])]), (D.str [49]), (D.obj 4)]), (AO.lst [(D.tup [(D.tup [(D.int (Int.ofNat 1)), (D.int (Int.ofNat 0))]), (D.tup [(D.int (Int.ofNat 0)), (D.int (Int.ofNat 1)), (D.int (Int.ofNat 0))])]), (D.tup [(D.tup [(D.int (Int.ofNat 1)), (D.int (Int.ofNat 0))]), (D.tup [(D.int (Int.ofNat 0))])]), (D.tup [(D.tup [(D.int (Int.ofNat 1000000000000000000000000000000000000000000000000000000000000))])]), (D.tup [(D.tup [(D.tup [(D.int (Int.ofNat 1)), (D.int (Int.ofNat 2))])])]), (D.tup [(D.tup [(D.int (Int.ofNat 0)), (D.int (Int.ofNat 0)), (D.int (Int.ofNat 0)), (D.int (Int.ofNat 0)), (D.int (Int.ofNat 0))]), (D.tup [(D.int (Int.ofNat 0)), (D.int (Int.ofNat 0)), (D.int (Int.ofNat 0)), (D.int (Int.ofNat 0)), (D.int (Int.ofNat 0))]), (D.tup [(D.int (Int.ofNat 0)), (D.int (Int.ofNat 0)), (D.int (Int.ofNat 0)), (D.int (Int.ofNat 0)), (D.int (Int.ofNat 0))]), (D.tup [(D.int (Int.ofNat 0)), (D.int (Int.ofNat 0)), (D.int (Int.ofNat 0)), (D.int (Int.ofNat 0)), (D.int (Int.ofNat 0))]), (D.tup [(D.int (Int.ofNat 0)), (D.int (Int.ofNat 0)), (D.int (Int.ofNat 0)), (D.int (Int.ofNat 0)), (D.int (Int.ofNat 0))])]), (D.tup [(D.tup [(D.int (Int.ofNat 1))]), (D.tup [(D.int (Int.ofNat 1))])])]), (AO.lst [D.non, (D.int (Int.ofNat 0)), (D.tup []), (D.tup [(D.tup [])]), (D.tup [(D.int (Int.ofNat 1))]), (D.tup [(D.tup [(D.int (Int.ofNat 1)), (D.int (Int.ofNat 2))])]), (D.tup [(D.tup [(D.int (Int.ofNat 1)), (D.int (Int.ofNat 2))]), (D.tup [(D.int (Int.ofNat 3)), (D.int (Int.ofNat 1))])]), (D.tup [(D.tup [(D.int (Int.ofNat 1)), (D.int (Int.ofNat 2))]), (D.obj 2)]), (D.obj 3), (D.tup [(D.tup [(D.bl true)])]), (D.tup [(D.tup [(D.int (Int.ofNat 1)), D.non]), (D.tup [D.non, (D.int (Int.ofNat 1))])]), (D.str [49]), (D.obj 4), (D.tup [(D.tup [(D.int (Int.ofNat 1)), (D.int (Int.ofNat 0))]), (D.tup [(D.int (Int.ofNat 0)), (D.int (Int.ofNat 1)), (D.int (Int.ofNat 0))])]), (D.tup [(D.tup [(D.int (Int.ofNat 1)), (D.int (Int.ofNat 0))]), (D.tup [(D.int (Int.ofNat 0))])]), (D.tup [(D.tup [(D.int (Int.ofNat 1000000000000000000000000000000000000000000000000000000000000))])]), (D.tup [(D.tup [(D.tup [(D.int (Int.ofNat 1)), (D.int (Int.ofNat 2))])])]), (D.tup [(D.tup [(D.int (Int.ofNat 0)), (D.int (Int.ofNat 0)), (D.int (Int.ofNat 0)), (D.int (Int.ofNat 0)), (D.int (Int.ofNat 0))]), (D.tup [(D.int (Int.ofNat 0)), (D.int (Int.ofNat 0)), (D.int (Int.ofNat 0)), (D.int (Int.ofNat 0)), (D.int (Int.ofNat 0))]), (D.tup [(D.int (Int.ofNat 0)), (D.int (Int.ofNat 0)), (D.int (Int.ofNat 0)), (D.int (Int.ofNat 0)), (D.int (Int.ofNat 0))]), (D.tup [(D.int (Int.ofNat 0)), (D.int (Int.ofNat 0)), (D.int (Int.ofNat 0)), (D.int (Int.ofNat 0)), (D.int (Int.ofNat 0))]), (D.tup [(D.int (Int.ofNat 0)), (D.int (Int.ofNat 0)), (D.int (Int.ofNat 0)), (D.int (Int.ofNat 0)), (D.int (Int.ofNat 0))])]), (D.tup [(D.tup [(D.int (Int.ofNat 1))]), (D.tup [(D.int (Int.ofNat 1))])])]), (AO.lst [(D.tup [(D.tup [(D.int (Int.ofNat 1))])]), (D.tup [(D.tup [(D.int (Int.ofNat 0)), (D.int (Int.ofNat 1))]), (D.tup [(D.int (Int.ofNat 1)), (D.int (Int.ofNat 0))])]), (D.tup [(D.tup [(D.int (Int.ofNat 0)), (D.int (Int.ofNat 0)), (D.int (Int.ofNat 0)), (D.int (Int.ofNat 0))]), (D.tup [(D.int (Int.ofNat 0)), (D.int (Int.ofNat 0)), (D.int (Int.ofNat 0)), (D.int (Int.ofNat 0))]), (D.tup [(D.int (Int.ofNat 0)), (D.int (Int.ofNat 0)), (D.int (Int.ofNat 0)), (D.int (Int.ofNat 0))]), (D.tup [(D.int (Int.ofNat 0)), (D.int (Int.ofNat 0)), (D.int (Int.ofNat 0)), (D.int (Int.ofNat 0))])]), (D.tup [(D.tup [(D.int (Int.ofNat 999999999999999999999999999999999999999999999999999999999999))])])]), (AO.lst [v2, (D.tup [(D.str [114, 101, 102, 117, 115, 101, 100]), (D.str [116, 97, 98, 108, 101])]), (D.tup [(D.str [102, 105, 110, 101])]), v3, (D.tup [(D.str [114, 101, 102, 117, 115, 101, 100]), (D.str [116, 97, 98, 108, 101])]), (D.tup [(D.str [102, 105, 110, 101])])])] := all1 (f := fun r2 => qs26 rcq [some (D.obj 0), some v0, some (D.obj 5), some v1, some (qT10 r2), some (D.obj 9), some (D.fn 40), none, none, none, none] [(cell a b c), (AO.lst [D.non, (D.int (Int.ofNat 0)), (D.int (Int.ofNat 1)), (D.int (Int.ofNat 2)), (D.int (Int.ofNat 9)), (D.int (Int.ofNat 17)), (D.int (Int.negSucc 2)), (D.bl true), (D.str [51]), (D.tup [(D.int (Int.ofNat 3))]), (D.int (Int.ofNat 1000000000000000000000000000000000000000000000000000000000000))]), (AO.lst [(D.int (Int.ofNat 2)), (D.int (Int.ofNat 1))]), (AO.lst [(D.tup [(D.int (Int.ofNat 1))])]), (AO.dct false []), (AO.lst [D.non, (D.int (Int.ofNat 0)), (D.tup []), (D.tup [(D.tup [])]), (D.tup [(D.int (Int.ofNat 1))]), (D.tup [(D.tup [(D.int (Int.ofNat 1)), (D.int (Int.ofNat 2))])]), (D.tup [(D.tup [(D.int (Int.ofNat 1)), (D.int (Int.ofNat 2))]), (D.tup [(D.int (Int.ofNat 3)), (D.int (Int.ofNat 1))])]), (D.tup [(D.tup [(D.int (Int.ofNat 1)), (D.int (Int.ofNat 2))]), (D.obj 2)]), (D.obj 3), (D.tup [(D.tup [(D.bl true)])]), (D.tup [(D.tup [(D.int (Int.ofNat 1)), D.non]), (D.tup [D.non, (D.int (Int.ofNat 1))])]), (D.str [49]), (D.obj 4)]), (AO.lst [(D.tup [(D.tup [(D.int (Int.ofNat 1)), (D.int (Int.ofNat 0))]), (D.tup [(D.int (Int.ofNat 0)), (D.int (Int.ofNat 1)), (D.int (Int.ofNat 0))])]), (D.tup [(D.tup [(D.int (Int.ofNat 1)), (D.int (Int.ofNat 0))]), (D.tup [(D.int (Int.ofNat 0))])]), (D.tup [(D.tup [(D.int (Int.ofNat 1000000000000000000000000000000000000000000000000000000000000))])]), (D.tup [(D.tup [(D.tup [(D.int (Int.ofNat 1)), (D.int (Int.ofNat 2))])])]), (D.tup [(D.tup [(D.int (Int.ofNat 0)), (D.int (Int.ofNat 0)), (D.int (Int.ofNat 0)), (D.int (Int.ofNat 0)), (D.int (Int.ofNat 0))]), (D.tup [(D.int (Int.ofNat 0)), (D.int (Int.ofNat 0)), (D.int (Int.ofNat 0)), (D.int (Int.ofNat 0)), (D.int (Int.ofNat 0))]), (D.tup [(D.int (Int.ofNat 0)), (D.int (Int.ofNat 0)), (D.int (Int.ofNat 0)), (D.int (Int.ofNat 0)), (D.int (Int.ofNat 0))]), (D.tup [(D.int (Int.ofNat 0)), (D.int (Int.ofNat 0)), (D.int (Int.ofNat 0)), (D.int (Int.ofNat 0)), (D.int (Int.ofNat 0))]), (D.tup [(D.int (Int.ofNat 0)), (D.int (Int.ofNat 0)), (D.int (Int.ofNat 0)), (D.int (Int.ofNat 0)), (D.int (Int.ofNat 0))])]), (D.tup [(D.tup [(D.int (Int.ofNat 1))]), (D.tup [(D.int (Int.ofNat 1))])])]), (AO.lst [D.non, (D.int (Int.ofNat 0)), (D.tup []), (D.tup [(D.tup [])]), (D.tup [(D.int (Int.ofNat 1))]), (D.tup [(D.tup [(D.int (Int.ofNat 1)), (D.int (Int.ofNat 2))])]), (D.tup [(D.tup [(D.int (Int.ofNat 1)), (D.int (Int.ofNat 2))]), (D.tup [(D.int (Int.ofNat 3)), (D.int (Int.ofNat 1))])]), (D.tup [(D.tup [(D.int (Int.ofNat 1)), (D.int (Int.ofNat 2))]), (D.obj 2)]), (D.obj 3), (D.tup [(D.tup [(D.bl true)])]), (D.tup [(D.tup [(D.int (Int.ofNat 1)), D.non]), (D.tup [D.non, (D.int (Int.ofNat 1))])]), (D.str [49]), (D.obj 4), (D.tup [(D.tup [(D.int (Int.ofNat 1)), (D.int (Int.ofNat 0))]), (D.tup [(D.int (Int.ofNat 0)), (D.int (Int.ofNat 1)), (D.int (Int.ofNat 0))])]), (D.tup [(D.tup [(D.int (Int.ofNat 1)), (D.int (Int.ofNat 0))]), (D.tup [(D.int (Int.ofNat 0))])]), (D.tup [(D.tup [(D.int (Int.ofNat 1000000000000000000000000000000000000000000000000000000000000))])]), (D.tup [(D.tup [(D.tup [(D.int (Int.ofNat 1)), (D.int (Int.ofNat 2))])])]), (D.tup [(D.tup [(D.int (Int.ofNat 0)), (D.int (Int.ofNat 0)), (D.int (Int.ofNat 0)), (D.int (Int.ofNat 0)), (D.int (Int.ofNat 0))]), (D.tup [(D.int (Int.ofNat 0)), (D.int (Int.ofNat 0)), (D.int (Int.ofNat 0)), (D.int (Int.ofNat 0)), (D.int (Int.ofNat 0))]), (D.tup [(D.int (Int.ofNat 0)), (D.int (Int.ofNat 0)), (D.int (Int.ofNat 0)), (D.int (Int.ofNat 0)), (D.int (Int.ofNat 0))]), (D.tup [(D.int (Int.ofNat 0)), (D.int (Int.ofNat 0)), (D.int (Int.ofNat 0)), (D.int (Int.ofNat 0)), (D.int (Int.ofNat 0))]), (D.tup [(D.int (Int.ofNat 0)), (D.int (Int.ofNat 0)), (D.int (Int.ofNat 0)), (D.int (Int.ofNat 0)), (D.int (Int.ofNat 0))])]), (D.tup [(D.tup [(D.int (Int.ofNat 1))]), (D.tup [(D.int (Int.ofNat 1))])])]), (AO.lst [(D.tup [(D.tup [(D.int (Int.ofNat 1))])]), (D.tup [(D.tup [(D.int (Int.ofNat 0)), (D.int (Int.ofNat 1))]), (D.tup [(D.int (Int.ofNat 1)), (D.int (Int.ofNat 0))])]), (D.tup [(D.tup [(D.int (Int.ofNat 0)), (D.int (Int.ofNat 0)), (D.int (Int.ofNat 0)), (D.int (Int.ofNat 0))]), (D.tup [(D.int (Int.ofNat 0)), (D.int (Int.ofNat 0)), (D.int (Int.ofNat 0)), (D.int (Int.ofNat 0))]), (D.tup [(D.int (Int.ofNat 0)), (D.int (Int.ofNat 0)), (D.int (Int.ofNat 0)), (D.int (Int.ofNat 0))]), (D.tup [(D.int (Int.ofNat 0)), (D.int (Int.ofNat 0)), (D.int (Int.ofNat 0)), (D.int (Int.ofNat 0))])]), (D.tup [(D.tup [(D.int (Int.ofNat 999999999999999999999999999999999999999999999999999999999999))])])]), (AO.lst [v2, (D.tup [(D.str [114, 101, 102, 117, 115, 101, 100]), (D.str [116, 97, 98, 108, 101])]), (D.tup [(D.str [102, 105, 110, 101])]), v3, (D.tup [(D.str [114, 101, 102, 117, 115, 101, 100]), (D.str [116, 97, 98, 108, 101])])])]) (g := fun r2 => SOut.nx [some (D.obj 0), some v0, some (D.obj 5), some v1, some (qT10 r2), some (D.obj 9), some (D.fn 40), none, none, none, none] [(cell a b c), (AO.lst [D.non, (D.int (Int.ofNat 0)), (D.int (Int.ofNat 1)), (D.int (Int.ofNat 2)), (D.int (Int.ofNat 9)), (D.int (Int.ofNat 17)), (D.int (Int.negSucc 2)), (D.bl true), (D.str [51]), (D.tup [(D.int (Int.ofNat 3))]), (D.int (Int.ofNat 1000000000000000000000000000000000000000000000000000000000000))]), (AO.lst [(D.int (Int.ofNat 2)), (D.int (Int.ofNat 1))]), (AO.lst [(D.tup [(D.int (Int.ofNat 1))])]), (AO.dct false []), (AO.lst [D.non, (D.int (Int.ofNat 0)), (D.tup []), (D.tup [(D.tup [])]), (D.tup [(D.int (Int.ofNat 1))]), (D.tup [(D.tup [(D.int (Int.ofNat 1)), (D.int (Int.ofNat 2))])]), (D.tup [(D.tup [(D.int (Int.ofNat 1)), (D.int (Int.ofNat 2))]), (D.tup [(D.int (Int.ofNat 3)), (D.int (Int.ofNat 1))])]), (D.tup [(D.tup [(D.int (Int.ofNat 1)), (D.int (Int.ofNat 2))]), (D.obj 2)]), (D.obj 3), (D.tup [(D.tup [(D.bl true)])]), (D.tup [(D.tup [(D.int (Int.ofNat 1)), D.non]), (D.tup [D.non, (D.int (Int.ofNat 1))])]), (D.str [49]), (D.obj 4)]), (AO.lst [(D.tup [(D.tup [(D.int (Int.ofNat 1)), (D.int (Int.ofNat 0))]), (D.tup [(D.int (Int.ofNat 0)), (D.int (Int.ofNat 1)), (D.int (Int.ofNat 0))])]), (D.tup [(D.tup [(D.int (Int.ofNat 1)), (D.int (Int.ofNat 0))]), (D.tup [(D.int (Int.ofNat 0))])]), (D.tup [(D.tup [(D.int (Int.ofNat 1000000000000000000000000000000000000000000000000000000000000))])]), (D.tup [(D.tup [(D.tup [(D.int (Int.ofNat 1)), (D.int (Int.ofNat 2))])])]), (D.tup [(D.tup [(D.int (Int.ofNat 0)), (D.int (Int.ofNat 0)), (D.int (Int.ofNat 0)), (D.int (Int.ofNat 0)), (D.int (Int.ofNat 0))]), (D.tup [(D.int (Int.ofNat 0)), (D.int (Int.ofNat 0)), (D.int (Int.ofNat 0)), (D.int (Int.ofNat 0)), (D.int (Int.ofNat 0))]), (D.tup [(D.int (Int.ofNat 0)), (D.int (Int.ofNat 0)), (D.int (Int.ofNat 0)), (D.int (Int.ofNat 0)), (D.int (Int.ofNat 0))]), (D.tup [(D.int (Int.ofNat 0)), (D.int (Int.ofNat 0)), (D.int (Int.ofNat 0)), (D.int (Int.ofNat 0)), (D.int (Int.ofNat 0))]), (D.tup [(D.int (Int.ofNat 0)), (D.int (Int.ofNat 0)), (D.int (Int.ofNat 0)), (D.int (Int.ofNat 0)), (D.int (Int.ofNat 0))])]), (D.tup [(D.tup [(D.int (Int.ofNat 1))]), (D.tup [(D.int (Int.ofNat 1))])])]), (AO.lst [D.non, (D.int (Int.ofNat 0)), (D.tup []), (D.tup [(D.tup [])]), (D.tup [(D.int (Int.ofNat 1))]), (D.tup [(D.tup [(D.int (Int.ofNat 1)), (D.int (Int.ofNat 2))])]), (D.tup [(D.tup [(D.int (Int.ofNat 1)), (D.int (Int.ofNat 2))]), (D.tup [(D.int (Int.ofNat 3)), (D.int (Int.ofNat 1))])]), (D.tup [(D.tup [(D.int (Int.ofNat 1)), (D.int (Int.ofNat 2))]), (D.obj 2)]), (D.obj 3), (D.tup [(D.tup [(D.bl true)])]), (D.tup [(D.tup [(D.int (Int.ofNat 1)), D.non]), (D.tup [D.non, (D.int (Int.ofNat 1))])]), (D.str [49]), (D.obj 4), (D.tup [(D.tup [(D.int (Int.ofNat 1)), (D.int (Int.ofNat 0))]), (D.tup [(D.int (Int.ofNat 0)), (D.int (Int.ofNat 1)), (D.int (Int.ofNat 0))])]), (D.tup [(D.tup [(D.int (Int.ofNat 1)), (D.int (Int.ofNat 0))]), (D.tup [(D.int (Int.ofNat 0))])]), (D.tup [(D.tup [(D.int (Int.ofNat 1000000000000000000000000000000000000000000000000000000000000))])]), (D.tup [(D.tup [(D.tup [(D.int (Int.ofNat 1)), (D.int (Int.ofNat 2))])])]), (D.tup [(D.tup [(D.int (Int.ofNat 0)), (D.int (Int.ofNat 0)), (D.int (Int.ofNat 0)), (D.int (Int.ofNat 0)), (D.int (Int.ofNat 0))]), (D.tup [(D.int (Int.ofNat 0)), (D.int (Int.ofNat 0)), (D.int (Int.ofNat 0)), (D.int (Int.ofNat 0)), (D.int (Int.ofNat 0))]), (D.tup [(D.int (Int.ofNat 0)), (D.int (Int.ofNat 0)), (D.int (Int.ofNat 0)), (D.int (Int.ofNat 0)), (D.int (Int.ofNat 0))]), (D.tup [(D.int (Int.ofNat 0)), (D.int (Int.ofNat 0)), (D.int (Int.ofNat 0)), (D.int (Int.ofNat 0)), (D.int (Int.ofNat 0))]), (D.tup [(D.int (Int.ofNat 0)), (D.int (Int.ofNat 0)), (D.int (Int.ofNat 0)), (D.int (Int.ofNat 0)), (D.int (Int.ofNat 0))])]), (D.tup [(D.tup [(D.int (Int.ofNat 1))]), (D.tup [(D.int (Int.ofNat 1))])])]), (AO.lst [(D.tup [(D.tup [(D.int (Int.ofNat 1))])]), (D.tup [(D.tup [(D.int (Int.ofNat 0)), (D.int (Int.ofNat 1))]), (D.tup [(D.int (Int.ofNat 1)), (D.int (Int.ofNat 0))])]), (D.tup [(D.tup [(D.int (Int.ofNat 0)), (D.int (Int.ofNat 0)), (D.int (Int.ofNat 0)), (D.int (Int.ofNat 0))]), (D.tup [(D.int (Int.ofNat 0)), (D.int (Int.ofNat 0)), (D.int (Int.ofNat 0)), (D.int (Int.ofNat 0))]), (D.tup [(D.int (Int.ofNat 0)), (D.int (Int.ofNat 0)), (D.int (Int.ofNat 0)), (D.int (Int.ofNat 0))]), (D.tup [(D.int (Int.ofNat 0)), (D.int (Int.ofNat 0)), (D.int (Int.ofNat 0)), (D.int (Int.ofNat 0))])]), (D.tup [(D.tup [(D.int (Int.ofNat 999999999999999999999999999999999999999999999999999999999999))])])]), (AO.lst [v2, (D.tup [(D.str [114, 101, 102, 117, 115, 101, 100]), (D.str [116, 97, 98, 108, 101])]), (D.tup [(D.str [102, 105, 110, 101])]), v3, (D.tup [(D.str [114, 101, 102, 117, 115, 101, 100]), (D.str [116, 97, 98, 108, 101])]), (D.tup [(D.str [102, 105, 110, 101])])])]) (n := 4) (by kernel_rfl) r2 h2
theorem qt30 (a b c : Int) (v0 : D) (r0 : Nat) (r1 : Nat) (h0 : r0 < 11) (h1 : r1 < 19) : qs28 rcq [some (D.obj 0), some (qT2 r0), some (D.obj 5), some (qT7 r1), some v0, some (D.obj 9), some (D.fn 40), none, none, none, none] [(cell a b c), (AO.lst [D.non, (D.int (Int.ofNat 0)), (D.int (Int.ofNat 1)), (D.int (Int.ofNat 2)), (D.int (Int.ofNat 9)), (D.int (Int.ofNat 17)), (D.int (Int.negSucc 2)), (D.bl true), (D.str [51]), (D.tup [(D.int (Int.ofNat 3))]), (D.int (Int.ofNat 1000000000000000000000000000000000000000000000000000000000000))]), (AO.lst [(D.int (Int.ofNat 2)), (D.int (Int.ofNat 1))]), (AO.lst [(D.tup [(D.int (Int.ofNat 1))])]), (AO.dct false []), (AO.lst [D.non, (D.int (Int.ofNat 0)), (D.tup []), (D.tup [(D.tup [])]), (D.tup [(D.int (Int.ofNat 1))]), (D.tup [(D.tup [(D.int (Int.ofNat 1)), (D.int (Int.ofNat 2))])]), (D.tup [(D.tup [(D.int (Int.ofNat 1)), (D.int (Int.ofNat 2))]), (D.tup [(D.int (Int.ofNat 3)), (D.int (Int.ofNat 1))])]), (D.tup [(D.tup [(D.int (Int.ofNat 1)), (D.int (Int.ofNat 2))]), (D.obj 2)]), (D.obj 3), (D.tup [(D.tup [(D.bl true)])]), (D.tup [(D.tup [(D.int (Int.ofNat 1)), D.non]), (D.tup [D.non, (D.int (Int.ofNat 1))])]), (D.str [49]), (D.obj 4)]), (AO.lst [(D.tup [(D.tup [(D.int (Int.ofNat 1)), (D.int (Int.ofNat 0))]), (D.tup [(D.int (Int.ofNat 0)), (D.int (Int.ofNat 1)), (D.int (Int.ofNat 0))])]), (D.tup [(D.tup [(D.int (Int.ofNat 1)), (D.int (Int.ofNat 0))]), (D.tup [(D.int (Int.ofNat 0))])]), (D.tup [(D.tup [(D.int (Int.ofNat 1000000000000000000000000000000000000000000000000000000000000))])]), (D.tup [(D.tup [(D.tup [(D.int (Int.ofNat 1)), (D.int (Int.ofNat 2))])])]), (D.tup [(D.tup [(D.int (Int.ofNat 0)), (D.int (Int.ofNat 0)), (D.int (Int.ofNat 0)), (D.int (Int.ofNat 0)), (D.int (Int.ofNat 0))]), (D.tup [(D.int (Int.ofNat 0)), (D.int (Int.ofNat 0)), (D.int (Int.ofNat 0)), (D.int (Int.ofNat 0)), (D.int (Int.ofNat 0))]), (D.tup [(D.int (Int.ofNat 0)), (D.int (Int.ofNat 0)), (D.int (Int.ofNat 0)), (D.int (Int.ofNat 0)), (D.int (Int.ofNat 0))]), (D.tup [(D.int (Int.ofNat 0)), (D.int (Int.ofNat 0)), (D.int (Int.ofNat 0)), (D.int (Int.ofNat 0)), (D.int (Int.ofNat 0))]), (D.tup [(D.int (Int.ofNat 0)), (D.int (Int.ofNat 0)), (D.int (Int.ofNat 0)), (D.int (Int.ofNat 0)), (D.int (Int.ofNat 0))])]), (D.tup [(D.tup [(D.int (Int.ofNat 1))]), (D.tup [(D.int (Int.ofNat 1))])])]), (AO.lst [D.non, (D.int (Int.ofNat 0)), (D.tup []), (D.tup [(D.tup [])]), (D.tup [(D.int (Int.ofNat 1))]), (D.tup [(D.tup [(D.int (Int.ofNat 1)), (D.int (Int.ofNat 2))])]), (D.tup [(D.tup [(D.int (Int.ofNat 1)), (D.int (Int.ofNat 2))]), (D.tup [(D.int (Int.ofNat 3)), (D.int (Int.ofNat 1))])]), (D.tup [(D.tup [(D.int (Int.ofNat 1)), (D.int (Int.ofNat 2))]), (D.obj 2)]), (D.obj 3), (D.tup [(D.tup [(D.bl true)])]), (D.tup [(D.tup [(D.int (Int.ofNat 1)), D.non]), (D.tup [D.non, (D.int (Int.ofNat 1))])]), (D.str [49]), (D.obj 4), (D.tup [(D.tup [(D.int (Int.ofNat 1)), (D.int (Int.ofNat 0))]), (D.tup [(D.int (Int.ofNat 0)), (D.int (Int.ofNat 1)), (D.int (Int.ofNat 0))])]), (D.tup [(D.tup [(D.int (Int.ofNat 1)), (D.int (Int.ofNat 0))]), (D.tup [(D.int (Int.ofNat 0))])]), (D.tup [(D.tup [(D.int (Int.ofNat 1000000000000000000000000000000000000000000000000000000000000))])]), (D.tup [(D.tup [(D.tup [(D.int (Int.ofNat 1)), (D.int (Int.ofNat 2))])])]), (D.tup [(D.tup [(D.int (Int.ofNat 0)), (D.int (Int.ofNat 0)), (D.int (Int.ofNat 0)), (D.int (Int.ofNat 0)), (D.int (Int.ofNat 0))]), (D.tup [(D.int (Int.ofNat 0)), (D.int (Int.ofNat 0)), (D.int (Int.ofNat 0)), (D.int (Int.ofNat 0)), (D.int (Int.ofNat 0))]), (D.tup [(D.int (Int.ofNat 0)), (D.int (Int.ofNat 0)), (D.int (Int.ofNat 0)), (D.int (Int.ofNat 0)), (D.int (Int.ofNat 0))]), (D.tup [(D.int (Int.ofNat 0)), (D.int (Int.ofNat 0)), (D.int (Int.ofNat 0)), (D.int (Int.ofNat 0)), (D.int (Int.ofNat 0))]), (D.tup [(D.int (Int.ofNat 0)), (D.int (Int.ofNat 0)), (D.int (Int.ofNat 0)), (D.int (Int.ofNat 0)), (D.int (Int.ofNat 0))])]), (D.tup [(D.tup [(D.int (Int.ofNat 1))]), (D.tup [(D.int (Int.ofNat 1))])])]), (AO.lst [(D.tup [(D.tup [(D.int (Int.ofNat 1))])]), (D.tup [(D.tup [(D.int (Int.ofNat 0)), (D.int (Int.ofNat 1))]), (D.tup [(D.int (Int.ofNat 1)), (D.int (Int.ofNat 0))])]), (D.tup [(D.tup [(D.int (Int.ofNat 0)), (D.int (Int.ofNat 0)), (D.int (Int.ofNat 0)), (D.int (Int.ofNat 0))]), (D.tup [(D.int (Int.ofNat 0)), (D.int (Int.ofNat 0)), (D.int (Int.ofNat 0)), (D.int (Int.ofNat 0))]), (D.tup [(D.int (Int.ofNat 0)), (D.int (Int.ofNat 0)), (D.int (Int.ofNat 0)), (D.int (Int.ofNat 0))]), (D.tup [(D.int (Int.ofNat 0)), (D.int (Int.ofNat 0)), (D.int (Int.ofNat 0)), (D.int (Int.ofNat 0))])]), (D.tup [(D.tup [(D.int (Int.ofNat 999999999999999999999999999999999999999999999999999999999999))])])]), (AO.lst [(qT15 r0), (D.tup [(D.str [114, 101, 102, 117, 115, 101, 100]), (D.str [116, 97, 98, 108, 101])]), (D.tup [(D.str [102, 105, 110, 101])]), (qT22 r0), (D.tup [(D.str [114, 101, 102, 117, 115, 101, 100]), (D.str [116, 97, 98, 108, 101])]), (D.tup [(D.str [102, 105, 110, 101])])])] = SOut.nx [some (D.obj 0), some (qT2 r0), some (D.obj 5), some (qT7 r1), some v0, some (D.obj 9), some (D.fn 40), none, none, none, none] [(cell a b c), (AO.lst [D.non, (D.int (Int.ofNat 0)), (D.int (Int.ofNat 1)), (D.int (Int.ofNat 2)), (D.int (Int.ofNat 9)), (D.int (Int.ofNat 17)), (D.int (Int.negSucc 2)), (D.bl true), (D.str [51]), (D.tup [(D.int (Int.ofNat 3))]), (D.int (Int.ofNat 1000000000000000000000000000000000000000000000000000000000000))]), (AO.lst [(D.int (Int.ofNat 2)), (D.int (Int.ofNat 1))]), (AO.lst [(D.tup [(D.int (Int.ofNat 1))])]), (AO.dct false []), (AO.lst [D.non, (D.int (Int.ofNat 0)), (D.tup []), (D.tup [(D.tup [])]), (D.tup [(D.int (Int.ofNat 1))]), (D.tup [(D.tup [(D.int (Int.ofNat 1)), (D.int (Int.ofNat 2))])]), (D.tup [(D.tup [(D.int (Int.ofNat 1)), (D.int (Int.ofNat 2))]), (D.tup [(D.int (Int.ofNat 3)), (D.int (Int.ofNat 1))])]), (D.tup [(D.tup [(D.int (Int.ofNat 1)), (D.int (Int.ofNat 2))]), (D.obj 2)]), (D.obj 3), (D.tup [(D.tup [(D.bl true)])]), (D.tup [(D.tup [(D.int (Int.ofNat 1)), D.non]), (D.tup [D.non, (D.int (Int.ofNat 1))])]), (D.str [49]), (D.obj 4)]), (AO.lst [(D.tup [(D.tup [(D.int (Int.ofNat 1)), (D.int (Int.ofNat 0))]), (D.tup [(D.int (Int.ofNat 0)), (D.int (Int.ofNat 1)), (D.int (Int.ofNat 0))])]), (D.tup [(D.tup [(D.int (Int.ofNat 1)), (D.int (Int.ofNat 0))]), (D.tup [(D.int (Int.ofNat 0))])]), (D.tup [(D.tup [(D.int (Int.ofNat 1000000000000000000000000000000000000000000000000000000000000))])]), (D.tup [(D.tup [(D.tup [(D.int (Int.ofNat 1)), (D.int (Int.ofNat 2))])])]), (D.tup [(D.tup [(D.int (Int.ofNat 0)), (D.int (Int.ofNat 0)), (D.int (Int.ofNat 0)), (D.int (Int.ofNat 0)), (D.int (Int.ofNat 0))]), (D.tup [(D.int (Int.ofNat 0)), (D.int (Int.ofNat 0)), (D.int (Int.ofNat 0)), (D.int (Int.ofNat 0)), (D.int (Int.ofNat 0))]), (D.tup [(D.int (Int.ofNat 0)), (D.int (Int.ofNat 0)), (D.int (Int.ofNat 0)), (D.int (Int.ofNat 0)), (D.int (Int.ofNat 0))]), (D.tup [(D.int (Int.ofNat 0)), (D.int (Int.ofNat 0)), (D.int (Int.ofNat 0)), (D.int (Int.ofNat 0)), (D.int (Int.ofNat 0))]), (D.tup [(D.int (Int.ofNat 0)), (D.int (Int.ofNat 0)), (D.int (Int.ofNat 0)), (D.int (Int.ofNat 0)), (D.int (Int.ofNat 0))])]), (D.tup [(D.tup [(D.int (Int.ofNat 1))]), (D.tup [(D.int (Int.ofNat 1))])])]), (AO.lst [D.non, (D.int (Int.ofNat 0)), (D.tup []), (D.tup [(D.tup [])]), (D.tup [(D.int (Int.ofNat 1))]), (D.tup [(D.tup [(D.int (Int.ofNat 1)), (D.int (Int.ofNat 2))])]), (D.tup [(D.tup [(D.int (Int.ofNat 1)), (D.int (Int.ofNat 2))]), (D.tup [(D.int (Int.ofNat 3)), (D.int (Int.ofNat 1))])]), (D.tup [(D.tup [(D.int (Int.ofNat 1)), (D.int (Int.ofNat 2))]), (D.obj 2)]), (D.obj 3), (D.tup [(D.tup [(D.bl true)])]), (D.tup [(D.tup [(D.int (Int.ofNat 1)), D.non]), (D.tup [D.non, (D.int (Int.ofNat 1))])]), (D.str [49]), (D.obj 4), (D.tup [(D.tup [(D.int (Int.ofNat 1)), (D.int (Int.ofNat 0))]), (D.tup [(D.int (Int.ofNat 0)), (D.int (Int.ofNat 1)), (D.int (Int.ofNat 0))])]), (D.tup [(D.tup [(D.int (Int.ofNat 1)), (D.int (Int.ofNat 0))]), (D.tup [(D.int (Int.ofNat 0))])]), (D.tup [(D.tup [(D.int (Int.ofNat 1000000000000000000000000000000000000000000000000000000000000))])]), (D.tup [(D.tup [(D.tup [(D.int (Int.ofNat 1)), (D.int (Int.ofNat 2))])])]), (D.tup [(D.tup [(D.int (Int.ofNat 0)), (D.int (Int.ofNat 0)), (D.int (Int.ofNat 0)), (D.int (Int.ofNat 0)), (D.int (Int.ofNat 0))]), (D.tup [(D.int (Int.ofNat 0)), (D.int (Int.ofNat 0)), (D.int (Int.ofNat 0)), (D.int (Int.ofNat 0)), (D.int (Int.ofNat 0))]), (D.tup [(D.int (Int.ofNat 0)), (D.int (Int.ofNat 0)), (D.int (Int.ofNat 0)), (D.int (Int.ofNat 0)), (D.int (Int.ofNat 0))]), (D.tup [(D.int (Int.ofNat 0)), (D.int (Int.ofNat 0)), (D.int (Int.ofNat 0)), (D.int (Int.ofNat 0)), (D.int (Int.ofNat 0))]), (D.tup [(D.int (Int.ofNat 0)), (D.int (Int.ofNat 0)), (D.int (Int.ofNat 0)), (D.int (Int.ofNat 0)), (D.int (Int.ofNat 0))])]), (D.tup [(D.tup [(D.int (Int.ofNat 1))]), (D.tup [(D.int (Int.ofNat 1))])])]), (AO.lst [(D.tup [(D.tup [(D.int (Int.ofNat 1))])]), (D.tup [(D.tup [(D.int (Int.ofNat 0)), (D.int (Int.ofNat 1))]), (D.tup [(D.int (Int.ofNat 1)), (D.int (Int.ofNat 0))])]), (D.tup [(D.tup [(D.int (Int.ofNat 0)), (D.int (Int.ofNat 0)), (D.int (Int.ofNat 0)), (D.int (Int.ofNat 0))]), (D.tup [(D.int (Int.ofNat 0)), (D.int (Int.ofNat 0)), (D.int (Int.ofNat 0)), (D.int (Int.ofNat 0))]), (D.tup [(D.int (Int.ofNat 0)), (D.int (Int.ofNat 0)), (D.int (Int.ofNat 0)), (D.int (Int.ofNat 0))]), (D.tup [(D.int (Int.ofNat 0)), (D.int (Int.ofNat 0)), (D.int (Int.ofNat 0)), (D.int (Int.ofNat 0))])]), (D.tup [(D.tup [(D.int (Int.ofNat 999999999999999999999999999999999999999999999999999999999999))])])]), (AO.lst [(qT15 r0), (D.tup [(D.str [114, 101, 102, 117, 115, 101, 100]), (D.str [116, 97, 98, 108, 101])]), (D.tup [(D.str [102, 105, 110, 101])]), (qT22 r0), (D.tup [(D.str [114, 101, 102, 117, 115, 101, 100]), (D.str [116, 97, 98, 108, 101])]), (D.tup [(D.str [102, 105, 110, 101])]), (qT29 r0)])] := all2 (f := fun r0 r1 => qs28 rcq [some (D.obj 0), some (qT2 r0), some (D.obj 5), some (qT7 r1), some v0, some (D.obj 9), some (D.fn 40), none, none, none, none] [(cell a b c), (AO.lst [D.non, (D.int (Int.ofNat 0)), (D.int (Int.ofNat 1)), (D.int (Int.ofNat 2)), (D.int (Int.ofNat 9)), (D.int (Int.ofNat 17)), (D.int (Int.negSucc 2)), (D.bl true), (D.str [51]), (D.tup [(D.int (Int.ofNat 3))]), (D.int (Int.ofNat 1000000000000000000000000000000000000000000000000000000000000))]), (AO.lst [(D.int (Int.ofNat 2)), (D.int (Int.ofNat 1))]), (AO.lst [(D.tup [(D.int (Int.ofNat 1))])]), (AO.dct false []), (AO.lst [D.non, (D.int (Int.ofNat 0)), (D.tup []), (D.tup [(D.tup [])]), (D.tup [(D.int (Int.ofNat 1))]), (D.tup [(D.tup [(D.int (Int.ofNat 1)), (D.int (Int.ofNat 2))])]), (D.tup [(D.tup [(D.int (Int.ofNat 1)), (D.int (Int.ofNat 2))]), (D.tup [(D.int (Int.ofNat 3)), (D.int (Int.ofNat 1))])]), (D.tup [(D.tup [(D.int (Int.ofNat 1)), (D.int (Int.ofNat 2))]), (D.obj 2)]), (D.obj 3), (D.tup [(D.tup [(D.bl true)])]), (D.tup [(D.tup [(D.int (Int.ofNat 1)), D.non]), (D.tup [D.non, (D.int (Int.ofNat 1))])]), (D.str [49]), (D.obj 4)]), (AO.lst [(D.tup [(D.tup [(D.int (Int.ofNat 1)), (D.int (Int.ofNat 0))]), (D.tup [(D.int (Int.ofNat 0)), (D.int (Int.ofNat 1)), (D.int (Int.ofNat 0))])]), (D.tup [(D.tup [(D.int (Int.ofNat 1)), (D.int (Int.ofNat 0))]), (D.tup [(D.int (Int.ofNat 0))])]), (D.tup [(D.tup [(D.int (Int.ofNat 1000000000000000000000000000000000000000000000000000000000000))])]), (D.tup [(D.tup [(D.tup [(D.int (Int.ofNat 1)), (D.int (Int.ofNat 2))])])]), (D.tup [(D.tup [(D.int (Int.ofNat 0)), (D.int (Int.ofNat 0)), (D.int (Int.ofNat 0)), (D.int (Int.ofNat 0)), (D.int (Int.ofNat 0))]), (D.tup [(D.int (Int.ofNat 0)), (D.int (Int.ofNat 0)), (D.int (Int.ofNat 0)), (D.int (Int.ofNat 0)), (D.int (Int.ofNat 0))]), (D.tup [(D.int (Int.ofNat 0)), (D.int (Int.ofNat 0)), (D.int (Int.ofNat 0)), (D.int (Int.ofNat 0)), (D.int (Int.ofNat 0))]), (D.tup [(D.int (Int.ofNat 0)), (D.int (Int.ofNat 0)), (D.int (Int.ofNat 0)), (D.int (Int.ofNat 0)), (D.int (Int.ofNat 0))]), (D.tup [(D.int (Int.ofNat 0)), (D.int (Int.ofNat 0)), (D.int (Int.ofNat 0)), (D.int (Int.ofNat 0)), (D.int (Int.ofNat 0))])]), (D.tup [(D.tup [(D.int (Int.ofNat 1))]), (D.tup [(D.int (Int.ofNat 1))])])]), (AO.lst [D.non, (D.int (Int.ofNat 0)), (D.tup []), (D.tup [(D.tup [])]), (D.tup [(D.int (Int.ofNat 1))]), (D.tup [(D.tup [(D.int (Int.ofNat 1)), (D.int (Int.ofNat 2))])]), (D.tup [(D.tup [(D.int (Int.ofNat 1)), (D.int (Int.ofNat 2))]), (D.tup [(D.int (Int.ofNat 3)), (D.int (Int.ofNat 1))])]), (D.tup [(D.tup [(D.int (Int.ofNat 1)), (D.int (Int.ofNat 2))]), (D.obj 2)]), (D.obj 3), (D.tup [(D.tup [(D.bl true)])]), (D.tup [(D.tup [(D.int (Int.ofNat 1)), D.non]), (D.tup [D.non, (D.int (Int.ofNat 1))])]), (D.str [49]), (D.obj 4), (D.tup [(D.tup [(D.int (Int.ofNat 1)), (D.int (Int.ofNat 0))]), (D.tup [(D.int (Int.ofNat 0)), (D.int (Int.ofNat 1)), (D.int (Int.ofNat 0))])]), (D.tup [(D.tup [(D.int (Int.ofNat 1)), (D.int (Int.ofNat 0))]), (D.tup [(D.int (Int.ofNat 0))])]), (D.tup [(D.tup [(D.int (Int.ofNat 1000000000000000000000000000000000000000000000000000000000000))])]), (D.tup [(D.tup [(D.tup [(D.int (Int.ofNat 1)), (D.int (Int.ofNat 2))])])]), (D.tup [(D.tup [(D.int (Int.ofNat 0)), (D.int (Int.ofNat 0)), (D.int (Int.ofNat 0)), (D.int (Int.ofNat 0)), (D.int (Int.ofNat 0))]), (D.tup [(D.int (Int.ofNat 0)), (D.int (Int.ofNat 0)), (D.int (Int.ofNat 0)), (D.int (Int.ofNat 0)), (D.int (Int.ofNat 0))]), (D.tup [(D.int (Int.ofNat 0)), (D.int (Int.ofNat 0)), (D.int (Int.ofNat 0)), (D.int (Int.ofNat 0)), (D.int (Int.ofNat 0))]), (D.tup [(D.int (Int.ofNat 0)), (D.int (Int.ofNat 0)), (D.int (Int.ofNat 0)), (D.int (Int.ofNat 0)), (D.int (Int.ofNat 0))]), (D.tup [(D.int (Int.ofNat 0)), (D.int (Int.ofNat 0)), (D.int (Int.ofNat 0)), (D.int (Int.ofNat 0)), (D.int (Int.ofNat 0))])]), (D.tup [(D.tup [(D.int (Int.ofNat 1))]), (D.tup [(D.int (Int.ofNat 1))])])]), (AO.lst [(D.tup [(D.tup [(D.int (Int.ofNat 1))])]), (D.tup [(D.tup [(D.int (Int.ofNat 0)), (D.int (Int.ofNat 1))]), (D.tup [(D.int (Int.ofNat 1)), (D.int (Int.ofNat 0))])]), (D.tup [(D.tup [(D.int (Int.ofNat 0)), (D.int (Int.ofNat 0)), (D.int (Int.ofNat 0)), (D.int (Int.ofNat 0))]), (D.tup [(D.int (Int.ofNat 0)), (D.int (Int.ofNat 0)), (D.int (Int.ofNat 0)), (D.int (Int.ofNat 0))]), (D.tup [(D.int (Int.ofNat 0)), (D.int (Int.ofNat 0)), (D.int (Int.ofNat 0)), (D.int (Int.ofNat 0))]), (D.tup [(D.int (Int.ofNat 0)), (D.int (Int.ofNat 0)), (D.int (Int.ofNat 0)), (D.int (Int.ofNat 0))])]), (D.tup [(D.tup [(D.int (Int.ofNat 999999999999999999999999999999999999999999999999999999999999))])])]), (AO.lst [(qT15 r0), (D.tup [(D.str [114, 101, 102, 117, 115, 101, 100]), (D.str [116, 97, 98, 108, 101])]), (D.tup [(D.str [102, 105, 110, 101])]), (qT22 r0), (D.tup [(D.str [114, 101, 102, 117, 115, 101, 100]), (D.str [116, 97, 98, 108, 101])]), (D.tup [(D.str [102, 105, 110, 101])])])]) (g := fun r0 r1 => SOut.nx [some (D.obj 0), some (qT2 r0), some (D.obj 5), some (qT7 r1), some v0, some (D.obj 9), some (D.fn 40), none, none, none, none] [(cell a b c), (AO.lst [D.non, (D.int (Int.ofNat 0)), (D.int (Int.ofNat 1)), (D.int (Int.ofNat 2)), (D.int (Int.ofNat 9)), (D.int (Int.ofNat 17)), (D.int (Int.negSucc 2)), (D.bl true), (D.str [51]), (D.tup [(D.int (Int.ofNat 3))]), (D.int (Int.ofNat 1000000000000000000000000000000000000000000000000000000000000))]), (AO.lst [(D.int (Int.ofNat 2)), (D.int (Int.ofNat 1))]), (AO.lst [(D.tup [(D.int (Int.ofNat 1))])]), (AO.dct false []), (AO.lst [D.non, (D.int (Int.ofNat 0)), (D.tup []), (D.tup [(D.tup [])]), (D.tup [(D.int (Int.ofNat 1))]), (D.tup [(D.tup [(D.int (Int.ofNat 1)), (D.int (Int.ofNat 2))])]), (D.tup [(D.tup [(D.int (Int.ofNat 1)), (D.int (Int.ofNat 2))]), (D.tup [(D.int (Int.ofNat 3)), (D.int (Int.ofNat 1))])]), (D.tup [(D.tup [(D.int (Int.ofNat 1)), (D.int (Int.ofNat 2))]), (D.obj 2)]), (D.obj 3), (D.tup [(D.tup [(D.bl true)])]), (D.tup [(D.tup [(D.int (Int.ofNat 1)), D.non]), (D.tup [D.non, (D.int (Int.ofNat 1))])]), (D.str [49]), (D.obj 4)]), (AO.lst [(D.tup [(D.tup [(D.int (Int.ofNat 1)), (D.int (Int.ofNat 0))]), (D.tup [(D.int (Int.ofNat 0)), (D.int (Int.ofNat 1)), (D.int (Int.ofNat 0))])]), (D.tup [(D.tup [(D.int (Int.ofNat 1)), (D.int (Int.ofNat 0))]), (D.tup [(D.int (Int.ofNat 0))])]), (D.tup [(D.tup [(D.int (Int.ofNat 1000000000000000000000000000000000000000000000000000000000000))])]), (D.tup [(D.tup [(D.tup [(D.int (Int.ofNat 1)), (D.int (Int.ofNat 2))])])]), (D.tup [(D.tup [(D.int (Int.ofNat 0)), (D.int (Int.ofNat 0)), (D.int (Int.ofNat 0)), (D.int (Int.ofNat 0)), (D.int (Int.ofNat 0))]), (D.tup [(D.int (Int.ofNat 0)), (D.int (Int.ofNat 0)), (D.int (Int.ofNat 0)), (D.int (Int.ofNat 0)), (D.int (Int.ofNat 0))]), (D.tup [(D.int (Int.ofNat 0)), (D.int (Int.ofNat 0)), (D.int (Int.ofNat 0)), (D.int (Int.ofNat 0)), (D.int (Int.ofNat 0))]), (D.tup [(D.int (Int.ofNat 0)), (D.int (Int.ofNat 0)), (D.int (Int.ofNat 0)), (D.int (Int.ofNat 0)), (D.int (Int.ofNat 0))]), (D.tup [(D.int (Int.ofNat 0)), (D.int (Int.ofNat 0)), (D.int (Int.ofNat 0)), (D.int (Int.ofNat 0)), (D.int (Int.ofNat 0))])]), (D.tup [(D.tup [(D.int (Int.ofNat 1))]), (D.tup [(D.int (Int.ofNat 1))])])]), (AO.lst [D.non, (D.int (Int.ofNat 0)), (D.tup []), (D.tup [(D.tup [])]), (D.tup [(D.int (Int.ofNat 1))]), (D.tup [(D.tup [(D.int (Int.ofNat 1)), (D.int (Int.ofNat 2))])]), (D.tup [(D.tup [(D.int (Int.ofNat 1)), (D.int (Int.ofNat 2))]), (D.tup [(D.int (Int.ofNat 3)), (D.int (Int.ofNat 1))])]), (D.tup [(D.tup [(D.int (Int.ofNat 1)), (D.int (Int.ofNat 2))]), (D.obj 2)]), (D.obj 3), (D.tup [(D.tup [(D.bl true)])]), (D.tup [(D.tup [(D.int (Int.ofNat 1)), D.non]), (D.tup [D.non, (D.int (Int.ofNat 1))])]), (D.str [49]), (D.obj 4), (D.tup [(D.tup [(D.int (Int.ofNat 1)), (D.int (Int.ofNat 0))]), (D.tup [(D.int (Int.ofNat 0)), (D.int (Int.ofNat 1)), (D.int (Int.ofNat 0))])]), (D.tup [(D.tup [(D.int (Int.ofNat 1)), (D.int (Int.ofNat 0))]), (D.tup [(D.int (Int.ofNat 0))])]), (D.tup [(D.tup [(D.int (Int.ofNat 1000000000000000000000000000000000000000000000000000000000000))])]), (D.tup [(D.tup [(D.tup [(D.int (Int.ofNat 1)), (D.int (Int.ofNat 2))])])]), (D.tup [(D.tup [(D.int (Int.ofNat 0)), (D.int (Int.ofNat 0)), (D.int (Int.ofNat 0)), (D.int (Int.ofNat 0)), (D.int (Int.ofNat 0))]), (D.tup [(D.int (Int.ofNat 0)), (D.int (Int.ofNat 0)), (D.int (Int.ofNat 0)), (D.int (Int.ofNat 0)), (D.int (Int.ofNat 0))]), (D.tup [(D.int (Int.ofNat 0)), (D.int (Int.ofNat 0)), (D.int (Int.ofNat 0)), (D.int (Int.ofNat 0)), (D.int (Int.ofNat 0))]), (D.tup [(D.int (Int.ofNat 0)), (D.int (Int.ofNat 0)), (D.int (Int.ofNat 0)), (D.int (Int.ofNat 0)), (D.int (Int.ofNat 0))]), (D.tup [(D.int (Int.ofNat 0)), (D.int (Int.ofNat 0)), (D.int (Int.ofNat 0)), (D.int (Int.ofNat 0)), (D.int (Int.ofNat 0))])]), (D.tup [(D.tup [(D.int (Int.ofNat 1))]), (D.tup [(D.int (Int.ofNat 1))])])]), (AO.lst [(D.tup [(D.tup [(D.int (Int.ofNat 1))])]), (D.tup [(D.tup [(D.int (Int.ofNat 0)), (D.int (Int.ofNat 1))]), (D.tup [(D.int (Int.ofNat 1)), (D.int (Int.ofNat 0))])]), (D.tup [(D.tup [(D.int (Int.ofNat 0)), (D.int (Int.ofNat 0)), (D.int (Int.ofNat 0)), (D.int (Int.ofNat 0))]), (D.tup [(D.int (Int.ofNat 0)), (D.int (Int.ofNat 0)), (D.int (Int.ofNat 0)), (D.int (Int.ofNat 0))]), (D.tup [(D.int (Int.ofNat 0)), (D.int (Int.ofNat 0)), (D.int (Int.ofNat 0)), (D.int (Int.ofNat 0))]), (D.tup [(D.int (Int.ofNat 0)), (D.int (Int.ofNat 0)), (D.int (Int.ofNat 0)), (D.int (Int.ofNat 0))])]), (D.tup [(D.tup [(D.int (Int.ofNat 999999999999999999999999999999999999999999999999999999999999))])])]), (AO.lst [(qT15 r0), (D.tup [(D.str [114, 101, 102, 117, 115, 101, 100]), (D.str [116, 97, 98, 108, 101])]), (D.tup [(D.str [102, 105, 110, 101])]), (qT22 r0), (D.tup [(D.str [114, 101, 102, 117, 115, 101, 100]), (D.str [116, 97, 98, 108, 101])]), (D.tup [(D.str [102, 105, 110, 101])]), (qT29 r0)])]) (n := 11) (m := 19) (by kernel_rfl) r0 r1 h0 h1
theorem qt32 (a b c : Int) (v0 : D) (v1 : D) (v2 : D) (v3 : D) (v4 : D) (r1 : Nat) (h1 : r1 < 19) : qs31 rcq [some (D.obj 0), some v0, some (D.obj 5), some (qT7 r1), some v1, some (D.obj 9), some (D.fn 40), none, none, none, none] [(cell a b c), (AO.lst [D.non, (D.int (Int.ofNat 0)), (D.int (Int.ofNat 1)), (D.int (Int.ofNat 2)), (D.int (Int.ofNat 9)), (D.int (Int.ofNat 17)), (D.int (Int.negSucc 2)), (D.bl true), (D.str [51]), (D.tup [(D.int (Int.ofNat 3))]), (D.int (Int.ofNat 1000000000000000000000000000000000000000000000000000000000000))]), (AO.lst [(D.int (Int.ofNat 2)), (D.int (Int.ofNat 1))]), (AO.lst [(D.tup [(D.int (Int.ofNat 1))])]), (AO.dct false []), (AO.lst [D.non, (D.int (Int.ofNat 0)), (D.tup []), (D.tup [(D.tup [])]), (D.tup [(D.int (Int.ofNat 1))]), (D.tup [(D.tup [(D.int (Int.ofNat 1)), (D.int (Int.ofNat 2))])]), (D.tup [(D.tup [(D.int (Int.ofNat 1)), (D.int (Int.ofNat 2))]), (D.tup [(D.int (Int.ofNat 3)), (D.int (Int.ofNat 1))])]), (D.tup [(D.tup [(D.int (Int.ofNat 1)), (D.int (Int.ofNat 2))]), (D.obj 2)]), (D.obj 3), (D.tup [(D.tup [(D.bl true)])]), (D.tup [(D.tup [(D.int (Int.ofNat 1)), D.non]), (D.tup [D.non, (D.int (Int.ofNat 1))])]), (D.str [49]), (D.obj 4)]), (AO.lst [(D.tup [(D.tup [(D.int (Int.ofNat 1)), (D.int (Int.ofNat 0))]), (D.tup [(D.int (Int.ofNat 0)), (D.int (Int.ofNat 1)), (D.int (Int.ofNat 0))])]), (D.tup [(D.tup [(D.int (Int.ofNat 1)), (D.int (Int.ofNat 0))]), (D.tup [(D.int (Int.ofNat 0))])]), (D.tup [(D.tup [(D.int (Int.ofNat 1000000000000000000000000000000000000000000000000000000000000))])]), (D.tup [(D.tup [(D.tup [(D.int (Int.ofNat 1)), (D.int (Int.ofNat 2))])])]), (D.tup [(D.tup [(D.int (Int.ofNat 0)), (D.int (Int.ofNat 0)), (D.int (Int.ofNat 0)), (D.int (Int.ofNat 0)), (D.int (Int.ofNat 0))]), (D.tup [(D.int (Int.ofNat 0)), (D.int (Int.ofNat 0)), (D.int (Int.ofNat 0)), (D.int (Int.ofNat 0)), (D.int (Int.ofNat 0))]), (D.tup [(D.int (Int.ofNat 0)), (D.int (Int.ofNat 0)), (D.int (Int.ofNat 0)), (D.int (Int.ofNat 0)), (D.int (Int.ofNat 0))]), (D.tup [(D.int (Int.ofNat 0)), (D.int (Int.ofNat 0)), (D.int (Int.ofNat 0)), (D.int (Int.ofNat 0)), (D.int (Int.ofNat 0))]), (D.tup [(D.int (Int.ofNat 0)), (D.int (Int.ofNat 0)), (D.int (Int.ofNat 0)), (D.int (Int.ofNat 0)), (D.int (Int.ofNat 0))])]), (D.tup [(D.tup [(D.int (Int.ofNat 1))]), (D.tup [(D.int (Int.ofNat 1))])])]), (AO.lst [D.non, (D.int (Int.ofNat 0)), (D.tup []), (D.tup [(D.tup [])]), (D.tup [(D.int (Int.ofNat 1))]), (D.tup [(D.tup [(D.int (Int.ofNat 1)), (D.int (Int.ofNat 2))])]), (D.tup [(D.tup [(D.int (Int.ofNat 1)), (D.int (Int.ofNat 2))]), (D.tup [(D.int (Int.ofNat 3)), (D.int (Int.ofNat 1))])]), (D.tup [(D.tup [(D.int (Int.ofNat 1)), (D.int (Int.ofNat 2))]), (D.obj 2)]), (D.obj 3), (D.tup [(D.tup [(D.bl true)])]), (D.tup [(D.tup [(D.int (Int.ofNat 1)), D.non]), (D.tup [D.non, (D.int (Int.ofNat 1))])]), (D.str [49]), (D.obj 4), (D.tup [(D.tup [(D.int (Int.ofNat 1)), (D.int (Int.ofNat 0))]), (D.tup [(D.int (Int.ofNat 0)), (D.int (Int.ofNat 1)), (D.int (Int.ofNat 0))])]), (D.tup [(D.tup [(D.int (Int.ofNat 1)), (D.int (Int.ofNat 0))]), (D.tup [(D.int (Int.ofNat 0))])]), (D.tup [(D.tup [(D.int (Int.ofNat 1000000000000000000000000000000000000000000000000000000000000))])]), (D.tup [(D.tup [(D.tup [(D.int (Int.ofNat 1)), (D.int (Int.ofNat 2))])])]), (D.tup [(D.tup [(D.int (Int.ofNat 0)), (D.int (Int.ofNat 0)), (D.int (Int.ofNat 0)), (D.int (Int.ofNat 0)), (D.int (Int.ofNat 0))]), (D.tup [(D.int (Int.ofNat 0)), (D.int (Int.ofNat 0)), (D.int (Int.ofNat 0)), (D.int (Int.ofNat 0)), (D.int (Int.ofNat 0))]), (D.tup [(D.int (Int.ofNat 0)), (D.int (Int.ofNat 0)), (D.int (Int.ofNat 0)), (D.int (Int.ofNat 0)), (D.int (Int.ofNat 0))]), (D.tup [(D.int (Int.ofNat 0)), (D.int (Int.ofNat 0)), (D.int (Int.ofNat 0)), (D.int (Int.ofNat 0)), (D.int (Int.ofNat 0))]), (D.tup [(D.int (Int.ofNat 0)), (D.int (Int.ofNat 0)), (D.int (Int.ofNat 0)), (D.int (Int.ofNat 0)), (D.int (Int.ofNat 0))])]), (D.tup [(D.tup [(D.int (Int.ofNat 1))]), (D.tup [(D.int (Int.ofNat 1))])])]), (AO.lst [(D.tup [(D.tup [(D.int (Int.ofNat 1))])]), (D.tup [(D.tup [(D.int (Int.ofNat 0)), (D.int (Int.ofNat 1))]), (D.tup [(D.int (Int.ofNat 1)), (D.int (Int.ofNat 0))])]), (D.tup [(D.tup [(D.int (Int.ofNat 0)), (D.int (Int.ofNat 0)), (D.int (Int.ofNat 0)), (D.int (Int.ofNat 0))]), (D.tup [(D.int (Int.ofNat 0)), (D.int (Int.ofNat 0)), (D.int (Int.ofNat 0)), (D.int (Int.ofNat 0))]), (D.tup [(D.int (Int.ofNat 0)), (D.int (Int.ofNat 0)), (D.int (Int.ofNat 0)), (D.int (Int.ofNat 0))]), (D.tup [(D.int (Int.ofNat 0)), (D.int (Int.ofNat 0)), (D.int (Int.ofNat 0)), (D.int (Int.ofNat 0))])]), (D.tup [(D.tup [(D.int (Int.ofNat 999999999999999999999999999999999999999999999999999999999999))])])]), (AO.lst [v2, (D.tup [(D.str [114, 101, 102, 117, 115, 101, 100]), (D.str [116, 97, 98, 108, 101])]), (D.tup [(D.str [102, 105, 110, 101])]), v3, (D.tup [(D.str [114, 101, 102, 117, 115, 101, 100]), (D.str [116, 97, 98, 108, 101])]), (D.tup [(D.str [102, 105, 110, 101])]), v4])] = SOut.nx [some (D.obj 0), some v0, some (D.obj 5), some (qT7 r1), some v1, some (D.obj 9), some (D.fn 40), none, none, none, none] [(cell a b c), (AO.lst [D.non, (D.int (Int.ofNat 0)), (D.int (Int.ofNat 1)), (D.int (Int.ofNat 2)), (D.int (Int.ofNat 9)), (D.int (Int.ofNat 17)), (D.int (Int.negSucc 2)), (D.bl true), (D.str [51]), (D.tup [(D.int (Int.ofNat 3))]), (D.int (Int.ofNat 1000000000000000000000000000000000000000000000000000000000000))]), (AO.lst [(D.int (Int.ofNat 2)), (D.int (Int.ofNat 1))]), (AO.lst [(D.tup [(D.int (Int.ofNat 1))])]), (AO.dct false []), (AO.lst [D.non, (D.int (Int.ofNat 0)), (D.tup []), (D.tup [(D.tup [])]), (D.tup [(D.int (Int.ofNat 1))]), (D.tup [(D.tup [(D.int (Int.ofNat 1)), (D.int (Int.ofNat 2))])]), (D.tup [(D.tup [(D.int (Int.ofNat 1)), (D.int (Int.ofNat 2))]), (D.tup [(D.int (Int.ofNat 3)), (D.int (Int.ofNat 1))])]), (D.tup [(D.tup [(D.int (Int.ofNat 1)), (D.int (Int.ofNat 2))]), (D.obj 2)]), (D.obj 3), (D.tup [(D.tup [(D.bl true)])]), (D.tup [(D.tup [(D.int (Int.ofNat 1)), D.non]), (D.tup [D.non, (D.int (Int.ofNat 1))])]), (D.str [49]), (D.obj 4)]), (AO.lst [(D.tup [(D.tup [(D.int (Int.ofNat 1)), (D.int (Int.ofNat 0))]), (D.tup [(D.int (Int.ofNat 0)), (D.int (Int.ofNat 1)), (D.int (Int.ofNat 0))])]), (D.tup [(D.tup [(D.int (Int.ofNat 1)), (D.int (Int.ofNat 0))]), (D.tup [(D.int (Int.ofNat 0))])]), (D.tup [(D.tup [(D.int (Int.ofNat 1000000000000000000000000000000000000000000000000000000000000))])]), (D.tup [(D.tup [(D.tup [(D.int (Int.ofNat 1)), (D.int (Int.ofNat 2))])])]), (D.tup [(D.tup [(D.int (Int.ofNat 0)), (D.int (Int.ofNat 0)), (D.int (Int.ofNat 0)), (D.int (Int.ofNat 0)), (D.int (Int.ofNat 0))]), (D.tup [(D.int (Int.ofNat 0)), (D.int (Int.ofNat 0)), (D.int (Int.ofNat 0)), (D.int (Int.ofNat 0)), (D.int (Int.ofNat 0))]), (D.tup [(D.int (Int.ofNat 0)), (D.int (Int.ofNat 0)), (D.int (Int.ofNat 0)), (D.int (Int.ofNat 0)), (D.int (Int.ofNat 0))]), (D.tup [(D.int (Int.ofNat 0)), (D.int (Int.ofNat 0)), (D.int (Int.ofNat 0)), (D.int (Int.ofNat 0)), (D.int (Int.ofNat 0))]), (D.tup [(D.int (Int.ofNat 0)), (D.int (Int.ofNat 0)), (D.int (Int.ofNat 0)), (D.int (Int.ofNat 0)), (D.int (Int.ofNat 0))])]), (D.tup [(D.tup [(D.int (Int.ofNat 1))]), (D.tup [(D.int (Int.ofNat 1))])])]), (AO.lst [D.non, (D.int (Int.ofNat 0)), (D.tup []), (D.tup [(D.tup [])]), (D.tup [(D.int (Int.ofNat 1))]), (D.tup [(D.tup [(D.int (Int.ofNat 1)), (D.int (Int.ofNat 2))])]), (D.tup [(D.tup [(D.int (Int.ofNat 1)), (D.int (Int.ofNat 2))]), (D.tup [(D.int (Int.ofNat 3)), (D.int (Int.ofNat 1))])]), (D.tup [(D.tup [(D.int (Int.ofNat 1)), (D.int (Int.ofNat 2))]), (D.obj 2)]), (D.obj 3), (D.tup [(D.tup [(D.bl true)])]), (D.tup [(D.tup [(D.int (Int.ofNat 1)), D.non]), (D.tup [D.non, (D.int (Int.ofNat 1))])]), (D.str [49]), (D.obj 4), (D.tup [(D.tup [(D.int (Int.ofNat 1)), (D.int (Int.ofNat 0))]), (D.tup [(D.int (Int.ofNat 0)), (D.int (Int.ofNat 1)), (D.int (Int.ofNat 0))])]), (D.tup [(D.tup [(D.int (Int.ofNat 1)), (D.int (Int.ofNat 0))]), (D.tup [(D.int (Int.ofNat 0))])]), (D.tup [(D.tup [(D.int (Int.ofNat 1000000000000000000000000000000000000000000000000000000000000))])]), (D.tup [(D.tup [(D.tup [(D.int (Int.ofNat 1)), (D.int (Int.ofNat 2))])])]), (D.tup [(D.tup [(D.int (Int.ofNat 0)), (D.int (Int.ofNat 0)), (D.int (Int.ofNat 0)), (D.int (Int.ofNat 0)), (D.int (Int.ofNat 0))]), (D.tup [(D.int (Int.ofNat 0)), (D.int (Int.ofNat 0)), (D.int (Int.ofNat 0)), (D.int (Int.ofNat 0)), (D.int (Int.ofNat 0))]), (D.tup [(D.int (Int.ofNat 0)), (D.int (Int.ofNat 0)), (D.int (Int.ofNat 0)), (D.int (Int.ofNat 0)), (D.int (Int.ofNat 0))]), (D.tup [(D.int (Int.ofNat 0)), (D.int (Int.ofNat 0)), (D.int (Int.ofNat 0)), (D.int (Int.ofNat 0)), (D.int (Int.ofNat 0))]), (D.tup [(D.int (Int.ofNat 0)), (D.int (Int.ofNat 0)), (D.int (Int.ofNat 0)), (D.int (Int.ofNat 0)), (D.int (Int.ofNat 0))])]), (D.tup [(D.tup [(D.int (Int.ofNat 1))]), (D.tup [(D.int (Int.ofNat 1))])])]), (AO.lst [(D.tup [(D.tup [(D.int (Int.ofNat 1))])]), (D.tup [(D.tup [(D.int (Int.ofNat 0)), (D.int (Int.ofNat 1))]), (D.tup [(D.int (Int.ofNat 1)), (D.int (Int.ofNat 0))])]), (D.tup [(D.tup [(D.int (Int.ofNat 0)), (D.int (Int.ofNat 0)), (D.int (Int.ofNat 0)), (D.int (Int.ofNat 0))]), (D.tup [(D.int (Int.ofNat 0)), (D.int (Int.ofNat 0)), (D.int (Int.ofNat 0)), (D.int (Int.ofNat 0))]), (D.tup [(D.int (Int.ofNat 0)), (D.int (Int.ofNat 0)), (D.int (Int.ofNat 0)), (D.int (Int.ofNat 0))]), (D.tup [(D.int (Int.ofNat 0)), (D.int (Int.ofNat 0)), (D.int (Int.ofNat 0)), (D.int (Int.ofNat 0))])]), (D.tup [(D.tup [(D.int (Int.ofNat 999999999999999999999999999999999999999999999999999999999999))])])]), (AO.lst [v2, (D.tup [(D.str [114, 101, 102, 117, 115, 101, 100]), (D.str [116, 97, 98, 108, 101])]), (D.tup [(D.str [102, 105, 110, 101])]), v3, (D.tup [(D.str [114, 101, 102, 117, 115, 101, 100]), (D.str [116, 97, 98, 108, 101])]), (D.tup [(D.str [102, 105, 110, 101])]), v4, (D.tup [(D.str [114, 101, 102, 117, 115, 101, 100]), (D.str [116, 97, 98, 108, 101])])])] := all1 (f := fun r1 => qs31 rcq [some (D.obj 0), some v0, some (D.obj 5), some (qT7 r1), some v1, some (D.obj 9), some (D.fn 40), none, none, none, none] [(cell a b c), (AO.lst [D.non, (D.int (Int.ofNat 0)), (D.int (Int.ofNat 1)), (D.int (Int.ofNat 2)), (D.int (Int.ofNat 9)), (D.int (Int.ofNat 17)), (D.int (Int.negSucc 2)), (D.bl true), (D.str [51]), (D.tup [(D.int (Int.ofNat 3))]), (D.int (Int.ofNat 1000000000000000000000000000000000000000000000000000000000000))]), (AO.lst [(D.int (Int.ofNat 2)), (D.int (Int.ofNat 1))]), (AO.lst [(D.tup [(D.int (Int.ofNat 1))])]), (AO.dct false []), (AO.lst [D.non, (D.int (Int.ofNat 0)), (D.tup []), (D.tup [(D.tup [])]), (D.tup [(D.int (Int.ofNat 1))]), (D.tup [(D.tup [(D.int (Int.ofNat 1)), (D.int (Int.ofNat 2))])]), (D.tup [(D.tup [(D.int (Int.ofNat 1)), (D.int (Int.ofNat 2))]), (D.tup [(D.int (Int.ofNat 3)), (D.int (Int.ofNat 1))])]), (D.tup [(D.tup [(D.int (Int.ofNat 1)), (D.int (Int.ofNat 2))]), (D.obj 2)]), (D.obj 3), (D.tup [(D.tup [(D.bl true)])]), (D.tup [(D.tup [(D.int (Int.ofNat 1)), D.non]), (D.tup [D.non, (D.int (Int.ofNat 1))])]), (D.str [49]), (D.obj 4)]), (AO.lst [(D.tup [(D.tup [(D.int (Int.ofNat 1)), (D.int (Int.ofNat 0))]), (D.tup [(D.int (Int.ofNat 0)), (D.int (Int.ofNat 1)), (D.int (Int.ofNat 0))])]), (D.tup [(D.tup [(D.int (Int.ofNat 1)), (D.int (Int.ofNat 0))]), (D.tup [(D.int (Int.ofNat 0))])]), (D.tup [(D.tup [(D.int (Int.ofNat 1000000000000000000000000000000000000000000000000000000000000))])]), (D.tup [(D.tup [(D.tup [(D.int (Int.ofNat 1)), (D.int (Int.ofNat 2))])])]), (D.tup [(D.tup [(D.int (Int.ofNat 0)), (D.int (Int.ofNat 0)), (D.int (Int.ofNat 0)), (D.int (Int.ofNat 0)), (D.int (Int.ofNat 0))]), (D.tup [(D.int (Int.ofNat 0)), (D.int (Int.ofNat 0)), (D.int (Int.ofNat 0)), (D.int (Int.ofNat 0)), (D.int (Int.ofNat 0))]), (D.tup [(D.int (Int.ofNat 0)), (D.int (Int.ofNat 0)), (D.int (Int.ofNat 0)), (D.int (Int.ofNat 0)), (D.int (Int.ofNat 0))]), (D.tup [(D.int (Int.ofNat 0)), (D.int (Int.ofNat 0)), (D.int (Int.ofNat 0)), (D.int (Int.ofNat 0)), (D.int (Int.ofNat 0))]), (D.tup [(D.int (Int.ofNat 0)), (D.int (Int.ofNat 0)), (D.int (Int.ofNat 0)), (D.int (Int.ofNat 0)), (D.int (Int.ofNat 0))])]), (D.tup [(D.tup [(D.int (Int.ofNat 1))]), (D.tup [(D.int (Int.ofNat 1))])])]), (AO.lst [D.non, (D.int (Int.ofNat 0)), (D.tup []), (D.tup [(D.tup [])]), (D.tup [(D.int (Int.ofNat 1))]), (D.tup [(D.tup [(D.int (Int.ofNat 1)), (D.int (Int.ofNat 2))])]), (D.tup [(D.tup [(D.int (Int.ofNat 1)), (D.int (Int.ofNat 2))]), (D.tup [(D.int (Int.ofNat 3)), (D.int (Int.ofNat 1))])]), (D.tup [(D.tup [(D.int (Int.ofNat 1)), (D.int (Int.ofNat 2))]), (D.obj 2)]), (D.obj 3), (D.tup [(D.tup [(D.bl true)])]), (D.tup [(D.tup [(D.int (Int.ofNat 1)), D.non]), (D.tup [D.non, (D.int (Int.ofNat 1))])]), (D.str [49]), (D.obj 4), (D.tup [(D.tup [(D.int (Int.ofNat 1)), (D.int (Int.ofNat 0))]), (D.tup [(D.int (Int.ofNat 0)), (D.int (Int.ofNat 1)), (D.int (Int.ofNat 0))])]), (D.tup [(D.tup [(D.int (Int.ofNat 1)), (D.int (Int.ofNat 0))]), (D.tup [(D.int (Int.ofNat 0))])]), (D.tup [(D.tup [(D.int (Int.ofNat 1000000000000000000000000000000000000000000000000000000000000))])]), (D.tup [(D.tup [(D.tup [(D.int (Int.ofNat 1)), (D.int (Int.ofNat 2))])])]), (D.tup [(D.tup [(D.int (Int.ofNat 0)), (D.int (Int.ofNat 0)), (D.int (Int.ofNat 0)), (D.int (Int.ofNat 0)), (D.int (Int.ofNat 0))]), (D.tup [(D.int (Int.ofNat 0)), (D.int (Int.ofNat 0)), (D.int (Int.ofNat 0)), (D.int (Int.ofNat 0)), (D.int (Int.ofNat 0))]), (D.tup [(D.int (Int.ofNat 0)), (D.int (Int.ofNat 0)), (D.int (Int.ofNat 0)), (D.int (Int.ofNat 0)), (D.int (Int.ofNat 0))]), (D.tup [(D.int (Int.ofNat 0)), (D.int (Int.ofNat 0)), (D.int (Int.ofNat 0)), (D.int (Int.ofNat 0)), (D.int (Int.ofNat 0))]), (D.tup [(D.int (Int.ofNat 0)), (D.int (Int.ofNat 0)), (D.int (Int.ofNat 0)), (D.int (Int.ofNat 0)), (D.int (Int.ofNat 0))])]), (D.tup [(D.tup [(D.int (Int.ofNat 1))]), (D.tup [(D.int (Int.ofNat 1))])])]), (AO.lst [(D.tup [(D.tup [(D.int (Int.ofNat 1))])]), (D.tup [(D.tup [(D.int (Int.ofNat 0)), (D.int (Int.ofNat 1))]), (D.tup [(D.int (Int.ofNat 1)), (D.int (Int.ofNat 0))])]), (D.tup [(D.tup [(D.int (Int.ofNat 0)), (D.int (Int.ofNat 0)), (D.int (Int.ofNat 0)), (D.int (Int.ofNat 0))]), (D.tup [(D.int (Int.ofNat 0)), (D.int (Int.ofNat 0)), (D.int (Int.ofNat 0)), (D.int (Int.ofNat 0))]), (D.tup [(D.int (Int.ofNat 0)), (D.int (Int.ofNat 0)), (D.int (Int.ofNat 0)), (D.int (Int.ofNat 0))]), (D.tup [(D.int (Int.ofNat 0)), (D.int (Int.ofNat 0)), (D.int (Int.ofNat 0)), (D.int (Int.ofNat 0))])]), (D.tup [(D.tup [(D.int (Int.ofNat 999999999999999999999999999999999999999999999999999999999999))])])]), (AO.lst [v2, (D.tup [(D.str [114, 101, 102, 117, 115, 101, 100]), (D.str [116, 97, 98, 108, 101])]), (D.tup [(D.str [102, 105, 110, 101])]), v3, (D.tup [(D.str [114, 101, 102, 117, 115, 101, 100]), (D.str [116, 97, 98, 108, 101])]), (D.tup [(D.str [102, 105, 110, 101])]), v4])]) (g := fun r1 => SOut.nx [some (D.obj 0), some v0, some (D.obj 5), some (qT7 r1), some v1, some (D.obj 9), some (D.fn 40), none, none, none, none] [(cell a b c), (AO.lst [D.non, (D.int (Int.ofNat 0)), (D.int (Int.ofNat 1)), (D.int (Int.ofNat 2)), (D.int (Int.ofNat 9)), (D.int (Int.ofNat 17)), (D.int (Int.negSucc 2)), (D.bl true), (D.str [51]), (D.tup [(D.int (Int.ofNat 3))]), (D.int (Int.ofNat 1000000000000000000000000000000000000000000000000000000000000))]), (AO.lst [(D.int (Int.ofNat 2)), (D.int (Int.ofNat 1))]), (AO.lst [(D.tup [(D.int (Int.ofNat 1))])]), (AO.dct false []), (AO.lst [D.non, (D.int (Int.ofNat 0)), (D.tup []), (D.tup [(D.tup [])]), (D.tup [(D.int (Int.ofNat 1))]), (D.tup [(D.tup [(D.int (Int.ofNat 1)), (D.int (Int.ofNat 2))])]), (D.tup [(D.tup [(D.int (Int.ofNat 1)), (D.int (Int.ofNat 2))]), (D.tup [(D.int (Int.ofNat 3)), (D.int (Int.ofNat 1))])]), (D.tup [(D.tup [(D.int (Int.ofNat 1)), (D.int (Int.ofNat 2))]), (D.obj 2)]), (D.obj 3), (D.tup [(D.tup [(D.bl true)])]), (D.tup [(D.tup [(D.int (Int.ofNat 1)), D.non]), (D.tup [D.non, (D.int (Int.ofNat 1))])]), (D.str [49]), (D.obj 4)]), (AO.lst [(D.tup [(D.tup [(D.int (Int.ofNat 1)), (D.int (Int.ofNat 0))]), (D.tup [(D.int (Int.ofNat 0)), (D.int (Int.ofNat 1)), (D.int (Int.ofNat 0))])]), (D.tup [(D.tup [(D.int (Int.ofNat 1)), (D.int (Int.ofNat 0))]), (D.tup [(D.int (Int.ofNat 0))])]), (D.tup [(D.tup [(D.int (Int.ofNat 1000000000000000000000000000000000000000000000000000000000000))])]), (D.tup [(D.tup [(D.tup [(D.int (Int.ofNat 1)), (D.int (Int.ofNat 2))])])]), (D.tup [(D.tup [(D.int (Int.ofNat 0)), (D.int (Int.ofNat 0)), (D.int (Int.ofNat 0)), (D.int (Int.ofNat 0)), (D.int (Int.ofNat 0))]), (D.tup [(D.int (Int.ofNat 0)), (D.int (Int.ofNat 0)), (D.int (Int.ofNat 0)), (D.int (Int.ofNat 0)), (D.int (Int.ofNat 0))]), (D.tup [(D.int (Int.ofNat 0)), (D.int (Int.ofNat 0)), (D.int (Int.ofNat 0)), (D.int (Int.ofNat 0)), (D.int (Int.ofNat 0))]), (D.tup [(D.int (Int.ofNat 0)), (D.int (Int.ofNat 0)), (D.int (Int.ofNat 0)), (D.int (Int.ofNat 0)), (D.int (Int.ofNat 0))]), (D.tup [(D.int (Int.ofNat 0)), (D.int (Int.ofNat 0)), (D.int (Int.ofNat 0)), (D.int (Int.ofNat 0)), (D.int (Int.ofNat 0))])]), (D.tup [(D.tup [(D.int (Int.ofNat 1))]), (D.tup [(D.int (Int.ofNat 1))])])]), (AO.lst [D.non, (D.int (Int.ofNat 0)), (D.tup []), (D.tup [(D.tup [])]), (D.tup [(D.int (Int.ofNat 1))]), (D.tup [(D.tup [(D.int (Int.ofNat 1)), (D.int (Int.ofNat 2))])]), (D.tup [(D.tup [(D.int (Int.ofNat 1)), (D.int (Int.ofNat 2))]), (D.tup [(D.int (Int.ofNat 3)), (D.int (Int.ofNat 1))])]), (D.tup [(D.tup [(D.int (Int.ofNat 1)), (D.int (Int.ofNat 2))]), (D.obj 2)]), (D.obj 3), (D.tup [(D.tup [(D.bl true)])]), (D.tup [(D.tup [(D.int (Int.ofNat 1)), D.non]), (D.tup [D.non, (D.int (Int.ofNat 1))])]), (D.str [49]), (D.obj 4), (D.tup [(D.tup [(D.int (Int.ofNat 1)), (D.int (Int.ofNat 0))]), (D.tup [(D.int (Int.ofNat 0)), (D.int (Int.ofNat 1)), (D.int (Int.ofNat 0))])]), (D.tup [(D.tup [(D.int (Int.ofNat 1)), (D.int (Int.ofNat 0))]), (D.tup [(D.int (Int.ofNat 0))])]), (D.tup [(D.tup [(D.int (Int.ofNat 1000000000000000000000000000000000000000000000000000000000000))])]), (D.tup [(D.tup [(D.tup [(D.int (Int.ofNat 1)), (D.int (Int.ofNat 2))])])]), (D.tup [(D.tup [(D.int (Int.ofNat 0)), (D.int (Int.ofNat 0)), (D.int (Int.ofNat 0)), (D.int (Int.ofNat 0)), (D.int (Int.ofNat 0))]), (D.tup [(D.int (Int.ofNat 0)), (D.int (Int.ofNat 0)), (D.int (Int.ofNat 0)), (D.int (Int.ofNat 0)), (D.int (Int.ofNat 0))]), (D.tup [(D.int (Int.ofNat 0)), (D.int (Int.ofNat 0)), (D.int (Int.ofNat 0)), (D.int (Int.ofNat 0)), (D.int (Int.ofNat 0))]), (D.tup [(D.int (Int.ofNat 0)), (D.int (Int.ofNat 0)), (D.int (Int.ofNat 0)), (D.int (Int.ofNat 0)), (D.int (Int.ofNat 0))]), (D.tup [(D.int (Int.ofNat 0)), (D.int (Int.ofNat 0)), (D.int (Int.ofNat 0)), (D.int (Int.ofNat 0)), (D.int (Int.ofNat 0))])]), (D.tup [(D.tup [(D.int (Int.ofNat 1))]), (D.tup [(D.int (Int.ofNat 1))])])]), (AO.lst [(D.tup [(D.tup [(D.int (Int.ofNat 1))])]), (D.tup [(D.tup [(D.int (Int.ofNat 0)), (D.int (Int.ofNat 1))]), (D.tup [(D.int (Int.ofNat 1)), (D.int (Int.ofNat 0))])]), (D.tup [(D.tup [(D.int (Int.ofNat 0)), (D.int (Int.ofNat 0)), (D.int (Int.ofNat 0)), (D.int (Int.ofNat 0))]), (D.tup [(D.int (Int.ofNat 0)), (D.int (Int.ofNat 0)), (D.int (Int.ofNat 0)), (D.int (Int.ofNat 0))]), (D.tup [(D.int (Int.ofNat 0)), (D.int (Int.ofNat 0)), (D.int (Int.ofNat 0)), (D.int (Int.ofNat 0))]), (D.tup [(D.int (Int.ofNat 0)), (D.int (Int.ofNat 0)), (D.int (Int.ofNat 0)), (D.int (Int.ofNat 0))])]), (D.tup [(D.tup [(D.int (Int.ofNat 999999999999999999999999999999999999999999999999999999999999))])])]), (AO.lst [v2, (D.tup [(D.str [114, 101, 102, 117, 115, 101, 100]), (D.str [116, 97, 98, 108, 101])]), (D.tup [(D.str [102, 105, 110, 101])]), v3, (D.tup [(D.str [114, 101, 102, 117, 115, 101, 100]), (D.str [116, 97, 98, 108, 101])]), (D.tup [(D.str [102, 105, 110, 101])]), v4, (D.tup [(D.str [114, 101, 102, 117, 115, 101, 100]), (D.str [116, 97, 98, 108, 101])])])]) (n := 19) (by kernel_rfl) r1 h1
theorem qt34 (a b c : Int) (v0 : D) (v1 : D) (v2 : D) (v3 : D) (r1 : Nat) (r2 : Nat) (h1 : r1 < 19) (h2 : r2 < 4) : qs33 rcq [some (D.obj 0), some v0, some (D.obj 5), some (qT7 r1), some (qT10 r2), some (D.obj 9), some (D.fn 40), none, none, none, none] [(cell a b c), (AO.lst [D.non, (D.int (Int.ofNat 0)), (D.int (Int.ofNat 1)), (D.int (Int.ofNat 2)), (D.int (Int.ofNat 9)), (D.int (Int.ofNat 17)), (D.int (Int.negSucc 2)), (D.bl true), (D.str [51]), (D.tup [(D.int (Int.ofNat 3))]), (D.int (Int.ofNat 1000000000000000000000000000000000000000000000000000000000000))]), (AO.lst [(D.int (Int.ofNat 2)), (D.int (Int.ofNat 1))]), (AO.lst [(D.tup [(D.int (Int.ofNat 1))])]), (AO.dct false []), (AO.lst [D.non, (D.int (Int.ofNat 0)), (D.tup []), (D.tup [(D.tup [])]), (D.tup [(D.int (Int.ofNat 1))]), (D.tup [(D.tup [(D.int (Int.ofNat 1)), (D.int (Int.ofNat 2))])]), (D.tup [(D.tup [(D.int (Int.ofNat 1)), (D.int (Int.ofNat 2))]), (D.tup [(D.int (Int.ofNat 3)), (D.int (Int.ofNat 1))])]), (D.tup [(D.tup [(D.int (Int.ofNat 1)), (D.int (Int.ofNat 2))]), (D.obj 2)]), (D.obj 3), (D.tup [(D.tup [(D.bl true)])]), (D.tup [(D.tup [(D.int (Int.ofNat 1)), D.non]), (D.tup [D.non, (D.int (Int.ofNat 1))])]), (D.str [49]), (D.obj 4)]), (AO.lst [(D.tup [(D.tup [(D.int (Int.ofNat 1)), (D.int (Int.ofNat 0))]), (D.tup [(D.int (Int.ofNat 0)), (D.int (Int.ofNat 1)), (D.int (Int.ofNat 0))])]), (D.tup [(D.tup [(D.int (Int.ofNat 1)), (D.int (Int.ofNat 0))]), (D.tup [(D.int (Int.ofNat 0))])]), (D.tup [(D.tup [(D.int (Int.ofNat 1000000000000000000000000000000000000000000000000000000000000))])]), (D.tup [(D.tup [(D.tup [(D.int (Int.ofNat 1)), (D.int (Int.ofNat 2))])])]), (D.tup [(D.tup [(D.int (Int.ofNat 0)), (D.int (Int.ofNat 0)), (D.int (Int.ofNat 0)), (D.int (Int.ofNat 0)), (D.int (Int.ofNat 0))]), (D.tup [(D.int (Int.ofNat 0)), (D.int (Int.ofNat 0)), (D.int (Int.ofNat 0)), (D.int (Int.ofNat 0)), (D.int (Int.ofNat 0))]), (D.tup [(D.int (Int.ofNat 0)), (D.int (Int.ofNat 0)), (D.int (Int.ofNat 0)), (D.int (Int.ofNat 0)), (D.int (Int.ofNat 0))]), (D.tup [(D.int (Int.ofNat 0)), (D.int (Int.ofNat 0)), (D.int (Int.ofNat 0)), (D.int (Int.ofNat 0)), (D.int (Int.ofNat 0))]), (D.tup [(D.int (Int.ofNat 0)), (D.int (Int.ofNat 0)), (D.int (Int.ofNat 0)), (D.int (Int.ofNat 0)), (D.int (Int.ofNat 0))])]), (D.tup [(D.tup [(D.int (Int.ofNat 1))]), (D.tup [(D.int (Int.ofNat 1))])])]), (AO.lst [D.non, (D.int (Int.ofNat 0)), (D.tup []), (D.tup [(D.tup [])]), (D.tup [(D.int (Int.ofNat 1))]), (D.tup [(D.tup [(D.int (Int.ofNat 1)), (D.int (Int.ofNat 2))])]), (D.tup [(D.tup [(D.int (Int.ofNat 1)), (D.int (Int.ofNat 2))]), (D.tup [(D.int (Int.ofNat 3)), (D.int (Int.ofNat 1))])]), (D.tup [(D.tup [(D.int (Int.ofNat 1)), (D.int (Int.ofNat 2))]), (D.obj 2)]), (D.obj 3), (D.tup [(D.tup [(D.bl true)])]), (D.tup [(D.tup [(D.int (Int.ofNat 1)), D.non]), (D.tup [D.non, (D.int (Int.ofNat 1))])]), (D.str [49]), (D.obj 4), (D.tup [(D.tup [(D.int (Int.ofNat 1)), (D.int (Int.ofNat 0))]), (D.tup [(D.int (Int.ofNat 0)), (D.int (Int.ofNat 1)), (D.int (Int.ofNat 0))])]), (D.tup [(D.tup [(D.int (Int.ofNat 1)), (D.int (Int.ofNat 0))]), (D.tup [(D.int (Int.ofNat 0))])]), (D.tup [(D.tup [(D.int (Int.ofNat 1000000000000000000000000000000000000000000000000000000000000))])]), (D.tup [(D.tup [(D.tup [(D.int (Int.ofNat 1)), (D.int (Int.ofNat 2))])])]), (D.tup [(D.tup [(D.int (Int.ofNat 0)), (D.int (Int.ofNat 0)), (D.int (Int.ofNat 0)), (D.int (Int.ofNat 0)), (D.int (Int.ofNat 0))]), (D.tup [(D.int (Int.ofNat 0)), (D.int (Int.ofNat 0)), (D.int (Int.ofNat 0)), (D.int (Int.ofNat 0)), (D.int (Int.ofNat 0))]), (D.tup [(D.int (Int.ofNat 0)), (D.int (Int.ofNat 0)), (D.int (Int.ofNat 0)), (D.int (Int.ofNat 0)), (D.int (Int.ofNat 0))]), (D.tup [(D.int (Int.ofNat 0)), (D.int (Int.ofNat 0)), (D.int (Int.ofNat 0)), (D.int (Int.ofNat 0)), (D.int (Int.ofNat 0))]), (D.tup [(D.int (Int.ofNat 0)), (D.int (Int.ofNat 0)), (D.int (Int.ofNat 0)), (D.int (Int.ofNat 0)), (D.int (Int.ofNat 0))])]), (D.tup [(D.tup [(D.int (Int.ofNat 1))]), (D.tup [(D.int (Int.ofNat 1))])])]), (AO.lst [(D.tup [(D.tup [(D.int (Int.ofNat 1))])]), (D.tup [(D.tup [(D.int (Int.ofNat 0)), (D.int (Int.ofNat 1))]), (D.tup [(D.int (Int.ofNat 1)), (D.int (Int.ofNat 0))])]), (D.tup [(D.tup [(D.int (Int.ofNat 0)), (D.int (Int.ofNat 0)), (D.int (Int.ofNat 0)), (D.int (Int.ofNat 0))]), (D.tup [(D.int (Int.ofNat 0)), (D.int (Int.ofNat 0)), (D.int (Int.ofNat 0)), (D.int (Int.ofNat 0))]), (D.tup [(D.int (Int.ofNat 0)), (D.int (Int.ofNat 0)), (D.int (Int.ofNat 0)), (D.int (Int.ofNat 0))]), (D.tup [(D.int (Int.ofNat 0)), (D.int (Int.ofNat 0)), (D.int (Int.ofNat 0)), (D.int (Int.ofNat 0))])]), (D.tup [(D.tup [(D.int (Int.ofNat 999999999999999999999999999999999999999999999999999999999999))])])]), (AO.lst [v1, (D.tup [(D.str [114, 101, 102, 117, 115, 101, 100]), (D.str [116, 97, 98, 108, 101])]), (D.tup [(D.str [102, 105, 110, 101])]), v2, (D.tup [(D.str [114, 101, 102, 117, 115, 101, 100]), (D.str [116, 97, 98, 108, 101])]), (D.tup [(D.str [102, 105, 110, 101])]), v3, (D.tup [(D.str [114, 101, 102, 117, 115, 101, 100]), (D.str [116, 97, 98, 108, 101])])])] = SOut.nx [some (D.obj 0), some v0, some (D.obj 5), some (qT7 r1), some (qT10 r2), some (D.obj 9), some (D.fn 40), none, none, none, none] [(cell a b c), (AO.lst [D.non, (D.int (Int.ofNat 0)), (D.int (Int.ofNat 1)), (D.int (Int.ofNat 2)), (D.int (Int.ofNat 9)), (D.int (Int.ofNat 17)), (D.int (Int.negSucc 2)), (D.bl true), (D.str [51]), (D.tup [(D.int (Int.ofNat 3))]), (D.int (Int.ofNat 1000000000000000000000000000000000000000000000000000000000000))]), (AO.lst [(D.int (Int.ofNat 2)), (D.int (Int.ofNat 1))]), (AO.lst [(D.tup [(D.int (Int.ofNat 1))])]), (AO.dct false []), (AO.lst [D.non, (D.int (Int.ofNat 0)), (D.tup []), (D.tup [(D.tup [])]), (D.tup [(D.int (Int.ofNat 1))]), (D.tup [(D.tup [(D.int (Int.ofNat 1)), (D.int (Int.ofNat 2))])]), (D.tup [(D.tup [(D.int (Int.ofNat 1)), (D.int (Int.ofNat 2))]), (D.tup [(D.int (Int.ofNat 3)), (D.int (Int.ofNat 1))])]), (D.tup [(D.tup [(D.int (Int.ofNat 1)), (D.int (Int.ofNat 2))]), (D.obj 2)]), (D.obj 3), (D.tup [(D.tup [(D.bl true)])]), (D.tup [(D.tup [(D.int (Int.ofNat 1)), D.non]), (D.tup [D.non, (D.int (Int.ofNat 1))])]), (D.str [49]), (D.obj 4)]), (AO.lst [(D.tup [(D.tup [(D.int (Int.ofNat 1)), (D.int (Int.ofNat 0))]), (D.tup [(D.int (Int.ofNat 0)), (D.int (Int.ofNat 1)), (D.int (Int.ofNat 0))])]), (D.tup [(D.tup [(D.int (Int.ofNat 1)), (D.int (Int.ofNat 0))]), (D.tup [(D.int (Int.ofNat 0))])]), (D.tup [(D.tup [(D.int (Int.ofNat 1000000000000000000000000000000000000000000000000000000000000))])]), (D.tup [(D.tup [(D.tup [(D.int (Int.ofNat 1)), (D.int (Int.ofNat 2))])])]), (D.tup [(D.tup [(D.int (Int.ofNat 0)), (D.int (Int.ofNat 0)), (D.int (Int.ofNat 0)), (D.int (Int.ofNat 0)), (D.int (Int.ofNat 0))]), (D.tup [(D.int (Int.ofNat 0)), (D.int (Int.ofNat 0)), (D.int (Int.ofNat 0)), (D.int (Int.ofNat 0)), (D.int (Int.ofNat 0))]), (D.tup [(D.int (Int.ofNat 0)), (D.int (Int.ofNat 0)), (D.int (Int.ofNat 0)), (D.int (Int.ofNat 0)), (D.int (Int.ofNat 0))]), (D.tup [(D.int (Int.ofNat 0)), (D.int (Int.ofNat 0)), (D.int (Int.ofNat 0)), (D.int (Int.ofNat 0)), (D.int (Int.ofNat 0))]), (D.tup [(D.int (Int.ofNat 0)), (D.int (Int.ofNat 0)), (D.int (Int.ofNat 0)), (D.int (Int.ofNat 0)), (D.int (Int.ofNat 0))])]), (D.tup [(D.tup [(D.int (Int.ofNat 1))]), (D.tup [(D.int (Int.ofNat 1))])])]), (AO.lst [D.non, (D.int (Int.ofNat 0)), (D.tup []), (D.tup [(D.tup [])]), (D.tup [(D.int (Int.ofNat 1))]), (D.tup [(D.tup [(D.int (Int.ofNat 1)), (D.int (Int.ofNat 2))])]), (D.tup [(D.tup [(D.int (Int.ofNat 1)), (D.int (Int.ofNat 2))]), (D.tup [(D.int (Int.ofNat 3)), (D.int (Int.ofNat 1))])]), (D.tup [(D.tup [(D.int (Int.ofNat 1)), (D.int (Int.ofNat 2))]), (D.obj 2)]), (D.obj 3), (D.tup [(D.tup [(D.bl true)])]), (D.tup [(D.tup [(D.int (Int.ofNat 1)), D.non]), (D.tup [D.non, (D.int (Int.ofNat 1))])]), (D.str [49]), (D.obj 4), (D.tup [(D.tup [(D.int (Int.ofNat 1)), (D.int (Int.ofNat 0))]), (D.tup [(D.int (Int.ofNat 0)), (D.int (Int.ofNat 1)), (D.int (Int.ofNat 0))])]), (D.tup [(D.tup [(D.int (Int.ofNat 1)), (D.int (Int.ofNat 0))]), (D.tup [(D.int (Int.ofNat 0))])]), (D.tup [(D.tup [(D.int (Int.ofNat 1000000000000000000000000000000000000000000000000000000000000))])]), (D.tup [(D.tup [(D.tup [(D.int (Int.ofNat 1)), (D.int (Int.ofNat 2))])])]), (D.tup [(D.tup [(D.int (Int.ofNat 0)), (D.int (Int.ofNat 0)), (D.int (Int.ofNat 0)), (D.int (Int.ofNat 0)), (D.int (Int.ofNat 0))]), (D.tup [(D.int (Int.ofNat 0)), (D.int (Int.ofNat 0)), (D.int (Int.ofNat 0)), (D.int (Int.ofNat 0)), (D.int (Int.ofNat 0))]), (D.tup [(D.int (Int.ofNat 0)), (D.int (Int.ofNat 0)), (D.int (Int.ofNat 0)), (D.int (Int.ofNat 0)), (D.int (Int.ofNat 0))]), (D.tup [(D.int (Int.ofNat 0)), (D.int (Int.ofNat 0)), (D.int (Int.ofNat 0)), (D.int (Int.ofNat 0)), (D.int (Int.ofNat 0))]), (D.tup [(D.int (Int.ofNat 0)), (D.int (Int.ofNat 0)), (D.int (Int.ofNat 0)), (D.int (Int.ofNat 0)), (D.int (Int.ofNat 0))])]), (D.tup [(D.tup [(D.int (Int.ofNat 1))]), (D.tup [(D.int (Int.ofNat 1))])])]), (AO.lst [(D.tup [(D.tup [(D.int (Int.ofNat 1))])]), (D.tup [(D.tup [(D.int (Int.ofNat 0)), (D.int (Int.ofNat 1))]), (D.tup [(D.int (Int.ofNat 1)), (D.int (Int.ofNat 0))])]), (D.tup [(D.tup [(D.int (Int.ofNat 0)), (D.int (Int.ofNat 0)), (D.int (Int.ofNat 0)), (D.int (Int.ofNat 0))]), (D.tup [(D.int (Int.ofNat 0)), (D.int (Int.ofNat 0)), (D.int (Int.ofNat 0)), (D.int (Int.ofNat 0))]), (D.tup [(D.int (Int.ofNat 0)), (D.int (Int.ofNat 0)), (D.int (Int.ofNat 0)), (D.int (Int.ofNat 0))]), (D.tup [(D.int (Int.ofNat 0)), (D.int (Int.ofNat 0)), (D.int (Int.ofNat 0)), (D.int (Int.ofNat 0))])]), (D.tup [(D.tup [(D.int (Int.ofNat 999999999999999999999999999999999999999999999999999999999999))])])]), (AO.lst [v1, (D.tup [(D.str [114, 101, 102, 117, 115, 101, 100]), (D.str [116, 97, 98, 108, 101])]), (D.tup [(D.str [102, 105, 110, 101])]), v2, (D.tup [(D.str [114, 101, 102, 117, 115, 101, 100]), (D.str [116, 97, 98, 108, 101])]), (D.tup [(D.str [102, 105, 110, 101])]), v3, (D.tup [(D.str [114, 101, 102, 117, 115, 101, 100]), (D.str [116, 97, 98, 108, 101])]), (D.tup [(D.str [102, 105, 110, 101])])])] := all2 (f := fun r1 r2 => qs33 rcq [some (D.obj 0), some v0, some (D.obj 5), some (qT7 r1), some (qT10 r2), some (D.obj 9), some (D.fn 40), none, none, none, none] [(cell a b c), (AO.lst [D.non, (D.int (Int.ofNat 0)), (D.int (Int.ofNat 1)), (D.int (Int.ofNat 2)), (D.int (Int.ofNat 9)), (D.int (Int.ofNat 17)), (D.int (Int.negSucc 2)), (D.bl true), (D.str [51]), (D.tup [(D.int (Int.ofNat 3))]), (D.int (Int.ofNat 1000000000000000000000000000000000000000000000000000000000000))]), (AO.lst [(D.int (Int.ofNat 2)), (D.int (Int.ofNat 1))]), (AO.lst [(D.tup [(D.int (Int.ofNat 1))])]), (AO.dct false []), (AO.lst [D.non, (D.int (Int.ofNat 0)), (D.tup []), (D.tup [(D.tup [])]), (D.tup [(D.int (Int.ofNat 1))]), (D.tup [(D.tup [(D.int (Int.ofNat 1)), (D.int (Int.ofNat 2))])]), (D.tup [(D.tup [(D.int (Int.ofNat 1)), (D.int (Int.ofNat 2))]), (D.tup [(D.int (Int.ofNat 3)), (D.int (Int.ofNat 1))])]), (D.tup [(D.tup [(D.int (Int.ofNat 1)), (D.int (Int.ofNat 2))]), (D.obj 2)]), (D.obj 3), (D.tup [(D.tup [(D.bl true)])]), (D.tup [(D.tup [(D.int (Int.ofNat 1)), D.non]), (D.tup [D.non, (D.int (Int.ofNat 1))])]), (D.str [49]), (D.obj 4)]), (AO.lst [(D.tup [(D.tup [(D.int (Int.ofNat 1)), (D.int (Int.ofNat 0))]), (D.tup [(D.int (Int.ofNat 0)), (D.int (Int.ofNat 1)), (D.int (Int.ofNat 0))])]), (D.tup [(D.tup [(D.int (Int.ofNat 1)), (D.int (Int.ofNat 0))]), (D.tup [(D.int (Int.ofNat 0))])]), (D.tup [(D.tup [(D.int (Int.ofNat 1000000000000000000000000000000000000000000000000000000000000))])]), (D.tup [(D.tup [(D.tup [(D.int (Int.ofNat 1)), (D.int (Int.ofNat 2))])])]), (D.tup [(D.tup [(D.int (Int.ofNat 0)), (D.int (Int.ofNat 0)), (D.int (Int.ofNat 0)), (D.int (Int.ofNat 0)), (D.int (Int.ofNat 0))]), (D.tup [(D.int (Int.ofNat 0)), (D.int (Int.ofNat 0)), (D.int (Int.ofNat 0)), (D.int (Int.ofNat 0)), (D.int (Int.ofNat 0))]), (D.tup [(D.int (Int.ofNat 0)), (D.int (Int.ofNat 0)), (D.int (Int.ofNat 0)), (D.int (Int.ofNat 0)), (D.int (Int.ofNat 0))]), (D.tup [(D.int (Int.ofNat 0)), (D.int (Int.ofNat 0)), (D.int (Int.ofNat 0)), (D.int (Int.ofNat 0)), (D.int (Int.ofNat 0))]), (D.tup [(D.int (Int.ofNat 0)), (D.int (Int.ofNat 0)), (D.int (Int.ofNat 0)), (D.int (Int.ofNat 0)), (D.int (Int.ofNat 0))])]), (D.tup [(D.tup [(D.int (Int.ofNat 1))]), (D.tup [(D.int (Int.ofNat 1))])])]), (AO.lst [D.non, (D.int (Int.ofNat 0)), (D.tup []), (D.tup [(D.tup [])]), (D.tup [(D.int (Int.ofNat 1))]), (D.tup [(D.tup [(D.int (Int.ofNat 1)), (D.int (Int.ofNat 2))])]), (D.tup [(D.tup [(D.int (Int.ofNat 1)), (D.int (Int.ofNat 2))]), (D.tup [(D.int (Int.ofNat 3)), (D.int (Int.ofNat 1))])]), (D.tup [(D.tup [(D.int (Int.ofNat 1)), (D.int (Int.ofNat 2))]), (D.obj 2)]), (D.obj 3), (D.tup [(D.tup [(D.bl true)])]), (D.tup [(D.tup [(D.int (Int.ofNat 1)), D.non]), (D.tup [D.non, (D.int (Int.ofNat 1))])]), (D.str [49]), (D.obj 4), (D.tup [(D.tup [(D.int (Int.ofNat 1)), (D.int (Int.ofNat 0))]), (D.tup [(D.int (Int.ofNat 0)), (D.int (Int.ofNat 1)), (D.int (Int.ofNat 0))])]), (D.tup [(D.tup [(D.int (Int.ofNat 1)), (D.int (Int.ofNat 0))]), (D.tup [(D.int (Int.ofNat 0))])]), (D.tup [(D.tup [(D.int (Int.ofNat 1000000000000000000000000000000000000000000000000000000000000))])]), (D.tup [(D.tup [(D.tup [(D.int (Int.ofNat 1)), (D.int (Int.ofNat 2))])])]), (D.tup [(D.tup [(D.int (Int.ofNat 0)), (D.int (Int.ofNat 0)), (D.int (Int.ofNat 0)), (D.int (Int.ofNat 0)), (D.int (Int.ofNat 0))]), (D.tup [(D.int (Int.ofNat 0)), (D.int (Int.ofNat 0)), (D.int (Int.ofNat 0)), (D.int (Int.ofNat 0)), (D.int (Int.ofNat 0))]), (D.tup [(D.int (Int.ofNat 0)), (D.int (Int.ofNat 0)), (D.int (Int.ofNat 0)), (D.int (Int.ofNat 0)), (D.int (Int.ofNat 0))]), (D.tup [(D.int (Int.ofNat 0)), (D.int (Int.ofNat 0)), (D.int (Int.ofNat 0)), (D.int (Int.ofNat 0)), (D.int (Int.ofNat 0))]), (D.tup [(D.int (Int.ofNat 0)), (D.int (Int.ofNat 0)), (D.int (Int.ofNat 0)), (D.int (Int.ofNat 0)), (D.int (Int.ofNat 0))])]), (D.tup [(D.tup [(D.int (Int.ofNat 1))]), (D.tup [(D.int (Int.ofNat 1))])])]), (AO.lst [(D.tup [(D.tup [(D.int (Int.ofNat 1))])]), (D.tup [(D.tup [(D.int (Int.ofNat 0)), (D.int (Int.ofNat 1))]), (D.tup [(D.int (Int.ofNat 1)), (D.int (Int.ofNat 0))])]), (D.tup [(D.tup [(D.int (Int.ofNat 0)), (D.int (Int.ofNat 0)), (D.int (Int.ofNat 0)), (D.int (Int.ofNat 0))]), (D.tup [(D.int (Int.ofNat 0)), (D.int (Int.ofNat 0)), (D.int (Int.ofNat 0)), (D.int (Int.ofNat 0))]), (D.tup [(D.int (Int.ofNat 0)), (D.int (Int.ofNat 0)), (D.int (Int.ofNat 0)), (D.int (Int.ofNat 0))]), (D.tup [(D.int (Int.ofNat 0)), (D.int (Int.ofNat 0)), (D.int (Int.ofNat 0)), (D.int (Int.ofNat 0))])]), (D.tup [(D.tup [(D.int (Int.ofNat 999999999999999999999999999999999999999999999999999999999999))])])]), (AO.lst [v1, (D.tup [(D.str [114, 101, 102, 117, 115, 101, 100]), (D.str [116, 97, 98, 108, 101])]), (D.tup [(D.str [102, 105, 110, 101])]), v2, (D.tup [(D.str [114, 101, 102, 117, 115, 101, 100]), (D.str [116, 97, 98, 108, 101])]), (D.tup [(D.str [102, 105, 110, 101])]), v3, (D.tup [(D.str [114, 101, 102, 117, 115, 101, 100]), (D.str [116, 97, 98, 108, 101])])])]) (g := fun r1 r2 => SOut.nx [some (D.obj 0), some v0, some (D.obj 5), some (qT7 r1), some (qT10 r2), some (D.obj 9), some (D.fn 40), none, none, none, none] [(cell a b c), (AO.lst [D.non, (D.int (Int.ofNat 0)), (D.int (Int.ofNat 1)), (D.int (Int.ofNat 2)), (D.int (Int.ofNat 9)), (D.int (Int.ofNat 17)), (D.int (Int.negSucc 2)), (D.bl true), (D.str [51]), (D.tup [(D.int (Int.ofNat 3))]), (D.int (Int.ofNat 1000000000000000000000000000000000000000000000000000000000000))]), (AO.lst [(D.int (Int.ofNat 2)), (D.int (Int.ofNat 1))]), (AO.lst [(D.tup [(D.int (Int.ofNat 1))])]), (AO.dct false []), (AO.lst [D.non, (D.int (Int.ofNat 0)), (D.tup []), (D.tup [(D.tup [])]), (D.tup [(D.int (Int.ofNat 1))]), (D.tup [(D.tup [(D.int (Int.ofNat 1)), (D.int (Int.ofNat 2))])]), (D.tup [(D.tup [(D.int (Int.ofNat 1)), (D.int (Int.ofNat 2))]), (D.tup [(D.int (Int.ofNat 3)), (D.int (Int.ofNat 1))])]), (D.tup [(D.tup [(D.int (Int.ofNat 1)), (D.int (Int.ofNat 2))]), (D.obj 2)]), (D.obj 3), (D.tup [(D.tup [(D.bl true)])]), (D.tup [(D.tup [(D.int (Int.ofNat 1)), D.non]), (D.tup [D.non, (D.int (Int.ofNat 1))])]), (D.str [49]), (D.obj 4)]), (AO.lst [(D.tup [(D.tup [(D.int (Int.ofNat 1)), (D.int (Int.ofNat 0))]), (D.tup [(D.int (Int.ofNat 0)), (D.int (Int.ofNat 1)), (D.int (Int.ofNat 0))])]), (D.tup [(D.tup [(D.int (Int.ofNat 1)), (D.int (Int.ofNat 0))]), (D.tup [(D.int (Int.ofNat 0))])]), (D.tup [(D.tup [(D.int (Int.ofNat 1000000000000000000000000000000000000000000000000000000000000))])]), (D.tup [(D.tup [(D.tup [(D.int (Int.ofNat 1)), (D.int (Int.ofNat 2))])])]), (D.tup [(D.tup [(D.int (Int.ofNat 0)), (D.int (Int.ofNat 0)), (D.int (Int.ofNat 0)), (D.int (Int.ofNat 0)), (D.int (Int.ofNat 0))]), (D.tup [(D.int (Int.ofNat 0)), (D.int (Int.ofNat 0)), (D.int (Int.ofNat 0)), (D.int (Int.ofNat 0)), (D.int (Int.ofNat 0))]), (D.tup [(D.int (Int.ofNat 0)), (D.int (Int.ofNat 0)), (D.int (Int.ofNat 0)), (D.int (Int.ofNat 0)), (D.int (Int.ofNat 0))]), (D.tup [(D.int (Int.ofNat 0)), (D.int (Int.ofNat 0)), (D.int (Int.ofNat 0)), (D.int (Int.ofNat 0)), (D.int (Int.ofNat 0))]), (D.tup [(D.int (Int.ofNat 0)), (D.int (Int.ofNat 0)), (D.int (Int.ofNat 0)), (D.int (Int.ofNat 0)), (D.int (Int.ofNat 0))])]), (D.tup [(D.tup [(D.int (Int.ofNat 1))]), (D.tup [(D.int (Int.ofNat 1))])])]), (AO.lst [D.non, (D.int (Int.ofNat 0)), (D.tup []), (D.tup [(D.tup [])]), (D.tup [(D.int (Int.ofNat 1))]), (D.tup [(D.tup [(D.int (Int.ofNat 1)), (D.int (Int.ofNat 2))])]), (D.tup [(D.tup [(D.int (Int.ofNat 1)), (D.int (Int.ofNat 2))]), (D.tup [(D.int (Int.ofNat 3)), (D.int (Int.ofNat 1))])]), (D.tup [(D.tup [(D.int (Int.ofNat 1)), (D.int (Int.ofNat 2))]), (D.obj 2)]), (D.obj 3), (D.tup [(D.tup [(D.bl true)])]), (D.tup [(D.tup [(D.int (Int.ofNat 1)), D.non]), (D.tup [D.non, (D.int (Int.ofNat 1))])]), (D.str [49]), (D.obj 4), (D.tup [(D.tup [(D.int (Int.ofNat 1)), (D.int (Int.ofNat 0))]), (D.tup [(D.int (Int.ofNat 0)), (D.int (Int.ofNat 1)), (D.int (Int.ofNat 0))])]), (D.tup [(D.tup [(D.int (Int.ofNat 1)), (D.int (Int.ofNat 0))]), (D.tup [(D.int (Int.ofNat 0))])]), (D.tup [(D.tup [(D.int (Int.ofNat 1000000000000000000000000000000000000000000000000000000000000))])]), (D.tup [(D.tup [(D.tup [(D.int (Int.ofNat 1)), (D.int (Int.ofNat 2))])])]), (D.tup [(D.tup [(D.int (Int.ofNat 0)), (D.int (Int.ofNat 0)), (D.int (Int.ofNat 0)), (D.int (Int.ofNat 0)), (D.int (Int.ofNat 0))]), (D.tup [(D.int (Int.ofNat 0)), (D.int (Int.ofNat 0)), (D.int (Int.ofNat 0)), (D.int (Int.ofNat 0)), (D.int (Int.ofNat 0))]), (D.tup [(D.int (Int.ofNat 0)), (D.int (Int.ofNat 0)), (D.int (Int.ofNat 0)), (D.int (Int.ofNat 0)), (D.int (Int.ofNat 0))]), (D.tup [(D.int (Int.ofNat 0)), (D.int (Int.ofNat 0)), (D.int (Int.ofNat 0)), (D.int (Int.ofNat 0)), (D.int (Int.ofNat 0))]), (D.tup [(D.int (Int.ofNat 0)), (D.int (Int.ofNat 0)), (D.int (Int.ofNat 0)), (D.int (Int.ofNat 0)), (D.int (Int.ofNat 0))])]), (D.tup [(D.tup [(D.int (Int.ofNat 1))]), (D.tup [(D.int (Int.ofNat 1))])])]), (AO.lst [(D.tup [(D.tup [(D.int (Int.ofNat 1))])]), (D.tup [(D.tup [(D.int (Int.ofNat 0)), (D.int (Int.ofNat 1))]), (D.tup [(D.int (Int.ofNat 1)), (D.int (Int.ofNat 0))])]), (D.tup [(D.tup [(D.int (Int.ofNat 0)), (D.int (Int.ofNat 0)), (D.int (Int.ofNat 0)), (D.int (Int.ofNat 0))]), (D.tup [(D.int (Int.ofNat 0)), (D.int (Int.ofNat 0)), (D.int (Int.ofNat 0)), (D.int (Int.ofNat 0))]), (D.tup [(D.int (Int.ofNat 0)), (D.int (Int.ofNat 0)), (D.int (Int.ofNat 0)), (D.int (Int.ofNat 0))]), (D.tup [(D.int (Int.ofNat 0)), (D.int (Int.ofNat 0)), (D.int (Int.ofNat 0)), (D.int (Int.ofNat 0))])]), (D.tup [(D.tup [(D.int (Int.ofNat 999999999999999999999999999999999999999999999999999999999999))])])]), (AO.lst [v1, (D.tup [(D.str [114, 101, 102, 117, 115, 101, 100]), (D.str [116, 97, 98, 108, 101])]), (D.tup [(D.str [102, 105, 110, 101])]), v2, (D.tup [(D.str [114, 101, 102, 117, 115, 101, 100]), (D.str [116, 97, 98, 108, 101])]), (D.tup [(D.str [102, 105, 110, 101])]), v3, (D.tup [(D.str [114, 101, 102, 117, 115, 101, 100]), (D.str [116, 97, 98, 108, 101])]), (D.tup [(D.str [102, 105, 110, 101])])])]) (n := 19) (m := 4) (by kernel_rfl) r1 r2 h1 h2
theorem qt37 (a b c : Int) (v0 : D) (r0 : Nat) (r1 : Nat) (h0 : r0 < 11) (h1 : r1 < 19) : qs35 rcq [some (D.obj 0), some (qT2 r0), some (D.obj 5), some (qT7 r1), some v0, some (D.obj 9), some (D.fn 40), none, none, none, none] [(cell a b c), (AO.lst [D.non, (D.int (Int.ofNat 0)), (D.int (Int.ofNat 1)), (D.int (Int.ofNat 2)), (D.int (Int.ofNat 9)), (D.int (Int.ofNat 17)), (D.int (Int.negSucc 2)), (D.bl true), (D.str [51]), (D.tup [(D.int (Int.ofNat 3))]), (D.int (Int.ofNat 1000000000000000000000000000000000000000000000000000000000000))]), (AO.lst [(D.int (Int.ofNat 2)), (D.int (Int.ofNat 1))]), (AO.lst [(D.tup [(D.int (Int.ofNat 1))])]), (AO.dct false []), (AO.lst [D.non, (D.int (Int.ofNat 0)), (D.tup []), (D.tup [(D.tup [])]), (D.tup [(D.int (Int.ofNat 1))]), (D.tup [(D.tup [(D.int (Int.ofNat 1)), (D.int (Int.ofNat 2))])]), (D.tup [(D.tup [(D.int (Int.ofNat 1)), (D.int (Int.ofNat 2))]), (D.tup [(D.int (Int.ofNat 3)), (D.int (Int.ofNat 1))])]), (D.tup [(D.tup [(D.int (Int.ofNat 1)), (D.int (Int.ofNat 2))]), (D.obj 2)]), (D.obj 3), (D.tup [(D.tup [(D.bl true)])]), (D.tup [(D.tup [(D.int (Int.ofNat 1)), D.non]), (D.tup [D.non, (D.int (Int.ofNat 1))])]), (D.str [49]), (D.obj 4)]), (AO.lst [(D.tup [(D.tup [(D.int (Int.ofNat 1)), (D.int (Int.ofNat 0))]), (D.tup [(D.int (Int.ofNat 0)), (D.int (Int.ofNat 1)), (D.int (Int.ofNat 0))])]), (D.tup [(D.tup [(D.int (Int.ofNat 1)), (D.int (Int.ofNat 0))]), (D.tup [(D.int (Int.ofNat 0))])]), (D.tup [(D.tup [(D.int (Int.ofNat 1000000000000000000000000000000000000000000000000000000000000))])]), (D.tup [(D.tup [(D.tup [(D.int (Int.ofNat 1)), (D.int (Int.ofNat 2))])])]), (D.tup [(D.tup [(D.int (Int.ofNat 0)), (D.int (Int.ofNat 0)), (D.int (Int.ofNat 0)), (D.int (Int.ofNat 0)), (D.int (Int.ofNat 0))]), (D.tup [(D.int (Int.ofNat 0)), (D.int (Int.ofNat 0)), (D.int (Int.ofNat 0)), (D.int (Int.ofNat 0)), (D.int (Int.ofNat 0))]), (D.tup [(D.int (Int.ofNat 0)), (D.int (Int.ofNat 0)), (D.int (Int.ofNat 0)), (D.int (Int.ofNat 0)), (D.int (Int.ofNat 0))]), (D.tup [(D.int (Int.ofNat 0)), (D.int (Int.ofNat 0)), (D.int (Int.ofNat 0)), (D.int (Int.ofNat 0)), (D.int (Int.ofNat 0))]), (D.tup [(D.int (Int.ofNat 0)), (D.int (Int.ofNat 0)), (D.int (Int.ofNat 0)), (D.int (Int.ofNat 0)), (D.int (Int.ofNat 0))])]), (D.tup [(D.tup [(D.int (Int.ofNat 1))]), (D.tup [(D.int (Int.ofNat 1))])])]), (AO.lst [D.non, (D.int (Int.ofNat 0)), (D.tup []), (D.tup [(D.tup [])]), (D.tup [(D.int (Int.ofNat 1))]), (D.tup [(D.tup [(D.int (Int.ofNat 1)), (D.int (Int.ofNat 2))])]), (D.tup [(D.tup [(D.int (Int.ofNat 1)), (D.int (Int.ofNat 2))]), (D.tup [(D.int (Int.ofNat 3)), (D.int (Int.ofNat 1))])]), (D.tup [(D.tup [(D.int (Int.ofNat 1)), (D.int (Int.ofNat 2))]), (D.obj 2)]), (D.obj 3), (D.tup [(D.tup [(D.bl true)])]), (D.tup [(D.tup [(D.int (Int.ofNat 1)), D.non]), (D.tup [D.non, (D.int (Int.ofNat 1))])]), (D.str [49]), (D.obj 4), (D.tup [(D.tup [(D.int (Int.ofNat 1)), (D.int (Int.ofNat 0))]), (D.tup [(D.int (Int.ofNat 0)), (D.int (Int.ofNat 1)), (D.int (Int.ofNat 0))])]), (D.tup [(D.tup [(D.int (Int.ofNat 1)), (D.int (Int.ofNat 0))]), (D.tup [(D.int (Int.ofNat 0))])]), (D.tup [(D.tup [(D.int (Int.ofNat 1000000000000000000000000000000000000000000000000000000000000))])]), (D.tup [(D.tup [(D.tup [(D.int (Int.ofNat 1)), (D.int (Int.ofNat 2))])])]), (D.tup [(D.tup [(D.int (Int.ofNat 0)), (D.int (Int.ofNat 0)), (D.int (Int.ofNat 0)), (D.int (Int.ofNat 0)), (D.int (Int.ofNat 0))]), (D.tup [(D.int (Int.ofNat 0)), (D.int (Int.ofNat 0)), (D.int (Int.ofNat 0)), (D.int (Int.ofNat 0)), (D.int (Int.ofNat 0))]), (D.tup [(D.int (Int.ofNat 0)), (D.int (Int.ofNat 0)), (D.int (Int.ofNat 0)), (D.int (Int.ofNat 0)), (D.int (Int.ofNat 0))]), (D.tup [(D.int (Int.ofNat 0)), (D.int (Int.ofNat 0)), (D.int (Int.ofNat 0)), (D.int (Int.ofNat 0)), (D.int (Int.ofNat 0))]), (D.tup [(D.int (Int.ofNat 0)), (D.int (Int.ofNat 0)), (D.int (Int.ofNat 0)), (D.int (Int.ofNat 0)), (D.int (Int.ofNat 0))])]), (D.tup [(D.tup [(D.int (Int.ofNat 1))]), (D.tup [(D.int (Int.ofNat 1))])])]), (AO.lst [(D.tup [(D.tup [(D.int (Int.ofNat 1))])]), (D.tup [(D.tup [(D.int (Int.ofNat 0)), (D.int (Int.ofNat 1))]), (D.tup [(D.int (Int.ofNat 1)), (D.int (Int.ofNat 0))])]), (D.tup [(D.tup [(D.int (Int.ofNat 0)), (D.int (Int.ofNat 0)), (D.int (Int.ofNat 0)), (D.int (Int.ofNat 0))]), (D.tup [(D.int (Int.ofNat 0)), (D.int (Int.ofNat 0)), (D.int (Int.ofNat 0)), (D.int (Int.ofNat 0))]), (D.tup [(D.int (Int.ofNat 0)), (D.int (Int.ofNat 0)), (D.int (Int.ofNat 0)), (D.int (Int.ofNat 0))]), (D.tup [(D.int (Int.ofNat 0)), (D.int (Int.ofNat 0)), (D.int (Int.ofNat 0)), (D.int (Int.ofNat 0))])]), (D.tup [(D.tup [(D.int (Int.ofNat 999999999999999999999999999999999999999999999999999999999999))])])]), (AO.lst [(qT15 r0), (D.tup [(D.str [114, 101, 102, 117, 115, 101, 100]), (D.str [116, 97, 98, 108, 101])]), (D.tup [(D.str [102, 105, 110, 101])]), (qT22 r0), (D.tup [(D.str [114, 101, 102, 117, 115, 101, 100]), (D.str [116, 97, 98, 108, 101])]), (D.tup [(D.str [102, 105, 110, 101])]), (qT29 r0), (D.tup [(D.str [114, 101, 102, 117, 115, 101, 100]), (D.str [116, 97, 98, 108, 101])]), (D.tup [(D.str [102, 105, 110, 101])])])] = SOut.nx [some (D.obj 0), some (qT2 r0), some (D.obj 5), some (qT7 r1), some v0, some (D.obj 9), some (D.fn 40), none, none, none, none] [(cell a b c), (AO.lst [D.non, (D.int (Int.ofNat 0)), (D.int (Int.ofNat 1)), (D.int (Int.ofNat 2)), (D.int (Int.ofNat 9)), (D.int (Int.ofNat 17)), (D.int (Int.negSucc 2)), (D.bl true), (D.str [51]), (D.tup [(D.int (Int.ofNat 3))]), (D.int (Int.ofNat 1000000000000000000000000000000000000000000000000000000000000))]), (AO.lst [(D.int (Int.ofNat 2)), (D.int (Int.ofNat 1))]), (AO.lst [(D.tup [(D.int (Int.ofNat 1))])]), (AO.dct false []), (AO.lst [D.non, (D.int (Int.ofNat 0)), (D.tup []), (D.tup [(D.tup [])]), (D.tup [(D.int (Int.ofNat 1))]), (D.tup [(D.tup [(D.int (Int.ofNat 1)), (D.int (Int.ofNat 2))])]), (D.tup [(D.tup [(D.int (Int.ofNat 1)), (D.int (Int.ofNat 2))]), (D.tup [(D.int (Int.ofNat 3)), (D.int (Int.ofNat 1))])]), (D.tup [(D.tup [(D.int (Int.ofNat 1)), (D.int (Int.ofNat 2))]), (D.obj 2)]), (D.obj 3), (D.tup [(D.tup [(D.bl true)])]), (D.tup [(D.tup [(D.int (Int.ofNat 1)), D.non]), (D.tup [D.non, (D.int (Int.ofNat 1))])]), (D.str [49]), (D.obj 4)]), (AO.lst [(D.tup [(D.tup [(D.int (Int.ofNat 1)), (D.int (Int.ofNat 0))]), (D.tup [(D.int (Int.ofNat 0)), (D.int (Int.ofNat 1)), (D.int (Int.ofNat 0))])]), (D.tup [(D.tup [(D.int (Int.ofNat 1)), (D.int (Int.ofNat 0))]), (D.tup [(D.int (Int.ofNat 0))])]), (D.tup [(D.tup [(D.int (Int.ofNat 1000000000000000000000000000000000000000000000000000000000000))])]), (D.tup [(D.tup [(D.tup [(D.int (Int.ofNat 1)), (D.int (Int.ofNat 2))])])]), (D.tup [(D.tup [(D.int (Int.ofNat 0)), (D.int (Int.ofNat 0)), (D.int (Int.ofNat 0)), (D.int (Int.ofNat 0)), (D.int (Int.ofNat 0))]), (D.tup [(D.int (Int.ofNat 0)), (D.int (Int.ofNat 0)), (D.int (Int.ofNat 0)), (D.int (Int.ofNat 0)), (D.int (Int.ofNat 0))]), (D.tup [(D.int (Int.ofNat 0)), (D.int (Int.ofNat 0)), (D.int (Int.ofNat 0)), (D.int (Int.ofNat 0)), (D.int (Int.ofNat 0))]), (D.tup [(D.int (Int.ofNat 0)), (D.int (Int.ofNat 0)), (D.int (Int.ofNat 0)), (D.int (Int.ofNat 0)), (D.int (Int.ofNat 0))]), (D.tup [(D.int (Int.ofNat 0)), (D.int (Int.ofNat 0)), (D.int (Int.ofNat 0)), (D.int (Int.ofNat 0)), (D.int (Int.ofNat 0))])]), (D.tup [(D.tup [(D.int (Int.ofNat 1))]), (D.tup [(D.int (Int.ofNat 1))])])]), (AO.lst [D.non, (D.int (Int.ofNat 0)), (D.tup []), (D.tup [(D.tup [])]), (D.tup [(D.int (Int.ofNat 1))]), (D.tup [(D.tup [(D.int (Int.ofNat 1)), (D.int (Int.ofNat 2))])]), (D.tup [(D.tup [(D.int (Int.ofNat 1)), (D.int (Int.ofNat 2))]), (D.tup [(D.int (Int.ofNat 3)), (D.int (Int.ofNat 1))])]), (D.tup [(D.tup [(D.int (Int.ofNat 1)), (D.int (Int.ofNat 2))]), (D.obj 2)]), (D.obj 3), (D.tup [(D.tup [(D.bl true)])]), (D.tup [(D.tup [(D.int (Int.ofNat 1)), D.non]), (D.tup [D.non, (D.int (Int.ofNat 1))])]), (D.str [49]), (D.obj 4), (D.tup [(D.tup [(D.int (Int.ofNat 1)), (D.int (Int.ofNat 0))]), (D.tup [(D.int (Int.ofNat 0)), (D.int (Int.ofNat 1)), (D.int (Int.ofNat 0))])]), (D.tup [(D.tup [(D.int (Int.ofNat 1)), (D.int (Int.ofNat 0))]), (D.tup [(D.int (Int.ofNat 0))])]), (D.tup [(D.tup [(D.int (Int.ofNat 1000000000000000000000000000000000000000000000000000000000000))])]), (D.tup [(D.tup [(D.tup [(D.int (Int.ofNat 1)), (D.int (Int.ofNat 2))])])]), (D.tup [(D.tup [(D.int (Int.ofNat 0)), (D.int (Int.ofNat 0)), (D.int (Int.ofNat 0)), (D.int (Int.ofNat 0)), (D.int (Int.ofNat 0))]), (D.tup [(D.int (Int.ofNat 0)), (D.int (Int.ofNat 0)), (D.int (Int.ofNat 0)), (D.int (Int.ofNat 0)), (D.int (Int.ofNat 0))]), (D.tup [(D.int (Int.ofNat 0)), (D.int (Int.ofNat 0)), (D.int (Int.ofNat 0)), (D.int (Int.ofNat 0)), (D.int (Int.ofNat 0))]), (D.tup [(D.int (Int.ofNat 0)), (D.int (Int.ofNat 0)), (D.int (Int.ofNat 0)), (D.int (Int.ofNat 0)), (D.int (Int.ofNat 0))]), (D.tup [(D.int (Int.ofNat 0)), (D.int (Int.ofNat 0)), (D.int (Int.ofNat 0)), (D.int (Int.ofNat 0)), (D.int (Int.ofNat 0))])]), (D.tup [(D.tup [(D.int (Int.ofNat 1))]), (D.tup [(D.int (Int.ofNat 1))])])]), (AO.lst [(D.tup [(D.tup [(D.int (Int.ofNat 1))])]), (D.tup [(D.tup [(D.int (Int.ofNat 0)), (D.int (Int.ofNat 1))]), (D.tup [(D.int (Int.ofNat 1)), (D.int (Int.ofNat 0))])]), (D.tup [(D.tup [(D.int (Int.ofNat 0)), (D.int (Int.ofNat 0)), (D.int (Int.ofNat 0)), (D.int (Int.ofNat 0))]), (D.tup [(D.int (Int.ofNat 0)), (D.int (Int.ofNat 0)), (D.int (Int.ofNat 0)), (D.int (Int.ofNat 0))]), (D.tup [(D.int (Int.ofNat 0)), (D.int (Int.ofNat 0)), (D.int (Int.ofNat 0)), (D.int (Int.ofNat 0))]), (D.tup [(D.int (Int.ofNat 0)), (D.int (Int.ofNat 0)), (D.int (Int.ofNat 0)), (D.int (Int.ofNat 0))])]), (D.tup [(D.tup [(D.int (Int.ofNat 999999999999999999999999999999999999999999999999999999999999))])])]), (AO.lst [(qT15 r0), (D.tup [(D.str [114, 101, 102, 117, 115, 101, 100]), (D.str [116, 97, 98, 108, 101])]), (D.tup [(D.str [102, 105, 110, 101])]), (qT22 r0), (D.tup [(D.str [114, 101, 102, 117, 115, 101, 100]), (D.str [116, 97, 98, 108, 101])]), (D.tup [(D.str [102, 105, 110, 101])]), (qT29 r0), (D.tup [(D.str [114, 101, 102, 117, 115, 101, 100]), (D.str [116, 97, 98, 108, 101])]), (D.tup [(D.str [102, 105, 110, 101])]), (qT36 r0)])] := all2 (f := fun r0 r1 => qs35 rcq [some (D.obj 0), some (qT2 r0), some (D.obj 5), some (qT7 r1), some v0, some (D.obj 9), some (D.fn 40), none, none, none, none] [(cell a b c), (AO.lst [D.non, (D.int (Int.ofNat 0)), (D.int (Int.ofNat 1)), (D.int (Int.ofNat 2)), (D.int (Int.ofNat 9)), (D.int (Int.ofNat 17)), (D.int (Int.negSucc 2)), (D.bl true), (D.str [51]), (D.tup [(D.int (Int.ofNat 3))]), (D.int (Int.ofNat 1000000000000000000000000000000000000000000000000000000000000))]), (AO.lst [(D.int (Int.ofNat 2)), (D.int (Int.ofNat 1))]), (AO.lst [(D.tup [(D.int (Int.ofNat 1))])]), (AO.dct false []), (AO.lst [D.non, (D.int (Int.ofNat 0)), (D.tup []), (D.tup [(D.tup [])]), (D.tup [(D.int (Int.ofNat 1))]), (D.tup [(D.tup [(D.int (Int.ofNat 1)), (D.int (Int.ofNat 2))])]), (D.tup [(D.tup [(D.int (Int.ofNat 1)), (D.int (Int.ofNat 2))]), (D.tup [(D.int (Int.ofNat 3)), (D.int (Int.ofNat 1))])]), (D.tup [(D.tup [(D.int (Int.ofNat 1)), (D.int (Int.ofNat 2))]), (D.obj 2)]), (D.obj 3), (D.tup [(D.tup [(D.bl true)])]), (D.tup [(D.tup [(D.int (Int.ofNat 1)), D.non]), (D.tup [D.non, (D.int (Int.ofNat 1))])]), (D.str [49]), (D.obj 4)]), (AO.lst [(D.tup [(D.tup [(D.int (Int.ofNat 1)), (D.int (Int.ofNat 0))]), (D.tup [(D.int (Int.ofNat 0)), (D.int (Int.ofNat 1)), (D.int (Int.ofNat 0))])]), (D.tup [(D.tup [(D.int (Int.ofNat 1)), (D.int (Int.ofNat 0))]), (D.tup [(D.int (Int.ofNat 0))])]), (D.tup [(D.tup [(D.int (Int.ofNat 1000000000000000000000000000000000000000000000000000000000000))])]), (D.tup [(D.tup [(D.tup [(D.int (Int.ofNat 1)), (D.int (Int.ofNat 2))])])]), (D.tup [(D.tup [(D.int (Int.ofNat 0)), (D.int (Int.ofNat 0)), (D.int (Int.ofNat 0)), (D.int (Int.ofNat 0)), (D.int (Int.ofNat 0))]), (D.tup [(D.int (Int.ofNat 0)), (D.int (Int.ofNat 0)), (D.int (Int.ofNat 0)), (D.int (Int.ofNat 0)), (D.int (Int.ofNat 0))]), (D.tup [(D.int (Int.ofNat 0)), (D.int (Int.ofNat 0)), (D.int (Int.ofNat 0)), (D.int (Int.ofNat 0)), (D.int (Int.ofNat 0))]), (D.tup [(D.int (Int.ofNat 0)), (D.int (Int.ofNat 0)), (D.int (Int.ofNat 0)), (D.int (Int.ofNat 0)), (D.int (Int.ofNat 0))]), (D.tup [(D.int (Int.ofNat 0)), (D.int (Int.ofNat 0)), (D.int (Int.ofNat 0)), (D.int (Int.ofNat 0)), (D.int (Int.ofNat 0))])]), (D.tup [(D.tup [(D.int (Int.ofNat 1))]), (D.tup [(D.int (Int.ofNat 1))])])]), (AO.lst [D.non, (D.int (Int.ofNat 0)), (D.tup []), (D.tup [(D.tup [])]), (D.tup [(D.int (Int.ofNat 1))]), (D.tup [(D.tup [(D.int (Int.ofNat 1)), (D.int (Int.ofNat 2))])]), (D.tup [(D.tup [(D.int (Int.ofNat 1)), (D.int (Int.ofNat 2))]), (D.tup [(D.int (Int.ofNat 3)), (D.int (Int.ofNat 1))])]), (D.tup [(D.tup [(D.int (Int.ofNat 1)), (D.int (Int.ofNat 2))]), (D.obj 2)]), (D.obj 3), (D.tup [(D.tup [(D.bl true)])]), (D.tup [(D.tup [(D.int (Int.ofNat 1)), D.non]), (D.tup [D.non, (D.int (Int.ofNat 1))])]), (D.str [49]), (D.obj 4), (D.tup [(D.tup [(D.int (Int.ofNat 1)), (D.int (Int.ofNat 0))]), (D.tup [(D.int (Int.ofNat 0)), (D.int (Int.ofNat 1)), (D.int (Int.ofNat 0))])]), (D.tup [(D.tup [(D.int (Int.ofNat 1)), (D.int (Int.ofNat 0))]), (D.tup [(D.int (Int.ofNat 0))])]), (D.tup [(D.tup [(D.int (Int.ofNat 1000000000000000000000000000000000000000000000000000000000000))])]), (D.tup [(D.tup [(D.tup [(D.int (Int.ofNat 1)), (D.int (Int.ofNat 2))])])]), (D.tup [(D.tup [(D.int (Int.ofNat 0)), (D.int (Int.ofNat 0)), (D.int (Int.ofNat 0)), (D.int (Int.ofNat 0)), (D.int (Int.ofNat 0))]), (D.tup [(D.int (Int.ofNat 0)), (D.int (Int.ofNat 0)), (D.int (Int.ofNat 0)), (D.int (Int.ofNat 0)), (D.int (Int.ofNat 0))]), (D.tup [(D.int (Int.ofNat 0)), (D.int (Int.ofNat 0)), (D.int (Int.ofNat 0)), (D.int (Int.ofNat 0)), (D.int (Int.ofNat 0))]), (D.tup [(D.int (Int.ofNat 0)), (D.int (Int.ofNat 0)), (D.int (Int.ofNat 0)), (D.int (Int.ofNat 0)), (D.int (Int.ofNat 0))]), (D.tup [(D.int (Int.ofNat 0)), (D.int (Int.ofNat 0)), (D.int (Int.ofNat 0)), (D.int (Int.ofNat 0)), (D.int (Int.ofNat 0))])]), (D.tup [(D.tup [(D.int (Int.ofNat 1))]), (D.tup [(D.int (Int.ofNat 1))])])]), (AO.lst [(D.tup [(D.tup [(D.int (Int.ofNat 1))])]), (D.tup [(D.tup [(D.int (Int.ofNat 0)), (D.int (Int.ofNat 1))]), (D.tup [(D.int (Int.ofNat 1)), (D.int (Int.ofNat 0))])]), (D.tup [(D.tup [(D.int (Int.ofNat 0)), (D.int (Int.ofNat 0)), (D.int (Int.ofNat 0)), (D.int (Int.ofNat 0))]), (D.tup [(D.int (Int.ofNat 0)), (D.int (Int.ofNat 0)), (D.int (Int.ofNat 0)), (D.int (Int.ofNat 0))]), (D.tup [(D.int (Int.ofNat 0)), (D.int (Int.ofNat 0)), (D.int (Int.ofNat 0)), (D.int (Int.ofNat 0))]), (D.tup [(D.int (Int.ofNat 0)), (D.int (Int.ofNat 0)), (D.int (Int.ofNat 0)), (D.int (Int.ofNat 0))])]), (D.tup [(D.tup [(D.int (Int.ofNat 999999999999999999999999999999999999999999999999999999999999))])])]), (AO.lst [(qT15 r0), (D.tup [(D.str [114, 101, 102, 117, 115, 101, 100]), (D.str [116, 97, 98, 108, 101])]), (D.tup [(D.str [102, 105, 110, 101])]), (qT22 r0), (D.tup [(D.str [114, 101, 102, 117, 115, 101, 100]), (D.str [116, 97, 98, 108, 101])]), (D.tup [(D.str [102, 105, 110, 101])]), (qT29 r0), (D.tup [(D.str [114, 101, 102, 117, 115, 101, 100]), (D.str [116, 97, 98, 108, 101])]), (D.tup [(D.str [102, 105, 110, 101])])])]) (g := fun r0 r1 => SOut.nx [some (D.obj 0), some (qT2 r0), some (D.obj 5), some (qT7 r1), some v0, some (D.obj 9), some (D.fn 40), none, none, none, none] [(cell a b c), (AO.lst [D.non, (D.int (Int.ofNat 0)), (D.int (Int.ofNat 1)), (D.int (Int.ofNat 2)), (D.int (Int.ofNat 9)), (D.int (Int.ofNat 17)), (D.int (Int.negSucc 2)), (D.bl true), (D.str [51]), (D.tup [(D.int (Int.ofNat 3))]), (D.int (Int.ofNat 1000000000000000000000000000000000000000000000000000000000000))]), (AO.lst [(D.int (Int.ofNat 2)), (D.int (Int.ofNat 1))]), (AO.lst [(D.tup [(D.int (Int.ofNat 1))])]), (AO.dct false []), (AO.lst [D.non, (D.int (Int.ofNat 0)), (D.tup []), (D.tup [(D.tup [])]), (D.tup [(D.int (Int.ofNat 1))]), (D.tup [(D.tup [(D.int (Int.ofNat 1)), (D.int (Int.ofNat 2))])]), (D.tup [(D.tup [(D.int (Int.ofNat 1)), (D.int (Int.ofNat 2))]), (D.tup [(D.int (Int.ofNat 3)), (D.int (Int.ofNat 1))])]), (D.tup [(D.tup [(D.int (Int.ofNat 1)), (D.int (Int.ofNat 2))]), (D.obj 2)]), (D.obj 3), (D.tup [(D.tup [(D.bl true)])]), (D.tup [(D.tup [(D.int (Int.ofNat 1)), D.non]), (D.tup [D.non, (D.int (Int.ofNat 1))])]), (D.str [49]), (D.obj 4)]), (AO.lst [(D.tup [(D.tup [(D.int (Int.ofNat 1)), (D.int (Int.ofNat 0))]), (D.tup [(D.int (Int.ofNat 0)), (D.int (Int.ofNat 1)), (D.int (Int.ofNat 0))])]), (D.tup [(D.tup [(D.int (Int.ofNat 1)), (D.int (Int.ofNat 0))]), (D.tup [(D.int (Int.ofNat 0))])]), (D.tup [(D.tup [(D.int (Int.ofNat 1000000000000000000000000000000000000000000000000000000000000))])]), (D.tup [(D.tup [(D.tup [(D.int (Int.ofNat 1)), (D.int (Int.ofNat 2))])])]), (D.tup [(D.tup [(D.int (Int.ofNat 0)), (D.int (Int.ofNat 0)), (D.int (Int.ofNat 0)), (D.int (Int.ofNat 0)), (D.int (Int.ofNat 0))]), (D.tup [(D.int (Int.ofNat 0)), (D.int (Int.ofNat 0)), (D.int (Int.ofNat 0)), (D.int (Int.ofNat 0)), (D.int (Int.ofNat 0))]), (D.tup [(D.int (Int.ofNat 0)), (D.int (Int.ofNat 0)), (D.int (Int.ofNat 0)), (D.int (Int.ofNat 0)), (D.int (Int.ofNat 0))]), (D.tup [(D.int (Int.ofNat 0)), (D.int (Int.ofNat 0)), (D.int (Int.ofNat 0)), (D.int (Int.ofNat 0)), (D.int (Int.ofNat 0))]), (D.tup [(D.int (Int.ofNat 0)), (D.int (Int.ofNat 0)), (D.int (Int.ofNat 0)), (D.int (Int.ofNat 0)), (D.int (Int.ofNat 0))])]), (D.tup [(D.tup [(D.int (Int.ofNat 1))]), (D.tup [(D.int (Int.ofNat 1))])])]), (AO.lst [D.non, (D.int (Int.ofNat 0)), (D.tup []), (D.tup [(D.tup [])]), (D.tup [(D.int (Int.ofNat 1))]), (D.tup [(D.tup [(D.int (Int.ofNat 1)), (D.int (Int.ofNat 2))])]), (D.tup [(D.tup [(D.int (Int.ofNat 1)), (D.int (Int.ofNat 2))]), (D.tup [(D.int (Int.ofNat 3)), (D.int (Int.ofNat 1))])]), (D.tup [(D.tup [(D.int (Int.ofNat 1)), (D.int (Int.ofNat 2))]), (D.obj 2)]), (D.obj 3), (D.tup [(D.tup [(D.bl true)])]), (D.tup [(D.tup [(D.int (Int.ofNat 1)), D.non]), (D.tup [D.non, (D.int (Int.ofNat 1))])]), (D.str [49]), (D.obj 4), (D.tup [(D.tup [(D.int (Int.ofNat 1)), (D.int (Int.ofNat 0))]), (D.tup [(D.int (Int.ofNat 0)), (D.int (Int.ofNat 1)), (D.int (Int.ofNat 0))])]), (D.tup [(D.tup [(D.int (Int.ofNat 1)), (D.int (Int.ofNat 0))]), (D.tup [(D.int (Int.ofNat 0))])]), (D.tup [(D.tup [(D.int (Int.ofNat 1000000000000000000000000000000000000000000000000000000000000))])]), (D.tup [(D.tup [(D.tup [(D.int (Int.ofNat 1)), (D.int (Int.ofNat 2))])])]), (D.tup [(D.tup [(D.int (Int.ofNat 0)), (D.int (Int.ofNat 0)), (D.int (Int.ofNat 0)), (D.int (Int.ofNat 0)), (D.int (Int.ofNat 0))]), (D.tup [(D.int (Int.ofNat 0)), (D.int (Int.ofNat 0)), (D.int (Int.ofNat 0)), (D.int (Int.ofNat 0)), (D.int (Int.ofNat 0))]), (D.tup [(D.int (Int.ofNat 0)), (D.int (Int.ofNat 0)), (D.int (Int.ofNat 0)), (D.int (Int.ofNat 0)), (D.int (Int.ofNat 0))]), (D.tup [(D.int (Int.ofNat 0)), (D.int (Int.ofNat 0)), (D.int (Int.ofNat 0)), (D.int (Int.ofNat 0)), (D.int (Int.ofNat 0))]), (D.tup [(D.int (Int.ofNat 0)), (D.int (Int.ofNat 0)), (D.int (Int.ofNat 0)), (D.int (Int.ofNat 0)), (D.int (Int.ofNat 0))])]), (D.tup [(D.tup [(D.int (Int.ofNat 1))]), (D.tup [(D.int (Int.ofNat 1))])])]), (AO.lst [(D.tup [(D.tup [(D.int (Int.ofNat 1))])]), (D.tup [(D.tup [(D.int (Int.ofNat 0)), (D.int (Int.ofNat 1))]), (D.tup [(D.int (Int.ofNat 1)), (D.int (Int.ofNat 0))])]), (D.tup [(D.tup [(D.int (Int.ofNat 0)), (D.int (Int.ofNat 0)), (D.int (Int.ofNat 0)), (D.int (Int.ofNat 0))]), (D.tup [(D.int (Int.ofNat 0)), (D.int (Int.ofNat 0)), (D.int (Int.ofNat 0)), (D.int (Int.ofNat 0))]), (D.tup [(D.int (Int.ofNat 0)), (D.int (Int.ofNat 0)), (D.int (Int.ofNat 0)), (D.int (Int.ofNat 0))]), (D.tup [(D.int (Int.ofNat 0)), (D.int (Int.ofNat 0)), (D.int (Int.ofNat 0)), (D.int (Int.ofNat 0))])]), (D.tup [(D.tup [(D.int (Int.ofNat 999999999999999999999999999999999999999999999999999999999999))])])]), (AO.lst [(qT15 r0), (D.tup [(D.str [114, 101, 102, 117, 115, 101, 100]), (D.str [116, 97, 98, 108, 101])]), (D.tup [(D.str [102, 105, 110, 101])]), (qT22 r0), (D.tup [(D.str [114, 101, 102, 117, 115, 101, 100]), (D.str [116, 97, 98, 108, 101])]), (D.tup [(D.str [102, 105, 110, 101])]), (qT29 r0), (D.tup [(D.str [114, 101, 102, 117, 115, 101, 100]), (D.str [116, 97, 98, 108, 101])]), (D.tup [(D.str [102, 105, 110, 101])]), (qT36 r0)])]) (n := 11) (m := 19) (by kernel_rfl) r0 r1 h0 h1
theorem qt39 (a b c : Int) (v0 : D) (v1 : D) (v2 : D) (v3 : D) (v4 : D) (r1 : Nat) (r2 : Nat) (h1 : r1 < 19) (h2 : r2 < 4) : qs38 rcq [some (D.obj 0), some v0, some (D.obj 5), some (qT7 r1), some (qT10 r2), some (D.obj 9), some (D.fn 40), none, none, none, none] [(cell a b c), (AO.lst [D.non, (D.int (Int.ofNat 0)), (D.int (Int.ofNat 1)), (D.int (Int.ofNat 2)), (D.int (Int.ofNat 9)), (D.int (Int.ofNat 17)), (D.int (Int.negSucc 2)), (D.bl true), (D.str [51]), (D.tup [(D.int (Int.ofNat 3))]), (D.int (Int.ofNat 1000000000000000000000000000000000000000000000000000000000000))]), (AO.lst [(D.int (Int.ofNat 2)), (D.int (Int.ofNat 1))]), (AO.lst [(D.tup [(D.int (Int.ofNat 1))])]), (AO.dct false []), (AO.lst [D.non, (D.int (Int.ofNat 0)), (D.tup []), (D.tup [(D.tup [])]), (D.tup [(D.int (Int.ofNat 1))]), (D.tup [(D.tup [(D.int (Int.ofNat 1)), (D.int (Int.ofNat 2))])]), (D.tup [(D.tup [(D.int (Int.ofNat 1)), (D.int (Int.ofNat 2))]), (D.tup [(D.int (Int.ofNat 3)), (D.int (Int.ofNat 1))])]), (D.tup [(D.tup [(D.int (Int.ofNat 1)), (D.int (Int.ofNat 2))]), (D.obj 2)]), (D.obj 3), (D.tup [(D.tup [(D.bl true)])]), (D.tup [(D.tup [(D.int (Int.ofNat 1)), D.non]), (D.tup [D.non, (D.int (Int.ofNat 1))])]), (D.str [49]), (D.obj 4)]), (AO.lst [(D.tup [(D.tup [(D.int (Int.ofNat 1)), (D.int (Int.ofNat 0))]), (D.tup [(D.int (Int.ofNat 0)), (D.int (Int.ofNat 1)), (D.int (Int.ofNat 0))])]), (D.tup [(D.tup [(D.int (Int.ofNat 1)), (D.int (Int.ofNat 0))]), (D.tup [(D.int (Int.ofNat 0))])]), (D.tup [(D.tup [(D.int (Int.ofNat 1000000000000000000000000000000000000000000000000000000000000))])]), (D.tup [(D.tup [(D.tup [(D.int (Int.ofNat 1)), (D.int (Int.ofNat 2))])])]), (D.tup [(D.tup [(D.int (Int.ofNat 0)), (D.int (Int.ofNat 0)), (D.int (Int.ofNat 0)), (D.int (Int.ofNat 0)), (D.int (Int.ofNat 0))]), (D.tup [(D.int (Int.ofNat 0)), (D.int (Int.ofNat 0)), (D.int (Int.ofNat 0)), (D.int (Int.ofNat 0)), (D.int (Int.ofNat 0))]), (D.tup [(D.int (Int.ofNat 0)), (D.int (Int.ofNat 0)), (D.int (Int.ofNat 0)), (D.int (Int.ofNat 0)), (D.int (Int.ofNat 0))]), (D.tup [(D.int (Int.ofNat 0)), (D.int (Int.ofNat 0)), (D.int (Int.ofNat 0)), (D.int (Int.ofNat 0)), (D.int (Int.ofNat 0))]), (D.tup [(D.int (Int.ofNat 0)), (D.int (Int.ofNat 0)), (D.int (Int.ofNat 0)), (D.int (Int.ofNat 0)), (D.int (Int.ofNat 0))])]), (D.tup [(D.tup [(D.int (Int.ofNat 1))]), (D.tup [(D.int (Int.ofNat 1))])])]), (AO.lst [D.non, (D.int (Int.ofNat 0)), (D.tup []), (D.tup [(D.tup [])]), (D.tup [(D.int (Int.ofNat 1))]), (D.tup [(D.tup [(D.int (Int.ofNat 1)), (D.int (Int.ofNat 2))])]), (D.tup [(D.tup [(D.int (Int.ofNat 1)), (D.int (Int.ofNat 2))]), (D.tup [(D.int (Int.ofNat 3)), (D.int (Int.ofNat 1))])]), (D.tup [(D.tup [(D.int (Int.ofNat 1)), (D.int (Int.ofNat 2))]), (D.obj 2)]), (D.obj 3), (D.tup [(D.tup [(D.bl true)])]), (D.tup [(D.tup [(D.int (Int.ofNat 1)), D.non]), (D.tup [D.non, (D.int (Int.ofNat 1))])]), (D.str [49]), (D.obj 4), (D.tup [(D.tup [(D.int (Int.ofNat 1)), (D.int (Int.ofNat 0))]), (D.tup [(D.int (Int.ofNat 0)), (D.int (Int.ofNat 1)), (D.int (Int.ofNat 0))])]), (D.tup [(D.tup [(D.int (Int.ofNat 1)), (D.int (Int.ofNat 0))]), (D.tup [(D.int (Int.ofNat 0))])]), (D.tup [(D.tup [(D.int (Int.ofNat 1000000000000000000000000000000000000000000000000000000000000))])]), (D.tup [(D.tup [(D.tup [(D.int (Int.ofNat 1)), (D.int (Int.ofNat 2))])])]), (D.tup [(D.tup [(D.int (Int.ofNat 0)), (D.int (Int.ofNat 0)), (D.int (Int.ofNat 0)), (D.int (Int.ofNat 0)), (D.int (Int.ofNat 0))]), (D.tup [(D.int (Int.ofNat 0)), (D.int (Int.ofNat 0)), (D.int (Int.ofNat 0)), (D.int (Int.ofNat 0)), (D.int (Int.ofNat 0))]), (D.tup [(D.int (Int.ofNat 0)), (D.int (Int.ofNat 0)), (D.int (Int.ofNat 0)), (D.int (Int.ofNat 0)), (D.int (Int.ofNat 0))]), (D.tup [(D.int (Int.ofNat 0)), (D.int (Int.ofNat 0)), (D.int (Int.ofNat 0)), (D.int (Int.ofNat 0)), (D.int (Int.ofNat 0))]), (D.tup [(D.int (Int.ofNat 0)), (D.int (Int.ofNat 0)), (D.int (Int.ofNat 0)), (D.int (Int.ofNat 0)), (D.int (Int.ofNat 0))])]), (D.tup [(D.tup [(D.int (Int.ofNat 1))]), (D.tup [(D.int (Int.ofNat 1))])])]), (AO.lst [(D.tup [(D.tup [(D.int (Int.ofNat 1))])]), (D.tup [(D.tup [(D.int (Int.ofNat 0)), (D.int (Int.ofNat 1))]), (D.tup [(D.int (Int.ofNat 1)), (D.int (Int.ofNat 0))])]), (D.tup [(D.tup [(D.int (Int.ofNat 0)), (D.int (Int.ofNat 0)), (D.int (Int.ofNat 0)), (D.int (Int.ofNat 0))]), (D.tup [(D.int (Int.ofNat 0)), (D.int (Int.ofNat 0)), (D.int (Int.ofNat 0)), (D.int (Int.ofNat 0))]), (D.tup [(D.int (Int.ofNat 0)), (D.int (Int.ofNat 0)), (D.int (Int.ofNat 0)), (D.int (Int.ofNat 0))]), (D.tup [(D.int (Int.ofNat 0)), (D.int (Int.ofNat 0)), (D.int (Int.ofNat 0)), (D.int (Int.ofNat 0))])]), (D.tup [(D.tup [(D.int (Int.ofNat 999999999999999999999999999999999999999999999999999999999999))])])]), (AO.lst [v1, (D.tup [(D.str [114, 101, 102, 117, 115, 101, 100]), (D.str [116, 97, 98, 108, 101])]), (D.tup [(D.str [102, 105, 110, 101])]), v2, (D.tup [(D.str [114, 101, 102, 117, 115, 101, 100]), (D.str [116, 97, 98, 108, 101])]), (D.tup [(D.str [102, 105, 110, 101])]), v3, (D.tup [(D.str [114, 101, 102, 117, 115, 101, 100]), (D.str [116, 97, 98, 108, 101])]), (D.tup [(D.str [102, 105, 110, 101])]), v4])] = SOut.nx [some (D.obj 0), some v0, some (D.obj 5), some (qT7 r1), some (qT10 r2), some (D.obj 9), some (D.fn 40), none, none, none, none] [(cell a b c), (AO.lst [D.non, (D.int (Int.ofNat 0)), (D.int (Int.ofNat 1)), (D.int (Int.ofNat 2)), (D.int (Int.ofNat 9)), (D.int (Int.ofNat 17)), (D.int (Int.negSucc 2)), (D.bl true), (D.str [51]), (D.tup [(D.int (Int.ofNat 3))]), (D.int (Int.ofNat 1000000000000000000000000000000000000000000000000000000000000))]), (AO.lst [(D.int (Int.ofNat 2)), (D.int (Int.ofNat 1))]), (AO.lst [(D.tup [(D.int (Int.ofNat 1))])]), (AO.dct false []), (AO.lst [D.non, (D.int (Int.ofNat 0)), (D.tup []), (D.tup [(D.tup [])]), (D.tup [(D.int (Int.ofNat 1))]), (D.tup [(D.tup [(D.int (Int.ofNat 1)), (D.int (Int.ofNat 2))])]), (D.tup [(D.tup [(D.int (Int.ofNat 1)), (D.int (Int.ofNat 2))]), (D.tup [(D.int (Int.ofNat 3)), (D.int (Int.ofNat 1))])]), (D.tup [(D.tup [(D.int (Int.ofNat 1)), (D.int (Int.ofNat 2))]), (D.obj 2)]), (D.obj 3), (D.tup [(D.tup [(D.bl true)])]), (D.tup [(D.tup [(D.int (Int.ofNat 1)), D.non]), (D.tup [D.non, (D.int (Int.ofNat 1))])]), (D.str [49]), (D.obj 4)]), (AO.lst [(D.tup [(D.tup [(D.int (Int.ofNat 1)), (D.int (Int.ofNat 0))]), (D.tup [(D.int (Int.ofNat 0)), (D.int (Int.ofNat 1)), (D.int (Int.ofNat 0))])]), (D.tup [(D.tup [(D.int (Int.ofNat 1)), (D.int (Int.ofNat 0))]), (D.tup [(D.int (Int.ofNat 0))])]), (D.tup [(D.tup [(D.int (Int.ofNat 1000000000000000000000000000000000000000000000000000000000000))])]), (D.tup [(D.tup [(D.tup [(D.int (Int.ofNat 1)), (D.int (Int.ofNat 2))])])]), (D.tup [(D.tup [(D.int (Int.ofNat 0)), (D.int (Int.ofNat 0)), (D.int (Int.ofNat 0)), (D.int (Int.ofNat 0)), (D.int (Int.ofNat 0))]), (D.tup [(D.int (Int.ofNat 0)), (D.int (Int.ofNat 0)), (D.int (Int.ofNat 0)), (D.int (Int.ofNat 0)), (D.int (Int.ofNat 0))]), (D.tup [(D.int (Int.ofNat 0)), (D.int (Int.ofNat 0)), (D.int (Int.ofNat 0)), (D.int (Int.ofNat 0)), (D.int (Int.ofNat 0))]), (D.tup [(D.int (Int.ofNat 0)), (D.int (Int.ofNat 0)), (D.int (Int.ofNat 0)), (D.int (Int.ofNat 0)), (D.int (Int.ofNat 0))]), (D.tup [(D.int (Int.ofNat 0)), (D.int (Int.ofNat 0)), (D.int (Int.ofNat 0)), (D.int (Int.ofNat 0)), (D.int (Int.ofNat 0))])]), (D.tup [(D.tup [(D.int (Int.ofNat 1))]), (D.tup [(D.int (Int.ofNat 1))])])]), (AO.lst [D.non, (D.int (Int.ofNat 0)), (D.tup []), (D.tup [(D.tup [])]), (D.tup [(D.int (Int.ofNat 1))]), (D.tup [(D.tup [(D.int (Int.ofNat 1)), (D.int (Int.ofNat 2))])]), (D.tup [(D.tup [(D.int (Int.ofNat 1)), (D.int (Int.ofNat 2))]), (D.tup [(D.int (Int.ofNat 3)), (D.int (Int.ofNat 1))])]), (D.tup [(D.tup [(D.int (Int.ofNat 1)), (D.int (Int.ofNat 2))]), (D.obj 2)]), (D.obj 3), (D.tup [(D.tup [(D.bl true)])]), (D.tup [(D.tup [(D.int (Int.ofNat 1)), D.non]), (D.tup [D.non, (D.int (Int.ofNat 1))])]), (D.str [49]), (D.obj 4), (D.tup [(D.tup [(D.int (Int.ofNat 1)), (D.int (Int.ofNat 0))]), (D.tup [(D.int (Int.ofNat 0)), (D.int (Int.ofNat 1)), (D.int (Int.ofNat 0))])]), (D.tup [(D.tup [(D.int (Int.ofNat 1)), (D.int (Int.ofNat 0))]), (D.tup [(D.int (Int.ofNat 0))])]), (D.tup [(D.tup [(D.int (Int.ofNat 1000000000000000000000000000000000000000000000000000000000000))])]), (D.tup [(D.tup [(D.tup [(D.int (Int.ofNat 1)), (D.int (Int.ofNat 2))])])]), (D.tup [(D.tup [(D.int (Int.ofNat 0)), (D.int (Int.ofNat 0)), (D.int (Int.ofNat 0)), (D.int (Int.ofNat 0)), (D.int (Int.ofNat 0))]), (D.tup [(D.int (Int.ofNat 0)), (D.int (Int.ofNat 0)), (D.int (Int.ofNat 0)), (D.int (Int.ofNat 0)), (D.int (Int.ofNat 0))]), (D.tup [(D.int (Int.ofNat 0)), (D.int (Int.ofNat 0)), (D.int (Int.ofNat 0)), (D.int (Int.ofNat 0)), (D.int (Int.ofNat 0))]), (D.tup [(D.int (Int.ofNat 0)), (D.int (Int.ofNat 0)), (D.int (Int.ofNat 0)), (D.int (Int.ofNat 0)), (D.int (Int.ofNat 0))]), (D.tup [(D.int (Int.ofNat 0)), (D.int (Int.ofNat 0)), (D.int (Int.ofNat 0)), (D.int (Int.ofNat 0)), (D.int (Int.ofNat 0))])]), (D.tup [(D.tup [(D.int (Int.ofNat 1))]), (D.tup [(D.int (Int.ofNat 1))])])]), (AO.lst [(D.tup [(D.tup [(D.int (Int.ofNat 1))])]), (D.tup [(D.tup [(D.int (Int.ofNat 0)), (D.int (Int.ofNat 1))]), (D.tup [(D.int (Int.ofNat 1)), (D.int (Int.ofNat 0))])]), (D.tup [(D.tup [(D.int (Int.ofNat 0)), (D.int (Int.ofNat 0)), (D.int (Int.ofNat 0)), (D.int (Int.ofNat 0))]), (D.tup [(D.int (Int.ofNat 0)), (D.int (Int.ofNat 0)), (D.int (Int.ofNat 0)), (D.int (Int.ofNat 0))]), (D.tup [(D.int (Int.ofNat 0)), (D.int (Int.ofNat 0)), (D.int (Int.ofNat 0)), (D.int (Int.ofNat 0))]), (D.tup [(D.int (Int.ofNat 0)), (D.int (Int.ofNat 0)), (D.int (Int.ofNat 0)), (D.int (Int.ofNat 0))])]), (D.tup [(D.tup [(D.int (Int.ofNat 999999999999999999999999999999999999999999999999999999999999))])])]), (AO.lst [v1, (D.tup [(D.str [114, 101, 102, 117, 115, 101, 100]), (D.str [116, 97, 98, 108, 101])]), (D.tup [(D.str [102, 105, 110, 101])]), v2, (D.tup [(D.str [114, 101, 102, 117, 115, 101, 100]), (D.str [116, 97, 98, 108, 101])]), (D.tup [(D.str [102, 105, 110, 101])]), v3, (D.tup [(D.str [114, 101, 102, 117, 115, 101, 100]), (D.str [116, 97, 98, 108, 101])]), (D.tup [(D.str [102, 105, 110, 101])]), v4, (D.tup [(D.str [114, 101, 102, 117, 115, 101, 100]), (D.str [116, 97, 98, 108, 101])])])] := all2 (f := fun r1 r2 => qs38 rcq [some (D.obj 0), some v0, some (D.obj 5), some (qT7 r1), some (qT10 r2), some (D.obj 9), some (D.fn 40), none, none, none, none] [(cell a b c), (AO.lst [D.non, (D.int (Int.ofNat 0)), (D.int (Int.ofNat 1)), (D.int (Int.ofNat 2)), (D.int (Int.ofNat 9)), (D.int (Int.ofNat 17)), (D.int (Int.negSucc 2)), (D.bl true), (D.str [51]), (D.tup [(D.int (Int.ofNat 3))]), (D.int (Int.ofNat 1000000000000000000000000000000000000000000000000000000000000))]), (AO.lst [(D.int (Int.ofNat 2)), (D.int (Int.ofNat 1))]), (AO.lst [(D.tup [(D.int (Int.ofNat 1))])]), (AO.dct false []), (AO.lst [D.non, (D.int (Int.ofNat 0)), (D.tup []), (D.tup [(D.tup [])]), (D.tup [(D.int (Int.ofNat 1))]), (D.tup [(D.tup [(D.int (Int.ofNat 1)), (D.int (Int.ofNat 2))])]), (D.tup [(D.tup [(D.int (Int.ofNat 1)), (D.int (Int.ofNat 2))]), (D.tup [(D.int (Int.ofNat 3)), (D.int (Int.ofNat 1))])]), (D.tup [(D.tup [(D.int (Int.ofNat 1)), (D.int (Int.ofNat 2))]), (D.obj 2)]), (D.obj 3), (D.tup [(D.tup [(D.bl true)])]), (D.tup [(D.tup [(D.int (Int.ofNat 1)), D.non]), (D.tup [D.non, (D.int (Int.ofNat 1))])]), (D.str [49]), (D.obj 4)]), (AO.lst [(D.tup [(D.tup [(D.int (Int.ofNat 1)), (D.int (Int.ofNat 0))]), (D.tup [(D.int (Int.ofNat 0)), (D.int (Int.ofNat 1)), (D.int (Int.ofNat 0))])]), (D.tup [(D.tup [(D.int (Int.ofNat 1)), (D.int (Int.ofNat 0))]), (D.tup [(D.int (Int.ofNat 0))])]), (D.tup [(D.tup [(D.int (Int.ofNat 1000000000000000000000000000000000000000000000000000000000000))])]), (D.tup [(D.tup [(D.tup [(D.int (Int.ofNat 1)), (D.int (Int.ofNat 2))])])]), (D.tup [(D.tup [(D.int (Int.ofNat 0)), (D.int (Int.ofNat 0)), (D.int (Int.ofNat 0)), (D.int (Int.ofNat 0)), (D.int (Int.ofNat 0))]), (D.tup [(D.int (Int.ofNat 0)), (D.int (Int.ofNat 0)), (D.int (Int.ofNat 0)), (D.int (Int.ofNat 0)), (D.int (Int.ofNat 0))]), (D.tup [(D.int (Int.ofNat 0)), (D.int (Int.ofNat 0)), (D.int (Int.ofNat 0)), (D.int (Int.ofNat 0)), (D.int (Int.ofNat 0))]), (D.tup [(D.int (Int.ofNat 0)), (D.int (Int.ofNat 0)), (D.int (Int.ofNat 0)), (D.int (Int.ofNat 0)), (D.int (Int.ofNat 0))]), (D.tup [(D.int (Int.ofNat 0)), (D.int (Int.ofNat 0)), (D.int (Int.ofNat 0)), (D.int (Int.ofNat 0)), (D.int (Int.ofNat 0))])]), (D.tup [(D.tup [(D.int (Int.ofNat 1))]), (D.tup [(D.int (Int.ofNat 1))])])]), (AO.lst [D.non, (D.int (Int.ofNat 0)), (D.tup []), (D.tup [(D.tup [])]), (D.tup [(D.int (Int.ofNat 1))]), (D.tup [(D.tup [(D.int (Int.ofNat 1)), (D.int (Int.ofNat 2))])]), (D.tup [(D.tup [(D.int (Int.ofNat 1)), (D.int (Int.ofNat 2))]), (D.tup [(D.int (Int.ofNat 3)), (D.int (Int.ofNat 1))])]), (D.tup [(D.tup [(D.int (Int.ofNat 1)), (D.int (Int.ofNat 2))]), (D.obj 2)]), (D.obj 3), (D.tup [(D.tup [(D.bl true)])]), (D.tup [(D.tup [(D.int (Int.ofNat 1)), D.non]), (D.tup [D.non, (D.int (Int.ofNat 1))])]), (D.str [49]), (D.obj 4), (D.tup [(D.tup [(D.int (Int.ofNat 1)), (D.int (Int.ofNat 0))]), (D.tup [(D.int (Int.ofNat 0)), (D.int (Int.ofNat 1)), (D.int (Int.ofNat 0))])]), (D.tup [(D.tup [(D.int (Int.ofNat 1)), (D.int (Int.ofNat 0))]), (D.tup [(D.int (Int.ofNat 0))])]), (D.tup [(D.tup [(D.int (Int.ofNat 1000000000000000000000000000000000000000000000000000000000000))])]), (D.tup [(D.tup [(D.tup [(D.int (Int.ofNat 1)), (D.int (Int.ofNat 2))])])]), (D.tup [(D.tup [(D.int (Int.ofNat 0)), (D.int (Int.ofNat 0)), (D.int (Int.ofNat 0)), (D.int (Int.ofNat 0)), (D.int (Int.ofNat 0))]), (D.tup [(D.int (Int.ofNat 0)), (D.int (Int.ofNat 0)), (D.int (Int.ofNat 0)), (D.int (Int.ofNat 0)), (D.int (Int.ofNat 0))]), (D.tup [(D.int (Int.ofNat 0)), (D.int (Int.ofNat 0)), (D.int (Int.ofNat 0)), (D.int (Int.ofNat 0)), (D.int (Int.ofNat 0))]), (D.tup [(D.int (Int.ofNat 0)), (D.int (Int.ofNat 0)), (D.int (Int.ofNat 0)), (D.int (Int.ofNat 0)), (D.int (Int.ofNat 0))]), (D.tup [(D.int (Int.ofNat 0)), (D.int (Int.ofNat 0)), (D.int (Int.ofNat 0)), (D.int (Int.ofNat 0)), (D.int (Int.ofNat 0))])]), (D.tup [(D.tup [(D.int (Int.ofNat 1))]), (D.tup [(D.int (Int.ofNat 1))])])]), (AO.lst [(D.tup [(D.tup [(D.int (Int.ofNat 1))])]), (D.tup [(D.tup [(D.int (Int.ofNat 0)), (D.int (Int.ofNat 1))]), (D.tup [(D.int (Int.ofNat 1)), (D.int (Int.ofNat 0))])]), (D.tup [(D.tup [(D.int (Int.ofNat 0)), (D.int (Int.ofNat 0)), (D.int (Int.ofNat 0)), (D.int (Int.ofNat 0))]), (D.tup [(D.int (Int.ofNat 0)), (D.int (Int.ofNat 0)), (D.int (Int.ofNat 0)), (D.int (Int.ofNat 0))]), (D.tup [(D.int (Int.ofNat 0)), (D.int (Int.ofNat 0)), (D.int (Int.ofNat 0)), (D.int (Int.ofNat 0))]), (D.tup [(D.int (Int.ofNat 0)), (D.int (Int.ofNat 0)), (D.int (Int.ofNat 0)), (D.int (Int.ofNat 0))])]), (D.tup [(D.tup [(D.int (Int.ofNat 999999999999999999999999999999999999999999999999999999999999))])])]), (AO.lst [v1, (D.tup [(D.str [114, 101, 102, 117, 115, 101, 100]), (D.str [116, 97, 98, 108, 101])]), (D.tup [(D.str [102, 105, 110, 101])]), v2, (D.tup [(D.str [114, 101, 102, 117, 115, 101, 100]), (D.str [116, 97, 98, 108, 101])]), (D.tup [(D.str [102, 105, 110, 101])]), v3, (D.tup [(D.str [114, 101, 102, 117, 115, 101, 100]), (D.str [116, 97, 98, 108, 101])]), (D.tup [(D.str [102, 105, 110, 101])]), v4])]) (g := fun r1 r2 => SOut.nx [some (D.obj 0), some v0, some (D.obj 5), some (qT7 r1), some (qT10 r2), some (D.obj 9), some (D.fn 40), none, none, none, none] [(cell a b c), (AO.lst [D.non, (D.int (Int.ofNat 0)), (D.int (Int.ofNat 1)), (D.int (Int.ofNat 2)), (D.int (Int.ofNat 9)), (D.int (Int.ofNat 17)), (D.int (Int.negSucc 2)), (D.bl true), (D.str [51]), (D.tup [(D.int (Int.ofNat 3))]), (D.int (Int.ofNat 1000000000000000000000000000000000000000000000000000000000000))]), (AO.lst [(D.int (Int.ofNat 2)), (D.int (Int.ofNat 1))]), (AO.lst [(D.tup [(D.int (Int.ofNat 1))])]), (AO.dct false []), (AO.lst [D.non, (D.int (Int.ofNat 0)), (D.tup []), (D.tup [(D.tup [])]), (D.tup [(D.int (Int.ofNat 1))]), (D.tup [(D.tup [(D.int (Int.ofNat 1)), (D.int (Int.ofNat 2))])]), (D.tup [(D.tup [(D.int (Int.ofNat 1)), (D.int (Int.ofNat 2))]), (D.tup [(D.int (Int.ofNat 3)), (D.int (Int.ofNat 1))])]), (D.tup [(D.tup [(D.int (Int.ofNat 1)), (D.int (Int.ofNat 2))]), (D.obj 2)]), (D.obj 3), (D.tup [(D.tup [(D.bl true)])]), (D.tup [(D.tup [(D.int (Int.ofNat 1)), D.non]), (D.tup [D.non, (D.int (Int.ofNat 1))])]), (D.str [49]), (D.obj 4)]), (AO.lst [(D.tup [(D.tup [(D.int (Int.ofNat 1)), (D.int (Int.ofNat 0))]), (D.tup [(D.int (Int.ofNat 0)), (D.int (Int.ofNat 1)), (D.int (Int.ofNat 0))])]), (D.tup [(D.tup [(D.int (Int.ofNat 1)), (D.int (Int.ofNat 0))]), (D.tup [(D.int (Int.ofNat 0))])]), (D.tup [(D.tup [(D.int (Int.ofNat 1000000000000000000000000000000000000000000000000000000000000))])]), (D.tup [(D.tup [(D.tup [(D.int (Int.ofNat 1)), (D.int (Int.ofNat 2))])])]), (D.tup [(D.tup [(D.int (Int.ofNat 0)), (D.int (Int.ofNat 0)), (D.int (Int.ofNat 0)), (D.int (Int.ofNat 0)), (D.int (Int.ofNat 0))]), (D.tup [(D.int (Int.ofNat 0)), (D.int (Int.ofNat 0)), (D.int (Int.ofNat 0)), (D.int (Int.ofNat 0)), (D.int (Int.ofNat 0))]), (D.tup [(D.int (Int.ofNat 0)), (D.int (Int.ofNat 0)), (D.int (Int.ofNat 0)), (D.int (Int.ofNat 0)), (D.int (Int.ofNat 0))]), (D.tup [(D.int (Int.ofNat 0)), (D.int (Int.ofNat 0)), (D.int (Int.ofNat 0)), (D.int (Int.ofNat 0)), (D.int (Int.ofNat 0))]), (D.tup [(D.int (Int.ofNat 0)), (D.int (Int.ofNat 0)), (D.int (Int.ofNat 0)), (D.int (Int.ofNat 0)), (D.int (Int.ofNat 0))])]), (D.tup [(D.tup [(D.int (Int.ofNat 1))]), (D.tup [(D.int (Int.ofNat 1))])])]), (AO.lst [D.non, (D.int (Int.ofNat 0)), (D.tup []), (D.tup [(D.tup [])]), (D.tup [(D.int (Int.ofNat 1))]), (D.tup [(D.tup [(D.int (Int.ofNat 1)), (D.int (Int.ofNat 2))])]), (D.tup [(D.tup [(D.int (Int.ofNat 1)), (D.int (Int.ofNat 2))]), (D.tup [(D.int (Int.ofNat 3)), (D.int (Int.ofNat 1))])]), (D.tup [(D.tup [(D.int (Int.ofNat 1)), (D.int (Int.ofNat 2))]), (D.obj 2)]), (D.obj 3), (D.tup [(D.tup [(D.bl true)])]), (D.tup [(D.tup [(D.int (Int.ofNat 1)), D.non]), (D.tup [D.non, (D.int (Int.ofNat 1))])]), (D.str [49]), (D.obj 4), (D.tup [(D.tup [(D.int (Int.ofNat 1)), (D.int (Int.ofNat 0))]), (D.tup [(D.int (Int.ofNat 0)), (D.int (Int.ofNat 1)), (D.int (Int.ofNat 0))])]), (D.tup [(D.tup [(D.int (Int.ofNat 1)), (D.int (Int.ofNat 0))]), (D.tup [(D.int (Int.ofNat 0))])]), (D.tup [(D.tup [(D.int (Int.ofNat 1000000000000000000000000000000000000000000000000000000000000))])]), (D.tup [(D.tup [(D.tup [(D.int (Int.ofNat 1)), (D.int (Int.ofNat 2))])])]), (D.tup [(D.tup [(D.int (Int.ofNat 0)), (D.int (Int.ofNat 0)), (D.int (Int.ofNat 0)), (D.int (Int.ofNat 0)), (D.int (Int.ofNat 0))]), (D.tup [(D.int (Int.ofNat 0)), (D.int (Int.ofNat 0)), (D.int (Int.ofNat 0)), (D.int (Int.ofNat 0)), (D.int (Int.ofNat 0))]), (D.tup [(D.int (Int.ofNat 0)), (D.int (Int.ofNat 0)), (D.int (Int.ofNat 0)), (D.int (Int.ofNat 0)), (D.int (Int.ofNat 0))]), (D.tup [(D.int (Int.ofNat 0)), (D.int (Int.ofNat 0)), (D.int (Int.ofNat 0)), (D.int (Int.ofNat 0)), (D.int (Int.ofNat 0))]), (D.tup [(D.int (Int.ofNat 0)), (D.int (Int.ofNat 0)), (D.int (Int.ofNat 0)), (D.int (Int.ofNat 0)), (D.int (Int.ofNat 0))])]), (D.tup [(D.tup [(D.int (Int.ofNat 1))]), (D.tup [(D.int (Int.ofNat 1))])])]), (AO.lst [(D.tup [(D.tup [(D.int (Int.ofNat 1))])]), (D.tup [(D.tup [(D.int (Int.ofNat 0)), (D.int (Int.ofNat 1))]), (D.tup [(D.int (Int.ofNat 1)), (D.int (Int.ofNat 0))])]), (D.tup [(D.tup [(D.int (Int.ofNat 0)), (D.int (Int.ofNat 0)), (D.int (Int.ofNat 0)), (D.int (Int.ofNat 0))]), (D.tup [(D.int (Int.ofNat 0)), (D.int (Int.ofNat 0)), (D.int (Int.ofNat 0)), (D.int (Int.ofNat 0))]), (D.tup [(D.int (Int.ofNat 0)), (D.int (Int.ofNat 0)), (D.int (Int.ofNat 0)), (D.int (Int.ofNat 0))]), (D.tup [(D.int (Int.ofNat 0)), (D.int (Int.ofNat 0)), (D.int (Int.ofNat 0)), (D.int (Int.ofNat 0))])]), (D.tup [(D.tup [(D.int (Int.ofNat 999999999999999999999999999999999999999999999999999999999999))])])]), (AO.lst [v1, (D.tup [(D.str [114, 101, 102, 117, 115, 101, 100]), (D.str [116, 97, 98, 108, 101])]), (D.tup [(D.str [102, 105, 110, 101])]), v2, (D.tup [(D.str [114, 101, 102, 117, 115, 101, 100]), (D.str [116, 97, 98, 108, 101])]), (D.tup [(D.str [102, 105, 110, 101])]), v3, (D.tup [(D.str [114, 101, 102, 117, 115, 101, 100]), (D.str [116, 97, 98, 108, 101])]), (D.tup [(D.str [102, 105, 110, 101])]), v4, (D.tup [(D.str [114, 101, 102, 117, 115, 101, 100]), (D.str [116, 97, 98, 108, 101])])])]) (n := 19) (m := 4) (by kernel_rfl) r1 r2 h1 h2
theorem qt41 (a b c : Int) (v0 : D) (v1 : D) (v2 : D) (v3 : D) (v4 : D) (r1 : Nat) (r2 : Nat) (h1 : r1 < 19) (h2 : r2 < 4) : qs40 rcq [some (D.obj 0), some v0, some (D.obj 5), some (qT7 r1), some (qT10 r2), some (D.obj 9), some (D.fn 40), none, none, none, none] [(cell a b c), (AO.lst [D.non, (D.int (Int.ofNat 0)), (D.int (Int.ofNat 1)), (D.int (Int.ofNat 2)), (D.int (Int.ofNat 9)), (D.int (Int.ofNat 17)), (D.int (Int.negSucc 2)), (D.bl true), (D.str [51]), (D.tup [(D.int (Int.ofNat 3))]), (D.int (Int.ofNat 1000000000000000000000000000000000000000000000000000000000000))]), (AO.lst [(D.int (Int.ofNat 2)), (D.int (Int.ofNat 1))]), (AO.lst [(D.tup [(D.int (Int.ofNat 1))])]), (AO.dct false []), (AO.lst [D.non, (D.int (Int.ofNat 0)), (D.tup []), (D.tup [(D.tup [])]), (D.tup [(D.int (Int.ofNat 1))]), (D.tup [(D.tup [(D.int (Int.ofNat 1)), (D.int (Int.ofNat 2))])]), (D.tup [(D.tup [(D.int (Int.ofNat 1)), (D.int (Int.ofNat 2))]), (D.tup [(D.int (Int.ofNat 3)), (D.int (Int.ofNat 1))])]), (D.tup [(D.tup [(D.int (Int.ofNat 1)), (D.int (Int.ofNat 2))]), (D.obj 2)]), (D.obj 3), (D.tup [(D.tup [(D.bl true)])]), (D.tup [(D.tup [(D.int (Int.ofNat 1)), D.non]), (D.tup [D.non, (D.int (Int.ofNat 1))])]), (D.str [49]), (D.obj 4)]), (AO.lst [(D.tup [(D.tup [(D.int (Int.ofNat 1)), (D.int (Int.ofNat 0))]), (D.tup [(D.int (Int.ofNat 0)), (D.int (Int.ofNat 1)), (D.int (Int.ofNat 0))])]), (D.tup [(D.tup [(D.int (Int.ofNat 1)), (D.int (Int.ofNat 0))]), (D.tup [(D.int (Int.ofNat 0))])]), (D.tup [(D.tup [(D.int (Int.ofNat 1000000000000000000000000000000000000000000000000000000000000))])]), (D.tup [(D.tup [(D.tup [(D.int (Int.ofNat 1)), (D.int (Int.ofNat 2))])])]), (D.tup [(D.tup [(D.int (Int.ofNat 0)), (D.int (Int.ofNat 0)), (D.int (Int.ofNat 0)), (D.int (Int.ofNat 0)), (D.int (Int.ofNat 0))]), (D.tup [(D.int (Int.ofNat 0)), (D.int (Int.ofNat 0)), (D.int (Int.ofNat 0)), (D.int (Int.ofNat 0)), (D.int (Int.ofNat 0))]), (D.tup [(D.int (Int.ofNat 0)), (D.int (Int.ofNat 0)), (D.int (Int.ofNat 0)), (D.int (Int.ofNat 0)), (D.int (Int.ofNat 0))]), (D.tup [(D.int (Int.ofNat 0)), (D.int (Int.ofNat 0)), (D.int (Int.ofNat 0)), (D.int (Int.ofNat 0)), (D.int (Int.ofNat 0))]), (D.tup [(D.int (Int.ofNat 0)), (D.int (Int.ofNat 0)), (D.int (Int.ofNat 0)), (D.int (Int.ofNat 0)), (D.int (Int.ofNat 0))])]), (D.tup [(D.tup [(D.int (Int.ofNat 1))]), (D.tup [(D.int (Int.ofNat 1))])])]), (AO.lst [D.non, (D.int (Int.ofNat 0)), (D.tup []), (D.tup [(D.tup [])]), (D.tup [(D.int (Int.ofNat 1))]), (D.tup [(D.tup [(D.int (Int.ofNat 1)), (D.int (Int.ofNat 2))])]), (D.tup [(D.tup [(D.int (Int.ofNat 1)), (D.int (Int.ofNat 2))]), (D.tup [(D.int (Int.ofNat 3)), (D.int (Int.ofNat 1))])]), (D.tup [(D.tup [(D.int (Int.ofNat 1)), (D.int (Int.ofNat 2))]), (D.obj 2)]), (D.obj 3), (D.tup [(D.tup [(D.bl true)])]), (D.tup [(D.tup [(D.int (Int.ofNat 1)), D.non]), (D.tup [D.non, (D.int (Int.ofNat 1))])]), (D.str [49]), (D.obj 4), (D.tup [(D.tup [(D.int (Int.ofNat 1)), (D.int (Int.ofNat 0))]), (D.tup [(D.int (Int.ofNat 0)), (D.int (Int.ofNat 1)), (D.int (Int.ofNat 0))])]), (D.tup [(D.tup [(D.int (Int.ofNat 1)), (D.int (Int.ofNat 0))]), (D.tup [(D.int (Int.ofNat 0))])]), (D.tup [(D.tup [(D.int (Int.ofNat 1000000000000000000000000000000000000000000000000000000000000))])]), (D.tup [(D.tup [(D.tup [(D.int (Int.ofNat 1)), (D.int (Int.ofNat 2))])])]), (D.tup [(D.tup [(D.int (Int.ofNat 0)), (D.int (Int.ofNat 0)), (D.int (Int.ofNat 0)), (D.int (Int.ofNat 0)), (D.int (Int.ofNat 0))]), (D.tup [(D.int (Int.ofNat 0)), (D.int (Int.ofNat 0)), (D.int (Int.ofNat 0)), (D.int (Int.ofNat 0)), (D.int (Int.ofNat 0))]), (D.tup [(D.int (Int.ofNat 0)), (D.int (Int.ofNat 0)), (D.int (Int.ofNat 0)), (D.int (Int.ofNat 0)), (D.int (Int.ofNat 0))]), (D.tup [(D.int (Int.ofNat 0)), (D.int (Int.ofNat 0)), (D.int (Int.ofNat 0)), (D.int (Int.ofNat 0)), (D.int (Int.ofNat 0))]), (D.tup [(D.int (Int.ofNat 0)), (D.int (Int.ofNat 0)), (D.int (Int.ofNat 0)), (D.int (Int.ofNat 0)), (D.int (Int.ofNat 0))])]), (D.tup [(D.tup [(D.int (Int.ofNat 1))]), (D.tup [(D.int (Int.ofNat 1))])])]), (AO.lst [(D.tup [(D.tup [(D.int (Int.ofNat 1))])]), (D.tup [(D.tup [(D.int (Int.ofNat 0)), (D.int (Int.ofNat 1))]), (D.tup [(D.int (Int.ofNat 1)), (D.int (Int.ofNat 0))])]), (D.tup [(D.tup [(D.int (Int.ofNat 0)), (D.int (Int.ofNat 0)), (D.int (Int.ofNat 0)), (D.int (Int.ofNat 0))]), (D.tup [(D.int (Int.ofNat 0)), (D.int (Int.ofNat 0)), (D.int (Int.ofNat 0)), (D.int (Int.ofNat 0))]), (D.tup [(D.int (Int.ofNat 0)), (D.int (Int.ofNat 0)), (D.int (Int.ofNat 0)), (D.int (Int.ofNat 0))]), (D.tup [(D.int (Int.ofNat 0)), (D.int (Int.ofNat 0)), (D.int (Int.ofNat 0)), (D.int (Int.ofNat 0))])]), (D.tup [(D.tup [(D.int (Int.ofNat 999999999999999999999999999999999999999999999999999999999999))])])]), (AO.lst [v1, (D.tup [(D.str [114, 101, 102, 117, 115, 101, 100]), (D.str [116, 97, 98, 108, 101])]), (D.tup [(D.str [102, 105, 110, 101])]), v2, (D.tup [(D.str [114, 101, 102, 117, 115, 101, 100]), (D.str [116, 97, 98, 108, 101])]), (D.tup [(D.str [102, 105, 110, 101])]), v3, (D.tup [(D.str [114, 101, 102, 117, 115, 101, 100]), (D.str [116, 97, 98, 108, 101])]), (D.tup [(D.str [102, 105, 110, 101])]), v4, (D.tup [(D.str [114, 101, 102, 117, 115, 101, 100]), (D.str [116, 97, 98, 108, 101])])])] = SOut.nx [some (D.obj 0), some v0, some (D.obj 5), some (qT7 r1), some (qT10 r2), some (D.obj 9), some (D.fn 40), none, none, none, none] [(cell a b c), (AO.lst [D.non, (D.int (Int.ofNat 0)), (D.int (Int.ofNat 1)), (D.int (Int.ofNat 2)), (D.int (Int.ofNat 9)), (D.int (Int.ofNat 17)), (D.int (Int.negSucc 2)), (D.bl true), (D.str [51]), (D.tup [(D.int (Int.ofNat 3))]), (D.int (Int.ofNat 1000000000000000000000000000000000000000000000000000000000000))]), (AO.lst [(D.int (Int.ofNat 2)), (D.int (Int.ofNat 1))]), (AO.lst [(D.tup [(D.int (Int.ofNat 1))])]), (AO.dct false []), (AO.lst [D.non, (D.int (Int.ofNat 0)), (D.tup []), (D.tup [(D.tup [])]), (D.tup [(D.int (Int.ofNat 1))]), (D.tup [(D.tup [(D.int (Int.ofNat 1)), (D.int (Int.ofNat 2))])]), (D.tup [(D.tup [(D.int (Int.ofNat 1)), (D.int (Int.ofNat 2))]), (D.tup [(D.int (Int.ofNat 3)), (D.int (Int.ofNat 1))])]), (D.tup [(D.tup [(D.int (Int.ofNat 1)), (D.int (Int.ofNat 2))]), (D.obj 2)]), (D.obj 3), (D.tup [(D.tup [(D.bl true)])]), (D.tup [(D.tup [(D.int (Int.ofNat 1)), D.non]), (D.tup [D.non, (D.int (Int.ofNat 1))])]), (D.str [49]), (D.obj 4)]), (AO.lst [(D.tup [(D.tup [(D.int (Int.ofNat 1)), (D.int (Int.ofNat 0))]), (D.tup [(D.int (Int.ofNat 0)), (D.int (Int.ofNat 1)), (D.int (Int.ofNat 0))])]), (D.tup [(D.tup [(D.int (Int.ofNat 1)), (D.int (Int.ofNat 0))]), (D.tup [(D.int (Int.ofNat 0))])]), (D.tup [(D.tup [(D.int (Int.ofNat 1000000000000000000000000000000000000000000000000000000000000))])]), (D.tup [(D.tup [(D.tup [(D.int (Int.ofNat 1)), (D.int (Int.ofNat 2))])])]), (D.tup [(D.tup [(D.int (Int.ofNat 0)), (D.int (Int.ofNat 0)), (D.int (Int.ofNat 0)), (D.int (Int.ofNat 0)), (D.int (Int.ofNat 0))]), (D.tup [(D.int (Int.ofNat 0)), (D.int (Int.ofNat 0)), (D.int (Int.ofNat 0)), (D.int (Int.ofNat 0)), (D.int (Int.ofNat 0))]), (D.tup [(D.int (Int.ofNat 0)), (D.int (Int.ofNat 0)), (D.int (Int.ofNat 0)), (D.int (Int.ofNat 0)), (D.int (Int.ofNat 0))]), (D.tup [(D.int (Int.ofNat 0)), (D.int (Int.ofNat 0)), (D.int (Int.ofNat 0)), (D.int (Int.ofNat 0)), (D.int (Int.ofNat 0))]), (D.tup [(D.int (Int.ofNat 0)), (D.int (Int.ofNat 0)), (D.int (Int.ofNat 0)), (D.int (Int.ofNat 0)), (D.int (Int.ofNat 0))])]), (D.tup [(D.tup [(D.int (Int.ofNat 1))]), (D.tup [(D.int (Int.ofNat 1))])])]), (AO.lst [D.non, (D.int (Int.ofNat 0)), (D.tup []), (D.tup [(D.tup [])]), (D.tup [(D.int (Int.ofNat 1))]), (D.tup [(D.tup [(D.int (Int.ofNat 1)), (D.int (Int.ofNat 2))])]), (D.tup [(D.tup [(D.int (Int.ofNat 1)), (D.int (Int.ofNat 2))]), (D.tup [(D.int (Int.ofNat 3)), (D.int (Int.ofNat 1))])]), (D.tup [(D.tup [(D.int (Int.ofNat 1)), (D.int (Int.ofNat 2))]), (D.obj 2)]), (D.obj 3), (D.tup [(D.tup [(D.bl true)])]), (D.tup [(D.tup [(D.int (Int.ofNat 1)), D.non]), (D.tup [D.non, (D.int (Int.ofNat 1))])]), (D.str [49]), (D.obj 4), (D.tup [(D.tup [(D.int (Int.ofNat 1)), (D.int (Int.ofNat 0))]), (D.tup [(D.int (Int.ofNat 0)), (D.int (Int.ofNat 1)), (D.int (Int.ofNat 0))])]), (D.tup [(D.tup [(D.int (Int.ofNat 1)), (D.int (Int.ofNat 0))]), (D.tup [(D.int (Int.ofNat 0))])]), (D.tup [(D.tup [(D.int (Int.ofNat 1000000000000000000000000000000000000000000000000000000000000))])]), (D.tup [(D.tup [(D.tup [(D.int (Int.ofNat 1)), (D.int (Int.ofNat 2))])])]), (D.tup [(D.tup [(D.int (Int.ofNat 0)), (D.int (Int.ofNat 0)), (D.int (Int.ofNat 0)), (D.int (Int.ofNat 0)), (D.int (Int.ofNat 0))]), (D.tup [(D.int (Int.ofNat 0)), (D.int (Int.ofNat 0)), (D.int (Int.ofNat 0)), (D.int (Int.ofNat 0)), (D.int (Int.ofNat 0))]), (D.tup [(D.int (Int.ofNat 0)), (D.int (Int.ofNat 0)), (D.int (Int.ofNat 0)), (D.int (Int.ofNat 0)), (D.int (Int.ofNat 0))]), (D.tup [(D.int (Int.ofNat 0)), (D.int (Int.ofNat 0)), (D.int (Int.ofNat 0)), (D.int (Int.ofNat 0)), (D.int (Int.ofNat 0))]), (D.tup [(D.int (Int.ofNat 0)), (D.int (Int.ofNat 0)), (D.int (Int.ofNat 0)), (D.int (Int.ofNat 0)), (D.int (Int.ofNat 0))])]), (D.tup [(D.tup [(D.int (Int.ofNat 1))]), (D.tup [(D.int (Int.ofNat 1))])])]), (AO.lst [(D.tup [(D.tup [(D.int (Int.ofNat 1))])]), (D.tup [(D.tup [(D.int (Int.ofNat 0)), (D.int (Int.ofNat 1))]), (D.tup [(D.int (Int.ofNat 1)), (D.int (Int.ofNat 0))])]), (D.tup [(D.tup [(D.int (Int.ofNat 0)), (D.int (Int.ofNat 0)), (D.int (Int.ofNat 0)), (D.int (Int.ofNat 0))]), (D.tup [(D.int (Int.ofNat 0)), (D.int (Int.ofNat 0)), (D.int (Int.ofNat 0)), (D.int (Int.ofNat 0))]), (D.tup [(D.int (Int.ofNat 0)), (D.int (Int.ofNat 0)), (D.int (Int.ofNat 0)), (D.int (Int.ofNat 0))]), (D.tup [(D.int (Int.ofNat 0)), (D.int (Int.ofNat 0)), (D.int (Int.ofNat 0)), (D.int (Int.ofNat 0))])]), (D.tup [(D.tup [(D.int (Int.ofNat 999999999999999999999999999999999999999999999999999999999999))])])]), (AO.lst [v1, (D.tup [(D.str [114, 101, 102, 117, 115, 101, 100]), (D.str [116, 97, 98, 108, 101])]), (D.tup [(D.str [102, 105, 110, 101])]), v2, (D.tup [(D.str [114, 101, 102, 117, 115, 101, 100]), (D.str [116, 97, 98, 108, 101])]), (D.tup [(D.str [102, 105, 110, 101])]), v3, (D.tup [(D.str [114, 101, 102, 117, 115, 101, 100]), (D.str [116, 97, 98, 108, 101])]), (D.tup [(D.str [102, 105, 110, 101])]), v4, (D.tup [(D.str [114, 101, 102, 117, 115, 101, 100]), (D.str [116, 97, 98, 108, 101])]), (D.tup [(D.str [114, 101, 102, 117, 115, 101, 100]), (D.str [116, 97, 98, 108, 101])])])] := all2 (f := fun r1 r2 => qs40 rcq [some (D.obj 0), some v0, some (D.obj 5), some (qT7 r1), some (qT10 r2), some (D.obj 9), some (D.fn 40), none, none, none, none] [(cell a b c), (AO.lst [D.non, (D.int (Int.ofNat 0)), (D.int (Int.ofNat 1)), (D.int (Int.ofNat 2)), (D.int (Int.ofNat 9)), (D.int (Int.ofNat 17)), (D.int (Int.negSucc 2)), (D.bl true), (D.str [51]), (D.tup [(D.int (Int.ofNat 3))]), (D.int (Int.ofNat 1000000000000000000000000000000000000000000000000000000000000))]), (AO.lst [(D.int (Int.ofNat 2)), (D.int (Int.ofNat 1))]), (AO.lst [(D.tup [(D.int (Int.ofNat 1))])]), (AO.dct false []), (AO.lst [D.non, (D.int (Int.ofNat 0)), (D.tup []), (D.tup [(D.tup [])]), (D.tup [(D.int (Int.ofNat 1))]), (D.tup [(D.tup [(D.int (Int.ofNat 1)), (D.int (Int.ofNat 2))])]), (D.tup [(D.tup [(D.int (Int.ofNat 1)), (D.int (Int.ofNat 2))]), (D.tup [(D.int (Int.ofNat 3)), (D.int (Int.ofNat 1))])]), (D.tup [(D.tup [(D.int (Int.ofNat 1)), (D.int (Int.ofNat 2))]), (D.obj 2)]), (D.obj 3), (D.tup [(D.tup [(D.bl true)])]), (D.tup [(D.tup [(D.int (Int.ofNat 1)), D.non]), (D.tup [D.non, (D.int (Int.ofNat 1))])]), (D.str [49]), (D.obj 4)]), (AO.lst [(D.tup [(D.tup [(D.int (Int.ofNat 1)), (D.int (Int.ofNat 0))]), (D.tup [(D.int (Int.ofNat 0)), (D.int (Int.ofNat 1)), (D.int (Int.ofNat 0))])]), (D.tup [(D.tup [(D.int (Int.ofNat 1)), (D.int (Int.ofNat 0))]), (D.tup [(D.int (Int.ofNat 0))])]), (D.tup [(D.tup [(D.int (Int.ofNat 1000000000000000000000000000000000000000000000000000000000000))])]), (D.tup [(D.tup [(D.tup [(D.int (Int.ofNat 1)), (D.int (Int.ofNat 2))])])]), (D.tup [(D.tup [(D.int (Int.ofNat 0)), (D.int (Int.ofNat 0)), (D.int (Int.ofNat 0)), (D.int (Int.ofNat 0)), (D.int (Int.ofNat 0))]), (D.tup [(D.int (Int.ofNat 0)), (D.int (Int.ofNat 0)), (D.int (Int.ofNat 0)), (D.int (Int.ofNat 0)), (D.int (Int.ofNat 0))]), (D.tup [(D.int (Int.ofNat 0)), (D.int (Int.ofNat 0)), (D.int (Int.ofNat 0)), (D.int (Int.ofNat 0)), (D.int (Int.ofNat 0))]), (D.tup [(D.int (Int.ofNat 0)), (D.int (Int.ofNat 0)), (D.int (Int.ofNat 0)), (D.int (Int.ofNat 0)), (D.int (Int.ofNat 0))]), (D.tup [(D.int (Int.ofNat 0)), (D.int (Int.ofNat 0)), (D.int (Int.ofNat 0)), (D.int (Int.ofNat 0)), (D.int (Int.ofNat 0))])]), (D.tup [(D.tup [(D.int (Int.ofNat 1))]), (D.tup [(D.int (Int.ofNat 1))])])]), (AO.lst [D.non, (D.int (Int.ofNat 0)), (D.tup []), (D.tup [(D.tup [])]), (D.tup [(D.int (Int.ofNat 1))]), (D.tup [(D.tup [(D.int (Int.ofNat 1)), (D.int (Int.ofNat 2))])]), (D.tup [(D.tup [(D.int (Int.ofNat 1)), (D.int (Int.ofNat 2))]), (D.tup [(D.int (Int.ofNat 3)), (D.int (Int.ofNat 1))])]), (D.tup [(D.tup [(D.int (Int.ofNat 1)), (D.int (Int.ofNat 2))]), (D.obj 2)]), (D.obj 3), (D.tup [(D.tup [(D.bl true)])]), (D.tup [(D.tup [(D.int (Int.ofNat 1)), D.non]), (D.tup [D.non, (D.int (Int.ofNat 1))])]), (D.str [49]), (D.obj 4), (D.tup [(D.tup [(D.int (Int.ofNat 1)), (D.int (Int.ofNat 0))]), (D.tup [(D.int (Int.ofNat 0)), (D.int (Int.ofNat 1)), (D.int (Int.ofNat 0))])]), (D.tup [(D.tup [(D.int (Int.ofNat 1)), (D.int (Int.ofNat 0))]), (D.tup [(D.int (Int.ofNat 0))])]), (D.tup [(D.tup [(D.int (Int.ofNat 1000000000000000000000000000000000000000000000000000000000000))])]), (D.tup [(D.tup [(D.tup [(D.int (Int.ofNat 1)), (D.int (Int.ofNat 2))])])]), (D.tup [(D.tup [(D.int (Int.ofNat 0)), (D.int (Int.ofNat 0)), (D.int (Int.ofNat 0)), (D.int (Int.ofNat 0)), (D.int (Int.ofNat 0))]), (D.tup [(D.int (Int.ofNat 0)), (D.int (Int.ofNat 0)), (D.int (Int.ofNat 0)), (D.int (Int.ofNat 0)), (D.int (Int.ofNat 0))]), (D.tup [(D.int (Int.ofNat 0)), (D.int (Int.ofNat 0)), (D.int (Int.ofNat 0)), (D.int (Int.ofNat 0)), (D.int (Int.ofNat 0))]), (D.tup [(D.int (Int.ofNat 0)), (D.int (Int.ofNat 0)), (D.int (Int.ofNat 0)), (D.int (Int.ofNat 0)), (D.int (Int.ofNat 0))]), (D.tup [(D.int (Int.ofNat 0)), (D.int (Int.ofNat 0)), (D.int (Int.ofNat 0)), (D.int (Int.ofNat 0)), (D.int (Int.ofNat 0))])]), (D.tup [(D.tup [(D.int (Int.ofNat 1))]), (D.tup [(D.int (Int.ofNat 1))])])]), (AO.lst [(D.tup [(D.tup [(D.int (Int.ofNat 1))])]), (D.tup [(D.tup [(D.int (Int.ofNat 0)), (D.int (Int.ofNat 1))]), (D.tup [(D.int (Int.ofNat 1)), (D.int (Int.ofNat 0))])]), (D.tup [(D.tup [(D.int (Int.ofNat 0)), (D.int (Int.ofNat 0)), (D.int (Int.ofNat 0)), (D.int (Int.ofNat 0))]), (D.tup [(D.int (Int.ofNat 0)), (D.int (Int.ofNat 0)), (D.int (Int.ofNat 0)), (D.int (Int.ofNat 0))]), (D.tup [(D.int (Int.ofNat 0)), (D.int (Int.ofNat 0)), (D.int (Int.ofNat 0)), (D.int (Int.ofNat 0))]), (D.tup [(D.int (Int.ofNat 0)), (D.int (Int.ofNat 0)), (D.int (Int.ofNat 0)), (D.int (Int.ofNat 0))])]), (D.tup [(D.tup [(D.int (Int.ofNat 999999999999999999999999999999999999999999999999999999999999))])])]), (AO.lst [v1, (D.tup [(D.str [114, 101, 102, 117, 115, 101, 100]), (D.str [116, 97, 98, 108, 101])]), (D.tup [(D.str [102, 105, 110, 101])]), v2, (D.tup [(D.str [114, 101, 102, 117, 115, 101, 100]), (D.str [116, 97, 98, 108, 101])]), (D.tup [(D.str [102, 105, 110, 101])]), v3, (D.tup [(D.str [114, 101, 102, 117, 115, 101, 100]), (D.str [116, 97, 98, 108, 101])]), (D.tup [(D.str [102, 105, 110, 101])]), v4, (D.tup [(D.str [114, 101, 102, 117, 115, 101, 100]), (D.str [116, 97, 98, 108, 101])])])]) (g := fun r1 r2 => SOut.nx [some (D.obj 0), some v0, some (D.obj 5), some (qT7 r1), some (qT10 r2), some (D.obj 9), some (D.fn 40), none, none, none, none] [(cell a b c), (AO.lst [D.non, (D.int (Int.ofNat 0)), (D.int (Int.ofNat 1)), (D.int (Int.ofNat 2)), (D.int (Int.ofNat 9)), (D.int (Int.ofNat 17)), (D.int (Int.negSucc 2)), (D.bl true), (D.str [51]), (D.tup [(D.int (Int.ofNat 3))]), (D.int (Int.ofNat 1000000000000000000000000000000000000000000000000000000000000))]), (AO.lst [(D.int (Int.ofNat 2)), (D.int (Int.ofNat 1))]), (AO.lst [(D.tup [(D.int (Int.ofNat 1))])]), (AO.dct false []), (AO.lst [D.non, (D.int (Int.ofNat 0)), (D.tup []), (D.tup [(D.tup [])]), (D.tup [(D.int (Int.ofNat 1))]), (D.tup [(D.tup [(D.int (Int.ofNat 1)), (D.int (Int.ofNat 2))])]), (D.tup [(D.tup [(D.int (Int.ofNat 1)), (D.int (Int.ofNat 2))]), (D.tup [(D.int (Int.ofNat 3)), (D.int (Int.ofNat 1))])]), (D.tup [(D.tup [(D.int (Int.ofNat 1)), (D.int (Int.ofNat 2))]), (D.obj 2)]), (D.obj 3), (D.tup [(D.tup [(D.bl true)])]), (D.tup [(D.tup [(D.int (Int.ofNat 1)), D.non]), (D.tup [D.non, (D.int (Int.ofNat 1))])]), (D.str [49]), (D.obj 4)]), (AO.lst [(D.tup [(D.tup [(D.int (Int.ofNat 1)), (D.int (Int.ofNat 0))]), (D.tup [(D.int (Int.ofNat 0)), (D.int (Int.ofNat 1)), (D.int (Int.ofNat 0))])]), (D.tup [(D.tup [(D.int (Int.ofNat 1)), (D.int (Int.ofNat 0))]), (D.tup [(D.int (Int.ofNat 0))])]), (D.tup [(D.tup [(D.int (Int.ofNat 1000000000000000000000000000000000000000000000000000000000000))])]), (D.tup [(D.tup [(D.tup [(D.int (Int.ofNat 1)), (D.int (Int.ofNat 2))])])]), (D.tup [(D.tup [(D.int (Int.ofNat 0)), (D.int (Int.ofNat 0)), (D.int (Int.ofNat 0)), (D.int (Int.ofNat 0)), (D.int (Int.ofNat 0))]), (D.tup [(D.int (Int.ofNat 0)), (D.int (Int.ofNat 0)), (D.int (Int.ofNat 0)), (D.int (Int.ofNat 0)), (D.int (Int.ofNat 0))]), (D.tup [(D.int (Int.ofNat 0)), (D.int (Int.ofNat 0)), (D.int (Int.ofNat 0)), (D.int (Int.ofNat 0)), (D.int (Int.ofNat 0))]), (D.tup [(D.int (Int.ofNat 0)), (D.int (Int.ofNat 0)), (D.int (Int.ofNat 0)), (D.int (Int.ofNat 0)), (D.int (Int.ofNat 0))]), (D.tup [(D.int (Int.ofNat 0)), (D.int (Int.ofNat 0)), (D.int (Int.ofNat 0)), (D.int (Int.ofNat 0)), (D.int (Int.ofNat 0))])]), (D.tup [(D.tup [(D.int (Int.ofNat 1))]), (D.tup [(D.int (Int.ofNat 1))])])]), (AO.lst [D.non, (D.int (Int.ofNat 0)), (D.tup []), (D.tup [(D.tup [])]), (D.tup [(D.int (Int.ofNat 1))]), (D.tup [(D.tup [(D.int (Int.ofNat 1)), (D.int (Int.ofNat 2))])]), (D.tup [(D.tup [(D.int (Int.ofNat 1)), (D.int (Int.ofNat 2))]), (D.tup [(D.int (Int.ofNat 3)), (D.int (Int.ofNat 1))])]), (D.tup [(D.tup [(D.int (Int.ofNat 1)), (D.int (Int.ofNat 2))]), (D.obj 2)]), (D.obj 3), (D.tup [(D.tup [(D.bl true)])]), (D.tup [(D.tup [(D.int (Int.ofNat 1)), D.non]), (D.tup [D.non, (D.int (Int.ofNat 1))])]), (D.str [49]), (D.obj 4), (D.tup [(D.tup [(D.int (Int.ofNat 1)), (D.int (Int.ofNat 0))]), (D.tup [(D.int (Int.ofNat 0)), (D.int (Int.ofNat 1)), (D.int (Int.ofNat 0))])]), (D.tup [(D.tup [(D.int (Int.ofNat 1)), (D.int (Int.ofNat 0))]), (D.tup [(D.int (Int.ofNat 0))])]), (D.tup [(D.tup [(D.int (Int.ofNat 1000000000000000000000000000000000000000000000000000000000000))])]), (D.tup [(D.tup [(D.tup [(D.int (Int.ofNat 1)), (D.int (Int.ofNat 2))])])]), (D.tup [(D.tup [(D.int (Int.ofNat 0)), (D.int (Int.ofNat 0)), (D.int (Int.ofNat 0)), (D.int (Int.ofNat 0)), (D.int (Int.ofNat 0))]), (D.tup [(D.int (Int.ofNat 0)), (D.int (Int.ofNat 0)), (D.int (Int.ofNat 0)), (D.int (Int.ofNat 0)), (D.int (Int.ofNat 0))]), (D.tup [(D.int (Int.ofNat 0)), (D.int (Int.ofNat 0)), (D.int (Int.ofNat 0)), (D.int (Int.ofNat 0)), (D.int (Int.ofNat 0))]), (D.tup [(D.int (Int.ofNat 0)), (D.int (Int.ofNat 0)), (D.int (Int.ofNat 0)), (D.int (Int.ofNat 0)), (D.int (Int.ofNat 0))]), (D.tup [(D.int (Int.ofNat 0)), (D.int (Int.ofNat 0)), (D.int (Int.ofNat 0)), (D.int (Int.ofNat 0)), (D.int (Int.ofNat 0))])]), (D.tup [(D.tup [(D.int (Int.ofNat 1))]), (D.tup [(D.int (Int.ofNat 1))])])]), (AO.lst [(D.tup [(D.tup [(D.int (Int.ofNat 1))])]), (D.tup [(D.tup [(D.int (Int.ofNat 0)), (D.int (Int.ofNat 1))]), (D.tup [(D.int (Int.ofNat 1)), (D.int (Int.ofNat 0))])]), (D.tup [(D.tup [(D.int (Int.ofNat 0)), (D.int (Int.ofNat 0)), (D.int (Int.ofNat 0)), (D.int (Int.ofNat 0))]), (D.tup [(D.int (Int.ofNat 0)), (D.int (Int.ofNat 0)), (D.int (Int.ofNat 0)), (D.int (Int.ofNat 0))]), (D.tup [(D.int (Int.ofNat 0)), (D.int (Int.ofNat 0)), (D.int (Int.ofNat 0)), (D.int (Int.ofNat 0))]), (D.tup [(D.int (Int.ofNat 0)), (D.int (Int.ofNat 0)), (D.int (Int.ofNat 0)), (D.int (Int.ofNat 0))])]), (D.tup [(D.tup [(D.int (Int.ofNat 999999999999999999999999999999999999999999999999999999999999))])])]), (AO.lst [v1, (D.tup [(D.str [114, 101, 102, 117, 115, 101, 100]), (D.str [116, 97, 98, 108, 101])]), (D.tup [(D.str [102, 105, 110, 101])]), v2, (D.tup [(D.str [114, 101, 102, 117, 115, 101, 100]), (D.str [116, 97, 98, 108, 101])]), (D.tup [(D.str [102, 105, 110, 101])]), v3, (D.tup [(D.str [114, 101, 102, 117, 115, 101, 100]), (D.str [116, 97, 98, 108, 101])]), (D.tup [(D.str [102, 105, 110, 101])]), v4, (D.tup [(D.str [114, 101, 102, 117, 115, 101, 100]), (D.str [116, 97, 98, 108, 101])]), (D.tup [(D.str [114, 101, 102, 117, 115, 101, 100]), (D.str [116, 97, 98, 108, 101])])])]) (n := 19) (m := 4) (by kernel_rfl) r1 r2 h1 h2
theorem qt43 (a b c : Int) (v0 : D) (v1 : D) (v2 : D) (v3 : D) (v4 : D) (v5 : D) (r2 : Nat) (h2 : r2 < 4) : qs42 rcq [some (D.obj 0), some v0, some (D.obj 5), some v1, some (qT10 r2), some (D.obj 9), some (D.fn 40), none, none, none, none] [(cell a b c), (AO.lst [D.non, (D.int (Int.ofNat 0)), (D.int (Int.ofNat 1)), (D.int (Int.ofNat 2)), (D.int (Int.ofNat 9)), (D.int (Int.ofNat 17)), (D.int (Int.negSucc 2)), (D.bl true), (D.str [51]), (D.tup [(D.int (Int.ofNat 3))]), (D.int (Int.ofNat 1000000000000000000000000000000000000000000000000000000000000))]), (AO.lst [(D.int (Int.ofNat 2)), (D.int (Int.ofNat 1))]), (AO.lst [(D.tup [(D.int (Int.ofNat 1))])]), (AO.dct false []), (AO.lst [D.non, (D.int (Int.ofNat 0)), (D.tup []), (D.tup [(D.tup [])]), (D.tup [(D.int (Int.ofNat 1))]), (D.tup [(D.tup [(D.int (Int.ofNat 1)), (D.int (Int.ofNat 2))])]), (D.tup [(D.tup [(D.int (Int.ofNat 1)), (D.int (Int.ofNat 2))]), (D.tup [(D.int (Int.ofNat 3)), (D.int (Int.ofNat 1))])]), (D.tup [(D.tup [(D.int (Int.ofNat 1)), (D.int (Int.ofNat 2))]), (D.obj 2)]), (D.obj 3), (D.tup [(D.tup [(D.bl true)])]), (D.tup [(D.tup [(D.int (Int.ofNat 1)), D.non]), (D.tup [D.non, (D.int (Int.ofNat 1))])]), (D.str [49]), (D.obj 4)]), (AO.lst [(D.tup [(D.tup [(D.int (Int.ofNat 1)), (D.int (Int.ofNat 0))]), (D.tup [(D.int (Int.ofNat 0)), (D.int (Int.ofNat 1)), (D.int (Int.ofNat 0))])]), (D.tup [(D.tup [(D.int (Int.ofNat 1)), (D.int (Int.ofNat 0))]), (D.tup [(D.int (Int.ofNat 0))])]), (D.tup [(D.tup [(D.int (Int.ofNat 1000000000000000000000000000000000000000000000000000000000000))])]), (D.tup [(D.tup [(D.tup [(D.int (Int.ofNat 1)), (D.int (Int.ofNat 2))])])]), (D.tup [(D.tup [(D.int (Int.ofNat 0)), (D.int (Int.ofNat 0)), (D.int (Int.ofNat 0)), (D.int (Int.ofNat 0)), (D.int (Int.ofNat 0))]), (D.tup [(D.int (Int.ofNat 0)), (D.int (Int.ofNat 0)), (D.int (Int.ofNat 0)), (D.int (Int.ofNat 0)), (D.int (Int.ofNat 0))]), (D.tup [(D.int (Int.ofNat 0)), (D.int (Int.ofNat 0)), (D.int (Int.ofNat 0)), (D.int (Int.ofNat 0)), (D.int (Int.ofNat 0))]), (D.tup [(D.int (Int.ofNat 0)), (D.int (Int.ofNat 0)), (D.int (Int.ofNat 0)), (D.int (Int.ofNat 0)), (D.int (Int.ofNat 0))]), (D.tup [(D.int (Int.ofNat 0)), (D.int (Int.ofNat 0)), (D.int (Int.ofNat 0)), (D.int (Int.ofNat 0)), (D.int (Int.ofNat 0))])]), (D.tup [(D.tup [(D.int (Int.ofNat 1))]), (D.tup [(D.int (Int.ofNat 1))])])]), (AO.lst [D.non, (D.int (Int.ofNat 0)), (D.tup []), (D.tup [(D.tup [])]), (D.tup [(D.int (Int.ofNat 1))]), (D.tup [(D.tup [(D.int (Int.ofNat 1)), (D.int (Int.ofNat 2))])]), (D.tup [(D.tup [(D.int (Int.ofNat 1)), (D.int (Int.ofNat 2))]), (D.tup [(D.int (Int.ofNat 3)), (D.int (Int.ofNat 1))])]), (D.tup [(D.tup [(D.int (Int.ofNat 1)), (D.int (Int.ofNat 2))]), (D.obj 2)]), (D.obj 3), (D.tup [(D.tup [(D.bl true)])]), (D.tup [(D.tup [(D.int (Int.ofNat 1)), D.non]), (D.tup [D.non, (D.int (Int.ofNat 1))])]), (D.str [49]), (D.obj 4), (D.tup [(D.tup [(D.int (Int.ofNat 1)), (D.int (Int.ofNat 0))]), (D.tup [(D.int (Int.ofNat 0)), (D.int (Int.ofNat 1)), (D.int (Int.ofNat 0))])]), (D.tup [(D.tup [(D.int (Int.ofNat 1)), (D.int (Int.ofNat 0))]), (D.tup [(D.int (Int.ofNat 0))])]), (D.tup [(D.tup [(D.int (Int.ofNat 1000000000000000000000000000000000000000000000000000000000000))])]), (D.tup [(D.tup [(D.tup [(D.int (Int.ofNat 1)), (D.int (Int.ofNat 2))])])]), (D.tup [(D.tup [(D.int (Int.ofNat 0)), (D.int (Int.ofNat 0)), (D.int (Int.ofNat 0)), (D.int (Int.ofNat 0)), (D.int (Int.ofNat 0))]), (D.tup [(D.int (Int.ofNat 0)), (D.int (Int.ofNat 0)), (D.int (Int.ofNat 0)), (D.int (Int.ofNat 0)), (D.int (Int.ofNat 0))]), (D.tup [(D.int (Int.ofNat 0)), (D.int (Int.ofNat 0)), (D.int (Int.ofNat 0)), (D.int (Int.ofNat 0)), (D.int (Int.ofNat 0))]), (D.tup [(D.int (Int.ofNat 0)), (D.int (Int.ofNat 0)), (D.int (Int.ofNat 0)), (D.int (Int.ofNat 0)), (D.int (Int.ofNat 0))]), (D.tup [(D.int (Int.ofNat 0)), (D.int (Int.ofNat 0)), (D.int (Int.ofNat 0)), (D.int (Int.ofNat 0)), (D.int (Int.ofNat 0))])]), (D.tup [(D.tup [(D.int (Int.ofNat 1))]), (D.tup [(D.int (Int.ofNat 1))])])]), (AO.lst [(D.tup [(D.tup [(D.int (Int.ofNat 1))])]), (D.tup [(D.tup [(D.int (Int.ofNat 0)), (D.int (Int.ofNat 1))]), (D.tup [(D.int (Int.ofNat 1)), (D.int (Int.ofNat 0))])]), (D.tup [(D.tup [(D.int (Int.ofNat 0)), (D.int (Int.ofNat 0)), (D.int (Int.ofNat 0)), (D.int (Int.ofNat 0))]), (D.tup [(D.int (Int.ofNat 0)), (D.int (Int.ofNat 0)), (D.int (Int.ofNat 0)), (D.int (Int.ofNat 0))]), (D.tup [(D.int (Int.ofNat 0)), (D.int (Int.ofNat 0)), (D.int (Int.ofNat 0)), (D.int (Int.ofNat 0))]), (D.tup [(D.int (Int.ofNat 0)), (D.int (Int.ofNat 0)), (D.int (Int.ofNat 0)), (D.int (Int.ofNat 0))])]), (D.tup [(D.tup [(D.int (Int.ofNat 999999999999999999999999999999999999999999999999999999999999))])])]), (AO.lst [v2, (D.tup [(D.str [114, 101, 102, 117, 115, 101, 100]), (D.str [116, 97, 98, 108, 101])]), (D.tup [(D.str [102, 105, 110, 101])]), v3, (D.tup [(D.str [114, 101, 102, 117, 115, 101, 100]), (D.str [116, 97, 98, 108, 101])]), (D.tup [(D.str [102, 105, 110, 101])]), v4, (D.tup [(D.str [114, 101, 102, 117, 115, 101, 100]), (D.str [116, 97, 98, 108, 101])]), (D.tup [(D.str [102, 105, 110, 101])]), v5, (D.tup [(D.str [114, 101, 102, 117, 115, 101, 100]), (D.str [116, 97, 98, 108, 101])]), (D.tup [(D.str [114, 101, 102, 117, 115, 101, 100]), (D.str [116, 97, 98, 108, 101])])])] = SOut.nx [some (D.obj 0), some v0, some (D.obj 5), some v1, some (qT10 r2), some (D.obj 9), some (D.fn 40), none, none, none, none] [(cell a b c), (AO.lst [D.non, (D.int (Int.ofNat 0)), (D.int (Int.ofNat 1)), (D.int (Int.ofNat 2)), (D.int (Int.ofNat 9)), (D.int (Int.ofNat 17)), (D.int (Int.negSucc 2)), (D.bl true), (D.str [51]), (D.tup [(D.int (Int.ofNat 3))]), (D.int (Int.ofNat 1000000000000000000000000000000000000000000000000000000000000))]), (AO.lst [(D.int (Int.ofNat 2)), (D.int (Int.ofNat 1))]), (AO.lst [(D.tup [(D.int (Int.ofNat 1))])]), (AO.dct false []), (AO.lst [D.non, (D.int (Int.ofNat 0)), (D.tup []), (D.tup [(D.tup [])]), (D.tup [(D.int (Int.ofNat 1))]), (D.tup [(D.tup [(D.int (Int.ofNat 1)), (D.int (Int.ofNat 2))])]), (D.tup [(D.tup [(D.int (Int.ofNat 1)), (D.int (Int.ofNat 2))]), (D.tup [(D.int (Int.ofNat 3)), (D.int (Int.ofNat 1))])]), (D.tup [(D.tup [(D.int (Int.ofNat 1)), (D.int (Int.ofNat 2))]), (D.obj 2)]), (D.obj 3), (D.tup [(D.tup [(D.bl true)])]), (D.tup [(D.tup [(D.int (Int.ofNat 1)), D.non]), (D.tup [D.non, (D.int (Int.ofNat 1))])]), (D.str [49]), (D.obj 4)]), (AO.lst [(D.tup [(D.tup [(D.int (Int.ofNat 1)), (D.int (Int.ofNat 0))]), (D.tup [(D.int (Int.ofNat 0)), (D.int (Int.ofNat 1)), (D.int (Int.ofNat 0))])]), (D.tup [(D.tup [(D.int (Int.ofNat 1)), (D.int (Int.ofNat 0))]), (D.tup [(D.int (Int.ofNat 0))])]), (D.tup [(D.tup [(D.int (Int.ofNat 1000000000000000000000000000000000000000000000000000000000000))])]), (D.tup [(D.tup [(D.tup [(D.int (Int.ofNat 1)), (D.int (Int.ofNat 2))])])]), (D.tup [(D.tup [(D.int (Int.ofNat 0)), (D.int (Int.ofNat 0)), (D.int (Int.ofNat 0)), (D.int (Int.ofNat 0)), (D.int (Int.ofNat 0))]), (D.tup [(D.int (Int.ofNat 0)), (D.int (Int.ofNat 0)), (D.int (Int.ofNat 0)), (D.int (Int.ofNat 0)), (D.int (Int.ofNat 0))]), (D.tup [(D.int (Int.ofNat 0)), (D.int (Int.ofNat 0)), (D.int (Int.ofNat 0)), (D.int (Int.ofNat 0)), (D.int (Int.ofNat 0))]), (D.tup [(D.int (Int.ofNat 0)), (D.int (Int.ofNat 0)), (D.int (Int.ofNat 0)), (D.int (Int.ofNat 0)), (D.int (Int.ofNat 0))]), (D.tup [(D.int (Int.ofNat 0)), (D.int (Int.ofNat 0)), (D.int (Int.ofNat 0)), (D.int (Int.ofNat 0)), (D.int (Int.ofNat 0))])]), (D.tup [(D.tup [(D.int (Int.ofNat 1))]), (D.tup [(D.int (Int.ofNat 1))])])]), (AO.lst [D.non, (D.int (Int.ofNat 0)), (D.tup []), (D.tup [(D.tup [])]), (D.tup [(D.int (Int.ofNat 1))]), (D.tup [(D.tup [(D.int (Int.ofNat 1)), (D.int (Int.ofNat 2))])]), (D.tup [(D.tup [(D.int (Int.ofNat 1)), (D.int (Int.ofNat 2))]), (D.tup [(D.int (Int.ofNat 3)), (D.int (Int.ofNat 1))])]), (D.tup [(D.tup [(D.int (Int.ofNat 1)), (D.int (Int.ofNat 2))]), (D.obj 2)]), (D.obj 3), (D.tup [(D.tup [(D.bl true)])]), (D.tup [(D.tup [(D.int (Int.ofNat 1)), D.non]), (D.tup [D.non, (D.int (Int.ofNat 1))])]), (D.str [49]), (D.obj 4), (D.tup [(D.tup [(D.int (Int.ofNat 1)), (D.int (Int.ofNat 0))]), (D.tup [(D.int (Int.ofNat 0)), (D.int (Int.ofNat 1)), (D.int (Int.ofNat 0))])]), (D.tup [(D.tup [(D.int (Int.ofNat 1)), (D.int (Int.ofNat 0))]), (D.tup [(D.int (Int.ofNat 0))])]), (D.tup [(D.tup [(D.int (Int.ofNat 1000000000000000000000000000000000000000000000000000000000000))])]), (D.tup [(D.tup [(D.tup [(D.int (Int.ofNat 1)), (D.int (Int.ofNat 2))])])]), (D.tup [(D.tup [(D.int (Int.ofNat 0)), (D.int (Int.ofNat 0)), (D.int (Int.ofNat 0)), (D.int (Int.ofNat 0)), (D.int (Int.ofNat 0))]), (D.tup [(D.int (Int.ofNat 0)), (D.int (Int.ofNat 0)), (D.int (Int.ofNat 0)), (D.int (Int.ofNat 0)), (D.int (Int.ofNat 0))]), (D.tup [(D.int (Int.ofNat 0)), (D.int (Int.ofNat 0)), (D.int (Int.ofNat 0)), (D.int (Int.ofNat 0)), (D.int (Int.ofNat 0))]), (D.tup [(D.int (Int.ofNat 0)), (D.int (Int.ofNat 0)), (D.int (Int.ofNat 0)), (D.int (Int.ofNat 0)), (D.int (Int.ofNat 0))]), (D.tup [(D.int (Int.ofNat 0)), (D.int (Int.ofNat 0)), (D.int (Int.ofNat 0)), (D.int (Int.ofNat 0)), (D.int (Int.ofNat 0))])]), (D.tup [(D.tup [(D.int (Int.ofNat 1))]), (D.tup [(D.int (Int.ofNat 1))])])]), (AO.lst [(D.tup [(D.tup [(D.int (Int.ofNat 1))])]), (D.tup [(D.tup [(D.int (Int.ofNat 0)), (D.int (Int.ofNat 1))]), (D.tup [(D.int (Int.ofNat 1)), (D.int (Int.ofNat 0))])]), (D.tup [(D.tup [(D.int (Int.ofNat 0)), (D.int (Int.ofNat 0)), (D.int (Int.ofNat 0)), (D.int (Int.ofNat 0))]), (D.tup [(D.int (Int.ofNat 0)), (D.int (Int.ofNat 0)), (D.int (Int.ofNat 0)), (D.int (Int.ofNat 0))]), (D.tup [(D.int (Int.ofNat 0)), (D.int (Int.ofNat 0)), (D.int (Int.ofNat 0)), (D.int (Int.ofNat 0))]), (D.tup [(D.int (Int.ofNat 0)), (D.int (Int.ofNat 0)), (D.int (Int.ofNat 0)), (D.int (Int.ofNat 0))])]), (D.tup [(D.tup [(D.int (Int.ofNat 999999999999999999999999999999999999999999999999999999999999))])])]), (AO.lst [v2, (D.tup [(D.str [114, 101, 102, 117, 115, 101, 100]), (D.str [116, 97, 98, 108, 101])]), (D.tup [(D.str [102, 105, 110, 101])]), v3, (D.tup [(D.str [114, 101, 102, 117, 115, 101, 100]), (D.str [116, 97, 98, 108, 101])]), (D.tup [(D.str [102, 105, 110, 101])]), v4, (D.tup [(D.str [114, 101, 102, 117, 115, 101, 100]), (D.str [116, 97, 98, 108, 101])]), (D.tup [(D.str [102, 105, 110, 101])]), v5, (D.tup [(D.str [114, 101, 102, 117, 115, 101, 100]), (D.str [116, 97, 98, 108, 101])]), (D.tup [(D.str [114, 101, 102, 117, 115, 101, 100]), (D.str [116, 97, 98, 108, 101])]), (D.tup [(D.str [102, 105, 110, 101])])])] := all1 (f := fun r2 => qs42 rcq [some (D.obj 0), some v0, some (D.obj 5), some v1, some (qT10 r2), some (D.obj 9), some (D.fn 40), none, none, none, none] [(cell a b c), (AO.lst [D.non, (D.int (Int.ofNat 0)), (D.int (Int.ofNat 1)), (D.int (Int.ofNat 2)), (D.int (Int.ofNat 9)), (D.int (Int.ofNat 17)), (D.int (Int.negSucc 2)), (D.bl true), (D.str [51]), (D.tup [(D.int (Int.ofNat 3))]), (D.int (Int.ofNat 1000000000000000000000000000000000000000000000000000000000000))]), (AO.lst [(D.int (Int.ofNat 2)), (D.int (Int.ofNat 1))]), (AO.lst [(D.tup [(D.int (Int.ofNat 1))])]), (AO.dct false []), (AO.lst [D.non, (D.int (Int.ofNat 0)), (D.tup []), (D.tup [(D.tup [])]), (D.tup [(D.int (Int.ofNat 1))]), (D.tup [(D.tup [(D.int (Int.ofNat 1)), (D.int (Int.ofNat 2))])]), (D.tup [(D.tup [(D.int (Int.ofNat 1)), (D.int (Int.ofNat 2))]), (D.tup [(D.int (Int.ofNat 3)), (D.int (Int.ofNat 1))])]), (D.tup [(D.tup [(D.int (Int.ofNat 1)), (D.int (Int.ofNat 2))]), (D.obj 2)]), (D.obj 3), (D.tup [(D.tup [(D.bl true)])]), (D.tup [(D.tup [(D.int (Int.ofNat 1)), D.non]), (D.tup [D.non, (D.int (Int.ofNat 1))])]), (D.str [49]), (D.obj 4)]), (AO.lst [(D.tup [(D.tup [(D.int (Int.ofNat 1)), (D.int (Int.ofNat 0))]), (D.tup [(D.int (Int.ofNat 0)), (D.int (Int.ofNat 1)), (D.int (Int.ofNat 0))])]), (D.tup [(D.tup [(D.int (Int.ofNat 1)), (D.int (Int.ofNat 0))]), (D.tup [(D.int (Int.ofNat 0))])]), (D.tup [(D.tup [(D.int (Int.ofNat 1000000000000000000000000000000000000000000000000000000000000))])]), (D.tup [(D.tup [(D.tup [(D.int (Int.ofNat 1)), (D.int (Int.ofNat 2))])])]), (D.tup [(D.tup [(D.int (Int.ofNat 0)), (D.int (Int.ofNat 0)), (D.int (Int.ofNat 0)), (D.int (Int.ofNat 0)), (D.int (Int.ofNat 0))]), (D.tup [(D.int (Int.ofNat 0)), (D.int (Int.ofNat 0)), (D.int (Int.ofNat 0)), (D.int (Int.ofNat 0)), (D.int (Int.ofNat 0))]), (D.tup [(D.int (Int.ofNat 0)), (D.int (Int.ofNat 0)), (D.int (Int.ofNat 0)), (D.int (Int.ofNat 0)), (D.int (Int.ofNat 0))]), (D.tup [(D.int (Int.ofNat 0)), (D.int (Int.ofNat 0)), (D.int (Int.ofNat 0)), (D.int (Int.ofNat 0)), (D.int (Int.ofNat 0))]), (D.tup [(D.int (Int.ofNat 0)), (D.int (Int.ofNat 0)), (D.int (Int.ofNat 0)), (D.int (Int.ofNat 0)), (D.int (Int.ofNat 0))])]), (D.tup [(D.tup [(D.int (Int.ofNat 1))]), (D.tup [(D.int (Int.ofNat 1))])])]), (AO.lst [D.non, (D.int (Int.ofNat 0)), (D.tup []), (D.tup [(D.tup [])]), (D.tup [(D.int (Int.ofNat 1))]), (D.tup [(D.tup [(D.int (Int.ofNat 1)), (D.int (Int.ofNat 2))])]), (D.tup [(D.tup [(D.int (Int.ofNat 1)), (D.int (Int.ofNat 2))]), (D.tup [(D.int (Int.ofNat 3)), (D.int (Int.ofNat 1))])]), (D.tup [(D.tup [(D.int (Int.ofNat 1)), (D.int (Int.ofNat 2))]), (D.obj 2)]), (D.obj 3), (D.tup [(D.tup [(D.bl true)])]), (D.tup [(D.tup [(D.int (Int.ofNat 1)), D.non]), (D.tup [D.non, (D.int (Int.ofNat 1))])]), (D.str [49]), (D.obj 4), (D.tup [(D.tup [(D.int (Int.ofNat 1)), (D.int (Int.ofNat 0))]), (D.tup [(D.int (Int.ofNat 0)), (D.int (Int.ofNat 1)), (D.int (Int.ofNat 0))])]), (D.tup [(D.tup [(D.int (Int.ofNat 1)), (D.int (Int.ofNat 0))]), (D.tup [(D.int (Int.ofNat 0))])]), (D.tup [(D.tup [(D.int (Int.ofNat 1000000000000000000000000000000000000000000000000000000000000))])]), (D.tup [(D.tup [(D.tup [(D.int (Int.ofNat 1)), (D.int (Int.ofNat 2))])])]), (D.tup [(D.tup [(D.int (Int.ofNat 0)), (D.int (Int.ofNat 0)), (D.int (Int.ofNat 0)), (D.int (Int.ofNat 0)), (D.int (Int.ofNat 0))]), (D.tup [(D.int (Int.ofNat 0)), (D.int (Int.ofNat 0)), (D.int (Int.ofNat 0)), (D.int (Int.ofNat 0)), (D.int (Int.ofNat 0))]), (D.tup [(D.int (Int.ofNat 0)), (D.int (Int.ofNat 0)), (D.int (Int.ofNat 0)), (D.int (Int.ofNat 0)), (D.int (Int.ofNat 0))]), (D.tup [(D.int (Int.ofNat 0)), (D.int (Int.ofNat 0)), (D.int (Int.ofNat 0)), (D.int (Int.ofNat 0)), (D.int (Int.ofNat 0))]), (D.tup [(D.int (Int.ofNat 0)), (D.int (Int.ofNat 0)), (D.int (Int.ofNat 0)), (D.int (Int.ofNat 0)), (D.int (Int.ofNat 0))])]), (D.tup [(D.tup [(D.int (Int.ofNat 1))]), (D.tup [(D.int (Int.ofNat 1))])])]), (AO.lst [(D.tup [(D.tup [(D.int (Int.ofNat 1))])]), (D.tup [(D.tup [(D.int (Int.ofNat 0)), (D.int (Int.ofNat 1))]), (D.tup [(D.int (Int.ofNat 1)), (D.int (Int.ofNat 0))])]), (D.tup [(D.tup [(D.int (Int.ofNat 0)), (D.int (Int.ofNat 0)), (D.int (Int.ofNat 0)), (D.int (Int.ofNat 0))]), (D.tup [(D.int (Int.ofNat 0)), (D.int (Int.ofNat 0)), (D.int (Int.ofNat 0)), (D.int (Int.ofNat 0))]), (D.tup [(D.int (Int.ofNat 0)), (D.int (Int.ofNat 0)), (D.int (Int.ofNat 0)), (D.int (Int.ofNat 0))]), (D.tup [(D.int (Int.ofNat 0)), (D.int (Int.ofNat 0)), (D.int (Int.ofNat 0)), (D.int (Int.ofNat 0))])]), (D.tup [(D.tup [(D.int (Int.ofNat 999999999999999999999999999999999999999999999999999999999999))])])]), (AO.lst [v2, (D.tup [(D.str [114, 101, 102, 117, 115, 101, 100]), (D.str [116, 97, 98, 108, 101])]), (D.tup [(D.str [102, 105, 110, 101])]), v3, (D.tup [(D.str [114, 101, 102, 117, 115, 101, 100]), (D.str [116, 97, 98, 108, 101])]), (D.tup [(D.str [102, 105, 110, 101])]), v4, (D.tup [(D.str [114, 101, 102, 117, 115, 101, 100]), (D.str [116, 97, 98, 108, 101])]), (D.tup [(D.str [102, 105, 110, 101])]), v5, (D.tup [(D.str [114, 101, 102, 117, 115, 101, 100]), (D.str [116, 97, 98, 108, 101])]), (D.tup [(D.str [114, 101, 102, 117, 115, 101, 100]), (D.str [116, 97, 98, 108, 101])])])]) (g := fun r2 => SOut.nx [some (D.obj 0), some v0, some (D.obj 5), some v1, some (qT10 r2), some (D.obj 9), some (D.fn 40), none, none, none, none] [(cell a b c), (AO.lst [D.non, (D.int (Int.ofNat 0)), (D.int (Int.ofNat 1)), (D.int (Int.ofNat 2)), (D.int (Int.ofNat 9)), (D.int (Int.ofNat 17)), (D.int (Int.negSucc 2)), (D.bl true), (D.str [51]), (D.tup [(D.int (Int.ofNat 3))]), (D.int (Int.ofNat 1000000000000000000000000000000000000000000000000000000000000))]), (AO.lst [(D.int (Int.ofNat 2)), (D.int (Int.ofNat 1))]), (AO.lst [(D.tup [(D.int (Int.ofNat 1))])]), (AO.dct false []), (AO.lst [D.non, (D.int (Int.ofNat 0)), (D.tup []), (D.tup [(D.tup [])]), (D.tup [(D.int (Int.ofNat 1))]), (D.tup [(D.tup [(D.int (Int.ofNat 1)), (D.int (Int.ofNat 2))])]), (D.tup [(D.tup [(D.int (Int.ofNat 1)), (D.int (Int.ofNat 2))]), (D.tup [(D.int (Int.ofNat 3)), (D.int (Int.ofNat 1))])]), (D.tup [(D.tup [(D.int (Int.ofNat 1)), (D.int (Int.ofNat 2))]), (D.obj 2)]), (D.obj 3), (D.tup [(D.tup [(D.bl true)])]), (D.tup [(D.tup [(D.int (Int.ofNat 1)), D.non]), (D.tup [D.non, (D.int (Int.ofNat 1))])]), (D.str [49]), (D.obj 4)]), (AO.lst [(D.tup [(D.tup [(D.int (Int.ofNat 1)), (D.int (Int.ofNat 0))]), (D.tup [(D.int (Int.ofNat 0)), (D.int (Int.ofNat 1)), (D.int (Int.ofNat 0))])]), (D.tup [(D.tup [(D.int (Int.ofNat 1)), (D.int (Int.ofNat 0))]), (D.tup [(D.int (Int.ofNat 0))])]), (D.tup [(D.tup [(D.int (Int.ofNat 1000000000000000000000000000000000000000000000000000000000000))])]), (D.tup [(D.tup [(D.tup [(D.int (Int.ofNat 1)), (D.int (Int.ofNat 2))])])]), (D.tup [(D.tup [(D.int (Int.ofNat 0)), (D.int (Int.ofNat 0)), (D.int (Int.ofNat 0)), (D.int (Int.ofNat 0)), (D.int (Int.ofNat 0))]), (D.tup [(D.int (Int.ofNat 0)), (D.int (Int.ofNat 0)), (D.int (Int.ofNat 0)), (D.int (Int.ofNat 0)), (D.int (Int.ofNat 0))]), (D.tup [(D.int (Int.ofNat 0)), (D.int (Int.ofNat 0)), (D.int (Int.ofNat 0)), (D.int (Int.ofNat 0)), (D.int (Int.ofNat 0))]), (D.tup [(D.int (Int.ofNat 0)), (D.int (Int.ofNat 0)), (D.int (Int.ofNat 0)), (D.int (Int.ofNat 0)), (D.int (Int.ofNat 0))]), (D.tup [(D.int (Int.ofNat 0)), (D.int (Int.ofNat 0)), (D.int (Int.ofNat 0)), (D.int (Int.ofNat 0)), (D.int (Int.ofNat 0))])]), (D.tup [(D.tup [(D.int (Int.ofNat 1))]), (D.tup [(D.int (Int.ofNat 1))])])]), (AO.lst [D.non, (D.int (Int.ofNat 0)), (D.tup []), (D.tup [(D.tup [])]), (D.tup [(D.int (Int.ofNat 1))]), (D.tup [(D.tup [(D.int (Int.ofNat 1)), (D.int (Int.ofNat 2))])]), (D.tup [(D.tup [(D.int (Int.ofNat 1)), (D.int (Int.ofNat 2))]), (D.tup [(D.int (Int.ofNat 3)), (D.int (Int.ofNat 1))])]), (D.tup [(D.tup [(D.int (Int.ofNat 1)), (D.int (Int.ofNat 2))]), (D.obj 2)]), (D.obj 3), (D.tup [(D.tup [(D.bl true)])]), (D.tup [(D.tup [(D.int (Int.ofNat 1)), D.non]), (D.tup [D.non, (D.int (Int.ofNat 1))])]), (D.str [49]), (D.obj 4), (D.tup [(D.tup [(D.int (Int.ofNat 1)), (D.int (Int.ofNat 0))]), (D.tup [(D.int (Int.ofNat 0)), (D.int (Int.ofNat 1)), (D.int (Int.ofNat 0))])]), (D.tup [(D.tup [(D.int (Int.ofNat 1)), (D.int (Int.ofNat 0))]), (D.tup [(D.int (Int.ofNat 0))])]), (D.tup [(D.tup [(D.int (Int.ofNat 1000000000000000000000000000000000000000000000000000000000000))])]), (D.tup [(D.tup [(D.tup [(D.int (Int.ofNat 1)), (D.int (Int.ofNat 2))])])]), (D.tup [(D.tup [(D.int (Int.ofNat 0)), (D.int (Int.ofNat 0)), (D.int (Int.ofNat 0)), (D.int (Int.ofNat 0)), (D.int (Int.ofNat 0))]), (D.tup [(D.int (Int.ofNat 0)), (D.int (Int.ofNat 0)), (D.int (Int.ofNat 0)), (D.int (Int.ofNat 0)), (D.int (Int.ofNat 0))]), (D.tup [(D.int (Int.ofNat 0)), (D.int (Int.ofNat 0)), (D.int (Int.ofNat 0)), (D.int (Int.ofNat 0)), (D.int (Int.ofNat 0))]), (D.tup [(D.int (Int.ofNat 0)), (D.int (Int.ofNat 0)), (D.int (Int.ofNat 0)), (D.int (Int.ofNat 0)), (D.int (Int.ofNat 0))]), (D.tup [(D.int (Int.ofNat 0)), (D.int (Int.ofNat 0)), (D.int (Int.ofNat 0)), (D.int (Int.ofNat 0)), (D.int (Int.ofNat 0))])]), (D.tup [(D.tup [(D.int (Int.ofNat 1))]), (D.tup [(D.int (Int.ofNat 1))])])]), (AO.lst [(D.tup [(D.tup [(D.int (Int.ofNat 1))])]), (D.tup [(D.tup [(D.int (Int.ofNat 0)), (D.int (Int.ofNat 1))]), (D.tup [(D.int (Int.ofNat 1)), (D.int (Int.ofNat 0))])]), (D.tup [(D.tup [(D.int (Int.ofNat 0)), (D.int (Int.ofNat 0)), (D.int (Int.ofNat 0)), (D.int (Int.ofNat 0))]), (D.tup [(D.int (Int.ofNat 0)), (D.int (Int.ofNat 0)), (D.int (Int.ofNat 0)), (D.int (Int.ofNat 0))]), (D.tup [(D.int (Int.ofNat 0)), (D.int (Int.ofNat 0)), (D.int (Int.ofNat 0)), (D.int (Int.ofNat 0))]), (D.tup [(D.int (Int.ofNat 0)), (D.int (Int.ofNat 0)), (D.int (Int.ofNat 0)), (D.int (Int.ofNat 0))])]), (D.tup [(D.tup [(D.int (Int.ofNat 999999999999999999999999999999999999999999999999999999999999))])])]), (AO.lst [v2, (D.tup [(D.str [114, 101, 102, 117, 115, 101, 100]), (D.str [116, 97, 98, 108, 101])]), (D.tup [(D.str [102, 105, 110, 101])]), v3, (D.tup [(D.str [114, 101, 102, 117, 115, 101, 100]), (D.str [116, 97, 98, 108, 101])]), (D.tup [(D.str [102, 105, 110, 101])]), v4, (D.tup [(D.str [114, 101, 102, 117, 115, 101, 100]), (D.str [116, 97, 98, 108, 101])]), (D.tup [(D.str [102, 105, 110, 101])]), v5, (D.tup [(D.str [114, 101, 102, 117, 115, 101, 100]), (D.str [116, 97, 98, 108, 101])]), (D.tup [(D.str [114, 101, 102, 117, 115, 101, 100]), (D.str [116, 97, 98, 108, 101])]), (D.tup [(D.str [102, 105, 110, 101])])])]) (n := 4) (by kernel_rfl) r2 h2
theorem qt45 (a b c : Int)  (r0 : Nat) (r1 : Nat) (r2 : Nat) (h0 : r0 < 11) (h1 : r1 < 19) (h2 : r2 < 4) : rtv (qz44 rcq [some (D.obj 0), some (qT2 r0), some (D.obj 5), some (qT7 r1), some (qT10 r2), some (D.obj 9), some (D.fn 40), none, none, none, none] [(cell a b c), (AO.lst [D.non, (D.int (Int.ofNat 0)), (D.int (Int.ofNat 1)), (D.int (Int.ofNat 2)), (D.int (Int.ofNat 9)), (D.int (Int.ofNat 17)), (D.int (Int.negSucc 2)), (D.bl true), (D.str [51]), (D.tup [(D.int (Int.ofNat 3))]), (D.int (Int.ofNat 1000000000000000000000000000000000000000000000000000000000000))]), (AO.lst [(D.int (Int.ofNat 2)), (D.int (Int.ofNat 1))]), (AO.lst [(D.tup [(D.int (Int.ofNat 1))])]), (AO.dct false []), (AO.lst [D.non, (D.int (Int.ofNat 0)), (D.tup []), (D.tup [(D.tup [])]), (D.tup [(D.int (Int.ofNat 1))]), (D.tup [(D.tup [(D.int (Int.ofNat 1)), (D.int (Int.ofNat 2))])]), (D.tup [(D.tup [(D.int (Int.ofNat 1)), (D.int (Int.ofNat 2))]), (D.tup [(D.int (Int.ofNat 3)), (D.int (Int.ofNat 1))])]), (D.tup [(D.tup [(D.int (Int.ofNat 1)), (D.int (Int.ofNat 2))]), (D.obj 2)]), (D.obj 3), (D.tup [(D.tup [(D.bl true)])]), (D.tup [(D.tup [(D.int (Int.ofNat 1)), D.non]), (D.tup [D.non, (D.int (Int.ofNat 1))])]), (D.str [49]), (D.obj 4)]), (AO.lst [(D.tup [(D.tup [(D.int (Int.ofNat 1)), (D.int (Int.ofNat 0))]), (D.tup [(D.int (Int.ofNat 0)), (D.int (Int.ofNat 1)), (D.int (Int.ofNat 0))])]), (D.tup [(D.tup [(D.int (Int.ofNat 1)), (D.int (Int.ofNat 0))]), (D.tup [(D.int (Int.ofNat 0))])]), (D.tup [(D.tup [(D.int (Int.ofNat 1000000000000000000000000000000000000000000000000000000000000))])]), (D.tup [(D.tup [(D.tup [(D.int (Int.ofNat 1)), (D.int (Int.ofNat 2))])])]), (D.tup [(D.tup [(D.int (Int.ofNat 0)), (D.int (Int.ofNat 0)), (D.int (Int.ofNat 0)), (D.int (Int.ofNat 0)), (D.int (Int.ofNat 0))]), (D.tup [(D.int (Int.ofNat 0)), (D.int (Int.ofNat 0)), (D.int (Int.ofNat 0)), (D.int (Int.ofNat 0)), (D.int (Int.ofNat 0))]), (D.tup [(D.int (Int.ofNat 0)), (D.int (Int.ofNat 0)), (D.int (Int.ofNat 0)), (D.int (Int.ofNat 0)), (D.int (Int.ofNat 0))]), (D.tup [(D.int (Int.ofNat 0)), (D.int (Int.ofNat 0)), (D.int (Int.ofNat 0)), (D.int (Int.ofNat 0)), (D.int (Int.ofNat 0))]), (D.tup [(D.int (Int.ofNat 0)), (D.int (Int.ofNat 0)), (D.int (Int.ofNat 0)), (D.int (Int.ofNat 0)), (D.int (Int.ofNat 0))])]), (D.tup [(D.tup [(D.int (Int.ofNat 1))]), (D.tup [(D.int (Int.ofNat 1))])])]), (AO.lst [D.non, (D.int (Int.ofNat 0)), (D.tup []), (D.tup [(D.tup [])]), (D.tup [(D.int (Int.ofNat 1))]), (D.tup [(D.tup [(D.int (Int.ofNat 1)), (D.int (Int.ofNat 2))])]), (D.tup [(D.tup [(D.int (Int.ofNat 1)), (D.int (Int.ofNat 2))]), (D.tup [(D.int (Int.ofNat 3)), (D.int (Int.ofNat 1))])]), (D.tup [(D.tup [(D.int (Int.ofNat 1)), (D.int (Int.ofNat 2))]), (D.obj 2)]), (D.obj 3), (D.tup [(D.tup [(D.bl true)])]), (D.tup [(D.tup [(D.int (Int.ofNat 1)), D.non]), (D.tup [D.non, (D.int (Int.ofNat 1))])]), (D.str [49]), (D.obj 4), (D.tup [(D.tup [(D.int (Int.ofNat 1)), (D.int (Int.ofNat 0))]), (D.tup [(D.int (Int.ofNat 0)), (D.int (Int.ofNat 1)), (D.int (Int.ofNat 0))])]), (D.tup [(D.tup [(D.int (Int.ofNat 1)), (D.int (Int.ofNat 0))]), (D.tup [(D.int (Int.ofNat 0))])]), (D.tup [(D.tup [(D.int (Int.ofNat 1000000000000000000000000000000000000000000000000000000000000))])]), (D.tup [(D.tup [(D.tup [(D.int (Int.ofNat 1)), (D.int (Int.ofNat 2))])])]), (D.tup [(D.tup [(D.int (Int.ofNat 0)), (D.int (Int.ofNat 0)), (D.int (Int.ofNat 0)), (D.int (Int.ofNat 0)), (D.int (Int.ofNat 0))]), (D.tup [(D.int (Int.ofNat 0)), (D.int (Int.ofNat 0)), (D.int (Int.ofNat 0)), (D.int (Int.ofNat 0)), (D.int (Int.ofNat 0))]), (D.tup [(D.int (Int.ofNat 0)), (D.int (Int.ofNat 0)), (D.int (Int.ofNat 0)), (D.int (Int.ofNat 0)), (D.int (Int.ofNat 0))]), (D.tup [(D.int (Int.ofNat 0)), (D.int (Int.ofNat 0)), (D.int (Int.ofNat 0)), (D.int (Int.ofNat 0)), (D.int (Int.ofNat 0))]), (D.tup [(D.int (Int.ofNat 0)), (D.int (Int.ofNat 0)), (D.int (Int.ofNat 0)), (D.int (Int.ofNat 0)), (D.int (Int.ofNat 0))])]), (D.tup [(D.tup [(D.int (Int.ofNat 1))]), (D.tup [(D.int (Int.ofNat 1))])])]), (AO.lst [(D.tup [(D.tup [(D.int (Int.ofNat 1))])]), (D.tup [(D.tup [(D.int (Int.ofNat 0)), (D.int (Int.ofNat 1))]), (D.tup [(D.int (Int.ofNat 1)), (D.int (Int.ofNat 0))])]), (D.tup [(D.tup [(D.int (Int.ofNat 0)), (D.int (Int.ofNat 0)), (D.int (Int.ofNat 0)), (D.int (Int.ofNat 0))]), (D.tup [(D.int (Int.ofNat 0)), (D.int (Int.ofNat 0)), (D.int (Int.ofNat 0)), (D.int (Int.ofNat 0))]), (D.tup [(D.int (Int.ofNat 0)), (D.int (Int.ofNat 0)), (D.int (Int.ofNat 0)), (D.int (Int.ofNat 0))]), (D.tup [(D.int (Int.ofNat 0)), (D.int (Int.ofNat 0)), (D.int (Int.ofNat 0)), (D.int (Int.ofNat 0))])]), (D.tup [(D.tup [(D.int (Int.ofNat 999999999999999999999999999999999999999999999999999999999999))])])]), (AO.lst [(qT15 r0), (D.tup [(D.str [114, 101, 102, 117, 115, 101, 100]), (D.str [116, 97, 98, 108, 101])]), (D.tup [(D.str [102, 105, 110, 101])]), (qT22 r0), (D.tup [(D.str [114, 101, 102, 117, 115, 101, 100]), (D.str [116, 97, 98, 108, 101])]), (D.tup [(D.str [102, 105, 110, 101])]), (qT29 r0), (D.tup [(D.str [114, 101, 102, 117, 115, 101, 100]), (D.str [116, 97, 98, 108, 101])]), (D.tup [(D.str [102, 105, 110, 101])]), (qT36 r0), (D.tup [(D.str [114, 101, 102, 117, 115, 101, 100]), (D.str [116, 97, 98, 108, 101])]), (D.tup [(D.str [114, 101, 102, 117, 115, 101, 100]), (D.str [116, 97, 98, 108, 101])]), (D.tup [(D.str [102, 105, 110, 101])])])]) = some (D.bl true, cell a b c) := all3 (f := fun r0 r1 r2 => rtv (qz44 rcq [some (D.obj 0), some (qT2 r0), some (D.obj 5), some (qT7 r1), some (qT10 r2), some (D.obj 9), some (D.fn 40), none, none, none, none] [(cell a b c), (AO.lst [D.non, (D.int (Int.ofNat 0)), (D.int (Int.ofNat 1)), (D.int (Int.ofNat 2)), (D.int (Int.ofNat 9)), (D.int (Int.ofNat 17)), (D.int (Int.negSucc 2)), (D.bl true), (D.str [51]), (D.tup [(D.int (Int.ofNat 3))]), (D.int (Int.ofNat 1000000000000000000000000000000000000000000000000000000000000))]), (AO.lst [(D.int (Int.ofNat 2)), (D.int (Int.ofNat 1))]), (AO.lst [(D.tup [(D.int (Int.ofNat 1))])]), (AO.dct false []), (AO.lst [D.non, (D.int (Int.ofNat 0)), (D.tup []), (D.tup [(D.tup [])]), (D.tup [(D.int (Int.ofNat 1))]), (D.tup [(D.tup [(D.int (Int.ofNat 1)), (D.int (Int.ofNat 2))])]), (D.tup [(D.tup [(D.int (Int.ofNat 1)), (D.int (Int.ofNat 2))]), (D.tup [(D.int (Int.ofNat 3)), (D.int (Int.ofNat 1))])]), (D.tup [(D.tup [(D.int (Int.ofNat 1)), (D.int (Int.ofNat 2))]), (D.obj 2)]), (D.obj 3), (D.tup [(D.tup [(D.bl true)])]), (D.tup [(D.tup [(D.int (Int.ofNat 1)), D.non]), (D.tup [D.non, (D.int (Int.ofNat 1))])]), (D.str [49]), (D.obj 4)]), (AO.lst [(D.tup [(D.tup [(D.int (Int.ofNat 1)), (D.int (Int.ofNat 0))]), (D.tup [(D.int (Int.ofNat 0)), (D.int (Int.ofNat 1)), (D.int (Int.ofNat 0))])]), (D.tup [(D.tup [(D.int (Int.ofNat 1)), (D.int (Int.ofNat 0))]), (D.tup [(D.int (Int.ofNat 0))])]), (D.tup [(D.tup [(D.int (Int.ofNat 1000000000000000000000000000000000000000000000000000000000000))])]), (D.tup [(D.tup [(D.tup [(D.int (Int.ofNat 1)), (D.int (Int.ofNat 2))])])]), (D.tup [(D.tup [(D.int (Int.ofNat 0)), (D.int (Int.ofNat 0)), (D.int (Int.ofNat 0)), (D.int (Int.ofNat 0)), (D.int (Int.ofNat 0))]), (D.tup [(D.int (Int.ofNat 0)), (D.int (Int.ofNat 0)), (D.int (Int.ofNat 0)), (D.int (Int.ofNat 0)), (D.int (Int.ofNat 0))]), (D.tup [(D.int (Int.ofNat 0)), (D.int (Int.ofNat 0)), (D.int (Int.ofNat 0)), (D.int (Int.ofNat 0)), (D.int (Int.ofNat 0))]), (D.tup [(D.int (Int.ofNat 0)), (D.int (Int.ofNat 0)), (D.int (Int.ofNat 0)), (D.int (Int.ofNat 0)), (D.int (Int.ofNat 0))]), (D.tup [(D.int (Int.ofNat 0)), (D.int (Int.ofNat 0)), (D.int (Int.ofNat 0)), (D.int (Int.ofNat 0)), (D.int (Int.ofNat 0))])]), (D.tup [(D.tup [(D.int (Int.ofNat 1))]), (D.tup [(D.int (Int.ofNat 1))])])]), (AO.lst [D.non, (D.int (Int.ofNat 0)), (D.tup []), (D.tup [(D.tup [])]), (D.tup [(D.int (Int.ofNat 1))]), (D.tup [(D.tup [(D.int (Int.ofNat 1)), (D.int (Int.ofNat 2))])]), (D.tup [(D.tup [(D.int (Int.ofNat 1)), (D.int (Int.ofNat 2))]), (D.tup [(D.int (Int.ofNat 3)), (D.int (Int.ofNat 1))])]), (D.tup [(D.tup [(D.int (Int.ofNat 1)), (D.int (Int.ofNat 2))]), (D.obj 2)]), (D.obj 3), (D.tup [(D.tup [(D.bl true)])]), (D.tup [(D.tup [(D.int (Int.ofNat 1)), D.non]), (D.tup [D.non, (D.int (Int.ofNat 1))])]), (D.str [49]), (D.obj 4), (D.tup [(D.tup [(D.int (Int.ofNat 1)), (D.int (Int.ofNat 0))]), (D.tup [(D.int (Int.ofNat 0)), (D.int (Int.ofNat 1)), (D.int (Int.ofNat 0))])]), (D.tup [(D.tup [(D.int (Int.ofNat 1)), (D.int (Int.ofNat 0))]), (D.tup [(D.int (Int.ofNat 0))])]), (D.tup [(D.tup [(D.int (Int.ofNat 1000000000000000000000000000000000000000000000000000000000000))])]), (D.tup [(D.tup [(D.tup [(D.int (Int.ofNat 1)), (D.int (Int.ofNat 2))])])]), (D.tup [(D.tup [(D.int (Int.ofNat 0)), (D.int (Int.ofNat 0)), (D.int (Int.ofNat 0)), (D.int (Int.ofNat 0)), (D.int (Int.ofNat 0))]), (D.tup [(D.int (Int.ofNat 0)), (D.int (Int.ofNat 0)), (D.int (Int.ofNat 0)), (D.int (Int.ofNat 0)), (D.int (Int.ofNat 0))]), (D.tup [(D.int (Int.ofNat 0)), (D.int (Int.ofNat 0)), (D.int (Int.ofNat 0)), (D.int (Int.ofNat 0)), (D.int (Int.ofNat 0))]), (D.tup [(D.int (Int.ofNat 0)), (D.int (Int.ofNat 0)), (D.int (Int.ofNat 0)), (D.int (Int.ofNat 0)), (D.int (Int.ofNat 0))]), (D.tup [(D.int (Int.ofNat 0)), (D.int (Int.ofNat 0)), (D.int (Int.ofNat 0)), (D.int (Int.ofNat 0)), (D.int (Int.ofNat 0))])]), (D.tup [(D.tup [(D.int (Int.ofNat 1))]), (D.tup [(D.int (Int.ofNat 1))])])]), (AO.lst [(D.tup [(D.tup [(D.int (Int.ofNat 1))])]), (D.tup [(D.tup [(D.int (Int.ofNat 0)), (D.int (Int.ofNat 1))]), (D.tup [(D.int (Int.ofNat 1)), (D.int (Int.ofNat 0))])]), (D.tup [(D.tup [(D.int (Int.ofNat 0)), (D.int (Int.ofNat 0)), (D.int (Int.ofNat 0)), (D.int (Int.ofNat 0))]), (D.tup [(D.int (Int.ofNat 0)), (D.int (Int.ofNat 0)), (D.int (Int.ofNat 0)), (D.int (Int.ofNat 0))]), (D.tup [(D.int (Int.ofNat 0)), (D.int (Int.ofNat 0)), (D.int (Int.ofNat 0)), (D.int (Int.ofNat 0))]), (D.tup [(D.int (Int.ofNat 0)), (D.int (Int.ofNat 0)), (D.int (Int.ofNat 0)), (D.int (Int.ofNat 0))])]), (D.tup [(D.tup [(D.int (Int.ofNat 999999999999999999999999999999999999999999999999999999999999))])])]), (AO.lst [(qT15 r0), (D.tup [(D.str [114, 101, 102, 117, 115, 101, 100]), (D.str [116, 97, 98, 108, 101])]), (D.tup [(D.str [102, 105, 110, 101])]), (qT22 r0), (D.tup [(D.str [114, 101, 102, 117, 115, 101, 100]), (D.str [116, 97, 98, 108, 101])]), (D.tup [(D.str [102, 105, 110, 101])]), (qT29 r0), (D.tup [(D.str [114, 101, 102, 117, 115, 101, 100]), (D.str [116, 97, 98, 108, 101])]), (D.tup [(D.str [102, 105, 110, 101])]), (qT36 r0), (D.tup [(D.str [114, 101, 102, 117, 115, 101, 100]), (D.str [116, 97, 98, 108, 101])]), (D.tup [(D.str [114, 101, 102, 117, 115, 101, 100]), (D.str [116, 97, 98, 108, 101])]), (D.tup [(D.str [102, 105, 110, 101])])])])) (g := fun r0 r1 r2 => some (D.bl true, cell a b c)) (n := 11) (m := 19) (l := 4) (by kernel_rfl) r0 r1 r2 h0 h1 h2
theorem q_body (a b c : Int) (hc1 : 0 ≤ c) (hc2 : c < 900000) : ∃ (a' c' : Int) (hs : AH), 0 ≤ c' ∧ c' ≤ c + 3 ∧ c46 rcq (startE 11 [.obj 0]) [cell a b c] = .rt (.bl true) (cell a' b c' :: hs) := by
  obtain ⟨r0, a0, c0, h0, hc10, hc20, e0⟩ := qp3 a b c  (by omega) (by omega)
  obtain ⟨r1, a1, c1, h1, hc11, hc21, e1⟩ := qp8 a0 b c0 (qT2 r0) (by omega) (by omega)
  obtain ⟨r2, a2, c2, h2, hc12, hc22, e2⟩ := qp11 a1 b c1 (qT2 r0) (qT7 r1) (by omega) (by omega)
  obtain ⟨hs, eT⟩ := rtv_ok (qt45 a2 b c2  r0 r1 r2 h0 h1 h2)
  refine ⟨a2, c2, hs, by omega, by omega, ?_⟩
  exact seq_go e0 (seq_go (qt5 _ _ _ _  ) (seq_go e1 (seq_go e2 (seq_go (qt13 _ _ _ _ _ _  ) (seq_go (for_at (aj := ajSeq (.tup [(D.fn 38), (D.fn 40)])) rfl (forF_go2 rfl rfl (seq_go (qt16 _ _ _ _ r0 r1 h0 h1) (seq_go (qt18 _ _ _ _ _ _ r1 h1) (qt20 _ _ _ _ _ _ r2 h2))) (forF_go2 rfl rfl (seq_go (qt23 _ _ _ _ r0 r1 h0 h1) (seq_go (qt25 _ _ _ _ _ _ _ r1 h1) (qt27 _ _ _ _ _ _ _ r2 h2))) (forF_end rfl)))) (seq_go (qt30 _ _ _ _ r0 r1 h0 h1) (seq_go (qt32 _ _ _ _ _ _ _ _ r1 h1) (seq_go (qt34 _ _ _ _ _ _ _ r1 r2 h1 h2) (seq_go (qt37 _ _ _ _ r0 r1 h0 h1) (seq_go (qt39 _ _ _ _ _ _ _ _ r1 r2 h1 h2) (seq_go (qt41 _ _ _ _ _ _ _ _ r1 r2 h1 h2) (seq_go (qt43 _ _ _ _ _ _ _ _ _ r2 h2) (eT)))))))))))))
theorem right_ok (a b c : Int) (n : Nat) (h : AH) (e : h[n]? = some (cell a b c)) (hc1 : 0 ≤ c) (hc2 : c < 900000) : ∃ a' c' : Int, 0 ≤ c' ∧ c' ≤ c + (3 : Nat) ∧ lv 1000 1000 (codeOfL codes) 29 0 46 [.obj n] h = .ok (.bl true) (h.set n (cell a' b c')) := by
  obtain ⟨a', c', hs, z1, z2, q⟩ := q_body a b c hc1 hc2
  exact ⟨a', c', z1, z2, one_ok (code := codeOfL codes) (g := 46) (nn := 11) (b := c46) rfl (k := 28) e q⟩
def lawT : Sv := (sSeq (sAsg (vTup (aCons (vTup (aCons (vTup (aCons (vC (D.int (Int.ofNat 1))) aNil)) aNil)) (aCons (vTup (aCons (vTup (aCons (vC (D.int (Int.ofNat 1))) (aCons (vC (D.int (Int.ofNat 0))) aNil))) (aCons (vTup (aCons (vC (D.int (Int.ofNat 0))) (aCons (vC (D.int (Int.ofNat 1))) aNil))) aNil))) aNil))) (gTp 2 (gsCons (gNm 3) (gsCons (gNm 4) gsNil))))
  (sSeq (sAsg (vLst (aCons (vLam sbT exT 2 ((1, (uTup (uCons (uC (D.str [114, 101, 102, 117, 115, 101, 100])) (uCons (uC (D.str [116, 97, 98, 108, 101])) uNil)))) :: ((2, (uTup (uCons (uC (D.str [114, 101, 102, 117, 115, 101, 100])) (uCons (uC (D.str [111, 112, 101, 114, 97, 116, 105, 111, 110])) uNil)))) :: ((3, (uTup (uCons (uC (D.str [114, 101, 102, 117, 115, 101, 100])) (uCons (uC (D.str [110, 117, 109, 98, 101, 114])) (uCons (uRepr (uAtt (⟨#[103, 105, 118, 101, 110]⟩ : Str))) uNil))))) :: []))) (vTup (aCons (vC (D.str [102, 105, 110, 101])) aNil)) (vFn 41 3 [] (aCons (vC (D.int (Int.ofNat 3))) (aCons (vVar 3) (aCons (vVar 4) aNil))))) aNil)) (gNm 5))
  (sSeq (sEx (vApp (vVar 5) (vLam sbT exT 2 ((1, (uTup (uCons (uC (D.str [114, 101, 102, 117, 115, 101, 100])) (uCons (uC (D.str [116, 97, 98, 108, 101])) uNil)))) :: ((2, (uTup (uCons (uC (D.str [114, 101, 102, 117, 115, 101, 100])) (uCons (uC (D.str [111, 112, 101, 114, 97, 116, 105, 111, 110])) uNil)))) :: ((3, (uTup (uCons (uC (D.str [114, 101, 102, 117, 115, 101, 100])) (uCons (uC (D.str [110, 117, 109, 98, 101, 114])) (uCons (uRepr (uAtt (⟨#[103, 105, 118, 101, 110]⟩ : Str))) uNil))))) :: []))) (vTup (aCons (vC (D.str [102, 105, 110, 101])) aNil)) (vFn 41 3 [] (aCons (vC (D.int (Int.ofNat 2))) (aCons (vVar 3) (aCons (vVar 4) aNil)))))))
  (sSeq (sEx (vApp (vVar 5) (vLam sbT exT 2 ((1, (uTup (uCons (uC (D.str [114, 101, 102, 117, 115, 101, 100])) (uCons (uC (D.str [116, 97, 98, 108, 101])) uNil)))) :: ((2, (uTup (uCons (uC (D.str [114, 101, 102, 117, 115, 101, 100])) (uCons (uC (D.str [111, 112, 101, 114, 97, 116, 105, 111, 110])) uNil)))) :: ((3, (uTup (uCons (uC (D.str [114, 101, 102, 117, 115, 101, 100])) (uCons (uC (D.str [110, 117, 109, 98, 101, 114])) (uCons (uRepr (uAtt (⟨#[103, 105, 118, 101, 110]⟩ : Str))) uNil))))) :: []))) (vTup (aCons (vC (D.str [102, 105, 110, 101])) aNil)) (vFn 41 3 [] (aCons (vC (D.int (Int.ofNat 3))) (aCons (vVar 4) (aCons (vVar 3) aNil)))))))
  (sSeq (sEx (vApp (vVar 5) (vLam sbT exT 2 ((1, (uTup (uCons (uC (D.str [114, 101, 102, 117, 115, 101, 100])) (uCons (uC (D.str [116, 97, 98, 108, 101])) uNil)))) :: ((2, (uTup (uCons (uC (D.str [114, 101, 102, 117, 115, 101, 100])) (uCons (uC (D.str [111, 112, 101, 114, 97, 116, 105, 111, 110])) uNil)))) :: ((3, (uTup (uCons (uC (D.str [114, 101, 102, 117, 115, 101, 100])) (uCons (uC (D.str [110, 117, 109, 98, 101, 114])) (uCons (uRepr (uAtt (⟨#[103, 105, 118, 101, 110]⟩ : Str))) uNil))))) :: []))) (vTup (aCons (vC (D.str [102, 105, 110, 101])) aNil)) (vFn 41 3 [] (aCons (vC (D.int (Int.ofNat 3))) (aCons (vVar 4) (aCons (vVar 4) aNil)))))))
  (sSeq (sAsg (vLst (aCons (vTup (aCons (vC (D.str [114, 101, 102, 117, 115, 101, 100])) (aCons (vC (D.str [111, 112, 101, 114, 97, 116, 105, 111, 110])) aNil))) (aCons (vTup (aCons (vC (D.str [114, 101, 102, 117, 115, 101, 100])) (aCons (vC (D.str [110, 117, 109, 98, 101, 114])) (aCons (vC (D.str [50])) aNil)))) (aCons (vTup (aCons (vC (D.str [114, 101, 102, 117, 115, 101, 100])) (aCons (vC (D.str [111, 112, 101, 114, 97, 116, 105, 111, 110])) aNil))) (aCons (vTup (aCons (vC (D.str [102, 105, 110, 101])) aNil)) aNil))))) (gNm 6))
  (sRet (vAnd (vB eqO (vVar 5) (vVar 6)) (vB eqO (vC (D.int (Int.ofNat 4))) (vC (D.int (Int.ofNat 4))))))))))))
theorem lawT1 (ns : List Int) (a0 b0 c0 : Int) : isT (lawT ⟨1000, lv 1000 1000 (codeOfL codes) 29, 29⟩ (some (.lsq (ns.map D.int)) :: some (.int (0 : Nat)) :: some (.obj 0) :: none :: none :: none :: none :: []) [cell a0 b0 c0]) = true := by kernel_rfl
theorem lawT2 (ns : List Int) (a0 b0 c0 a1 b1 c1 : Int) : isT (lawT ⟨1000, lv 1000 1000 (codeOfL codes) 29, 29⟩ (some (.lsq (ns.map D.int)) :: some (.int (1 : Nat)) :: some (.obj 1) :: none :: none :: none :: none :: []) [cell a0 b0 c0, cell a1 b1 c1]) = true := by kernel_rfl
theorem lawT3 (ns : List Int) (a0 b0 c0 a1 b1 c1 a2 b2 c2 : Int) : isT (lawT ⟨1000, lv 1000 1000 (codeOfL codes) 29, 29⟩ (some (.lsq (ns.map D.int)) :: some (.int (2 : Nat)) :: some (.obj 2) :: none :: none :: none :: none :: []) [cell a0 b0 c0, cell a1 b1 c1, cell a2 b2 c2]) = true := by kernel_rfl
theorem lawT4 (ns : List Int) (a0 b0 c0 a1 b1 c1 a2 b2 c2 a3 b3 c3 : Int) : isT (lawT ⟨1000, lv 1000 1000 (codeOfL codes) 29, 29⟩ (some (.lsq (ns.map D.int)) :: some (.int (3 : Nat)) :: some (.obj 3) :: none :: none :: none :: none :: []) [cell a0 b0 c0, cell a1 b1 c1, cell a2 b2 c2, cell a3 b3 c3]) = true := by kernel_rfl
theorem law_body (ns : List Int) : ∃ hs, c47 ⟨1000, lv 1000 1000 (codeOfL codes) 29, 29⟩ (startE 7 [.lsq (ns.map D.int)]) [] = .rt (.bl true) hs := by
  obtain ⟨n, n1, n2, eI⟩ := it_ok (rc := ⟨1000, lv 1000 1000 (codeOfL codes) 29, 29⟩) (h := []) (ns := ns) (m := 4) (e := [none, none, none, none, none, none]) (by decide) (by decide)
  have hD : codeOfL codes 42 = some ⟨2, 4, diceC⟩ := rfl
  obtain ⟨a0, b0, c0, t0⟩ := turnA (code := codeOfL codes) (gD := 42) (gT := 46) hD (k := 28) (m := 3) (ns := ns) (s := 0) (y := none) (h := []) (e := [none, none, none, none]) (by decide) (by decide) right_ok
  obtain ⟨a1, b1, c1, t1⟩ := turnA (code := codeOfL codes) (gD := 42) (gT := 46) hD (k := 28) (m := 3) (ns := ns) (s := 1) (y := some (.obj 0)) (h := [cell a0 b0 c0]) (e := [none, none, none, none]) (by decide) (by decide) right_ok
  obtain ⟨a2, b2, c2, t2⟩ := turnA (code := codeOfL codes) (gD := 42) (gT := 46) hD (k := 28) (m := 3) (ns := ns) (s := 2) (y := some (.obj 1)) (h := [cell a0 b0 c0, cell a1 b1 c1]) (e := [none, none, none, none]) (by decide) (by decide) right_ok
  obtain ⟨a3, b3, c3, t3⟩ := turnA (code := codeOfL codes) (gD := 42) (gT := 46) hD (k := 28) (m := 3) (ns := ns) (s := 3) (y := some (.obj 2)) (h := [cell a0 b0 c0, cell a1 b1 c1, cell a2 b2 c2]) (e := [none, none, none, none]) (by decide) (by decide) right_ok
  have hn : n = 1 ∨ n = 2 ∨ n = 3 ∨ n = 4 := by omega
  rcases hn with rfl | rfl | rfl | rfl
  · obtain ⟨hs, eT⟩ := isT_ok (lawT1 ns a0 b0 c0)
    exact ⟨hs, seq_go (for_at eI (forF_go2 rfl rfl t0 (forF_end rfl))) eT⟩
  · obtain ⟨hs, eT⟩ := isT_ok (lawT2 ns a0 b0 c0 a1 b1 c1)
    exact ⟨hs, seq_go (for_at eI (forF_go2 rfl rfl t0 (forF_go2 rfl rfl t1 (forF_end rfl)))) eT⟩
  · obtain ⟨hs, eT⟩ := isT_ok (lawT3 ns a0 b0 c0 a1 b1 c1 a2 b2 c2)
    exact ⟨hs, seq_go (for_at eI (forF_go2 rfl rfl t0 (forF_go2 rfl rfl t1 (forF_go2 rfl rfl t2 (forF_end rfl))))) eT⟩
  · obtain ⟨hs, eT⟩ := isT_ok (lawT4 ns a0 b0 c0 a1 b1 c1 a2 b2 c2 a3 b3 c3)
    exact ⟨hs, seq_go (for_at eI (forF_go2 rfl rfl t0 (forF_go2 rfl rfl t1 (forF_go2 rfl rfl t2 (forF_go2 rfl rfl t3 (forF_end rfl)))))) eT⟩
theorem law_fine (ns : List Int) : ∃ h, lv 1000 1000 (codeOfL codes) (29 + 1) 0 47 [.lsq (ns.map D.int)] [] = .ok (.bl true) h := by
  obtain ⟨hs, q⟩ := law_body ns
  exact law_ok (code := codeOfL codes) (g := 47) (nn := 7) (b := c47) rfl q
abbrev L : PySem.W.OpenLaw := PySem.Challenge.rw_deepcounts_k38_errors_of_forms
abbrev R : PySem.W.OpenRow := PySem.W.OpenLaw.row L
def tf : List He.Defn := [("_law_right", none), ("law", none)]
def fnsD : List He.DefD := pd.fns.map (·.d)
def ex (K : PySem.W.Frag) : Bool := allB L.prog pd K
abbrev hk : PySem.W.Hook := DC.hookY 4 fnsD tf ex
def ob (s : PySem.W.SharedT) : He.AlX := DC.obsY 4 fnsD tf ex (HandSHeadRun.getT s)
theorem ob_eq (s : PySem.W.SharedT) : ob s = hk.obs s.abs := DC.obsY_eq (HandSHeadRun.getT_eq s)
def loose : List Str := R.prog.boundNames.filter fun n => !(n == ("law" : Str)) && !(n == ("gcd" : Str))
theorem run (w : World) : HandSHeadRun.RunEqI R (PySem.W.view R.prog [0, 61]) hk ob 40000 loose w := by
  unfold HandSHeadRun.RunEqI
  kernel_rfl
theorem c_hC : codes = pd.fns.map fun f => ⟨(parNames f.d.params).length, f.N.length, (cDef (G := pd.G arT exT sbT) (mtOf metL) f).v⟩ := by kernel_rfl
theorem c_hF : pd.fns.all fn1B = true := by kernel_rfl
theorem c_hars : pd.ars = pd.fns.map fun f => (parNames f.d.params).length := by kernel_rfl
theorem c_htf : tf = (pd.fns.filter (·.lam)).map fun f => f.d.at_ := by kernel_rfl
theorem c_bytes : pd.fns.map (·.d) = fnsD := rfl
theorem lawAt {w : World} {mg : Str → Option Value} {fa : Addr} {h : Heap} (Y : hk.says w h) (G : h.Ns mainGlobals mg) (hfa : mg ("law" : Str) = some (.ref fa)) : ∃ K : PySem.W.Frag, K.In h ∧ LawAtG L w K 30 63 "script" mg fa h := by
  obtain ⟨K, KX, S⟩ := Y
  exact ⟨K, KX, law_at (p := pd) (ar := arT) (ex := exT) (sb := sbT) (N := 1000) (fl := 1000) (k := 29) (gl := gLaw) (codes := codes) (fL := f47) (tf := tf) (exB' := HT.ex) S KX G hfa (fun _ => rfl) (fun _ _ => rfl) (fun _ => rfl) c_hars (fun z => z) c_hF c_htf rfl rfl rfl metL c_hC (fun ns _ _ => law_fine ns)⟩
end HT
open PySem PySem.W PySem.Calls PyProof.Rows
theorem PySem.Challenge.cw_deepcounts_k38_errors_of_forms_holds : PySem.Challenge.rw_deepcounts_k38_errors_of_forms.Holds := by
  w_on; o_law
  refine HandSHeadRun.head_imp (r := OpenLaw.row PySem.Challenge.rw_deepcounts_k38_errors_of_forms) (q := view (OpenLaw.row PySem.Challenge.rw_deepcounts_k38_errors_of_forms).prog [0, 61]) (H := HT.hk) (ob := HT.ob) (M := 40000) (loose := HT.loose) (d := HandSHeadRun.topDef (OpenLaw.row PySem.Challenge.rw_deepcounts_k38_errors_of_forms).prog 61) (kwd := []) HT.ob_eq
    HT.run (by kernel_rfl) (by kernel_rfl) (by kernel_rfl) (by rfl) (by first | assumption | decide +kernel) (by decide +kernel) ⟨rfl, rfl, rfl, rfl, rfl, by decide +kernel⟩ ?hw ?hc
  case hw => w_witness2
  case hc =>
    refine DC.walk_dc (l := PySem.Challenge.rw_deepcounts_k38_errors_of_forms) (n := 63) (k := 30) (x := "script") rfl (by decide) (by kernel_rfl) ⟨rfl, by decide, by decide⟩ ?F
    intro w mg fa h Y G hmg0
    have hmg : mg ("law" : PySem.Str) = some (.ref fa) := by
      have e : (HandSHeadRun.topDef (OpenLaw.row PySem.Challenge.rw_deepcounts_k38_errors_of_forms).prog 61).name = ("law" : PySem.Str) := by kernel_rfl
      rw [← e]
      exact hmg0
    exact HT.lawAt Y G hmg
