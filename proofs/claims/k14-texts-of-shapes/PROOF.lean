import PyProof.Rows.All
import HandS.ForMost
import HandS.ForExc
import HandS.CallSlots
import HandS.Deep
import HandS.Flow
import HandS.TupAny
import HandS.TupMul
import HandS.Conv
import HandS.DictComp
import KE.KDictKeyed
import KE.SortData
import HandS.SortInts
import HandS.Comp
import KE.GoesEnum
import HandS.Small
import HandS.WordsExc
import HandS.ExcIs
import HandS.Style
import PySem.Challenge.RW_nogapsleft_k14_texts_of_shapes
set_option Elab.async false
set_option linter.all false
set_option maxRecDepth 100000
set_option autoImplicit false
/-! The data layer, part 1: data, the tree of outcomes, what stands for what, the judgements. -/
namespace DL
open PySem L2

/-- data: what a value of the text is, without addresses -/
inductive D where
  | non | bl (b : Bool) | int (i : Int) | str (x : Str) | tup (xs : List D) | lst (xs : List D) | dct (t : Bool) (kvs : List (D × D)) | tape | scr (ns : List Int) | cel (a : Addr) (ns : List Int)

/-- a local name: nothing known, a value that is never changed, an own list or dict that may be changed -/
inductive Sl where
  | un | val (d : D) | mut (d : D)
abbrev Env := List Sl

/-- outcomes: draws are any number up to n -/
inductive T (α : Type) where
  | ret (a : α) | exc (c : Str) (e : Env) | stuck | draw (n : Nat) (k : Nat → T α)

def T.bind {α β : Type} : T α → (α → T β) → T β
  | .ret a, f => f a
  | .exc c e, _ => .exc c e
  | .stuck, _ => .stuck
  | .draw n k, f => .draw n fun r => (k r).bind f
def wpT {α : Type} : T α → (α → Prop) → (Str → Env → Prop) → Prop
  | .ret a, Q, _ => Q a
  | .exc c e, _, E => E c e
  | .stuck, _, _ => False
  | .draw n k, Q, E => ∀ r, r ≤ n → wpT (k r) Q E
theorem wpT_mono {α : Type} {Q Q' : α → Prop} {E E' : Str → Env → Prop} (hQ : ∀ a, Q a → Q' a) (hE : ∀ c e, E c e → E' c e) : ∀ {t : T α}, wpT t Q E → wpT t Q' E'
  | .ret a, h => hQ a h
  | .exc c e, h => hE c e h
  | .stuck, h => h
  | .draw n k, h => fun r hr => wpT_mono hQ hE (h r hr)
theorem wpT_bind {α β : Type} {f : α → T β} {Q : β → Prop} {E : Str → Env → Prop} : ∀ {t : T α}, wpT (t.bind f) Q E ↔ wpT t (fun a => wpT (f a) Q E) E
  | .ret a => Iff.rfl
  | .exc c e => Iff.rfl
  | .stuck => Iff.rfl
  | .draw n k => ⟨fun h r hr => wpT_bind.mp (h r hr), fun h r hr => wpT_bind.mpr (h r hr)⟩
/-- an option as an outcome -/
def T.of {α : Type} : Option α → T α
  | some a => .ret a
  | none => .stuck
theorem wpT_of {α : Type} {o : Option α} {Q : α → Prop} {E : Str → Env → Prop} (h : wpT (T.of o) Q E) : ∃ a, o = some a ∧ Q a := by
  cases o with
  | none => exact h.elim
  | some a => exact ⟨a, rfl, h⟩

/-! ### keys -/
/-- an int or a text -/
def fk : D → Option Key
  | .int i => some (.inl i)
  | .str x => some (.inr x)
  | _ => none
def fks : List D → Option (List Key)
  | [] => some []
  | d :: r => match fk d, fks r with
    | some k, some ks => some (k :: ks)
    | _, _ => none
/-- a tuple of ints and texts, not empty -/
def tk : D → Option (List Key)
  | .tup (t :: ts) => fks (t :: ts)
  | _ => none

section
variable (P : Program) (w : World)
/-- a tuple: laid, or (where it is not one of ints and texts) written ahead of all -/
def TupR (K : PySem.W.Frag) (H : Hp) (a : Addr) (xs : List V) : Prop :=
  H a = some (.tup xs) ∨ (∃ (o : Obj) (its : Array Value) (n : Nat), K.lookup a = some o ∧ o.cls = .type "tuple" ∧ o.data = .seq its n ∧ its.size ≤ sizeLine ∧ Vals xs its.toList) ∧ ∀ (k : Key) (ks : List Key), xs ≠ (k :: ks).map kV
theorem TupR.sq {K : PySem.W.Frag} {H : Hp} {a : Addr} {xs : List V} (h : TupR K H a xs) : SqT K H a xs := h.imp .inl fun z => z.1
/-- the law's tape: its cells at c -/
def TapeOk (a c : Addr) (h : Heap) : Prop :=
  (a == sysModules) = false ∧ ∃ (at_ left seed salt : Int) (vs : List (Key × Value)), 0 ≤ at_ ∧ 0 ≤ left ∧ 0 ≤ seed ∧ seed < 2147483647 ∧ 0 ≤ salt ∧
    KV [((Sum.inr ("cells" : Str) : Key), V.ref c), (Sum.inr ("at" : Str), V.int at_), (Sum.inr ("left" : Str), V.int left), (Sum.inr ("seed" : Str), V.int seed), (Sum.inr ("salt" : Str), V.int salt)] vs ∧ h.DictOf (mixKind P w) a vs
def TapeO (a c : Addr) : HO := .ext (TapeOk P w a c)

variable (K : PySem.W.Frag) (F : Addr → Prop) (H : Hp)
mutual
/-- the value v is the datum d; what may be shared lies in F -/
inductive Rep : D → V → Prop
  | non : Rep .non .non
  | bl (b) : Rep (.bl b) (.bl b)
  | int (i) : Rep (.int i) (.int i)
  | str (x) : Rep (.str x) (.str x)
  | tup {a vs ds} : TupR K H a vs → RepL ds vs → Rep (.tup ds) (.ref a)
  | lst {a vs ds} : F a → H a = some (.lst vs) → RepL ds vs → Rep (.lst ds) (.ref a)
  | dk {a kvs ds} : F a → H a = some (.dK kvs) → RepK ds kvs → Rep (.dct false ds) (.ref a)
  | dt {a kvs ds} : F a → H a = some (.dT kvs) → RepT ds kvs → Rep (.dct true ds) (.ref a)
  | tape {a c : Addr} {cs : List Int} : F a → F c → H a = some (TapeO P w a c) → H c = some (.lst (cs.map V.int)) → (∀ i ∈ cs, (0 : Int) ≤ i) → Rep .tape (.ref a)
  | cel {a ns} : F a → H a = some (.lst (ns.map V.int)) → Rep (.cel a ns) (.ref a)
  | scr {a ns} : F a → Rd H a (.lst (ns.map V.int)) → Rep (.scr ns) (.ref a)
  | scrK {a ns} : (∃ (o : Obj) (its : Array Value) (n : Nat), K.lookup a = some o ∧ o.cls = .type "list" ∧ o.dict = none ∧ o.data = .seq its n ∧ its.size ≤ sizeLine ∧ Vals (ns.map V.int) its.toList) → Rep (.scr ns) (.ref a)
inductive RepL : List D → List V → Prop
  | nil : RepL [] []
  | cons {d v ds vs} : Rep d v → RepL ds vs → RepL (d :: ds) (v :: vs)
inductive RepK : List (D × D) → List (Key × V) → Prop
  | nil : RepK [] []
  | cons {dk d k v ds kvs} : fk dk = some k → Rep d v → RepK ds kvs → RepK ((dk, d) :: ds) ((k, v) :: kvs)
inductive RepT : List (D × D) → List (List Key × V) → Prop
  | nil : RepT [] []
  | cons {ts ks d v ds kvs} : tk (.tup ts) = some ks → Rep d v → RepT ds kvs → RepT ((.tup ts, d) :: ds) ((ks, v) :: kvs)
end
/-- an own list or dict at a -/
inductive Own : D → Addr → Prop
  | lst {a vs ds} : H a = some (.lst vs) → RepL P w K F H ds vs → Own (.lst ds) a
  | dk {a kvs ds} : H a = some (.dK kvs) → RepK P w K F H ds kvs → Own (.dct false ds) a
  | dt {a kvs ds} : H a = some (.dT kvs) → RepT P w K F H ds kvs → Own (.dct true ds) a
end

def MutO : HO → Prop
  | .lst _ => True
  | .dK _ => True
  | .dT _ => True
  | _ => False
/-- the shared, the owned -/
structure Sep (F M : Addr → Prop) (H : Hp) : Prop where
  apart : ∀ a, F a → M a → False
  kind : ∀ a, M a → ∃ o, H a = some o ∧ MutO o
  ftr : ∀ a, F a → ∃ o, H a = some o
structure Ext (F M : Addr → Prop) (H : Hp) (F' M' : Addr → Prop) (H' : Hp) : Prop where
  sub : ∀ a, F a → F' a
  new : ∀ a, F' a → F a ∨ M a ∨ H a = none
  own : ∀ a, M' a → M a ∨ H a = none
  keep : ∀ a o, H a = some o → ¬ M a → H' a = some o
  there : ∀ a o, H a = some o → ∃ o', H' a = some o'
/-- nothing that stood is changed -/
structure Grow (F : Addr → Prop) (H : Hp) (F' : Addr → Prop) (H' : Hp) : Prop where
  sub : ∀ a, F a → F' a
  new : ∀ a, F' a → F a ∨ H a = none
  keep : ∀ a o, H a = some o → H' a = some o
  ftr : ∀ a, F' a → F a ∨ ∃ o, H' a = some o
theorem Ext.refl {F M : Addr → Prop} {H : Hp} : Ext F M H F M H := ⟨fun _ h => h, fun _ h => .inl h, fun _ h => .inl h, fun _ _ h _ => h, fun _ o h => ⟨o, h⟩⟩
theorem Ext.trans {F M F1 M1 F2 M2 : Addr → Prop} {H H1 H2 : Hp} (a : Ext F M H F1 M1 H1) (b : Ext F1 M1 H1 F2 M2 H2) : Ext F M H F2 M2 H2 where
  sub := fun x h => b.sub x (a.sub x h)
  new := fun x h => by
    rcases b.new x h with h | h | h
    · exact a.new x h
    · rcases a.own x h with h | h
      · exact .inr (.inl h)
      · exact .inr (.inr h)
    · cases q : H x with
      | none => exact .inr (.inr rfl)
      | some o =>
        obtain ⟨o', e⟩ := a.there x o q
        rw [h] at e; cases e
  own := fun x h => by
    rcases b.own x h with h | h
    · exact a.own x h
    · cases q : H x with
      | none => exact .inr rfl
      | some o =>
        obtain ⟨o', e⟩ := a.there x o q
        rw [h] at e; cases e
  keep := fun x o h n => b.keep x o (a.keep x o h n) fun m => by
    rcases a.own x m with q | q
    · exact n q
    · rw [h] at q; cases q
  there := fun x o h => by
    obtain ⟨o', e⟩ := a.there x o h
    exact b.there x o' e
theorem Grow.refl {F : Addr → Prop} {H : Hp} : Grow F H F H := ⟨fun _ h => h, fun _ h => .inl h, fun _ _ h => h, fun _ h => .inl h⟩
theorem Grow.trans {F F1 F2 : Addr → Prop} {H H1 H2 : Hp} (a : Grow F H F1 H1) (b : Grow F1 H1 F2 H2) : Grow F H F2 H2 where
  sub := fun x h => b.sub x (a.sub x h)
  new := fun x h => by
    rcases b.new x h with h | h
    · exact a.new x h
    · cases q : H x with
      | none => exact .inr rfl
      | some o =>
        rw [a.keep x o q] at h; cases h
  keep := fun x o h => b.keep x o (a.keep x o h)
  ftr := fun x h => by
    rcases b.ftr x h with h | h
    · rcases a.ftr x h with h | ⟨o, e⟩
      · exact .inl h
      · exact .inr ⟨o, b.keep x o e⟩
    · exact .inr h
theorem Grow.ext {F F' M : Addr → Prop} {H H' : Hp} (g : Grow F H F' H') : Ext F M H F' M H' :=
  ⟨g.sub, fun a h => (g.new a h).elim .inl fun q => .inr (.inr q), fun _ h => .inl h, fun a o h _ => g.keep a o h, fun a o h => ⟨o, g.keep a o h⟩⟩
/-- a new object, not shared -/
theorem Grow.laid {F : Addr → Prop} {H : Hp} {p : Addr} {o : HO} (hp : H p = none) : Grow F H F (upd H p o) :=
  ⟨fun _ h => h, fun _ h => .inl h, fun a u e => by rw [upd_ne (ne_of_none e hp)]; exact e, fun _ h => .inl h⟩
/-- a new object, shared -/
theorem Grow.share {F : Addr → Prop} {H : Hp} {p : Addr} {o : HO} (hp : H p = none) : Grow F H (fun a => F a ∨ a = p) (upd H p o) :=
  ⟨fun _ h => .inl h, fun a h => h.elim .inl fun e => .inr (e ▸ hp), fun a u e => by rw [upd_ne (ne_of_none e hp)]; exact e, fun a h => h.elim .inl fun e => .inr ⟨o, by rw [e, upd_same]⟩⟩
theorem Sep.grow {F F' M : Addr → Prop} {H H' : Hp} (s : Sep F M H) (g : Grow F H F' H') : Sep F' M H' where
  apart := fun a h m => by
    rcases g.new a h with q | q
    · exact s.apart a q m
    · obtain ⟨o, e, _⟩ := s.kind a m
      rw [q] at e; cases e
  kind := fun a m => let ⟨o, e, k⟩ := s.kind a m; ⟨o, g.keep a o e, k⟩
  ftr := fun a h => by
    rcases g.ftr a h with q | q
    · obtain ⟨o, e⟩ := s.ftr a q
      exact ⟨o, g.keep a o e⟩
    · exact q

section
variable {P : Program} {w : World} {K : PySem.W.Frag} {F F' M M' : Addr → Prop} {H H' : Hp}
/-- what a datum leans on -/
structure Keeps (F : Addr → Prop) (H : Hp) (F' : Addr → Prop) (H' : Hp) : Prop where
  sub : ∀ a, F a → F' a
  fk : ∀ a o, F a → H a = some o → H' a = some o
  tup : ∀ a xs, H a = some (.tup xs) → H' a = some (.tup xs)
  frz : ∀ a o u, H a = some (.frz o u) → H' a = some (.frz o u)
theorem Ext.keeps (s : Sep F M H) (x : Ext F M H F' M' H') : Keeps F H F' H' where
  sub := x.sub
  fk := fun a o f e => x.keep a o e (s.apart a f)
  tup := fun a xs e => x.keep a _ e fun m => by
    obtain ⟨o, q, k⟩ := s.kind a m
    rw [e] at q; cases q; exact k
  frz := fun a o u e => x.keep a _ e fun m => by
    obtain ⟨o, q, k⟩ := s.kind a m
    rw [e] at q; cases q; exact k
theorem Grow.keeps (x : Grow F H F' H') : Keeps F H F' H' := ⟨x.sub, fun a o _ e => x.keep a o e, fun a _ e => x.keep a _ e, fun a _ _ e => x.keep a _ e⟩
theorem Keeps.rd (x : Keeps F H F' H') {a : Addr} {xs : List V} (f : F a) (h : Rd H a (.lst xs)) : Rd H' a (.lst xs) := by
  rcases h with h | ⟨o, h⟩
  · exact .inl (x.fk a _ f h)
  · exact .inr ⟨o, x.fk a _ f h⟩
theorem Keeps.tupR (x : Keeps F H F' H') {a : Addr} {xs : List V} (h : TupR K H a xs) : TupR K H' a xs := h.imp (x.tup a _) id
mutual
theorem Rep.keeps (x : Keeps F H F' H') : ∀ {d : D} {v : V}, Rep P w K F H d v → Rep P w K F' H' d v
  | _, _, .non => .non
  | _, _, .bl b => .bl b
  | _, _, .int i => .int i
  | _, _, .str s => .str s
  | _, _, .tup h r => .tup (x.tupR h) (r.keeps x)
  | _, _, .lst f h r => .lst (x.sub _ f) (x.fk _ _ f h) (r.keeps x)
  | _, _, .dk f h r => .dk (x.sub _ f) (x.fk _ _ f h) (r.keeps x)
  | _, _, .dt f h r => .dt (x.sub _ f) (x.fk _ _ f h) (r.keeps x)
  | _, _, .tape f fc h hc p => .tape (x.sub _ f) (x.sub _ fc) (x.fk _ _ f h) (x.fk _ _ fc hc) p
  | _, _, .scr f h => .scr (x.sub _ f) (x.rd f h)
  | _, _, .cel f h => .cel (x.sub _ f) (x.fk _ _ f h)
  | _, _, .scrK h => .scrK h
theorem RepL.keeps (x : Keeps F H F' H') : ∀ {ds : List D} {vs : List V}, RepL P w K F H ds vs → RepL P w K F' H' ds vs
  | _, _, .nil => .nil
  | _, _, .cons a r => .cons (a.keeps x) (r.keeps x)
theorem RepK.keeps (x : Keeps F H F' H') : ∀ {ds : List (D × D)} {vs : List (Key × V)}, RepK P w K F H ds vs → RepK P w K F' H' ds vs
  | _, _, .nil => .nil
  | _, _, .cons e a r => .cons e (a.keeps x) (r.keeps x)
theorem RepT.keeps (x : Keeps F H F' H') : ∀ {ds : List (D × D)} {vs : List (List Key × V)}, RepT P w K F H ds vs → RepT P w K F' H' ds vs
  | _, _, .nil => .nil
  | _, _, .cons e a r => .cons e (a.keeps x) (r.keeps x)
end
theorem Own.keeps (x : Keeps F H F' H') {d : D} {a : Addr} (ha : ∀ o, H a = some o → H' a = some o) : Own P w K F H d a → Own P w K F' H' d a
  | .lst h r => .lst (ha _ h) (r.keeps x)
  | .dk h r => .dk (ha _ h) (r.keeps x)
  | .dt h r => .dt (ha _ h) (r.keeps x)
theorem RepL.length : ∀ {ds : List D} {vs : List V}, RepL P w K F H ds vs → ds.length = vs.length
  | _, _, .nil => rfl
  | _, _, .cons _ r => congrArg (· + 1) r.length
theorem RepL.append : ∀ {ds es : List D} {vs us : List V}, RepL P w K F H ds vs → RepL P w K F H es us → RepL P w K F H (ds ++ es) (vs ++ us)
  | _, _, _, _, .nil, r => r
  | _, _, _, _, .cons a q, r => .cons a (q.append r)
theorem RepL.get : ∀ {ds : List D} {vs : List V} {i : Nat} {d : D}, RepL P w K F H ds vs → ds[i]? = some d → ∃ v, vs[i]? = some v ∧ Rep P w K F H d v
  | _, _, _, _, .nil, e => by simp at e
  | _, _, 0, _, .cons (v := v) r _, e => by simp at e; subst e; exact ⟨v, rfl, r⟩
  | _, _, i + 1, _, .cons _ t, e => by
    obtain ⟨v, h1, h2⟩ := t.get (i := i) (by simpa using e)
    exact ⟨v, by simpa using h1, h2⟩
theorem RepL.get' : ∀ {ds : List D} {vs : List V} {i : Nat} {v : V}, RepL P w K F H ds vs → vs[i]? = some v → ∃ d, ds[i]? = some d ∧ Rep P w K F H d v
  | _, _, _, _, .nil, e => by simp at e
  | _, _, 0, _, .cons (d := d) r _, e => by simp at e; subst e; exact ⟨d, rfl, r⟩
  | _, _, i + 1, _, .cons _ t, e => by
    obtain ⟨v, h1, h2⟩ := t.get' (i := i) (by simpa using e)
    exact ⟨v, by simpa using h1, h2⟩
theorem RepL.take : ∀ {ds : List D} {vs : List V} (n : Nat), RepL P w K F H ds vs → RepL P w K F H (ds.take n) (vs.take n)
  | _, _, 0, _ => .nil
  | _, _, _ + 1, .nil => .nil
  | _, _, n + 1, .cons a r => .cons a (r.take n)
theorem RepL.drop : ∀ {ds : List D} {vs : List V} (n : Nat), RepL P w K F H ds vs → RepL P w K F H (ds.drop n) (vs.drop n)
  | _, _, 0, r => r
  | _, _, _ + 1, .nil => .nil
  | _, _, n + 1, .cons _ r => r.drop n

/-- the local names -/
structure Rel (P : Program) (w : World) (K : PySem.W.Frag) (F M : Addr → Prop) (H : Hp) (env : Env) (σ : St) : Prop where
  sep : Sep F M H
  len : env.length = σ.length
  val : ∀ (i : Nat) (d : D), env[i]? = some (.val d) → ∃ v, σ[i]? = some (some v) ∧ Rep P w K F H d v
  mt : ∀ (i : Nat) (d : D), env[i]? = some (.mut d) → ∃ a, σ[i]? = some (some (.ref a)) ∧ M a ∧ Own P w K F H d a
  inj : ∀ (i j : Nat) (d d' : D) (a : Addr), env[i]? = some (.mut d) → env[j]? = some (.mut d') → σ[i]? = some (some (.ref a)) → σ[j]? = some (some (.ref a)) → i = j
theorem Rel.grow {env : Env} {σ : St} (r : Rel P w K F M H env σ) (g : Grow F H F' H') : Rel P w K F' M H' env σ where
  sep := r.sep.grow g
  len := r.len
  val := fun i d e => let ⟨v, h1, h2⟩ := r.val i d e; ⟨v, h1, h2.keeps g.keeps⟩
  mt := fun i d e => let ⟨a, h1, h2, h3⟩ := r.mt i d e; ⟨a, h1, h2, h3.keeps g.keeps fun o => g.keep a o⟩
  inj := r.inj
end
end DL
set_option Elab.async false
set_option linter.all false
set_option maxRecDepth 100000
set_option autoImplicit false
set_option maxHeartbeats 1000000
/-! The data layer, part 2: the judgements, expressions. -/
namespace DL
open PySem PySem.Spec PyProof.Rows L2

abbrev MD := Env → T (D × Env)
abbrev MB := Env → T (Bool × Env)
abbrev ML := Env → T (List D × Env)
inductive Fl where
  | nx | bk | ct | rt (d : D)
abbrev MS := Env → T (Fl × Env)

section
variable (P : Program) (w : World) (K : PySem.W.Frag) (mg : Str → Option Value) (W : WX)
/-- what is wanted of an error that leaves -/
def ExOk (F M : Addr → Prop) (H : Hp) (QE : Str → Env → Prop) : Prop :=
  ∀ (c : Str) (C : Addr) (env' : Env) (σ' : L2.St) (H' : Hp) (F' M' : Addr → Prop), Ext F M H F' M' H' → Rel P w K F' M' H' env' σ' → QE c env' → mg c = some (.ref C) → W (.ref C) none σ' H'
/-- readings -/
def tD (f : MD) : TE := fun σ H Q => ∃ (F M : Addr → Prop) (env : Env) (Qd : D × Env → Prop) (QE : Str → Env → Prop), Rel P w K F M H env σ ∧ wpT (f env) Qd QE ∧ ExOk P w K mg W F M H QE ∧
  ∀ (v : V) (H' : Hp) (F' M' : Addr → Prop) (d : D) (env' : Env), Ext F M H F' M' H' → Rel P w K F' M' H' env' σ → Rep P w K F' H' d v → Qd (d, env') → Q v H'
def tDB (f : MB) : TT := fun σ H Q => ∃ (F M : Addr → Prop) (env : Env) (Qd : Bool × Env → Prop) (QE : Str → Env → Prop), Rel P w K F M H env σ ∧ wpT (f env) Qd QE ∧ ExOk P w K mg W F M H QE ∧
  ∀ (b : Bool) (H' : Hp) (F' M' : Addr → Prop) (env' : Env), Ext F M H F' M' H' → Rel P w K F' M' H' env' σ → Qd (b, env') → Q b H'
def tDL (f : ML) : TA := fun σ H Q => ∃ (F M : Addr → Prop) (env : Env) (Qd : List D × Env → Prop) (QE : Str → Env → Prop), Rel P w K F M H env σ ∧ wpT (f env) Qd QE ∧ ExOk P w K mg W F M H QE ∧
  ∀ (vs : List V) (H' : Hp) (F' M' : Addr → Prop) (ds : List D) (env' : Env), Ext F M H F' M' H' → Rel P w K F' M' H' env' σ → RepL P w K F' H' ds vs → Qd (ds, env') → Q vs H'
/-- a fresh list or dict, not shared yet -/
def tDF (f : MD) : TE := fun σ H Q => ∃ (F M : Addr → Prop) (env : Env) (Qd : D × Env → Prop) (QE : Str → Env → Prop), Rel P w K F M H env σ ∧ wpT (f env) Qd QE ∧ ExOk P w K mg W F M H QE ∧
  ∀ (a : Addr) (H' : Hp) (F' M' : Addr → Prop) (d : D) (env' : Env), Ext F M H F' M' H' → Rel P w K F' M' H' env' σ → H a = none → ¬ F' a → ¬ M' a → Own P w K F' H' d a → Qd (d, env') → Q (.ref a) H'
def tDS (m : MS) : TS := fun De σ H => ∃ (F M : Addr → Prop) (env : Env) (Q : Fl × Env → Prop) (QE : Str → Env → Prop), Rel P w K F M H env σ ∧ wpT (m env) Q QE ∧ ExOk P w K mg W F M H QE ∧
  (∀ (σ' : L2.St) (H' : Hp) (F' M' : Addr → Prop) (env' : Env), Ext F M H F' M' H' → Rel P w K F' M' H' env' σ' → Q (.nx, env') → De.nx σ' H') ∧
  (∀ (σ' : L2.St) (H' : Hp) (F' M' : Addr → Prop) (env' : Env), Ext F M H F' M' H' → Rel P w K F' M' H' env' σ' → Q (.bk, env') → De.bk σ' H') ∧
  (∀ (σ' : L2.St) (H' : Hp) (F' M' : Addr → Prop) (env' : Env), Ext F M H F' M' H' → Rel P w K F' M' H' env' σ' → Q (.ct, env') → De.ct σ' H') ∧
  (∀ (v : V) (σ' : L2.St) (H' : Hp) (F' M' : Addr → Prop) (d : D) (env' : Env), Ext F M H F' M' H' → Rel P w K F' M' H' env' σ' → Rep P w K F' H' d v → Q (.rt d, env') → De.rt v H')
end

theorem ExOk.mono {P : Program} {w : World} {K : PySem.W.Frag} {mg : Str → Option Value} {W : WX} {F M F1 M1 : Addr → Prop} {H H1 : Hp} {QE : Str → Env → Prop} (h : ExOk P w K mg W F M H QE) (x : Ext F M H F1 M1 H1) : ExOk P w K mg W F1 M1 H1 QE :=
  fun c C env' σ' H' F' M' e r q m => h c C env' σ' H' F' M' (x.trans e) r q m

section
variable (X : Cx) (W : WX)
abbrev XD (f : MD) : TE := tD X.prog X.w X.K X.mg W f
abbrev XB (f : MB) : TT := tDB X.prog X.w X.K X.mg W f
abbrev XL (f : ML) : TA := tDL X.prog X.w X.K X.mg W f
abbrev XF (f : MD) : TE := tDF X.prog X.w X.K X.mg W f
abbrev XS (m : MS) : TS := tDS X.prog X.w X.K X.mg W m
abbrev XRep (F : Addr → Prop) (H : Hp) : D → V → Prop := Rep X.prog X.w X.K F H
abbrev XRepL (F : Addr → Prop) (H : Hp) : List D → List V → Prop := RepL X.prog X.w X.K F H
def DE (e : Expr) (f : MD) : Prop := PE X e (XD X W f)
def DT (e : Expr) (f : MB) : Prop := PT X e (XB X W f)
/-- a test that may stand in a longer one -/
def DW (e : Expr) (f : MB) : Prop := PW X e (XB X W f)
def DA (es : List Expr) (f : ML) : Prop := PA X es (XL X W f)
def DF (e : Expr) (f : MD) : Prop := PE X e (XF X W f)
def DS (st : Stmt) (m : MS) : Prop := PS X st (XS X W m)
def DSs (st : List Stmt) (m : MS) : Prop := PSs X st (XS X W m)
end
theorem peW {X : Cx} {e : Expr} {t t' : TE} (h : PE X e t) (i : ∀ σ H Q, t' σ H Q → t σ H Q) : PE X e t' := ⟨fun pins s σ H Q I q => h.run pins s σ H Q I (i σ H Q q)⟩
theorem ptW {X : Cx} {e : Expr} {t t' : TT} (h : PT X e t) (i : ∀ σ H Q, t' σ H Q → t σ H Q) : PT X e t' := ⟨fun pins s σ H Q I q => h.run pins s σ H Q I (i σ H Q q)⟩
theorem pwW {X : Cx} {e : Expr} {t t' : TT} (h : PW X e t) (i : ∀ σ H Q, t' σ H Q → t σ H Q) : PW X e t' := ⟨fun wh pins s σ H Q I q => h.run wh pins s σ H Q I (i σ H Q q)⟩
theorem paW {X : Cx} {es : List Expr} {t t' : TA} (h : PA X es t) (i : ∀ σ H Q, t' σ H Q → t σ H Q) : PA X es t' := ⟨fun pos pins s σ H Q I q => h.run pos pins s σ H Q I (i σ H Q q)⟩
theorem psW {X : Cx} {st : Stmt} {t t' : TS} (h : PS X st t) (i : ∀ D σ H, t' D σ H → t D σ H) : PS X st t' := ⟨fun pins s σ H D I q => h.run pins s σ H D I (i D σ H q)⟩
theorem pssW {X : Cx} {st : List Stmt} {t t' : TS} (h : PSs X st t) (i : ∀ D σ H, t' D σ H → t D σ H) : PSs X st t' := ⟨fun pins s σ H D I q => h.run pins s σ H D I (i D σ H q)⟩

/-! ### operations on data -/
def rD1 (P : Program) (w : World) (K : PySem.W.Frag) (g : D → Option D) : V → Hp → VK → Prop := fun x H Q => ∃ (F : Addr → Prop) (dx d : D), Rep P w K F H dx x ∧ g dx = some d ∧
  ∀ (v : V) (F' : Addr → Prop) (H' : Hp), Grow F H F' H' → Rep P w K F' H' d v → Q v H'
def rD2 (P : Program) (w : World) (K : PySem.W.Frag) (g : D → D → Option D) : R2 := fun x y H Q => ∃ (F : Addr → Prop) (dx dy d : D), Rep P w K F H dx x ∧ Rep P w K F H dy y ∧ g dx dy = some d ∧
  ∀ (v : V) (F' : Addr → Prop) (H' : Hp), Grow F H F' H' → Rep P w K F' H' d v → Q v H'
def rDs (P : Program) (w : World) (K : PySem.W.Frag) (g : List D → Option D) : List V → Hp → VK → Prop := fun xs H Q => ∃ (F : Addr → Prop) (ds : List D) (d : D), RepL P w K F H ds xs ∧ g ds = some d ∧
  ∀ (v : V) (F' : Addr → Prop) (H' : Hp), Grow F H F' H' → Rep P w K F' H' d v → Q v H'

/-! ### programs on data -/
def mC (d : D) : MD := fun env => .ret (d, env)
/-- a name: a list or dict that is the name's own is shared from here on -/
def mVar (i : Nat) : MD := fun env => match env[i]? with
  | some (.val d) => .ret (d, env)
  | some (.mut d) => .ret (d, env.set i (.val d))
  | _ => .stuck
def mTup (f : ML) : MD := fun env => (f env).bind fun (ds, e) => .ret (.tup ds, e)
def mNil : ML := fun env => .ret ([], env)
def mCons (f : MD) (g : ML) : ML := fun env => (f env).bind fun (d, e) => (g e).bind fun (ds, e2) => .ret (d :: ds, e2)
def m1 (g : D → Option D) (f : MD) : MD := fun env => (f env).bind fun (d, e) => (T.of (g d)).bind fun r => .ret (r, e)
def m2 (g : D → D → Option D) (f h : MD) : MD := fun env => (f env).bind fun (x, e) => (h e).bind fun (y, e2) => (T.of (g x y)).bind fun r => .ret (r, e2)
def mS (g : List D → Option D) (f : ML) : MD := fun env => (f env).bind fun (ds, e) => (T.of (g ds)).bind fun r => .ret (r, e)
def mIf (c : MB) (f g : MD) : MD := fun env => (c env).bind fun (b, e) => if b = true then f e else g e
def mAndV (f g : MD) : MD := fun env => (f env).bind fun (d, e) => match d with
  | .bl true => g e
  | .bl false => .ret (.bl false, e)
  | _ => .stuck
def mOrV (f g : MD) : MD := fun env => (f env).bind fun (d, e) => match d with
  | .bl true => .ret (.bl true, e)
  | .bl false => g e
  | _ => .stuck
def mAnd (f g : MB) : MB := fun env => (f env).bind fun (b, e) => if b = true then g e else .ret (false, e)
def mOr (f g : MB) : MB := fun env => (f env).bind fun (b, e) => if b = true then .ret (true, e) else g e
def mNot (f : MB) : MB := fun env => (f env).bind fun (b, e) => .ret (!b, e)
def mTest (g : D → Option Bool) (f : MD) : MB := fun env => (f env).bind fun (d, e) => (T.of (g d)).bind fun b => .ret (b, e)
def mChain (g1 g2 : D → D → Option D) (f1 f2 f3 : MD) : MD := fun env => (f1 env).bind fun (x, e1) => (f2 e1).bind fun (y, e2) => (T.of (g1 x y)).bind fun r => match r with
  | .bl true => (f3 e2).bind fun (z, e3) => (T.of (g2 y z)).bind fun r2 => .ret (r2, e3)
  | .bl false => .ret (.bl false, e2)
  | _ => .stuck
def isBl : D → Option Bool
  | .bl b => some b
  | _ => none

section
variable {X : Cx} {W : WX} {e a b c : Expr} {es : List Expr} {f g fa fb fc : MD} {h fl : ML} {pos : Pos}

theorem de_int {i : Int} {j} : DE X W (.Constant (.int i) j pos) (mC (.int i)) := peW pe_int fun σ H Q ⟨F, M, env, Qd, QE, R, q, hx, k⟩ => k _ H F M _ env Ext.refl R (.int i) q
theorem de_bl {i : Bool} {j} : DE X W (.Constant (.bool i) j pos) (mC (.bl i)) := peW pe_bl fun σ H Q ⟨F, M, env, Qd, QE, R, q, hx, k⟩ => k _ H F M _ env Ext.refl R (.bl i) q
theorem de_non {j} : DE X W (.Constant .none j pos) (mC .non) := peW pe_non fun σ H Q ⟨F, M, env, Qd, QE, R, q, hx, k⟩ => k _ H F M _ env Ext.refl R .non q
theorem de_str {i : Str} {j} : DE X W (.Constant (.str i) j pos) (mC (.str i)) := peW pe_str fun σ H Q ⟨F, M, env, Qd, QE, R, q, hx, k⟩ => k _ H F M _ env Ext.refl R (.str i) q

/-- an own list or dict is shared -/
theorem Rel.share {P : Program} {w : World} {K : PySem.W.Frag} {F M : Addr → Prop} {H : Hp} {env : Env} {σ : L2.St} {i : Nat} {d : D} {a : Addr} (R : Rel P w K F M H env σ) (he : env[i]? = some (.mut d)) (hs : σ[i]? = some (some (.ref a))) :
    M a ∧ Own P w K F H d a ∧ Ext F M H (fun x => F x ∨ x = a) (fun x => M x ∧ x ≠ a) H ∧ Rel P w K (fun x => F x ∨ x = a) (fun x => M x ∧ x ≠ a) H (env.set i (.val d)) σ ∧ Rep P w K (fun x => F x ∨ x = a) H d (.ref a) := by
  obtain ⟨a', hs', ma, ow⟩ := R.mt i d he
  rw [hs] at hs'
  have e' : a' = a := by injection hs' with z; injection z with z; injection z with z; exact z.symm
  subst e'
  have ks : Keeps F H (fun x => F x ∨ x = a') H := ⟨fun _ h => .inl h, fun _ _ _ h => h, fun _ _ h => h, fun _ _ _ h => h⟩
  have hi : i < env.length := (List.getElem?_eq_some_iff.mp he).1
  have rp : Rep P w K (fun x => F x ∨ x = a') H d (.ref a') := by
    cases ow with
    | lst h r => exact .lst (.inr rfl) h (r.keeps ks)
    | dk h r => exact .dk (.inr rfl) h (r.keeps ks)
    | dt h r => exact .dt (.inr rfl) h (r.keeps ks)
  refine ⟨ma, ow, ⟨fun _ h => .inl h, fun x h => h.elim .inl fun e => .inr (.inl (e ▸ ma)), fun x h => .inl h.1, fun _ _ h _ => h, fun _ o h => ⟨o, h⟩⟩, ⟨⟨?_, ?_, ?_⟩, by simpa using R.len, ?_, ?_, ?_⟩, rp⟩
  · rintro x (h | h) ⟨m, n⟩
    · exact R.sep.apart x h m
    · exact n h
  · exact fun x h => R.sep.kind x h.1
  · rintro x (h | h)
    · exact R.sep.ftr x h
    · obtain ⟨o, e, _⟩ := R.sep.kind a' ma
      exact ⟨o, h ▸ e⟩
  · intro j d' hj
    by_cases hij : i = j
    · subst hij
      rw [List.getElem?_set_self hi] at hj
      cases hj
      exact ⟨_, hs, rp⟩
    · rw [List.getElem?_set_ne hij] at hj
      obtain ⟨v, h1, h2⟩ := R.val j d' hj
      exact ⟨v, h1, h2.keeps ks⟩
  · intro j d' hj
    by_cases hij : i = j
    · subst hij
      rw [List.getElem?_set_self hi] at hj
      cases hj
    · rw [List.getElem?_set_ne hij] at hj
      obtain ⟨b, h1, h2, h3⟩ := R.mt j d' hj
      refine ⟨b, h1, ⟨h2, fun e => ?_⟩, h3.keeps ks fun _ h => h⟩
      subst e
      exact hij (R.inj i j d d' _ he hj hs h1)
  · intro j k d1 d2 b h1 h2 h3 h4
    have g1 : env[j]? = some (.mut d1) := by
      by_cases hij : i = j
      · subst hij; rw [List.getElem?_set_self hi] at h1; cases h1
      · rwa [List.getElem?_set_ne hij] at h1
    have g2 : env[k]? = some (.mut d2) := by
      by_cases hij : i = k
      · subst hij; rw [List.getElem?_set_self hi] at h2; cases h2
      · rwa [List.getElem?_set_ne hij] at h2
    exact R.inj j k d1 d2 b g1 g2 h3 h4
theorem de_var {i : Nat} {x : Str} (hN : X.N[i]? = some x := by rfl) (hv : Vis X.env.scope x := by first | exact Or.inl rfl | exact Or.inr (Or.inl rfl) | exact Or.inr (Or.inr rfl)) (hd : (x == ("__debug__" : Str)) = false := by decide)
    (hcd : (x == ("__classdict__" : Str)) = false := by decide) : DE X W (.Name x pos) (mVar i) := peW (pe_var hN hv hd hcd) fun σ H Q ⟨F, M, env, Qd, QE, R, q, hx, k⟩ => by
  unfold mVar at q
  split at q
  · rename_i d he
    obtain ⟨v, h1, h2⟩ := R.val i d he
    exact ⟨v, h1, k v H F M d env Ext.refl R h2 q⟩
  · rename_i d he
    obtain ⟨a, h1, _, _⟩ := R.mt i d he
    obtain ⟨_, _, x1, R1, r1⟩ := R.share he h1
    exact ⟨_, h1, k _ H _ _ d _ x1 R1 r1 q⟩
  · exact q.elim

theorem da_nil : DA X W [] mNil := paW pa_nil fun σ H Q ⟨F, M, env, Qd, QE, R, q, hx, k⟩ => k _ H F M _ env Ext.refl R .nil q
theorem da_cons (he : DE X W e f) (hr : DA X W es h) (hs : starEach (e :: es) X.env = (false, eval e X.env) :: starEach es X.env := by rfl) : DA X W (e :: es) (mCons f h) := paW (pa_cons he hr hs) fun σ H Q ⟨F, M, env, Qd, QE, R, q, hx, k⟩ => by
  refine ⟨F, M, env, _, QE, R, wpT_bind.mp q, hx, fun v H1 F1 M1 d env1 x1 R1 p1 q1 => ?_⟩
  refine ⟨F1, M1, env1, _, QE, R1, wpT_bind.mp q1, hx.mono x1, fun vs H2 F2 M2 ds env2 x2 R2 p2 q2 => ?_⟩
  exact k _ H2 F2 M2 _ env2 (x1.trans x2) R2 (.cons (p1.keeps (x2.keeps R1.sep)) p2) q2
theorem de_tup {x1} (hl : DA X W es h) : DE X W (.Tuple es x1 pos) (mTup fun env => (h env).bind fun (ds, e) => if ds.length ≤ sizeLine then .ret (ds, e) else .stuck) := peW (pe_tup hl) fun σ H Q ⟨F, M, env, Qd, QE, R, q, hx, k⟩ => by
  refine ⟨F, M, env, _, QE, R, wpT_bind.mp (wpT_bind.mp q), hx, fun vs H1 F1 M1 ds env1 x1 R1 p1 q1 => ?_⟩
  have q2 := q1
  dsimp only at q2
  split at q2
  · rename_i hle
    refine ⟨by rw [← p1.length]; exact hle, fun p hp => ?_⟩
    have g : Grow F1 H1 F1 (upd H1 p (.tup vs)) := Grow.laid hp
    exact k _ _ F1 M1 _ env1 (x1.trans g.ext) (R1.grow g) (.tup (.inl upd_same) (p1.keeps g.keeps)) q2
  · exact q2.elim
theorem de_op {op : Operator} {g2 : D → D → Option D} (ho : OpR X (binaryOp op) (rD2 X.prog X.w X.K g2)) (ha : DE X W a fa) (hb : DE X W b fb) : DE X W (.BinOp a op b pos) (m2 g2 fa fb) := peW (pe_op ho ha hb) fun σ H Q ⟨F, M, env, Qd, QE, R, q, hx, k⟩ => by
  refine ⟨F, M, env, _, QE, R, wpT_bind.mp q, hx, fun v H1 F1 M1 d env1 x1 R1 p1 q1 => ?_⟩
  refine ⟨F1, M1, env1, _, QE, R1, wpT_bind.mp q1, hx.mono x1, fun u H2 F2 M2 d2 env2 x2 R2 p2 q2 => ?_⟩
  obtain ⟨r, er, q3⟩ := wpT_of (wpT_bind.mp q2)
  exact ⟨F2, d, d2, r, p1.keeps (x2.keeps R1.sep), p2, er, fun v' F' H' g p => k v' H' F' M2 r env2 (x1.trans (x2.trans g.ext)) (R2.grow g) p q3⟩
theorem de_un {op : UnaryOp} {g1 : D → Option D} (ho : UnR X (unaryOp op) (rD1 X.prog X.w X.K g1)) (ha : DE X W a fa) : DE X W (.UnaryOp op a pos) (m1 g1 fa) := peW (pe_un ho ha) fun σ H Q ⟨F, M, env, Qd, QE, R, q, hx, k⟩ => by
  refine ⟨F, M, env, _, QE, R, wpT_bind.mp q, hx, fun v H1 F1 M1 d env1 x1 R1 p1 q1 => ?_⟩
  obtain ⟨r, er, q3⟩ := wpT_of (wpT_bind.mp q1)
  exact ⟨F1, d, r, p1, er, fun v' F' H' g p => k v' H' F' M1 r env1 (x1.trans g.ext) (R1.grow g) p q3⟩
theorem de_cmp {op : CmpOp} {g2 : D → D → Option D} (ho : OpR X (compareOp op) (rD2 X.prog X.w X.K g2)) (ha : DE X W a fa) (hb : DE X W b fb) (hm : behindInMarks op b = false) : DE X W (.Compare a [op] [b] pos) (m2 g2 fa fb) := peW (pe_cmpR ho ha hb hm) fun σ H Q ⟨F, M, env, Qd, QE, R, q, hx, k⟩ => by
  refine ⟨F, M, env, _, QE, R, wpT_bind.mp q, hx, fun v H1 F1 M1 d env1 x1 R1 p1 q1 => ?_⟩
  refine ⟨F1, M1, env1, _, QE, R1, wpT_bind.mp q1, hx.mono x1, fun u H2 F2 M2 d2 env2 x2 R2 p2 q2 => ?_⟩
  obtain ⟨r, er, q3⟩ := wpT_of (wpT_bind.mp q2)
  exact ⟨F2, d, d2, r, p1.keeps (x2.keeps R1.sep), p2, er, fun v' F' H' g p => k v' H' F' M2 r env2 (x1.trans (x2.trans g.ext)) (R2.grow g) p q3⟩
/-- a comparison as a test -/
theorem dt_cmp {op : CmpOp} {g2 : D → D → Option D} (ho : OpR X (compareOp op) (rD2 X.prog X.w X.K g2)) (ha : DE X W a fa) (hb : DE X W b fb) (hm : behindInMarks op b = false) : DT X W (.Compare a [op] [b] pos) (mTest isBl (m2 g2 fa fb)) := ptW (pt_cmpR ho ha hb hm) fun σ H Q ⟨F, M, env, Qd, QE, R, q, hx, k⟩ => by
  refine ⟨F, M, env, _, QE, R, wpT_bind.mp (wpT_bind.mp q), hx, fun v H1 F1 M1 d env1 x1 R1 p1 q1 => ?_⟩
  refine ⟨F1, M1, env1, _, QE, R1, wpT_bind.mp q1, hx.mono x1, fun u H2 F2 M2 d2 env2 x2 R2 p2 q2 => ?_⟩
  obtain ⟨r, er, q3⟩ := wpT_of (wpT_bind.mp q2)
  obtain ⟨kb, ek, q4⟩ := wpT_of (wpT_bind.mp q3)
  cases r <;> cases ek
  refine ⟨F2, d, d2, _, p1.keeps (x2.keeps R1.sep), p2, er, fun v' F' H' g p => ?_⟩
  cases p
  exact ⟨_, rfl, k _ H' F' M2 env2 (x1.trans (x2.trans g.ext)) (R2.grow g) q4⟩
theorem de_ifExp {tc : MB} (hc : DT X W c tc) (ha : DE X W a fa) (hb : DE X W b fb) : DE X W (.IfExp c a b pos) (mIf tc fa fb) := peW (pe_ifExp hc ha hb) fun σ H Q ⟨F, M, env, Qd, QE, R, q, hx, k⟩ => by
  refine ⟨F, M, env, _, QE, R, wpT_bind.mp q, hx, fun t H1 F1 M1 env1 x1 R1 q1 => ?_⟩
  have kk : ∀ (v : V) (H' : Hp) (F' M' : Addr → Prop) (d : D) (env' : Env), Ext F1 M1 H1 F' M' H' → Rel X.prog X.w X.K F' M' H' env' σ → Rep X.prog X.w X.K F' H' d v → Qd (d, env') → Q v H' := fun v H' F' M' d env' x2 => k v H' F' M' d env' (x1.trans x2)
  cases t with
  | true => exact ⟨F1, M1, env1, Qd, QE, R1, q1, hx.mono x1, kk⟩
  | false => exact ⟨F1, M1, env1, Qd, QE, R1, q1, hx.mono x1, kk⟩
end
end DL
set_option Elab.async false
set_option linter.all false
set_option maxRecDepth 100000
set_option autoImplicit false
set_option maxHeartbeats 1000000
/-! The data layer, part 3: more expressions. -/
namespace DL
open PySem PySem.Spec PyProof.Rows L2
section
variable {X : Cx} {W : WX} {e a b c : Expr} {es rest : List Expr} {f g fa fb fc : MD} {h fl : ML} {ba bb : MB} {pos : Pos}
/-! ### and, or, not -/
theorem de_one {op} (ha : DE X W a fa) : DE X W (.BoolOp op [a] pos) fa := peW (pe_one ha) fun _ _ _ q => q
theorem de_and (ha : DE X W a fa) (hb : DE X W (.BoolOp .And (b :: rest) pos) fb) : DE X W (.BoolOp .And (a :: b :: rest) pos) (mAndV fa fb) := peW (pe_and ha hb) fun σ H Q ⟨F, M, env, Qd, QE, R, q, hx, k⟩ => by
  refine ⟨F, M, env, _, QE, R, wpT_bind.mp q, hx, fun v H1 F1 M1 d env1 x1 R1 p1 q1 => ?_⟩
  cases d with
  | bl t =>
    cases p1
    refine ⟨t, rfl, ?_⟩
    cases t with
    | true => exact ⟨F1, M1, env1, Qd, QE, R1, q1, hx.mono x1, fun v H' F' M' d env' x2 => k v H' F' M' d env' (x1.trans x2)⟩
    | false => exact k _ _ _ _ _ _ x1 R1 (.bl false) q1
  | _ => exact q1.elim
theorem de_or (ha : DE X W a fa) (hb : DE X W (.BoolOp .Or (b :: rest) pos) fb) : DE X W (.BoolOp .Or (a :: b :: rest) pos) (mOrV fa fb) := peW (pe_or ha hb) fun σ H Q ⟨F, M, env, Qd, QE, R, q, hx, k⟩ => by
  refine ⟨F, M, env, _, QE, R, wpT_bind.mp q, hx, fun v H1 F1 M1 d env1 x1 R1 p1 q1 => ?_⟩
  cases d with
  | bl t =>
    cases p1
    refine ⟨t, rfl, ?_⟩
    cases t with
    | true => exact k _ _ _ _ _ _ x1 R1 (.bl true) q1
    | false => exact ⟨F1, M1, env1, Qd, QE, R1, q1, hx.mono x1, fun v H' F' M' d env' x2 => k v H' F' M' d env' (x1.trans x2)⟩
  | _ => exact q1.elim
def gNot : D → Option D
  | .bl b => some (.bl (!b))
  | _ => none
theorem de_not (ha : DE X W a fa) : DE X W (.UnaryOp .Not a pos) (m1 gNot fa) := peW (pe_not ha) fun σ H Q ⟨F, M, env, Qd, QE, R, q, hx, k⟩ => by
  refine ⟨F, M, env, _, QE, R, wpT_bind.mp q, hx, fun v H1 F1 M1 d env1 x1 R1 p1 q1 => ?_⟩
  obtain ⟨r, er, q3⟩ := wpT_of (wpT_bind.mp q1)
  cases d <;> cases er
  cases p1
  exact ⟨_, rfl, k _ _ _ _ _ _ x1 R1 (.bl _) q3⟩
theorem dw_and1 (ha : DT X W a ba) : DW X W (.BoolOp .And [a] pos) ba := pw_and1 ha
theorem dw_or1 (ha : DT X W a ba) : DW X W (.BoolOp .Or [a] pos) ba := pw_or1 ha
theorem dw_and (ha : DT X W a ba) (hb : DW X W (.BoolOp .And (b :: rest) pos) bb) : DW X W (.BoolOp .And (a :: b :: rest) pos) (mAnd ba bb) := pwW (pw_and ha hb) fun σ H Q ⟨F, M, env, Qd, QE, R, q, hx, k⟩ => by
  refine ⟨F, M, env, _, QE, R, wpT_bind.mp q, hx, fun t H1 F1 M1 env1 x1 R1 q1 => ?_⟩
  cases t with
  | true => exact ⟨F1, M1, env1, Qd, QE, R1, q1, hx.mono x1, fun v H' F' M' env' x2 => k v H' F' M' env' (x1.trans x2)⟩
  | false => exact k _ _ _ _ _ x1 R1 q1
theorem dw_or (ha : DT X W a ba) (hb : DW X W (.BoolOp .Or (b :: rest) pos) bb) : DW X W (.BoolOp .Or (a :: b :: rest) pos) (mOr ba bb) := pwW (pw_or ha hb) fun σ H Q ⟨F, M, env, Qd, QE, R, q, hx, k⟩ => by
  refine ⟨F, M, env, _, QE, R, wpT_bind.mp q, hx, fun t H1 F1 M1 env1 x1 R1 q1 => ?_⟩
  cases t with
  | true => exact k _ _ _ _ _ x1 R1 q1
  | false => exact ⟨F1, M1, env1, Qd, QE, R1, q1, hx.mono x1, fun v H' F' M' env' x2 => k v H' F' M' env' (x1.trans x2)⟩
theorem dt_w (ha : DW X W a ba) : DT X W a ba := ha.pt
theorem dt_not (ha : DT X W a ba) : DT X W (.UnaryOp .Not a pos) (mNot ba) := ptW (pt_not ha) fun σ H Q ⟨F, M, env, Qd, QE, R, q, hx, k⟩ =>
  ⟨F, M, env, _, QE, R, wpT_bind.mp q, hx, fun t H1 F1 M1 env1 x1 R1 q1 => k _ _ _ _ _ x1 R1 q1⟩
/-! ### truth -/
def gTru : D → Option Bool
  | .non => some false
  | .bl b => some b
  | .int i => some (i != 0)
  | .str x => if x.length ≤ sizeLine then some ((x.length : Int) != 0) else none
  | .tup xs => some (!xs.isEmpty)
  | .lst xs => some (!xs.isEmpty)
  | _ => none
theorem RepL.empty {P : Program} {w : World} {K : PySem.W.Frag} {F : Addr → Prop} {H : Hp} {ds : List D} {vs : List V} (r : RepL P w K F H ds vs) : ds.isEmpty = vs.isEmpty := by cases r <;> rfl
theorem gTru_ok {P : Program} {w : World} {K : PySem.W.Frag} {F : Addr → Prop} {H : Hp} {d : D} {v : V} {t : Bool} (r : Rep P w K F H d v) (h : gTru d = some t) : TruV K v H t := by
  cases r with
  | non => cases h; rfl
  | bl b => cases h; rfl
  | int i => cases h; rfl
  | str x =>
    unfold gTru at h
    dsimp only at h
    split at h
    · rename_i hl
      cases h
      exact ⟨hl, rfl⟩
    · cases h
  | tup h1 h2 => cases h; exact .inr (.inl ⟨_, h1.sq, by rw [h2.empty]⟩)
  | lst h0 h1 h2 => cases h; exact .inl ⟨_, .inl (.inl h1), by rw [h2.empty]⟩
  | _ => cases h
theorem dt_val (ha : DE X W a fa) (he : ∀ whole, isTrue a X.env whole = (do let v ← whole; standAt a.pos; holding [v] (truthy v)) := by intro _; rfl) : DT X W a (mTest gTru fa) := ptW (pt_truth ha he) fun σ H Q ⟨F, M, env, Qd, QE, R, q, hx, k⟩ => by
  refine ⟨F, M, env, _, QE, R, wpT_bind.mp q, hx, fun v H1 F1 M1 d env1 x1 R1 p1 q1 => ?_⟩
  obtain ⟨t, et, q2⟩ := wpT_of (wpT_bind.mp q1)
  exact ⟨t, gTru_ok p1 et, k _ _ _ _ _ x1 R1 q2⟩
/-! ### chains -/
theorem de_chain {op op' : CmpOp} {g1 g2 : D → D → Option D} (ho : OpR X (compareOp op) (rD2 X.prog X.w X.K g1)) (ho' : OpR X (compareOp op') (rD2 X.prog X.w X.K g2)) (ha : DE X W a fa) (hb : DE X W b fb) (hc : DE X W c fc) (hmk : lastMarks [op, op'] [b, c] = false := by rfl) :
    DE X W (.Compare a [op, op'] [b, c] pos) (mChain g1 g2 fa fb fc) := peW (pe_chain ho ho' ha hb hc hmk) fun σ H Q ⟨F, M, env, Qd, QE, R, q, hx, k⟩ => by
  refine ⟨F, M, env, _, QE, R, wpT_bind.mp q, hx, fun v H1 F1 M1 d env1 x1 R1 p1 q1 => ?_⟩
  refine ⟨F1, M1, env1, _, QE, R1, wpT_bind.mp q1, hx.mono x1, fun u H2 F2 M2 d2 env2 x2 R2 p2 q2 => ?_⟩
  obtain ⟨r, er, q3⟩ := wpT_of (wpT_bind.mp q2)
  refine ⟨F2, d, d2, r, p1.keeps (x2.keeps R1.sep), p2, er, fun v' F3 H3 g p => ?_⟩
  have x3 := x1.trans (x2.trans (g.ext (M := M2)))
  have R3 := R2.grow g
  cases r with
  | bl t =>
    cases p
    refine ⟨t, rfl, ?_⟩
    cases t with
    | true =>
      refine ⟨F3, M2, env2, _, QE, R3, wpT_bind.mp q3, hx.mono x3, fun u4 H4 F4 M4 d4 env4 x4 R4 p4 q4 => ?_⟩
      obtain ⟨r5, er5, q5⟩ := wpT_of (wpT_bind.mp q4)
      exact ⟨F4, d2, d4, r5, (p2.keeps g.keeps).keeps (x4.keeps R3.sep), p4, er5, fun v' F' H' g' p' => k v' H' F' M4 r5 env4 (x3.trans (x4.trans g'.ext)) (R4.grow g') p' q5⟩
    | false => exact k _ _ _ _ _ _ x3 R3 (.bl false) q3
  | _ => exact q3.elim
theorem dt_chain {op op' : CmpOp} {g1 g2 : D → D → Option D} (ho : OpR X (compareOp op) (rD2 X.prog X.w X.K g1)) (ho' : OpR X (compareOp op') (rD2 X.prog X.w X.K g2)) (ha : DE X W a fa) (hb : DE X W b fb) (hc : DE X W c fc) (hmk : lastMarks [op, op'] [b, c] = false := by rfl) :
    DT X W (.Compare a [op, op'] [b, c] pos) (mTest isBl (mChain g1 g2 fa fb fc)) := ptW (pt_chain ho ho' ha hb hc hmk) fun σ H Q ⟨F, M, env, Qd, QE, R, q, hx, k⟩ => by
  refine ⟨F, M, env, _, QE, R, wpT_bind.mp (wpT_bind.mp q), hx, fun v H1 F1 M1 d env1 x1 R1 p1 q1 => ?_⟩
  refine ⟨F1, M1, env1, _, QE, R1, wpT_bind.mp q1, hx.mono x1, fun u H2 F2 M2 d2 env2 x2 R2 p2 q2 => ?_⟩
  obtain ⟨r, er, q3⟩ := wpT_of (wpT_bind.mp q2)
  refine ⟨F2, d, d2, r, p1.keeps (x2.keeps R1.sep), p2, er, fun v' F3 H3 g p => ?_⟩
  have x3 := x1.trans (x2.trans (g.ext (M := M2)))
  have R3 := R2.grow g
  cases r with
  | bl t =>
    cases p
    refine ⟨t, rfl, ?_⟩
    cases t with
    | true =>
      refine ⟨F3, M2, env2, _, QE, R3, wpT_bind.mp q3, hx.mono x3, fun u4 H4 F4 M4 d4 env4 x4 R4 p4 q4 => ?_⟩
      obtain ⟨r5, er5, q5⟩ := wpT_of (wpT_bind.mp q4)
      obtain ⟨kb, ek, q6⟩ := wpT_of (wpT_bind.mp q5)
      refine ⟨F4, d2, d4, r5, (p2.keeps g.keeps).keeps (x4.keeps R3.sep), p4, er5, fun v' F' H' g' p' => ?_⟩
      cases r5 <;> cases ek
      cases p'
      exact ⟨_, rfl, k _ H' F' M4 env4 (x3.trans (x4.trans g'.ext)) (R4.grow g') q6⟩
    | false =>
      obtain ⟨kb, ek, q6⟩ := wpT_of (wpT_bind.mp q3)
      cases ek
      exact ⟨false, rfl, k _ _ _ _ _ x3 R3 q6⟩
  | _ => exact q3.elim
/-! ### calls of built-in functions and types -/
theorem de_callB {x : Str} {p : Pos} {id : String} {gs : List D → Option D} (hc : CallR X (.builtin id) (rDs X.prog X.w X.K gs)) (hg : Gl X x) (hm : X.mg x = none) (ha : DA X W (e :: es) h) (hv : bootBuiltins x = some (.builtin id) := by decide +kernel) (hn : x ≠ "__name__" := by decide) (hdb : (x == ("__debug__" : Str)) = false := by decide)
    (he : starEach (e :: es) X.env = (false, eval e X.env) :: starEach es X.env := by rfl) (hpl : (backTo pos (starEach es X.env)).any (·.1) = false := by rfl) : DE X W (.Call (.Name x p) (e :: es) [] pos) (mS gs h) := peW (pe_callB hc hg hm hv ha hn hdb he hpl) fun σ H Q ⟨F, M, env, Qd, QE, R, q, hx, k⟩ => by
  refine ⟨F, M, env, _, QE, R, wpT_bind.mp q, hx, fun vs H1 F1 M1 ds env1 x1 R1 p1 q1 => ?_⟩
  obtain ⟨r, er, q2⟩ := wpT_of (wpT_bind.mp q1)
  exact ⟨F1, ds, r, p1, er, fun v' F' H' g p => k v' H' F' M1 r env1 (x1.trans g.ext) (R1.grow g) p q2⟩
theorem de_callTy {x : Str} {p : Pos} {id : String} {gs : List D → Option D} (hc : CallR X (.type id) (rDs X.prog X.w X.K gs)) (hg : Gl X x) (hm : X.mg x = none) (ha : DA X W (e :: es) h) (hv : bootBuiltins x = some (.type id) := by decide +kernel) (hn : x ≠ "__name__" := by decide) (hdb : (x == ("__debug__" : Str)) = false := by decide)
    (he : starEach (e :: es) X.env = (false, eval e X.env) :: starEach es X.env := by rfl) (hpl : (backTo pos (starEach es X.env)).any (·.1) = false := by rfl) : DE X W (.Call (.Name x p) (e :: es) [] pos) (mS gs h) := peW (pe_callTy hc hg hm hv ha hn hdb he hpl) fun σ H Q ⟨F, M, env, Qd, QE, R, q, hx, k⟩ => by
  refine ⟨F, M, env, _, QE, R, wpT_bind.mp q, hx, fun vs H1 F1 M1 ds env1 x1 R1 p1 q1 => ?_⟩
  obtain ⟨r, er, q2⟩ := wpT_of (wpT_bind.mp q1)
  exact ⟨F1, ds, r, p1, er, fun v' F' H' g p => k v' H' F' M1 r env1 (x1.trans g.ext) (R1.grow g) p q2⟩
/-! ### subscripts and slices -/
theorem de_ix {g2 : D → D → Option D} (hr : IxR X (rD2 X.prog X.w X.K g2)) (ha : DE X W a fa) (hb : DE X W b fb) (hs : PlainIx b := by intro _ _; rfl) : DE X W (.Subscript a b pos) (m2 g2 fa fb) := peW (pe_ix hr ha hb hs) fun σ H Q ⟨F, M, env, Qd, QE, R, q, hx, k⟩ => by
  refine ⟨F, M, env, _, QE, R, wpT_bind.mp q, hx, fun v H1 F1 M1 d env1 x1 R1 p1 q1 => ?_⟩
  refine ⟨F1, M1, env1, _, QE, R1, wpT_bind.mp q1, hx.mono x1, fun u H2 F2 M2 d2 env2 x2 R2 p2 q2 => ?_⟩
  obtain ⟨r, er, q3⟩ := wpT_of (wpT_bind.mp q2)
  exact ⟨F2, d, d2, r, p1.keeps (x2.keeps R1.sep), p2, er, fun v' F' H' g p => k v' H' F' M2 r env2 (x1.trans (x2.trans g.ext)) (R2.grow g) p q3⟩
abbrev MO := Env → T (Option Int × Env)
def tDO (P : Program) (w : World) (K : PySem.W.Frag) (mg : Str → Option Value) (W : WX) (f : MO) : TO := fun σ H Q => ∃ (F M : Addr → Prop) (env : Env) (Qd : Option Int × Env → Prop) (QE : Str → Env → Prop), Rel P w K F M H env σ ∧ wpT (f env) Qd QE ∧ ExOk P w K mg W F M H QE ∧
  ∀ (o : Option Int) (H' : Hp) (F' M' : Addr → Prop) (env' : Env), Ext F M H F' M' H' → Rel P w K F' M' H' env' σ → Qd (o, env') → Q o H'
def DO (X : Cx) (W : WX) (e : Option Expr) (f : MO) : Prop := PO X e (tDO X.prog X.w X.K X.mg W f)
def moNone : MO := fun env => .ret (none, env)
def moSome (f : MD) : MO := fun env => (f env).bind fun (d, e) => match d with
  | .int i => .ret (some i, e)
  | _ => .stuck
theorem do_none : DO X W none moNone := ⟨fun pins s σ H Q I ⟨F, M, env, Qd, QE, R, q, hx, k⟩ => (po_none (X := X)).run pins s σ H Q I (k _ _ _ _ _ Ext.refl R q)⟩
theorem do_some (he : DE X W e f) : DO X W (some e) (moSome f) := ⟨fun pins s σ H Q I ⟨F, M, env, Qd, QE, R, q, hx, k⟩ => (po_some he).run pins s σ H Q I (by
  refine ⟨F, M, env, _, QE, R, wpT_bind.mp q, hx, fun v H1 F1 M1 d env1 x1 R1 p1 q1 => ?_⟩
  cases d with
  | int i =>
    cases p1
    exact ⟨i, rfl, k _ _ _ _ _ x1 R1 q1⟩
  | _ => exact q1.elim)⟩
def rDsl (P : Program) (w : World) (K : PySem.W.Frag) (g : D → Option Int → Option Int → Option D) : V → Option Int → Option Int → Hp → VK → Prop := fun x lo hi H Q => ∃ (F : Addr → Prop) (dx d : D), Rep P w K F H dx x ∧ g dx lo hi = some d ∧
  ∀ (v : V) (F' : Addr → Prop) (H' : Hp), Grow F H F' H' → Rep P w K F' H' d v → Q v H'
def mSl (g : D → Option Int → Option Int → Option D) (f : MD) (lo hi : MO) : MD := fun env => (f env).bind fun (d, e) => (lo e).bind fun (l, e2) => (hi e2).bind fun (u, e3) => (T.of (g d l u)).bind fun r => .ret (r, e3)
theorem de_sl {lo hi : Option Expr} {fl fu : MO} {p2 : Pos} {gs : D → Option Int → Option Int → Option D} (hr : SlR X (rDsl X.prog X.w X.K gs)) (he : DE X W e f) (hl : DO X W lo fl) (hu : DO X W hi fu) : DE X W (.Subscript e (.Slice lo hi none p2) pos) (mSl gs f fl fu) := peW (pe_slice hr he hl hu) fun σ H Q ⟨F, M, env, Qd, QE, R, q, hx, k⟩ => by
  refine ⟨F, M, env, _, QE, R, wpT_bind.mp q, hx, fun v H1 F1 M1 d env1 x1 R1 p1 q1 => ?_⟩
  refine ⟨F1, M1, env1, _, QE, R1, wpT_bind.mp q1, hx.mono x1, fun l H2 F2 M2 env2 x2 R2 q2 => ?_⟩
  refine ⟨F2, M2, env2, _, QE, R2, wpT_bind.mp q2, hx.mono (x1.trans x2), fun u H3 F3 M3 env3 x3 R3 q3 => ?_⟩
  obtain ⟨r, er, q4⟩ := wpT_of (wpT_bind.mp q3)
  exact ⟨F3, d, r, (p1.keeps (x2.keeps R1.sep)).keeps (x3.keeps R2.sep), er, fun v' F' H' g p => k v' H' F' M3 r env3 (x1.trans (x2.trans (x3.trans g.ext))) (R3.grow g) p q4⟩
/-! ### methods of texts -/
def mSM0 (g : Str → Option D) (f : MD) : MD := fun env => (f env).bind fun (d, e) => match d with
  | .str x => (T.of (g x)).bind fun r => .ret (r, e)
  | _ => .stuck
def mSM1 (g : Str → D → Option D) (f h : MD) : MD := fun env => (f env).bind fun (d, e) => match d with
  | .str x => (h e).bind fun (y, e2) => (T.of (g x y)).bind fun r => .ret (r, e2)
  | _ => .stuck
/-- a method of a text with one argument, by values -/
def rSM1 (P : Program) (w : World) (K : PySem.W.Frag) (g : Str → D → Option D) : V → List V → Hp → VK → Prop := fun x xs H Q => ∃ (F : Addr → Prop) (s : Str) (y : V) (dy d : D), x = .str s ∧ xs = [y] ∧ Rep P w K F H dy y ∧ g s dy = some d ∧
  ∀ (v : V) (F' : Addr → Prop) (H' : Hp), Grow F H F' H' → Rep P w K F' H' d v → Q v H'
theorem de_sm1 {o : Expr} {name : Str} {id : String} {apos : Pos} {g1 : Str → D → Option D} (slot : Slot "str" name id) (rule : MtR X id (rSM1 X.prog X.w X.K g1)) (ho : DE X W o fa) (he : DE X W e f)
    (ty : typeOf (.builtin id) = pure (.type "method_descriptor") := by rfl) (hbase : attributeBase o name X.env (eval o X.env) = eval o X.env := by rfl) (hline : (apos.endLine == pos.line) = true := by rfl) (hs : starEach [e] X.env = [(false, eval e X.env)] := by rfl) :
    DE X W (.Call (.Attribute o name apos) [e] [] pos) (mSM1 g1 fa f) := peW (pe_m1 slot ty rule ho he hs hbase hline) fun σ H Q ⟨F, M, env, Qd, QE, R, q, hx, k⟩ => by
  refine ⟨F, M, env, _, QE, R, wpT_bind.mp q, hx, fun v H1 F1 M1 d env1 x1 R1 p1 q1 => ?_⟩
  cases d with
  | str x =>
    cases p1
    refine ⟨⟨x, rfl⟩, F1, M1, env1, _, QE, R1, wpT_bind.mp q1, hx.mono x1, fun u H2 F2 M2 d2 env2 x2 R2 p2 q2 => ?_⟩
    obtain ⟨r, er, q3⟩ := wpT_of (wpT_bind.mp q2)
    exact ⟨F2, x, u, d2, r, rfl, rfl, p2, er, fun v' F' H' g p => k v' H' F' M2 r env2 (x1.trans (x2.trans g.ext)) (R2.grow g) p q3⟩
  | _ => exact q1.elim
end
end DL
set_option Elab.async false
set_option linter.all false
set_option maxRecDepth 100000
set_option autoImplicit false
set_option maxHeartbeats 1000000
/-! The data layer, part 4: operations. -/
namespace DL
open PySem PySem.Spec PyProof.Rows L2
section
variable {P : Program} {w : World} {K : PySem.W.Frag} {F : Addr → Prop} {H : Hp}
def toI : List D → Option (List Int)
  | [] => some []
  | .int i :: r => (toI r).map (i :: ·)
  | _ => none
def toB : List D → Option (List Bool)
  | [] => some []
  | .bl i :: r => (toB r).map (i :: ·)
  | _ => none
def toS : List D → Option (List Str)
  | [] => some []
  | .str i :: r => (toS r).map (i :: ·)
  | _ => none
theorem toI_ok : ∀ {ds : List D} {vs : List V} {ns : List Int}, RepL P w K F H ds vs → toI ds = some ns → vs = ns.map V.int
  | _, _, _, .nil, e => by cases e; rfl
  | _, _, _, .cons (d := d) a r, e => by
    cases a with
    | int i =>
      obtain ⟨ns, h1, h2⟩ := Option.map_eq_some_iff.mp (show (toI _).map (i :: ·) = some _ from e)
      rw [← h2, toI_ok r h1]
      rfl
    | _ => cases e
theorem toB_ok : ∀ {ds : List D} {vs : List V} {ns : List Bool}, RepL P w K F H ds vs → toB ds = some ns → vs = ns.map V.bl
  | _, _, _, .nil, e => by cases e; rfl
  | _, _, _, .cons (d := d) a r, e => by
    cases a with
    | bl i =>
      obtain ⟨ns, h1, h2⟩ := Option.map_eq_some_iff.mp (show (toB _).map (i :: ·) = some _ from e)
      rw [← h2, toB_ok r h1]
      rfl
    | _ => cases e
theorem toS_ok : ∀ {ds : List D} {vs : List V} {ns : List Str}, RepL P w K F H ds vs → toS ds = some ns → vs = ns.map V.str
  | _, _, _, .nil, e => by cases e; rfl
  | _, _, _, .cons (d := d) a r, e => by
    cases a with
    | str i =>
      obtain ⟨ns, h1, h2⟩ := Option.map_eq_some_iff.mp (show (toS _).map (i :: ·) = some _ from e)
      rw [← h2, toS_ok r h1]
      rfl
    | _ => cases e
mutual
/-- as the library's data -/
def py : D → PyData
  | .non => .none
  | .bl b => .bool b
  | .int i => .int i
  | .str x => .str x
  | .tup xs => .tuple (pys xs)
  | .lst xs => .list (pys xs)
  | _ => .dict []
def pys : List D → List PyData
  | [] => []
  | d :: r => py d :: pys r
end
mutual
/-- none, bools, toI, texts, tuples and lists of these -/
def plain : D → Bool
  | .tup xs => plains xs
  | .lst xs => plains xs
  | .dct _ _ => false
  | .tape => false
  | .scr _ => false
  | .cel _ _ => false
  | _ => true
def plains : List D → Bool
  | [] => true
  | d :: r => plain d && plains r
end
mutual
theorem Rep.dp : ∀ {d : D} {v : V}, Rep P w K F H d v → plain d = true → Dp K H v (py d)
  | _, _, .non, _ => .non
  | _, _, .bl b, _ => .bl b
  | _, _, .int i, _ => .int i
  | _, _, .str s, _ => .str s
  | _, _, .tup h r, p => .tup h.sq (r.dp p)
  | _, _, .lst f h r, p => .lst (.inl (.inl h)) (r.dp p)
  | _, _, .dk .., p => by cases p
  | _, _, .dt .., p => by cases p
  | _, _, .tape .., p => by cases p
  | _, _, .scr .., p => by cases p
  | _, _, .cel .., p => by cases p
  | _, _, .scrK .., p => by cases p
theorem RepL.dp : ∀ {ds : List D} {vs : List V}, RepL P w K F H ds vs → plains ds = true → DpAll K H vs (pys ds)
  | _, _, .nil, _ => .nil
  | _, _, .cons a r, p => by
    have p' : (plain _ && plains _) = true := p
    rw [Bool.and_eq_true] at p'
    exact .cons (a.dp p'.1) (r.dp p'.2)
end
/-- data that == may be asked of -/
def eqOk (d : D) : Bool := plain d && SeqAt.shaped (py d)
def dEqB : D → D → Option Bool
  | .int i, .int j => some (decide (i = j))
  | .str x, .str y => some (decide (x = y))
  | .bl x, .bl y => some (decide (x = y))
  | x, y => if eqOk x && eqOk y then some (PyData.eqv (py x) (py y)) else none
def dEq (x y : D) : Option D := (dEqB x y).map .bl
def dNe (x y : D) : Option D := (dEqB x y).map fun b => .bl (!b)
end
section
variable {X : Cx} {k : Nat}
theorem dec_vint {i j : Int} : decide (V.int i = V.int j) = decide (i = j) := by
  by_cases h : i = j
  · subst h; simp
  · rw [decide_eq_false h, decide_eq_false (fun e => h (V.int.inj e))]
theorem dec_vstr {i j : Str} : decide (V.str i = V.str j) = decide (i = j) := by
  by_cases h : i = j
  · subst h; simp
  · rw [decide_eq_false h, decide_eq_false (fun e => h (V.str.inj e))]
theorem dec_vbl {i j : Bool} : decide (V.bl i = V.bl j) = decide (i = j) := by
  by_cases h : i = j
  · subst h; simp
  · rw [decide_eq_false h, decide_eq_false (fun e => h (V.bl.inj e))]
theorem dop_eq (hu : X.A.units + 64 < cLine) : OpR X (compareOp .Eq) (rD2 X.prog X.w X.K dEq) := by
  intro pins s σ H x y v u Q I rx ry ⟨F, dx, dy, d, px, py_, e, q⟩
  obtain ⟨t, e', rfl⟩ := Option.map_eq_some_iff.mp e
  clear e
  have e := e'
  have q := q (.bl t) F H Grow.refl (.bl t)
  unfold dEqB at e
  split at e
  · cases px; cases py_; cases e
    exact op_eq pins s σ H _ _ v u Q I rx ry ⟨rfl, by rw [dec_vint]; exact q⟩
  · cases px; cases py_; cases e
    exact op_eq pins s σ H _ _ v u Q I rx ry ⟨rfl, by rw [dec_vstr]; exact q⟩
  · cases px; cases py_; cases e
    exact op_eq pins s σ H _ _ v u Q I rx ry ⟨rfl, by rw [dec_vbl]; exact q⟩
  · split at e
    · rename_i hk
      rw [Bool.and_eq_true] at hk
      unfold eqOk at hk
      rw [Bool.and_eq_true, Bool.and_eq_true] at hk
      cases e
      exact op_eqD hu pins s σ H x y v u Q I rx ry ⟨_, _, px.dp hk.1.1, py_.dp hk.2.1, hk.1.2, hk.2.2, q⟩
    · cases e
theorem dop_ne (hu : X.A.units + 64 < cLine) : OpR X (compareOp .NotEq) (rD2 X.prog X.w X.K dNe) := by
  intro pins s σ H x y v u Q I rx ry ⟨F, dx, dy, d, px, py_, e, q⟩
  obtain ⟨t, e', rfl⟩ := Option.map_eq_some_iff.mp e
  clear e
  have e := e'
  have q := q (.bl (!t)) F H Grow.refl (.bl _)
  unfold dEqB at e
  split at e
  · cases px; cases py_; cases e
    exact op_ne pins s σ H _ _ v u Q I rx ry ⟨rfl, by rw [dec_vint]; exact q⟩
  · cases px; cases py_; cases e
    exact op_ne pins s σ H _ _ v u Q I rx ry ⟨rfl, by rw [dec_vstr]; exact q⟩
  · cases px; cases py_; cases e
    exact op_ne pins s σ H _ _ v u Q I rx ry ⟨rfl, by rw [dec_vbl]; exact q⟩
  · split at e
    · rename_i hk
      rw [Bool.and_eq_true] at hk
      unfold eqOk at hk
      rw [Bool.and_eq_true, Bool.and_eq_true] at hk
      cases e
      exact op_neD hu pins s σ H x y v u Q I rx ry ⟨_, _, px.dp hk.1.1, py_.dp hk.2.1, hk.1.2, hk.2.2, q⟩
    · cases e
/-! ### order of numbers -/
def dLt : D → D → Option D
  | .int i, .int j => some (.bl (decide (i < j)))
  | _, _ => none
def dLe : D → D → Option D
  | .int i, .int j => some (.bl (decide (i ≤ j)))
  | _, _ => none
def dGt : D → D → Option D
  | .int i, .int j => some (.bl (decide (j < i)))
  | _, _ => none
def dGe : D → D → Option D
  | .int i, .int j => some (.bl (decide (j ≤ i)))
  | _, _ => none
theorem dop_lt : OpR X (compareOp .Lt) (rD2 X.prog X.w X.K dLt) := by
  intro pins s σ H x y v u Q I rx ry ⟨F, dx, dy, d, px, py_, e, q⟩
  unfold dLt at e
  split at e
  · cases px; cases py_; cases e
    exact op_lt pins s σ H _ _ v u Q I rx ry ⟨_, _, rfl, rfl, q _ _ _ Grow.refl (.bl _)⟩
  · cases e
theorem dop_le : OpR X (compareOp .LtE) (rD2 X.prog X.w X.K dLe) := by
  intro pins s σ H x y v u Q I rx ry ⟨F, dx, dy, d, px, py_, e, q⟩
  unfold dLe at e
  split at e
  · cases px; cases py_; cases e
    exact op_le pins s σ H _ _ v u Q I rx ry ⟨_, _, rfl, rfl, q _ _ _ Grow.refl (.bl _)⟩
  · cases e
theorem dop_gt : OpR X (compareOp .Gt) (rD2 X.prog X.w X.K dGt) := by
  intro pins s σ H x y v u Q I rx ry ⟨F, dx, dy, d, px, py_, e, q⟩
  unfold dGt at e
  split at e
  · cases px; cases py_; cases e
    exact op_gt pins s σ H _ _ v u Q I rx ry ⟨_, _, rfl, rfl, q _ _ _ Grow.refl (.bl _)⟩
  · cases e
theorem dop_ge : OpR X (compareOp .GtE) (rD2 X.prog X.w X.K dGe) := by
  intro pins s σ H x y v u Q I rx ry ⟨F, dx, dy, d, px, py_, e, q⟩
  unfold dGe at e
  split at e
  · cases px; cases py_; cases e
    exact op_ge pins s σ H _ _ v u Q I rx ry ⟨_, _, rfl, rfl, q _ _ _ Grow.refl (.bl _)⟩
  · cases e
def isNon : D → Bool
  | .non => true
  | _ => false
def dIsN : D → D → Option D
  | x, .non => some (.bl (isNon x))
  | _, _ => none
def dNotN : D → D → Option D
  | x, .non => some (.bl (!isNon x))
  | _, _ => none
theorem rep_non {P : Program} {w : World} {K : PySem.W.Frag} {F : Addr → Prop} {H : Hp} {d : D} {v : V} (r : Rep P w K F H d v) : decide (v = .non) = isNon d := by cases r <;> rfl
theorem dop_isN : OpR X (compareOp .Is) (rD2 X.prog X.w X.K dIsN) := by
  intro pins s σ H x y v u Q I rx ry ⟨F, dx, dy, d, px, py_, e, q⟩
  unfold dIsN at e
  split at e
  · cases py_; cases e
    refine op_isN pins s σ H _ _ v u Q I rx ry ⟨rfl, ?_⟩
    rw [rep_non px]
    exact q _ _ _ Grow.refl (.bl _)
  · cases e
theorem dop_notN : OpR X (compareOp .IsNot) (rD2 X.prog X.w X.K dNotN) := by
  intro pins s σ H x y v u Q I rx ry ⟨F, dx, dy, d, px, py_, e, q⟩
  unfold dNotN at e
  split at e
  · cases py_; cases e
    refine op_notN pins s σ H _ _ v u Q I rx ry ⟨rfl, ?_⟩
    rw [rep_non px]
    exact q _ _ _ Grow.refl (.bl _)
  · cases e
/-! ### + - * // % -/
def dAdd : D → D → Option D
  | .int i, .int j => some (.int (i + j))
  | .str x, .str y => if x.length + y.length ≤ sizeLine then some (.str (x ++ y)) else none
  | .tup xs, .tup ys => if xs.length + ys.length ≤ sizeLine then some (.tup (xs ++ ys)) else none
  | .lst xs, .lst ys => if xs.length + ys.length ≤ sizeLine then some (.lst (xs ++ ys)) else none
  | _, _ => none
theorem dop_add : OpR X (binaryOp .Add) (rD2 X.prog X.w X.K dAdd) := by
  intro pins s σ H x y v u Q I rx ry ⟨F, dx, dy, d, px, py_, e, q⟩
  unfold dAdd at e
  split at e
  · cases px; cases py_; cases e
    exact op_add pins s σ H _ _ v u Q I rx ry ⟨_, _, rfl, rfl, q _ _ _ Grow.refl (.int _)⟩
  · split at e
    · rename_i hl
      cases px; cases py_; cases e
      exact op_add_str pins s σ H _ _ v u Q I rx ry ⟨_, _, rfl, rfl, hl, q _ _ _ Grow.refl (.str _)⟩
    · cases e
  · split at e
    · rename_i hl
      cases e
      cases px with
      | tup h1 r1 =>
        cases py_ with
        | tup h2 r2 =>
          rw [r1.length, r2.length] at hl
          refine op_catA pins s σ H _ _ v u Q I rx ry ⟨_, _, _, _, rfl, rfl, h1.sq, h2.sq, hl, fun e => ?_, fun _ e => ?_, fun _ _ p hp => ?_⟩
          · subst e; cases r1; exact q _ _ _ Grow.refl (.tup h2 r2)
          · subst e; cases r2; rw [List.append_nil] at q; exact q _ _ _ Grow.refl (.tup h1 r1)
          · exact q _ _ _ (Grow.laid hp) (.tup (.inl upd_same) ((r1.append r2).keeps (Grow.laid hp).keeps))
    · cases e
  · split at e
    · rename_i hl
      cases e
      cases px with
      | lst f1 h1 r1 =>
        cases py_ with
        | lst f2 h2 r2 =>
          rw [r1.length, r2.length] at hl
          refine op_cat pins s σ H _ _ v u Q I rx ry ⟨_, _, _, _, rfl, rfl, h1, h2, hl, fun p hp => ?_⟩
          exact q _ _ _ (Grow.share hp) (.lst (.inr rfl) upd_same ((r1.append r2).keeps (Grow.share hp).keeps))
    · cases e
  · cases e
def dSub : D → D → Option D
  | .int i, .int j => some (.int (i - j))
  | _, _ => none
theorem dop_sub : OpR X (binaryOp .Sub) (rD2 X.prog X.w X.K dSub) := by
  intro pins s σ H x y v u Q I rx ry ⟨F, dx, dy, d, px, py_, e, q⟩
  unfold dSub at e
  split at e
  · cases px; cases py_; cases e
    exact op_sub pins s σ H _ _ v u Q I rx ry ⟨_, _, rfl, rfl, q _ _ _ Grow.refl (.int _)⟩
  · cases e
/-- within 64 bits -/
def fit64 (i : Int) : Bool := decide (-(2 ^ 64) < i) && decide (i < 2 ^ 64)
theorem fit64_ok {i : Int} (h : fit64 i = true) : -(2 ^ 64) < i ∧ i < 2 ^ 64 := by
  unfold fit64 at h
  rw [Bool.and_eq_true] at h
  exact ⟨of_decide_eq_true h.1, of_decide_eq_true h.2⟩
def dMul : D → D → Option D
  | .int i, .int j => if fit64 i || fit64 j then some (.int (i * j)) else none
  | _, _ => none
theorem dop_mul : OpR X (binaryOp .Mult) (rD2 X.prog X.w X.K dMul) := by
  intro pins s σ H x y v u Q I rx ry ⟨F, dx, dy, d, px, py_, e, q⟩
  unfold dMul at e
  split at e
  · split at e
    · rename_i hf
      cases px; cases py_; cases e
      rw [Bool.or_eq_true] at hf
      exact op_mul pins s σ H _ _ v u Q I rx ry ⟨_, _, rfl, rfl, hf.imp fit64_ok fit64_ok, q _ _ _ Grow.refl (.int _)⟩
    · cases e
  · cases e
def dFdiv : D → D → Option D
  | .int i, .int j => if 0 < j ∧ j < 1073741824 then some (.int (i / j)) else none
  | _, _ => none
theorem dop_fdiv : OpR X (binaryOp .FloorDiv) (rD2 X.prog X.w X.K dFdiv) := by
  intro pins s σ H x y v u Q I rx ry ⟨F, dx, dy, d, px, py_, e, q⟩
  unfold dFdiv at e
  split at e
  · split at e
    · rename_i hf
      cases px; cases py_; cases e
      exact op_fdiv pins s σ H _ _ v u Q I rx ry ⟨_, _, rfl, rfl, hf, q _ _ _ Grow.refl (.int _)⟩
    · cases e
  · cases e
def dMod : D → D → Option D
  | .int i, .int j => if 0 < j then some (.int (i % j)) else none
  | _, _ => none
theorem dop_mod : OpR X (binaryOp .Mod) (rD2 X.prog X.w X.K dMod) := by
  intro pins s σ H x y v u Q I rx ry ⟨F, dx, dy, d, px, py_, e, q⟩
  unfold dMod at e
  split at e
  · split at e
    · rename_i hf
      cases px; cases py_; cases e
      exact op_mod pins s σ H _ _ v u Q I rx ry ⟨_, _, rfl, rfl, hf, q _ _ _ Grow.refl (.int _)⟩
    · cases e
  · cases e
def dNeg : D → Option D
  | .int i => some (.int (-i))
  | _ => none
theorem dop_neg : UnR X (unaryOp .USub) (rD1 X.prog X.w X.K dNeg) := by
  intro pins s σ H x v Q I rx ⟨F, dx, d, px, e, q⟩
  cases px <;> cases e
  exact un_neg pins s σ H _ v Q I rx ⟨_, rfl, q _ _ _ Grow.refl (.int _)⟩
/-! ### built-in functions -/
def dLen : List D → Option D
  | [.str x] => if x.length ≤ sizeLine then some (.int x.length) else none
  | [.tup xs] => some (.int xs.length)
  | [.lst xs] => some (.int xs.length)
  | [.cel _ ns] => some (.int ns.length)
  | _ => none
theorem dcall_len : CallR X (.builtin "len") (rDs X.prog X.w X.K dLen) := by
  intro pins s σ H xs us Q I r ⟨F, ds, d, rp, e, q⟩
  unfold dLen at e
  split at e
  · split at e
    · rename_i hl
      cases e
      cases rp with
      | cons a t =>
        cases t; cases a
        exact call_len pins s σ H _ us Q I r ⟨_, _, rfl, ⟨hl, rfl⟩, q _ _ _ Grow.refl (.int _)⟩
    · cases e
  · cases e
    cases rp with
    | cons a t =>
      cases t
      cases a with
      | tup h1 h2 => exact call_len pins s σ H _ us Q I r ⟨_, _, rfl, .inr ⟨_, h1.sq, rfl⟩, by rw [← h2.length]; exact q _ _ _ Grow.refl (.int _)⟩
  · cases e
    cases rp with
    | cons a t =>
      cases t
      cases a with
      | lst f h1 h2 => exact call_len pins s σ H _ us Q I r ⟨_, _, rfl, .inl ⟨_, .inl (.inl h1), rfl⟩, by rw [← h2.length]; exact q _ _ _ Grow.refl (.int _)⟩
  · cases e
    cases rp with
    | cons a t =>
      cases t
      cases a with
      | cel f h => exact call_len pins s σ H _ us Q I r ⟨_, _, rfl, .inl ⟨_, .inl (.inl h), rfl⟩, by rw [List.length_map]; exact q _ _ _ Grow.refl (.int _)⟩
  · cases e
/-- the greatest, the least of toI -/
def maxI : List Int → Option Int
  | [] => none
  | i :: r => some (r.foldl max i)
def minI : List Int → Option Int
  | [] => none
  | i :: r => some (r.foldl min i)
theorem foldl_max : ∀ (r : List Int) (i : Int), (r.foldl max i = i ∨ r.foldl max i ∈ r) ∧ i ≤ r.foldl max i ∧ ∀ j ∈ r, j ≤ r.foldl max i
  | [], i => ⟨.inl rfl, Int.le_refl _, fun _ h => nomatch h⟩
  | a :: r, i => by
    obtain ⟨h1, h2, h3⟩ := foldl_max r (max i a)
    have e : (a :: r).foldl max i = r.foldl max (max i a) := rfl
    rw [e]
    refine ⟨?_, by omega, fun j hj => ?_⟩
    · rcases h1 with h1 | h1
      · rcases Int.le_total i a with q | q
        · right; rw [h1, Int.max_eq_right q]; exact List.mem_cons_self
        · left; rw [h1, Int.max_eq_left q]
      · exact .inr (List.mem_cons_of_mem _ h1)
    · rcases List.mem_cons.mp hj with rfl | hj
      · omega
      · exact h3 j hj
theorem foldl_min : ∀ (r : List Int) (i : Int), (r.foldl min i = i ∨ r.foldl min i ∈ r) ∧ r.foldl min i ≤ i ∧ ∀ j ∈ r, r.foldl min i ≤ j
  | [], i => ⟨.inl rfl, Int.le_refl _, fun _ h => nomatch h⟩
  | a :: r, i => by
    obtain ⟨h1, h2, h3⟩ := foldl_min r (min i a)
    have e : (a :: r).foldl min i = r.foldl min (min i a) := rfl
    rw [e]
    refine ⟨?_, by omega, fun j hj => ?_⟩
    · rcases h1 with h1 | h1
      · rcases Int.le_total i a with q | q
        · left; rw [h1, Int.min_eq_left q]
        · right; rw [h1, Int.min_eq_right q]; exact List.mem_cons_self
      · exact .inr (List.mem_cons_of_mem _ h1)
    · rcases List.mem_cons.mp hj with rfl | hj
      · omega
      · exact h3 j hj
theorem maxI_ok {ns : List Int} {m : Int} (h : maxI ns = some m) : m ∈ ns ∧ ∀ j ∈ ns, j ≤ m := by
  cases ns with
  | nil => cases h
  | cons i r =>
    cases h
    obtain ⟨h1, h2, h3⟩ := foldl_max r i
    refine ⟨?_, fun j hj => ?_⟩
    · rcases h1 with h1 | h1
      · rw [h1]; exact List.mem_cons_self
      · exact List.mem_cons_of_mem _ h1
    · rcases List.mem_cons.mp hj with rfl | hj
      · exact h2
      · exact h3 j hj
theorem minI_ok {ns : List Int} {m : Int} (h : minI ns = some m) : m ∈ ns ∧ ∀ j ∈ ns, m ≤ j := by
  cases ns with
  | nil => cases h
  | cons i r =>
    cases h
    obtain ⟨h1, h2, h3⟩ := foldl_min r i
    refine ⟨?_, fun j hj => ?_⟩
    · rcases h1 with h1 | h1
      · rw [h1]; exact List.mem_cons_self
      · exact List.mem_cons_of_mem _ h1
    · rcases List.mem_cons.mp hj with rfl | hj
      · exact h2
      · exact h3 j hj
def dMax : List D → Option D
  | [.lst xs] => ((toI xs).bind maxI).map .int
  | _ => none
def dMin : List D → Option D
  | [.lst xs] => ((toI xs).bind minI).map .int
  | _ => none
theorem dcall_max (hc : X.calm = true) : CallR X (.builtin "max") (rDs X.prog X.w X.K dMax) := by
  intro pins s σ H xs us Q I r ⟨F, ds, d, rp, e, q⟩
  unfold dMax at e
  split at e
  · obtain ⟨m, e1, e2⟩ := Option.map_eq_some_iff.mp e
    obtain ⟨ns, e3, e4⟩ := Option.bind_eq_some_iff.mp e1
    subst e2
    cases rp with
    | cons a t =>
      cases t
      cases a with
      | lst f h1 h2 =>
        have ev := toI_ok h2 e3
        subst ev
        obtain ⟨m1, m2⟩ := maxI_ok e4
        refine cr_max hc pins s σ H _ us Q I r ⟨_, ns, rfl, .inl (.inl h1), List.length_pos_of_mem m1, fun m' h3 h4 => ?_⟩
        have : m' = m := Int.le_antisymm (m2 m' h3) (h4 m m1)
        subst this
        exact q _ _ _ Grow.refl (.int _)
  · cases e
theorem dcall_min (hc : X.calm = true) : CallR X (.builtin "min") (rDs X.prog X.w X.K dMin) := by
  intro pins s σ H xs us Q I r ⟨F, ds, d, rp, e, q⟩
  unfold dMin at e
  split at e
  · obtain ⟨m, e1, e2⟩ := Option.map_eq_some_iff.mp e
    obtain ⟨ns, e3, e4⟩ := Option.bind_eq_some_iff.mp e1
    subst e2
    cases rp with
    | cons a t =>
      cases t
      cases a with
      | lst f h1 h2 =>
        have ev := toI_ok h2 e3
        subst ev
        obtain ⟨m1, m2⟩ := minI_ok e4
        refine cr_min hc pins s σ H _ us Q I r ⟨_, ns, rfl, .inl (.inl h1), List.length_pos_of_mem m1, fun m' h3 h4 => ?_⟩
        have : m' = m := Int.le_antisymm (h4 m m1) (m2 m' h3)
        subst this
        exact q _ _ _ Grow.refl (.int _)
  · cases e
def dSum : List D → Option D
  | [.lst xs] => (toI xs).map fun ns => .int ns.sum
  | _ => none
theorem dcall_sum (hc : X.calm = true) : CallR X (.builtin "sum") (rDs X.prog X.w X.K dSum) := by
  intro pins s σ H xs us Q I r ⟨F, ds, d, rp, e, q⟩
  unfold dSum at e
  split at e
  · obtain ⟨ns, e1, e2⟩ := Option.map_eq_some_iff.mp e
    subst e2
    cases rp with
    | cons a t =>
      cases t
      cases a with
      | lst f h1 h2 =>
        have ev := toI_ok h2 e1
        subst ev
        exact cr_sum hc pins s σ H _ us Q I r ⟨_, ns, rfl, .inl (.inl h1), q _ _ _ Grow.refl (.int _)⟩
  · cases e
def dAny : List D → Option D
  | [.lst xs] => (toB xs).map fun ns => .bl (ns.any id)
  | _ => none
def dAll : List D → Option D
  | [.lst xs] => (toB xs).map fun ns => .bl (ns.all id)
  | _ => none
theorem dcall_any (hc : X.calm = true) : CallR X (.builtin "any") (rDs X.prog X.w X.K dAny) := by
  intro pins s σ H xs us Q I r ⟨F, ds, d, rp, e, q⟩
  unfold dAny at e
  split at e
  · obtain ⟨ns, e1, e2⟩ := Option.map_eq_some_iff.mp e
    subst e2
    cases rp with
    | cons a t =>
      cases t
      cases a with
      | lst f h1 h2 =>
        have ev := toB_ok h2 e1
        subst ev
        exact cr_any hc pins s σ H _ us Q I r ⟨_, ns, rfl, .inl (.inl h1), q _ _ _ Grow.refl (.bl _)⟩
  · cases e
theorem dcall_all (hc : X.calm = true) : CallR X (.builtin "all") (rDs X.prog X.w X.K dAll) := by
  intro pins s σ H xs us Q I r ⟨F, ds, d, rp, e, q⟩
  unfold dAll at e
  split at e
  · obtain ⟨ns, e1, e2⟩ := Option.map_eq_some_iff.mp e
    subst e2
    cases rp with
    | cons a t =>
      cases t
      cases a with
      | lst f h1 h2 =>
        have ev := toB_ok h2 e1
        subst ev
        exact cr_all hc pins s σ H _ us Q I r ⟨_, ns, rfl, .inl (.inl h1), q _ _ _ Grow.refl (.bl _)⟩
  · cases e
def dTuple : List D → Option D
  | [.lst xs] => some (.tup xs)
  | [.tup xs] => some (.tup xs)
  | _ => none
theorem dcall_tuple : CallR X (.type "tuple") (rDs X.prog X.w X.K dTuple) := by
  intro pins s σ H xs us Q I r ⟨F, ds, d, rp, e, q⟩
  unfold dTuple at e
  split at e
  · cases e
    cases rp with
    | cons a t =>
      cases t
      cases a with
      | lst f h1 h2 => exact call_tuple_of pins s σ H _ us Q I r ⟨_, _, rfl, .inl ⟨.inl (.inl h1), fun l hl => q _ _ _ (Grow.laid hl) (.tup (.inl upd_same) (h2.keeps (Grow.laid hl).keeps))⟩⟩
  · cases e
    cases rp with
    | cons a t =>
      cases t
      cases a with
      | tup h1 h2 => exact call_tuple_of pins s σ H _ us Q I r ⟨_, _, rfl, .inr ⟨h1.sq, q _ _ _ Grow.refl (.tup h1 h2)⟩⟩
  · cases e
def dList : List D → Option D
  | [.lst xs] => some (.lst xs)
  | [.tup xs] => some (.lst xs)
  | _ => none
theorem dcall_list : CallR X (.type "list") (rDs X.prog X.w X.K dList) := by
  intro pins s σ H xs us Q I r ⟨F, ds, d, rp, e, q⟩
  unfold dList at e
  split at e
  · cases e
    cases rp with
    | cons a t =>
      cases t
      cases a with
      | lst f h1 h2 => exact call_list_of pins s σ H _ us Q I r ⟨_, _, rfl, .inl (.inl (.inl h1)), fun l hl => q _ _ _ (Grow.share hl) (.lst (.inr rfl) upd_same (h2.keeps (Grow.share hl).keeps))⟩
  · cases e
    cases rp with
    | cons a t =>
      cases t
      cases a with
      | tup h1 h2 => exact call_list_of pins s σ H _ us Q I r ⟨_, _, rfl, .inr h1.sq, fun l hl => q _ _ _ (Grow.share hl) (.lst (.inr rfl) upd_same (h2.keeps (Grow.share hl).keeps))⟩
  · cases e
def dStr : List D → Option D
  | [.int i] => if i.natAbs.log2 < 1920 then some (.str (toString i)) else none
  | _ => none
theorem dcall_str : CallR X (.type "str") (rDs X.prog X.w X.K dStr) := by
  intro pins s σ H xs us Q I r ⟨F, ds, d, rp, e, q⟩
  unfold dStr at e
  split at e
  · split at e
    · rename_i hl
      cases e
      cases rp with
      | cons a t =>
        cases t; cases a
        exact call_str_int pins s σ H _ us Q I r ⟨_, rfl, hl, q _ _ _ Grow.refl (.str _)⟩
    · cases e
  · cases e
def dInt : List D → Option D
  | [.int i] => some (.int i)
  | [.bl b] => some (.int (if b then 1 else 0))
  | _ => none
theorem dcall_int : CallR X (.type "int") (rDs X.prog X.w X.K dInt) := by
  intro pins s σ H xs us Q I r ⟨F, ds, d, rp, e, q⟩
  unfold dInt at e
  split at e
  · cases e
    cases rp with
    | cons a t =>
      cases t; cases a
      exact call_int1 pins s σ H _ us Q I r (.inl ⟨_, rfl, q _ _ _ Grow.refl (.int _)⟩)
  · cases e
    cases rp with
    | cons a t =>
      cases t; cases a
      exact call_int1 pins s σ H _ us Q I r (.inr ⟨_, rfl, q _ _ _ Grow.refl (.int _)⟩)
  · cases e
def dAbs : List D → Option D
  | [.int i] => some (.int (if i < 0 then -i else i))
  | _ => none
theorem dcall_abs : CallR X (.builtin "abs") (rDs X.prog X.w X.K dAbs) := by
  intro pins s σ H xs us Q I r ⟨F, ds, d, rp, e, q⟩
  unfold dAbs at e
  split at e
  · cases e
    cases rp with
    | cons a t =>
      cases t; cases a
      exact call_abs pins s σ H _ us Q I r ⟨_, rfl, q _ _ _ Grow.refl (.int _)⟩
  · cases e
end
end DL
set_option Elab.async false
set_option linter.all false
set_option maxRecDepth 100000
set_option autoImplicit false
set_option maxHeartbeats 1000000
/-! The data layer, part 5: index, slices, in, sorted, join, split. -/
namespace DL
open PySem PySem.Spec PyProof.Rows L2
section
variable {P : Program} {w : World} {K : PySem.W.Frag} {F : Addr → Prop} {H : Hp}
theorem RepL.atI {ds : List D} {vs : List V} {i : Int} {d : D} (r : RepL P w K F H ds vs) (h : L2.atI ds i = some d) : ∃ v, L2.atI vs i = some v ∧ Rep P w K F H d v := by
  unfold L2.atI at h ⊢
  obtain ⟨j, h1, h2⟩ := Option.bind_eq_some_iff.mp h
  obtain ⟨v, h3, h4⟩ := r.get h2
  exact ⟨v, by rw [← r.length, h1]; exact h3, h4⟩
def dIx : D → D → Option D
  | .lst xs, .int i => L2.atI xs i
  | .tup xs, .int i => L2.atI xs i
  | .cel _ ns, .int i => (L2.atI ns i).map .int
  | .str z, .int i => if z.length ≤ sizeLine then (L2.atI z.cps.toList i).map fun c => .str ⟨#[c]⟩ else none
  | _, _ => none
def cut {α : Type} (xs : List α) (lo hi : Option Int) : List α := (xs.drop (HT.sIx xs.length 0 lo)).take (HT.sIx xs.length xs.length hi - HT.sIx xs.length 0 lo)
theorem RepL.cut {ds : List D} {vs : List V} (r : RepL P w K F H ds vs) (lo hi : Option Int) : RepL P w K F H (DL.cut ds lo hi) (cutV vs lo hi) := by
  unfold DL.cut cutV
  rw [← r.length]
  exact (r.drop _).take _
def dSl : D → Option Int → Option Int → Option D
  | .lst xs, lo, hi => some (.lst (cut xs lo hi))
  | .tup xs, lo, hi => some (.tup (cut xs lo hi))
  | .str z, lo, hi => if z.length ≤ sizeLine then some (.str (cutS z lo hi)) else none
  | _, _, _ => none
def dInB : D → D → Option Bool
  | x, .lst xs => if eqOk x && eqOk (.lst xs) then some ((pys xs).any fun z => PyData.eqv z (py x)) else none
  | x, .tup xs => if eqOk x && eqOk (.tup xs) then some ((pys xs).any fun z => PyData.eqv z (py x)) else none
  | .str x, .str z => match x.cps.toList with
    | [c] => some (decide (c ∈ z.cps.toList))
    | _ => some (!(Builtin.Str.occurrences z x 0 z.length 1).isEmpty)
  | _, _ => none
def dIn (x y : D) : Option D := (dInB x y).map .bl
def dNotIn (x y : D) : Option D := (dInB x y).map fun b => .bl (!b)
/-- what sorted takes -/
def sortOk (xs : List D) : Prop := plains xs = true ∧ PySem.W.AllAlike (pys xs) ∧ PySem.W.Sortable (pys xs) ∧ ∀ d ∈ pys xs, d.depth ≤ 64
open Classical in
noncomputable def dSorted : List D → Option D
  | [.lst xs] => if sortOk xs then some (.lst (xs.mergeSort (PySem.W.dataLe false py))) else none
  | _ => none
end
section
variable {X : Cx}
theorem dix : IxR X (rD2 X.prog X.w X.K dIx) := by
  intro value slice pins s σ H x y v u Q I rx ry ⟨F, dx, dy, d, px, py_, e, q⟩ hs
  unfold dIx at e
  split at e
  · cases py_
    cases px with
    | lst f h r =>
      obtain ⟨v', h1, h2⟩ := r.atI e
      exact ix_seq value slice pins s σ H _ _ v u Q I rx ry (.inl ⟨_, _, _, _, rfl, rfl, .inl (.inl h), h1, q _ _ _ Grow.refl h2⟩) hs
  · cases py_
    cases px with
    | tup h r =>
      obtain ⟨v', h1, h2⟩ := r.atI e
      exact ix_seq value slice pins s σ H _ _ v u Q I rx ry (.inr (.inl ⟨_, _, _, _, rfl, rfl, h.sq, h1, q _ _ _ Grow.refl h2⟩)) hs
  · cases py_
    obtain ⟨n, e1, rfl⟩ := Option.map_eq_some_iff.mp e
    cases px with
    | cel f h =>
      obtain ⟨j, z1, z2⟩ := Option.bind_eq_some_iff.mp e1
      exact ix_seq value slice pins s σ H _ _ v u Q I rx ry (.inl ⟨_, _, _, .int n, rfl, rfl, .inl (.inl h), (by unfold L2.atI; rw [List.length_map, z1]; show (List.map V.int _)[j]? = _; rw [List.getElem?_map, z2]; rfl), q _ _ _ Grow.refl (.int n)⟩) hs
  · split at e
    · rename_i hz
      obtain ⟨c, e1, rfl⟩ := Option.map_eq_some_iff.mp e
      cases py_; cases px
      exact ix_seq value slice pins s σ H _ _ v u Q I rx ry (.inr (.inr ⟨_, _, _, rfl, rfl, hz, e1, q _ _ _ Grow.refl (.str _)⟩)) hs
    · cases e
  · cases e
theorem dsl : SlR X (rDsl X.prog X.w X.K dSl) := by
  intro pins s σ H x v vl vu lo hi sl Q I rx hs pl pu ⟨F, dx, d, px, e, q⟩
  unfold dSl at e
  split at e
  · cases e
    cases px with
    | lst f h r => exact sl_list pins s σ H _ v vl vu _ _ sl Q I rx hs pl pu ⟨_, _, rfl, .inl (.inl h), fun p hp => q _ _ _ (Grow.share hp) (.lst (.inr rfl) upd_same ((r.cut _ _).keeps (Grow.share hp).keeps))⟩
  · cases e
    cases px with
    | @tup a vs ds h r =>
      refine sl_tupA pins s σ H _ v vl vu _ _ sl Q I rx hs pl pu ⟨_, _, rfl, h.sq, fun hw => ?_, fun _ p hp => q _ _ _ (Grow.laid hp) (.tup (.inl upd_same) ((r.cut _ _).keeps (Grow.laid hp).keeps))⟩
      have hc := r.cut lo hi
      have e2 : cutV vs lo hi = vs := by
        unfold cutV
        rw [hw.1, hw.2]
        simp only [List.drop_zero, Nat.sub_zero, List.take_length]
      rw [e2] at hc
      exact q _ _ _ Grow.refl (.tup h hc)
  · split at e
    · rename_i hz
      cases e
      cases px
      exact sl_str pins s σ H _ v vl vu _ _ sl Q I rx hs pl pu ⟨_, rfl, hz, q _ _ _ Grow.refl (.str _)⟩
    · cases e
  · cases e
theorem one_sign {x : Str} {c : Nat} (h : x.cps.toList = [c]) : x = ⟨#[c]⟩ := by
  cases x with
  | mk cps =>
    have : cps = #[c] := by
      apply Array.toList_inj.mp
      simpa using h
    rw [this]
theorem dop_in (hu : X.A.units + 65 < cLine) : OpR X (compareOp .In) (rD2 X.prog X.w X.K dIn) := by
  intro pins s σ H x y v u Q I rx ry ⟨F, dx, dy, d, px, py_, e, q⟩
  obtain ⟨t, e', rfl⟩ := Option.map_eq_some_iff.mp e
  clear e
  have e := e'
  have q := q (.bl t) F H Grow.refl (.bl t)
  unfold dInB at e
  split at e
  · split at e
    · rename_i hk
      rw [Bool.and_eq_true] at hk
      unfold eqOk at hk
      rw [Bool.and_eq_true, Bool.and_eq_true] at hk
      cases e
      exact op_inD hu pins s σ H x y v u Q I rx ry ⟨_, _, px.dp hk.1.1, py_.dp hk.2.1, hk.1.2, hk.2.2, q⟩
    · cases e
  · split at e
    · rename_i hk
      rw [Bool.and_eq_true] at hk
      unfold eqOk at hk
      rw [Bool.and_eq_true, Bool.and_eq_true] at hk
      cases e
      obtain ⟨as, r1⟩ := Dp.reads I _ x v (px.dp hk.1.1) rx
      obtain ⟨bs, r2⟩ := Dp.reads I _ y u (py_.dp hk.2.1) ry
      exact SeqAt.in_tuple_reads r2 r1 (SeqAt.canLay_of_shaped hk.2.2) (SeqAt.canLay_of_shaped hk.1.2) (room_in_shaped hk.1.2 hu) ⟨.bl _, H, I, rfl, q⟩
    · cases e
  · cases px; cases py_
    split at e
    · rename_i c hc
      cases e
      rw [one_sign hc] at rx
      exact op_in_sign pins s σ H _ _ v u Q I rx ry ⟨_, _, rfl, rfl, q⟩
    · cases e
      exact op_in_str pins s σ H _ _ v u Q I rx ry ⟨_, _, rfl, rfl, q⟩
  · cases e
theorem dop_notIn (hu : X.A.units + 65 < cLine) : OpR X (compareOp .NotIn) (rD2 X.prog X.w X.K dNotIn) := by
  intro pins s σ H x y v u Q I rx ry ⟨F, dx, dy, d, px, py_, e, q⟩
  obtain ⟨t, e', rfl⟩ := Option.map_eq_some_iff.mp e
  clear e
  have e := e'
  have q := q (.bl (!t)) F H Grow.refl (.bl _)
  unfold dInB at e
  split at e
  · split at e
    · rename_i hk
      rw [Bool.and_eq_true] at hk
      unfold eqOk at hk
      rw [Bool.and_eq_true, Bool.and_eq_true] at hk
      cases e
      exact op_notInD hu pins s σ H x y v u Q I rx ry ⟨_, _, px.dp hk.1.1, py_.dp hk.2.1, hk.1.2, hk.2.2, q⟩
    · cases e
  · split at e
    · rename_i hk
      rw [Bool.and_eq_true] at hk
      unfold eqOk at hk
      rw [Bool.and_eq_true, Bool.and_eq_true] at hk
      cases e
      obtain ⟨as, r1⟩ := Dp.reads I _ x v (px.dp hk.1.1) rx
      obtain ⟨bs, r2⟩ := Dp.reads I _ y u (py_.dp hk.2.1) ry
      exact SeqAt.notIn_tuple_reads r2 r1 (SeqAt.canLay_of_shaped hk.2.2) (SeqAt.canLay_of_shaped hk.1.2) (room_in_shaped hk.1.2 hu) ⟨.bl _, H, I, rfl, q⟩
    · cases e
  · cases px; cases py_
    split at e
    · rename_i c hc
      cases e
      rw [one_sign hc] at rx
      exact op_notIn_sign pins s σ H _ _ v u Q I rx ry ⟨_, _, rfl, rfl, q⟩
    · cases e
      exact op_notin_str pins s σ H _ _ v u Q I rx ry ⟨_, _, rfl, rfl, q⟩
  · cases e
theorem pys_map : ∀ xs : List D, pys xs = xs.map py
  | [] => rfl
  | d :: r => by rw [pys, pys_map r]; rfl
theorem plains_all : ∀ {xs : List D}, plains xs = true → ∀ d ∈ xs, plain d = true
  | [], _, d, h => nomatch h
  | a :: r, p, d, h => by
    have p' : (plain a && plains r) = true := p
    rw [Bool.and_eq_true] at p'
    rcases List.mem_cons.mp h with rfl | h
    · exact p'.1
    · exact plains_all p'.2 d h
open PySem.W in
theorem each_rep {pins : List (Addr × Obj)} {s : Shared} {σ : L2.St} {H : Hp} {F : Addr → Prop} (I : L2.Inv X pins σ H s) : ∀ {xs : List D} {vs : List V} {us : List Value}, XRepL X F H xs vs → Vals vs us →
    EachIs (fun u d => ∃ v, RelV v u ∧ XRep X F H d v) us xs
  | _, _, _, .nil, .nil => .nil
  | _, _, _, .cons a r, .cons b t => .cons ⟨_, b, a⟩ (each_rep I r t)
open PySem.W in
theorem each_reads {pins : List (Addr × Obj)} {s : Shared} {σ : L2.St} {H : Hp} {F : Addr → Prop} (I : L2.Inv X pins σ H s) : ∀ {xs : List D} {us : List Value}, plains xs = true → EachIs (fun u d => ∃ v, RelV v u ∧ XRep X F H d v) us xs →
    EachIs (fun u d => ∃ as, Reads s.heap u (py d) as) us xs
  | _, _, _, .nil => .nil
  | _, _, p, .cons ⟨v, h1, h2⟩ t => by
    have p' : (plain _ && plains _) = true := p
    rw [Bool.and_eq_true] at p'
    exact .cons (Dp.reads I _ v _ (h2.dp p'.1) h1) (each_reads I p'.2 t)
open PySem.W in
theorem each_back {H : Hp} {F : Addr → Prop} : ∀ {xs : List D} {us : List Value}, EachIs (fun u d => ∃ v, RelV v u ∧ XRep X F H d v) us xs → ∃ vs, Vals vs us ∧ XRepL X F H xs vs
  | _, _, .nil => ⟨[], .nil, .nil⟩
  | _, _, .cons ⟨v, h1, h2⟩ t => let ⟨vs, h3, h4⟩ := each_back t; ⟨v :: vs, .cons h1 h3, .cons h2 h4⟩
theorem dcall_sorted (hu : X.A.units + 66 < cLine) : CallR X (.builtin "sorted") (rDs X.prog X.w X.K dSorted) := by
  intro pins s σ H xs us Q I r ⟨F, ds, d, rp, e, q⟩
  unfold dSorted at e
  split at e
  · split at e
    · rename_i xs hk
      cases e
      cases rp with
      | cons a t =>
        cases t
        cases a with
        | lst f h1 h2 =>
          obtain ⟨its, rv, hl, hz⟩ := I.list (.inl (.inl h1))
          rw [Vals.ref1 r]
          have e1 := each_rep I h2 rv
          have hlen : xs.length ≤ sizeLine := by rw [h2.length]; exact hz
          refine PySem.W.sorted_data (enc := py) hl.isList e1 (each_reads I hk.1 e1) (by rw [← pys_map]; exact hk.2.1) (by rw [← pys_map]; exact hk.2.2.1) hlen (fun b hb => ?_) fun out ho he => ?_
          · have := hk.2.2.2 (py b) (by rw [pys_map]; exact List.mem_map.mpr ⟨b, hb, rfl⟩)
            omega
          · obtain ⟨vs', rv', rl⟩ := each_back he
            obtain ⟨ep, he'⟩ := PyProof.Rows.sortedAll_at s.heap its out.toArray
            have hp : H (s.heap.objs.size + 1) = none := I.hok.fresh (Nat.le_succ _)
            have hlen' : vs'.length ≤ sizeLine := by rw [← rl.length, List.length_mergeSort]; exact hlen
            exact ⟨.ref _, upd H (s.heap.objs.size + 1) (.lst vs'), I.laid (t' := s.toks) (fun _ _ => PyProof.Rows.sortedAll_old) (Nat.le_succ _) ⟨hlen', out, ep, rv', he'⟩, rfl,
              q _ _ _ (Grow.share hp) (.lst (.inr rfl) upd_same (rl.keeps (Grow.share hp).keeps))⟩
    · cases e
  · cases e
/-! ### join, split -/
def dJoin (a : Str) : D → Option D
  | .lst xs => match toS xs with
    | some ys => if (ys.map (·.length)).sum + ys.length * a.length ≤ 16777216 then some (.str (Txt.join a ys)) else none
    | none => none
  | _ => none
theorem dmt_join : MtR X "str.join" (rSM1 X.prog X.w X.K dJoin) := by
  intro pins s σ H x xs v us Q I rx rxs ⟨F, z, y, dy, d, ex, exs, px, e, q⟩
  subst ex exs
  unfold dJoin at e
  split at e
  · split at e
    · rename_i ys hys
      split at e
      · rename_i hl
        cases e
        cases px with
        | lst f h1 h2 =>
          have ev := toS_ok h2 hys
          subst ev
          exact mt_join pins s σ H _ _ v us Q I rx rxs ⟨_, _, ys, rfl, rfl, .inl (.inl (.inl h1)), hl, q _ _ _ Grow.refl (.str _)⟩
      · cases e
    · cases e
  · cases e
theorem repL_strs {P : Program} {w : World} {K : PySem.W.Frag} {F : Addr → Prop} {H : Hp} : ∀ (ys : List Str), RepL P w K F H (ys.map D.str) (ys.map V.str)
  | [] => .nil
  | y :: r => .cons (.str y) (repL_strs r)
def dSplit (a : Str) : D → Option D
  | .str b => if (b.length == 0) = false ∧ a.length + 2 ≤ sizeLine then some (.lst ((Txt.split a b).map D.str)) else none
  | _ => none
theorem dmt_split : MtR X "str.split" (rSM1 X.prog X.w X.K dSplit) := by
  intro pins s σ H x xs v us Q I rx rxs ⟨F, z, y, dy, d, ex, exs, px, e, q⟩
  subst ex exs
  unfold dSplit at e
  split at e
  · split at e
    · rename_i hl
      cases e
      cases px
      exact mt_split pins s σ H _ _ v us Q I rx rxs ⟨_, _, rfl, rfl, hl.1, hl.2, fun p hp => q _ _ _ (Grow.share hp) (.lst (.inr rfl) upd_same (repL_strs _))⟩
    · cases e
  · cases e
end
end DL
set_option Elab.async false
set_option linter.all false
set_option maxRecDepth 100000
set_option autoImplicit false
set_option maxHeartbeats 1000000
/-! The data layer, part 6: statements. -/
namespace DL
open PySem PySem.Spec PyProof.Rows L2
abbrev MG := D → Env → T Env
abbrev MGs := List D → Env → T Env
section
variable (P : Program) (w : World) (K : PySem.W.Frag) (mg : Str → Option Value) (W : WX)
def tDG (g : MG) : TG := fun v σ H Q => ∃ (F M : Addr → Prop) (env : Env) (d : D) (Qd : Env → Prop) (QE : Str → Env → Prop), Rel P w K F M H env σ ∧ Rep P w K F H d v ∧ wpT (g d env) Qd QE ∧ ExOk P w K mg W F M H QE ∧
  ∀ (σ' : L2.St) (H' : Hp) (F' M' : Addr → Prop) (env' : Env), Ext F M H F' M' H' → Rel P w K F' M' H' env' σ' → Qd env' → Q σ' H'
def tDGs (g : MGs) : TGs := fun vs σ H Q => ∃ (F M : Addr → Prop) (env : Env) (ds : List D) (Qd : Env → Prop) (QE : Str → Env → Prop), Rel P w K F M H env σ ∧ RepL P w K F H ds vs ∧ wpT (g ds env) Qd QE ∧ ExOk P w K mg W F M H QE ∧
  ∀ (σ' : L2.St) (H' : Hp) (F' M' : Addr → Prop) (env' : Env), Ext F M H F' M' H' → Rel P w K F' M' H' env' σ' → Qd env' → Q σ' H'
/-- what an iterator will give, whatever is done meanwhile -/
def ItOk (J : It) (F M : Addr → Prop) (H : Hp) (ds : List D) : Prop := ∀ (F2 M2 : Addr → Prop) (H2 : Hp), Ext F M H F2 M2 H2 → ∀ i : Nat,
  (∀ d, ds[i]? = some d → J.go i H2 ∧ ∀ x H3, J.yld i H2 x H3 → ∃ F3, Grow F2 H2 F3 H3 ∧ Rep P w K F3 H3 d x) ∧ (ds.length ≤ i → J.stop i H2)
def tDI (f : ML) : TI := fun σ H R => ∃ (F M : Addr → Prop) (env : Env) (Qd : List D × Env → Prop) (QE : Str → Env → Prop), Rel P w K F M H env σ ∧ wpT (f env) Qd QE ∧ ExOk P w K mg W F M H QE ∧
  ∀ (J : It) (H' : Hp) (F' M' : Addr → Prop) (ds : List D) (env' : Env), Ext F M H F' M' H' → Rel P w K F' M' H' env' σ → Qd (ds, env') → ItOk P w K J F' M' H' ds → R J H'
end
def DG (X : Cx) (W : WX) (tg : Expr) (g : MG) : Prop := PG X tg (tDG X.prog X.w X.K X.mg W g)
def DGs (X : Cx) (W : WX) (tgs : List Expr) (g : MGs) : Prop := PGs X tgs (tDGs X.prog X.w X.K X.mg W g)
def DI (X : Cx) (W : WX) (tg iter : Expr) (f : ML) : Prop := PI X tg iter (tDI X.prog X.w X.K X.mg W f)
theorem pgW {X : Cx} {e : Expr} {t t' : TG} (h : PG X e t) (i : ∀ v σ H Q, t' v σ H Q → t v σ H Q) : PG X e t' := ⟨fun pins s σ H v u Q I r q => h.run pins s σ H v u Q I r (i v σ H Q q)⟩
theorem pgsW {X : Cx} {e : List Expr} {t t' : TGs} (h : PGs X e t) (i : ∀ v σ H Q, t' v σ H Q → t v σ H Q) : PGs X e t' := ⟨fun pins s σ H v u Q I r q => h.run pins s σ H v u Q I r (i v σ H Q q)⟩
theorem piW {X : Cx} {tg e : Expr} {t t' : TI} (h : PI X tg e t) (i : ∀ σ H R, t' σ H R → t σ H R) : PI X tg e t' := ⟨fun pins s σ H R I q => h.run pins s σ H R I (i σ H R q)⟩

/-! ### programs -/
def gSet (i : Nat) : MG := fun d env => .ret (env.set i (.val d))
def gsNil : MGs := fun ds env => match ds with
  | [] => .ret env
  | _ => .stuck
def gsCons (g : MG) (h : MGs) : MGs := fun ds env => match ds with
  | d :: r => (g d env).bind fun e => h r e
  | [] => .stuck
def gTupD (n : Nat) (h : MGs) : MG := fun d env => match d with
  | .tup ds => if ds.length = n then h ds env else .stuck
  | _ => .stuck
def sNext : MS := fun env => .ret (.nx, env)
def sBreak : MS := fun env => .ret (.bk, env)
def sCont : MS := fun env => .ret (.ct, env)
def sSeq (m n : MS) : MS := fun env => (m env).bind fun (f, e) => match f with
  | .nx => n e
  | f => .ret (f, e)
def sRet (f : MD) : MS := fun env => (f env).bind fun (d, e) => .ret (.rt d, e)
def sRetN : MS := fun env => .ret (.rt .non, env)
def sIf (c : MB) (m n : MS) : MS := fun env => (c env).bind fun (b, e) => if b = true then m e else n e
def sAsg (f : MD) (g : MG) : MS := fun env => (f env).bind fun (d, e) => (g d e).bind fun e2 => .ret (.nx, e2)
def sSetM (i : Nat) (f : MD) : MS := fun env => (f env).bind fun (d, e) => .ret (.nx, e.set i (.mut d))
def sExpr (f : MD) : MS := fun env => (f env).bind fun (_, e) => .ret (.nx, e)
def forGo (g : MG) (body : MS) : List D → Env → T (Fl × Env)
  | [], e => .ret (.nx, e)
  | d :: r, e => (g d e).bind fun e1 => (body e1).bind fun (f, e2) => match f with
    | .nx => forGo g body r e2
    | .ct => forGo g body r e2
    | .bk => .ret (.nx, e2)
    | .rt d => .ret (.rt d, e2)
def sFor (fi : ML) (g : MG) (body : MS) : MS := fun env => (fi env).bind fun (ds, e) => forGo g body ds e
def whileGo (c : MB) (body : MS) : Nat → Env → T (Fl × Env)
  | 0, _ => .stuck
  | n + 1, e => (c e).bind fun (b, e1) => if b = true then (body e1).bind fun (f, e2) => match f with
      | .nx => whileGo c body n e2
      | .ct => whileGo c body n e2
      | .bk => .ret (.nx, e2)
      | .rt d => .ret (.rt d, e2)
    else .ret (.nx, e1)
def sWhile (n : Nat) (c : MB) (body : MS) : MS := fun env => whileGo c body n env
def sAug (g : D → D → Option D) (i : Nat) (f : MD) : MS := fun env => match env[i]? with
  | some (.val x) => (f env).bind fun (y, e) => (T.of (g x y)).bind fun z => .ret (.nx, e.set i (.val z))
  | _ => .stuck

section
variable {P : Program} {w : World} {K : PySem.W.Frag} {F M : Addr → Prop} {H : Hp} {env : Env} {σ : L2.St}
theorem Rel.set {d : D} {v : V} (R : Rel P w K F M H env σ) (i : Nat) (r : Rep P w K F H d v) : Rel P w K F M H (env.set i (.val d)) (σ.set i (some v)) := by
  by_cases hi : i < env.length
  · have hσ : i < σ.length := by rw [← R.len]; exact hi
    refine ⟨R.sep, by simpa using R.len, fun j d' hj => ?_, fun j d' hj => ?_, fun j k d1 d2 a h1 h2 h3 h4 => ?_⟩
    · by_cases hij : i = j
      · subst hij
        rw [List.getElem?_set_self hi] at hj
        cases hj
        exact ⟨v, by rw [List.getElem?_set_self hσ], r⟩
      · rw [List.getElem?_set_ne hij] at hj ⊢
        exact R.val j d' hj
    · by_cases hij : i = j
      · subst hij
        rw [List.getElem?_set_self hi] at hj
        cases hj
      · rw [List.getElem?_set_ne hij] at hj ⊢
        exact R.mt j d' hj
    · by_cases hij : i = j
      · subst hij; rw [List.getElem?_set_self hi] at h1; cases h1
      · by_cases hik : i = k
        · subst hik; rw [List.getElem?_set_self hi] at h2; cases h2
        · rw [List.getElem?_set_ne hij] at h1 h3
          rw [List.getElem?_set_ne hik] at h2 h4
          exact R.inj j k d1 d2 a h1 h2 h3 h4
  · have e1 : env.set i (.val d) = env := List.set_eq_of_length_le (Nat.le_of_not_lt hi)
    have e2 : σ.set i (some v) = σ := List.set_eq_of_length_le (by rw [← R.len]; exact Nat.le_of_not_lt hi)
    rw [e1, e2]
    exact R
/-- a name takes a fresh list or dict as its own -/
theorem Rel.setM {d : D} {a : Addr} (R : Rel P w K F M H env σ) (i : Nat) (nF : ¬ F a) (nM : ¬ M a) (o : Own P w K F H d a) : Rel P w K F (fun x => M x ∨ x = a) H (env.set i (.mut d)) (σ.set i (some (.ref a))) := by
  have hk : ∃ o, H a = some o ∧ MutO o := by
    cases o with
    | lst h _ => exact ⟨_, h, trivial⟩
    | dk h _ => exact ⟨_, h, trivial⟩
    | dt h _ => exact ⟨_, h, trivial⟩
  have sp : Sep F (fun x => M x ∨ x = a) H := ⟨fun x f m => m.elim (R.sep.apart x f) fun e => nF (e ▸ f), fun x m => m.elim (R.sep.kind x) fun e => e ▸ hk, R.sep.ftr⟩
  by_cases hi : i < env.length
  · have hσ : i < σ.length := by rw [← R.len]; exact hi
    refine ⟨sp, by simpa using R.len, fun j d' hj => ?_, fun j d' hj => ?_, fun j k d1 d2 b h1 h2 h3 h4 => ?_⟩
    · by_cases hij : i = j
      · subst hij
        rw [List.getElem?_set_self hi] at hj
        cases hj
      · rw [List.getElem?_set_ne hij] at hj ⊢
        exact R.val j d' hj
    · by_cases hij : i = j
      · subst hij
        rw [List.getElem?_set_self hi] at hj
        cases hj
        exact ⟨a, by rw [List.getElem?_set_self hσ], .inr rfl, o⟩
      · rw [List.getElem?_set_ne hij] at hj ⊢
        obtain ⟨b, h1, h2, h3⟩ := R.mt j d' hj
        exact ⟨b, h1, .inl h2, h3⟩
    · by_cases hij : i = j
      · subst hij
        rw [List.getElem?_set_self hσ] at h3
        cases h3
        by_cases hik : i = k
        · exact hik
        · rw [List.getElem?_set_ne hik] at h2 h4
          obtain ⟨c, k1, k2, _⟩ := R.mt k d2 h2
          rw [h4] at k1
          cases k1
          exact absurd k2 nM
      · by_cases hik : i = k
        · subst hik
          rw [List.getElem?_set_self hσ] at h4
          cases h4
          rw [List.getElem?_set_ne hij] at h1 h3
          obtain ⟨c, k1, k2, _⟩ := R.mt j d1 h1
          rw [h3] at k1
          cases k1
          exact absurd k2 nM
        · rw [List.getElem?_set_ne hij] at h1 h3
          rw [List.getElem?_set_ne hik] at h2 h4
          exact R.inj j k d1 d2 b h1 h2 h3 h4
  · have e1 : env.set i (.mut d) = env := List.set_eq_of_length_le (Nat.le_of_not_lt hi)
    have e2 : σ.set i (some (.ref a)) = σ := List.set_eq_of_length_le (by rw [← R.len]; exact Nat.le_of_not_lt hi)
    rw [e1, e2]
    exact ⟨sp, R.len, R.val, fun j d' hj => let ⟨b, h1, h2, h3⟩ := R.mt j d' hj; ⟨b, h1, .inl h2, h3⟩, R.inj⟩
end

section
variable {X : Cx} {W : WX} {e a b c iter tg : Expr} {es tgs : List Expr} {st : Stmt} {sts body : List Stmt} {f fa fb fc : MD} {fl : ML} {ba : MB} {m n mb : MS} {g : MG} {gs : MGs} {pos : Pos}
/-! ### targets -/
theorem dg_name {i : Nat} {x : Str} (hN : X.N.Nodup) (hi : X.N[i]? = some x) (hx : Loc X.env.scope x) (hf : X.fn x = true ∨ X.env.scope.names.lookup x = some .local := by first | exact .inl rfl | exact .inr rfl | assumption) : DG X W (.Name x pos) (gSet i) :=
  pgW (pg_name hN hi hx hf) fun v σ H Q ⟨F, M, env, d, Qd, QE, R, r, q, hx, k⟩ => k _ _ F M _ Ext.refl (R.set i r) q
theorem dgs_nil : DGs X W [] gsNil := pgsW pgs_nil fun v σ H Q ⟨F, M, env, ds, Qd, QE, R, r, q, hx, k⟩ => by
  cases r with
  | nil => exact ⟨rfl, k _ _ _ _ _ Ext.refl R q⟩
  | cons => exact q.elim
theorem dgs_cons (h1 : DG X W e g) (h2 : DGs X W es gs) (hs : (assignEach (e :: es) X.env).map (·.2) = assign e X.env :: (assignEach es X.env).map (·.2) := by rfl) : DGs X W (e :: es) (gsCons g gs) :=
  pgsW (pgs_cons h1 h2 hs) fun v σ H Q ⟨F, M, env, ds, Qd, QE, R, r, q, hx, k⟩ => by
    cases r with
    | nil => exact q.elim
    | cons a r =>
      refine ⟨_, _, rfl, F, M, env, _, _, QE, R, a, wpT_bind.mp q, hx, fun σ1 H1 F1 M1 env1 x1 R1 q1 => ?_⟩
      exact ⟨F1, M1, env1, _, Qd, QE, R1, r.keeps (x1.keeps R.sep), q1, hx.mono x1, fun σ' H' F' M' env' x2 => k σ' H' F' M' env' (x1.trans x2)⟩
theorem dg_tup {k n : Nat} (hc : X.calm = true) (h : DGs X W es gs) (hn : (assignEach es X.env).length = n := by rfl) (hst : (assignEach es X.env).findIdx? (·.1) = none := by rfl) : DG X W (.Tuple es k pos) (gTupD n gs) :=
  pgW (pg_tup hc h hn hst) fun v σ H Q ⟨F, M, env, d, Qd, QE, R, r, q, hx, kk⟩ => by
    cases r with
    | tup h1 h2 =>
      have q' := q
      unfold gTupD at q'
      dsimp only at q'
      split at q'
      · rename_i hl
        exact ⟨_, _, rfl, h1.sq, by rw [← h2.length]; exact hl, F, M, env, _, Qd, QE, R, h2, q', hx, kk⟩
      · exact q'.elim
    | _ => exact q.elim
/-! ### blocks -/
theorem dss_nil : DSs X W [] sNext := pssW pss_nil fun De σ H ⟨F, M, env, Q, QE, R, q, hx, k1, k2, k3, k4⟩ => k1 _ _ _ _ _ Ext.refl R q
theorem dss_cons (h1 : DS X W st m) (h2 : DSs X W sts n) : DSs X W (st :: sts) (sSeq m n) := pssW (pss_cons h1 h2) fun De σ H ⟨F, M, env, Q, QE, R, q, hx, k1, k2, k3, k4⟩ => by
  refine ⟨F, M, env, _, QE, R, wpT_bind.mp q, hx, fun σ1 H1 F1 M1 env1 x1 R1 q1 => ?_, fun σ1 H1 F1 M1 env1 x1 R1 q1 => ?_, fun σ1 H1 F1 M1 env1 x1 R1 q1 => ?_, fun v σ1 H1 F1 M1 d env1 x1 R1 r1 q1 => ?_⟩
  · exact ⟨F1, M1, env1, Q, QE, R1, q1, hx.mono x1, fun σ2 H2 F2 M2 env2 x2 => k1 σ2 H2 F2 M2 env2 (x1.trans x2), fun σ2 H2 F2 M2 env2 x2 => k2 σ2 H2 F2 M2 env2 (x1.trans x2), fun σ2 H2 F2 M2 env2 x2 => k3 σ2 H2 F2 M2 env2 (x1.trans x2), fun v σ2 H2 F2 M2 d env2 x2 => k4 v σ2 H2 F2 M2 d env2 (x1.trans x2)⟩
  · exact k2 _ _ _ _ _ x1 R1 q1
  · exact k3 _ _ _ _ _ x1 R1 q1
  · exact k4 _ _ _ _ _ _ _ x1 R1 r1 q1
theorem dss_one (h1 : DS X W st m) : DSs X W [st] m := pss_one h1
theorem ds_pass : DS X W (.Pass pos) sNext := psW ps_pass fun De σ H ⟨F, M, env, Q, QE, R, q, hx, k1, k2, k3, k4⟩ => k1 _ _ _ _ _ Ext.refl R q
theorem ds_break : DS X W (.Break pos) sBreak := psW ps_break fun De σ H ⟨F, M, env, Q, QE, R, q, hx, k1, k2, k3, k4⟩ => k2 _ _ _ _ _ Ext.refl R q
theorem ds_continue : DS X W (.Continue pos) sCont := psW ps_continue fun De σ H ⟨F, M, env, Q, QE, R, q, hx, k1, k2, k3, k4⟩ => k3 _ _ _ _ _ Ext.refl R q
theorem ds_ret (he : DE X W e f) : DS X W (.Return (some e) pos) (sRet f) := psW (ps_ret he) fun De σ H ⟨F, M, env, Q, QE, R, q, hx, k1, k2, k3, k4⟩ =>
  ⟨F, M, env, _, QE, R, wpT_bind.mp q, hx, fun v H1 F1 M1 d env1 x1 R1 p1 q1 => k4 _ σ _ _ _ _ _ x1 R1 p1 q1⟩
theorem ds_retN : DS X W (.Return none pos) sRetN := psW ps_retN fun De σ H ⟨F, M, env, Q, QE, R, q, hx, k1, k2, k3, k4⟩ => k4 _ σ _ _ _ _ _ Ext.refl R .non q
theorem ds_if (hc : DT X W c ba) (ha : DSs X W sts m) (hb : DSs X W body n) : DS X W (.If c sts body pos) (sIf ba m n) := psW (ps_if hc ha hb) fun De σ H ⟨F, M, env, Q, QE, R, q, hx, k1, k2, k3, k4⟩ => by
  refine ⟨F, M, env, _, QE, R, wpT_bind.mp q, hx, fun t H1 F1 M1 env1 x1 R1 q1 => ?_⟩
  cases t with
  | true => exact ⟨F1, M1, env1, Q, QE, R1, q1, hx.mono x1, fun σ2 H2 F2 M2 env2 x2 => k1 σ2 H2 F2 M2 env2 (x1.trans x2), fun σ2 H2 F2 M2 env2 x2 => k2 σ2 H2 F2 M2 env2 (x1.trans x2), fun σ2 H2 F2 M2 env2 x2 => k3 σ2 H2 F2 M2 env2 (x1.trans x2), fun v σ2 H2 F2 M2 d env2 x2 => k4 v σ2 H2 F2 M2 d env2 (x1.trans x2)⟩
  | false => exact ⟨F1, M1, env1, Q, QE, R1, q1, hx.mono x1, fun σ2 H2 F2 M2 env2 x2 => k1 σ2 H2 F2 M2 env2 (x1.trans x2), fun σ2 H2 F2 M2 env2 x2 => k2 σ2 H2 F2 M2 env2 (x1.trans x2), fun σ2 H2 F2 M2 env2 x2 => k3 σ2 H2 F2 M2 env2 (x1.trans x2), fun v σ2 H2 F2 M2 d env2 x2 => k4 v σ2 H2 F2 M2 d env2 (x1.trans x2)⟩
theorem ds_asg (he : DE X W e f) (hg : DG X W tg g) (hs : swapsWithSole [tg] e pos.line X.env = pure false := by rfl) (hw : swappedStores [tg] e X.env = pure none := by rfl)
    (h1 : (assignEach [tg] X.env).map (·.2) = [assign tg X.env] := by rfl) : DS X W (.Assign [tg] e pos) (sAsg f g) := psW (ps_asg he hg hs hw h1) fun De σ H ⟨F, M, env, Q, QE, R, q, hx, k1, k2, k3, k4⟩ => by
  refine ⟨F, M, env, _, QE, R, wpT_bind.mp q, hx, fun v H1 F1 M1 d env1 x1 R1 p1 q1 => ?_⟩
  exact ⟨F1, M1, env1, d, _, QE, R1, p1, wpT_bind.mp q1, hx.mono x1, fun σ' H' F' M' env' x2 R2 q2 => k1 _ _ _ _ _ (x1.trans x2) R2 q2⟩
theorem ds_set {i : Nat} {x : Str} {pos' : Pos} (hN : X.N.Nodup) (hi : X.N[i]? = some x) (hx : Loc X.env.scope x) (he : DE X W e f) (hs : swapsWith e (some (.Name x pos')) pos.line X.env = pure false := by rfl) (hf : X.fn x = true ∨ X.env.scope.names.lookup x = some .local := by first | exact .inl rfl | exact .inr rfl | assumption) :
    DS X W (.Assign [.Name x pos'] e pos) (sAsg f (gSet i)) := psW (ps_set hN hi hx he hs hf) fun De σ H ⟨F, M, env, Q, QE, R, q, hx, k1, k2, k3, k4⟩ =>
  ⟨F, M, env, _, QE, R, wpT_bind.mp q, hx, fun v H1 F1 M1 d env1 x1 R1 p1 q1 => k1 _ _ _ _ _ x1 (R1.set i p1) q1⟩
theorem ds_setM {i : Nat} {x : Str} {pos' : Pos} (hN : X.N.Nodup) (hi : X.N[i]? = some x) (hx : Loc X.env.scope x) (he : DF X W e f) (hs : swapsWith e (some (.Name x pos')) pos.line X.env = pure false := by rfl) (hf : X.fn x = true ∨ X.env.scope.names.lookup x = some .local := by first | exact .inl rfl | exact .inr rfl | assumption) :
    DS X W (.Assign [.Name x pos'] e pos) (sSetM i f) := psW (ps_set hN hi hx he hs hf) fun De σ H ⟨F, M, env, Q, QE, R, q, hx, k1, k2, k3, k4⟩ => by
  refine ⟨F, M, env, _, QE, R, wpT_bind.mp q, hx, fun a H1 F1 M1 d env1 x1 R1 na nF nM o1 q1 => ?_⟩
  refine k1 _ H1 F1 (fun x => M1 x ∨ x = a) _ ⟨x1.sub, x1.new, fun y hy => hy.elim (x1.own y) fun e => .inr (e ▸ na), x1.keep, x1.there⟩ (R1.setM i nF nM o1) q1
theorem ds_expr (he : DE X W e f) (hs : swapsWith e none pos.line X.env = pure false := by rfl) : DS X W (.Expr e pos) (sExpr f) := psW (ps_expr he hs) fun De σ H ⟨F, M, env, Q, QE, R, q, hx, k1, k2, k3, k4⟩ =>
  ⟨F, M, env, _, QE, R, wpT_bind.mp q, hx, fun v H1 F1 M1 d env1 x1 R1 p1 q1 => k1 _ _ _ _ _ x1 R1 q1⟩
theorem ds_doc {x j pos pos'} : DS X W (.Expr (.Constant (.str x) j pos) pos') sNext := psW ps_doc fun De σ H ⟨F, M, env, Q, QE, R, q, hx, k1, k2, k3, k4⟩ => k1 _ _ _ _ _ Ext.refl R q
/-- name op= e; the name holds a value -/
theorem ds_aug {i : Nat} {x : Str} {op : Operator} {g2 : D → D → Option D} {pos' : Pos} (hN : X.N.Nodup) (hi : X.N[i]? = some x) (hx : Loc X.env.scope x) (he : DE X W e f) (ho : PIp X op (rD2 X.prog X.w X.K g2)) (hf : X.fn x = true ∨ X.env.scope.names.lookup x = some .local := by first | exact .inl rfl | exact .inr rfl | assumption) :
    DS X W (.AugAssign (.Name x pos') op e pos) (sAug g2 i f) := psW (ps_aug hN hi hx he ho hf) fun De σ H ⟨F, M, env, Q, QE, R, q, hx, k1, k2, k3, k4⟩ => by
  unfold sAug at q
  split at q
  · rename_i d hd
    obtain ⟨v, h1, h2⟩ := R.val i d hd
    refine ⟨v, h1, F, M, env, _, QE, R, wpT_bind.mp q, hx, fun y H1 F1 M1 dy env1 x1 R1 p1 q1 => ?_⟩
    obtain ⟨z, ez, q2⟩ := wpT_of (wpT_bind.mp q1)
    exact ⟨F1, d, dy, z, h2.keeps (x1.keeps R.sep), p1, ez, fun v' F' H' gr p => k1 _ _ _ _ _ (x1.trans (gr.ext (M := M1))) ((R1.grow gr).set i p) q2⟩
  · exact q.elim
/-! ### loops -/
theorem ds_for (hp : PassesOwn (model X.prog X.w) X.A X.env X.xe) (hc : X.calm = true) (hi : DI X W tg iter fl) (hg : DG X W tg g) (hb : DSs X W body mb) (hs : ∀ x, foldedSetIterable iter X.env x = pure x := by intro _; rfl) :
    DS X W (.For tg iter body [] pos) (sFor fl g mb) := psW (ps_for hp hc hi hg hb hs) fun De σ H ⟨F, M, env, Q, QE, R, q, hx, k1, k2, k3, k4⟩ => by
  refine ⟨F, M, env, _, QE, R, wpT_bind.mp q, hx, fun J H1 F1 M1 ds env1 x1 R1 q1 it => ?_⟩
  refine ⟨fun i m σ2 H2 => m = ds.length - i ∧ i ≤ ds.length ∧ ∃ F2 M2 env2, Ext F1 M1 H1 F2 M2 H2 ∧ Rel X.prog X.w X.K F2 M2 H2 env2 σ2 ∧ wpT (forGo g mb (ds.drop i) env2) Q QE,
    ⟨ds.length, rfl, Nat.zero_le _, F1, M1, env1, Ext.refl, R1, q1⟩, ?_⟩
  rintro i m σ2 H2 ⟨rfl, hi', F2, M2, env2, x2, R2, q2⟩
  obtain ⟨it1, it2⟩ := it F2 M2 H2 x2 i
  by_cases hlt : i < ds.length
  · obtain ⟨go, yl⟩ := it1 ds[i] (List.getElem?_eq_getElem hlt)
    refine .inr ⟨go, fun σ' H' => ∃ F2 M2 env2, Ext F1 M1 H1 F2 M2 H' ∧ Rel X.prog X.w X.K F2 M2 H' env2 σ' ∧ wpT (forGo g mb (ds.drop (i + 1)) env2) Q QE, fun σ' H' h' => ⟨ds.length - (i + 1), by omega, rfl, hlt, h'⟩, fun x H3 hy => ?_⟩
    obtain ⟨F3, gr, r3⟩ := yl x H3 hy
    rw [List.drop_eq_getElem_cons hlt] at q2
    have x3 := x2.trans (gr.ext (M := M2))
    refine ⟨F3, M2, env2, _, _, QE, R2.grow gr, r3, wpT_bind.mp q2, hx.mono (x1.trans x3), fun σ4 H4 F4 M4 env4 x4 R4 q4 => ?_⟩
    refine ⟨F4, M4, env4, _, QE, R4, wpT_bind.mp q4, hx.mono (x1.trans (x3.trans x4)), fun σ5 H5 F5 M5 env5 x5 R5 q5 => ?_, fun σ5 H5 F5 M5 env5 x5 R5 q5 => ?_, fun σ5 H5 F5 M5 env5 x5 R5 q5 => ?_, fun v σ5 H5 F5 M5 d env5 x5 R5 r5 q5 => ?_⟩
    · exact ⟨F5, M5, env5, x3.trans (x4.trans x5), R5, q5⟩
    · exact k1 _ _ _ _ _ (x1.trans (x3.trans (x4.trans x5))) R5 q5
    · exact ⟨F5, M5, env5, x3.trans (x4.trans x5), R5, q5⟩
    · exact k4 _ _ _ _ _ _ _ (x1.trans (x3.trans (x4.trans x5))) R5 r5 q5
  · have e : i = ds.length := by omega
    subst e
    rw [List.drop_length] at q2
    exact .inl ⟨it2 (Nat.le_refl _), k1 _ _ _ _ _ (x1.trans x2) R2 q2⟩
theorem ds_while {fu : Nat} (hp : PassesOwn (model X.prog X.w) X.A X.env X.xe) (hc : DT X W c ba) (hb : DSs X W body mb) : DS X W (.While c body [] pos) (sWhile fu ba mb) := psW (ps_while hp hc hb) fun De σ H ⟨F, M, env, Q, QE, R, q, hx, k1, k2, k3, k4⟩ => by
  refine ⟨fun m σ2 H2 => ∃ F2 M2 env2, Ext F M H F2 M2 H2 ∧ Rel X.prog X.w X.K F2 M2 H2 env2 σ2 ∧ wpT (whileGo ba mb m env2) Q QE, ⟨fu, F, M, env, Ext.refl, R, q⟩, ?_⟩
  rintro m σ2 H2 ⟨F2, M2, env2, x2, R2, q2⟩
  cases m with
  | zero => exact q2.elim
  | succ m =>
    refine ⟨F2, M2, env2, _, QE, R2, wpT_bind.mp q2, hx.mono x2, fun t H3 F3 M3 env3 x3 R3 q3 => ?_⟩
    cases t with
    | true =>
      refine ⟨fun σ' H' => ∃ F2 M2 env2, Ext F M H F2 M2 H' ∧ Rel X.prog X.w X.K F2 M2 H' env2 σ' ∧ wpT (whileGo ba mb m env2) Q QE, fun σ' H' h' => ⟨m, Nat.lt_succ_self _, h'⟩, ?_⟩
      refine ⟨F3, M3, env3, _, QE, R3, wpT_bind.mp q3, hx.mono (x2.trans x3), fun σ5 H5 F5 M5 env5 x5 R5 q5 => ?_, fun σ5 H5 F5 M5 env5 x5 R5 q5 => ?_, fun σ5 H5 F5 M5 env5 x5 R5 q5 => ?_, fun v σ5 H5 F5 M5 d env5 x5 R5 r5 q5 => ?_⟩
      · exact ⟨F5, M5, env5, x2.trans (x3.trans x5), R5, q5⟩
      · exact k1 _ _ _ _ _ (x2.trans (x3.trans x5)) R5 q5
      · exact ⟨F5, M5, env5, x2.trans (x3.trans x5), R5, q5⟩
      · exact k4 _ _ _ _ _ _ _ (x2.trans (x3.trans x5)) R5 r5 q5
    | false => exact k1 _ _ _ _ _ (x2.trans x3) R3 q3
end
end DL
set_option Elab.async false
set_option linter.all false
set_option maxRecDepth 100000
set_option autoImplicit false
set_option maxHeartbeats 1000000
/-! The data layer, part 7: iterators, list comprehensions. -/
namespace DL
open PySem PySem.Spec PyProof.Rows L2
section
variable {X : Cx} {W : WX} {e a b c tg iter elt : Expr} {es : List Expr} {f fa fe : MD} {fl : ML} {pos p : Pos}
/-! ### iterators -/
/-- the items of a list, tuple or text -/
def items : D → Option (List D)
  | .lst xs => some xs
  | .tup xs => some xs
  | .str z => some (z.cps.toList.map fun c => .str ⟨#[c]⟩)
  | .scr ns => some (ns.map .int)
  | _ => none
def iAny (f : MD) : ML := fun env => (f env).bind fun (d, e) => (T.of (items d)).bind fun ds => .ret (ds, e)
theorem itOk_list {P : Program} {w : World} {K : PySem.W.Frag} {F M : Addr → Prop} {H : Hp} {a : Addr} {vs : List V} {ds : List D} (hF : F a) (h : H a = some (.lst vs)) (r : RepL P w K F H ds vs) (s : Sep F M H) : ItOk P w K (Itl K a) F M H ds := by
  intro F2 M2 H2 x i
  have kp := x.keeps s
  have h2 := kp.fk a _ hF h
  have q : SqL K H2 a vs := .inl (.inl h2)
  refine ⟨fun d hd => ?_, fun hl => ⟨vs, q, by rw [← r.length]; exact hl⟩⟩
  obtain ⟨v, e1, e2⟩ := r.get hd
  refine ⟨⟨vs, v, q, e1⟩, fun x3 H3 ⟨e3, e4⟩ => ?_⟩
  subst e3
  have := e4 vs q
  rw [e1] at this
  cases this
  exact ⟨F2, Grow.refl, e2.keeps kp⟩
theorem itOk_tup {P : Program} {w : World} {K : PySem.W.Frag} {F M : Addr → Prop} {H : Hp} {a : Addr} {vs : List V} {ds : List D} (h : TupR K H a vs) (r : RepL P w K F H ds vs) (s : Sep F M H) : ItOk P w K (Itt K a) F M H ds := by
  intro F2 M2 H2 x i
  have kp := x.keeps s
  have q : SqT K H2 a vs := (kp.tupR h).sq
  refine ⟨fun d hd => ?_, fun hl => ⟨vs, q, by rw [← r.length]; exact hl⟩⟩
  obtain ⟨v, e1, e2⟩ := r.get hd
  refine ⟨⟨vs, v, q, e1⟩, fun x3 H3 ⟨e3, e4⟩ => ?_⟩
  subst e3
  have := e4 vs q
  rw [e1] at this
  cases this
  exact ⟨F2, Grow.refl, e2.keeps kp⟩
theorem itOk_str {P : Program} {w : World} {K : PySem.W.Frag} {F M : Addr → Prop} {H : Hp} {z : Str} : ItOk P w K (Its z) F M H (z.cps.toList.map fun c => D.str ⟨#[c]⟩) := by
  intro F2 M2 H2 x i
  refine ⟨fun d hd => ?_, fun hl => ?_⟩
  · rw [List.getElem?_map] at hd
    obtain ⟨c, hc, rfl⟩ := Option.map_eq_some_iff.mp hd
    have hc' : z.cps[i]? = some c := by simpa using hc
    refine ⟨(Array.getElem?_eq_some_iff.mp hc').1, fun x3 H3 ⟨e3, c', e4, e5⟩ => ?_⟩
    subst e3 e5
    rw [hc'] at e4
    cases e4
    exact ⟨F2, Grow.refl, .str _⟩
  · have : z.cps.size ≤ i := by simpa using hl
    exact this
theorem repL_ints {P : Program} {w : World} {K : PySem.W.Frag} {F : Addr → Prop} {H : Hp} : ∀ (ns : List Int), RepL P w K F H (ns.map D.int) (ns.map V.int)
  | [] => .nil
  | n :: r => .cons (.int n) (repL_ints r)
theorem itOk_scr {P : Program} {w : World} {K : PySem.W.Frag} {F M : Addr → Prop} {H : Hp} {a : Addr} {ns : List Int} (r : Rep P w K F H (.scr ns) (.ref a)) (s : Sep F M H) : ItOk P w K (Itl K a) F M H (ns.map D.int) := by
  intro F2 M2 H2 x i
  have kp := x.keeps s
  have q : SqL K H2 a (ns.map V.int) := by
    cases r.keeps kp with
    | scr f h => exact .inl h
    | scrK h => exact .inr h
  refine ⟨fun d hd => ?_, fun hl => ⟨_, q, by simpa using hl⟩⟩
  obtain ⟨v, e1, e2⟩ := (repL_ints (P := P) (w := w) (K := K) (F := F2) (H := H2) ns).get hd
  refine ⟨⟨_, v, q, e1⟩, fun x3 H3 ⟨e3, e4⟩ => ?_⟩
  subst e3
  have := e4 _ q
  rw [e1] at this
  cases this
  exact ⟨F2, Grow.refl, e2⟩
theorem di_any (he : DE X W e f) : DI X W tg e (iAny f) := ⟨fun pins s σ H R I ⟨F, M, env, Qd, QE, Rl, q, hx, k⟩ => by
  refine thn (he.run pins s σ H (fun x H1 => ∃ F' M' d env', Ext F M H F' M' H1 ∧ XRep X F' H1 d x ∧ Rel X.prog X.w X.K F' M' H1 env' σ ∧ wpT ((T.of (items d)).bind fun ds => .ret (ds, env')) Qd QE) I
    ⟨F, M, env, _, QE, Rl, wpT_bind.mp q, hx, fun v H' F' M' d env' x R' r q' => ⟨F', M', d, env', x, r, R', q'⟩⟩) fun v s1 ⟨x, H1, I1, r1, F1, M1, d, env1, x1, rp, R1, q1⟩ => ?_
  obtain ⟨ds, ed, q2⟩ := wpT_of (wpT_bind.mp q1)
  unfold items at ed
  split at ed
  · cases ed
    cases rp with
    | lst hF h r =>
      cases r1
      obtain ⟨its, rv, p, hz⟩ := I1.list (.inl (.inl h))
      refine wpAny_pyIter_list p.isList ?_
      exact pi_one (tk := s1.toks) I1 _ (turn_list _ _) ⟨_, Heap.get?_push_size _ rfl, rfl, rfl⟩ (k _ _ F1 M1 _ env1 x1 R1 q2 (itOk_list hF h r R1.sep))
  · cases ed
    cases rp with
    | tup h r =>
      cases r1
      obtain ⟨its, rv, p, hz⟩ := I1.tuple h.sq
      refine wpAny_pyIter_tuple (show s1.heap.IsTuple _ its.toArray from p) ?_
      exact pi_one (tk := s1.toks) I1 _ (turn_tuple _ _) ⟨_, Heap.get?_push_size _ rfl, rfl, rfl⟩ (k _ _ F1 M1 _ env1 x1 R1 q2 (itOk_tup h r R1.sep))
  · rename_i z
    cases ed
    cases rp
    obtain ⟨t, rfl⟩ := r1
    have q3 := k _ _ F1 M1 _ env1 x1 R1 q2 itOk_str
    cases ha : z.cps.all (· < 128)
    · exact wpAny_pyIter_wide ha (pi_one (tk := s1.toks) I1 _ (turn_str _ z t "str_iterator" (.inr rfl)) ⟨_, Heap.get?_push_size _ rfl, rfl, rfl⟩ q3)
    · exact wpAny_pyIter_ascii ha (pi_one (tk := s1.toks) I1 _ (turn_str _ z t "str_ascii_iterator" (.inl rfl)) ⟨_, Heap.get?_push_size _ rfl, rfl, rfl⟩ q3)
  · rename_i ns
    cases ed
    have sq : ∃ a, x = .ref a ∧ SqL X.K H1 a (ns.map V.int) := by
      cases rp with
      | scr f h => exact ⟨_, rfl, .inl h⟩
      | scrK h => exact ⟨_, rfl, .inr h⟩
    obtain ⟨a, rfl, sq⟩ := sq
    cases r1
    obtain ⟨its, rv, p, hz⟩ := I1.list sq
    refine wpAny_pyIter_list p.isList ?_
    exact pi_one (tk := s1.toks) I1 _ (turn_list _ _) ⟨_, Heap.get?_push_size _ rfl, rfl, rfl⟩ (k _ _ F1 M1 _ env1 x1 R1 q2 (itOk_scr rp R1.sep))
  · cases ed⟩
/-- lo, lo + 1, .. -/
def ups (lo : Int) (n : Nat) : List D := (List.range n).map fun (i : Nat) => .int (lo + (i : Int))
def in62 (i : Int) : Bool := decide (-(2 ^ 62) ≤ i) && decide (i < 2 ^ 62)
theorem in62_ok {i : Int} (h : in62 i = true) : -(2 ^ 62) ≤ i ∧ i < 2 ^ 62 := by
  unfold in62 at h
  rw [Bool.and_eq_true] at h
  exact ⟨of_decide_eq_true h.1, of_decide_eq_true h.2⟩
def rng1 : List D → Option (List D)
  | [.int j] => if in62 j then some (ups 0 j.toNat) else none
  | _ => none
def rng2 : List D → Option (List D)
  | [.int i, .int j] => if in62 i && in62 j then some (ups i (j - i).toNat) else none
  | _ => none
/-- downward by one -/
def rng3 : List D → Option (List D)
  | [.int i, .int j, .int c] => if in62 i && in62 j && decide (c = -1) then some ((List.range (i - j).toNat).map fun (k : Nat) => .int (i + (k : Int) * -1)) else none
  | _ => none
def iOf (g : List D → Option (List D)) (fl : ML) : ML := fun env => (fl env).bind fun (ds, e) => (T.of (g ds)).bind fun r => .ret (r, e)
theorem itOk_map {P : Program} {w : World} {K : PySem.W.Frag} {F M : Addr → Prop} {H : Hp} {J : It} {n : Nat} {g : Nat → Int} (hgo : ∀ i H, i < n → J.go i H) (hst : ∀ i H, n ≤ i → J.stop i H) (hy : ∀ i H v H', i < n → J.yld i H v H' → H' = H ∧ v = .int (g i)) : ItOk P w K J F M H ((List.range n).map fun (i : Nat) => D.int (g i)) := by
  intro F2 M2 H2 x i
  refine ⟨fun d hd => ?_, fun hl => hst _ _ (by simpa using hl)⟩
  rw [List.getElem?_map] at hd
  obtain ⟨c, hc, rfl⟩ := Option.map_eq_some_iff.mp hd
  have hi : i < n := by
    have := (List.getElem?_eq_some_iff.mp hc).1
    simpa using this
  rw [List.getElem?_range hi] at hc
  cases hc
  refine ⟨hgo _ _ hi, fun x3 H3 h3 => ?_⟩
  obtain ⟨e3, e4⟩ := hy _ _ _ _ hi h3
  subst e3 e4
  exact ⟨F2, Grow.refl, .int _⟩
theorem itOk_ups {P : Program} {w : World} {K : PySem.W.Frag} {F M : Addr → Prop} {H : Hp} {lo : Int} {n : Nat} : ItOk P w K (Itr lo n) F M H (ups lo n) :=
  itOk_map (fun _ _ h => h) (fun _ _ h => h) fun _ _ _ _ _ h => h
theorem di_range1 (hg : Gl X "range") (hm : X.mg "range" = none) (ha : DA X W [a] fl) (hs : starEach [a] X.env = [(false, eval a X.env)] := by rfl) : DI X W tg (.Call (.Name "range" p) [a] [] pos) (iOf rng1 fl) :=
  piW (pi_range1 hg hm ha hs) fun σ H R ⟨F, M, env, Qd, QE, Rl, q, hx, k⟩ => by
    refine ⟨F, M, env, _, QE, Rl, wpT_bind.mp q, hx, fun vs H1 F1 M1 ds env1 x1 R1 p1 q1 => ?_⟩
    obtain ⟨r, er, q2⟩ := wpT_of (wpT_bind.mp q1)
    unfold rng1 at er
    split at er
    · split at er
      · rename_i j hj
        cases er
        cases p1 with
        | cons h1 t1 =>
          cases h1; cases t1
          exact ⟨j, rfl, (in62_ok hj).1, (in62_ok hj).2, k _ _ F1 M1 _ env1 x1 R1 q2 itOk_ups⟩
      · cases er
    · cases er
theorem di_range2 (hg : Gl X "range") (hm : X.mg "range" = none) (ha : DA X W [a, b] fl) (hs : starEach [a, b] X.env = [(false, eval a X.env), (false, eval b X.env)] := by rfl) (hs2 : starEach [b] X.env = [(false, eval b X.env)] := by rfl) :
    DI X W tg (.Call (.Name "range" p) [a, b] [] pos) (iOf rng2 fl) :=
  piW (pi_range2 hg hm ha hs hs2) fun σ H R ⟨F, M, env, Qd, QE, Rl, q, hx, k⟩ => by
    refine ⟨F, M, env, _, QE, Rl, wpT_bind.mp q, hx, fun vs H1 F1 M1 ds env1 x1 R1 p1 q1 => ?_⟩
    obtain ⟨r, er, q2⟩ := wpT_of (wpT_bind.mp q1)
    unfold rng2 at er
    split at er
    · split at er
      · rename_i i j hj
        cases er
        rw [Bool.and_eq_true] at hj
        cases p1 with
        | cons h1 t1 =>
          cases t1 with
          | cons h2 t2 =>
            cases h1; cases h2; cases t2
            exact ⟨i, j, rfl, ⟨(in62_ok hj.1).1, (in62_ok hj.1).2, (in62_ok hj.2).1, (in62_ok hj.2).2⟩, k _ _ F1 M1 _ env1 x1 R1 q2 itOk_ups⟩
      · cases er
    · cases er
theorem di_range3 (hg : Gl X "range") (hm : X.mg "range" = none) (ha : DA X W [a, b, c] fl) (hs : starEach [a, b, c] X.env = (false, eval a X.env) :: starEach [b, c] X.env := by rfl) (hpl : (backTo pos (starEach [b, c] X.env)).any (·.1) = false := by rfl) :
    DI X W tg (.Call (.Name "range" p) [a, b, c] [] pos) (iOf rng3 fl) :=
  piW (pi_range3 hg hm ha hs hpl) fun σ H R ⟨F, M, env, Qd, QE, Rl, q, hx, k⟩ => by
    refine ⟨F, M, env, _, QE, Rl, wpT_bind.mp q, hx, fun vs H1 F1 M1 ds env1 x1 R1 p1 q1 => ?_⟩
    obtain ⟨r, er, q2⟩ := wpT_of (wpT_bind.mp q1)
    unfold rng3 at er
    split at er
    · split at er
      · rename_i i j c hj
        cases er
        rw [Bool.and_eq_true, Bool.and_eq_true, decide_eq_true_iff] at hj
        cases p1 with
        | cons h1 t1 =>
          cases t1 with
          | cons h2 t2 =>
            cases t2 with
            | cons h3 t3 =>
              cases h1; cases h2; cases h3; cases t3
              obtain ⟨⟨a1, a2⟩, rfl⟩ := hj
              refine ⟨i, j, -1, _, rfl, RgC.neg (in62_ok a1).1 (in62_ok a1).2 (in62_ok a2).1 (in62_ok a2).2, k _ _ F1 M1 _ env1 x1 R1 q2 (itOk_map (fun _ _ h => h) (fun _ _ h => h) fun _ _ _ _ _ h => h)⟩
      · cases er
    · cases er
/-! ### enumerate -/
def enumD : Nat → List D → List D
  | _, [] => []
  | i, d :: r => .tup [.int (i : Nat), d] :: enumD (i + 1) r
theorem enumD_get : ∀ {k i : Nat} {ds : List D} {d : D}, (enumD k ds)[i]? = some d → ∃ d0, ds[i]? = some d0 ∧ d = .tup [.int ((k + i : Nat) : Int), d0]
  | _, _, [], _, h => by simp [enumD] at h
  | k, 0, d0 :: r, d, h => by
    simp only [enumD, List.getElem?_cons_zero, Option.some.injEq] at h
    exact ⟨d0, rfl, h.symm⟩
  | k, i + 1, d0 :: r, d, h => by
    simp only [enumD, List.getElem?_cons_succ] at h
    obtain ⟨d1, h1, h2⟩ := enumD_get h
    refine ⟨d1, by simpa using h1, ?_⟩
    rw [h2, show k + 1 + i = k + (i + 1) by omega]
theorem enumD_length : ∀ (k : Nat) (ds : List D), (enumD k ds).length = ds.length
  | _, [] => rfl
  | k, d :: r => by simp only [enumD, List.length_cons, enumD_length (k + 1) r]
/-- the signs of x, each in a new pair -/
def Ites (x : Str) : It := ⟨fun i _ => i < x.cps.size, fun i H v H' => ∃ T c, v = .ref T ∧ H T = none ∧ H' = upd H T (.tup [.int (i : Nat), .str ⟨#[c]⟩]) ∧ x.cps[i]? = some c, fun i _ => x.cps.size ≤ i⟩
theorem turn_enumS {P : Program} {w : World} {K : PySem.W.Frag} {elts : List Expr} {kk : Nat} {tpos : Pos} (x : Str) (t : Tok) (e it : Addr) :
    Turn P w K (.Tuple elts kk tpos) (Ites x) [e, it] e (fun i h => (∃ old, IsEnum h e it ((i : Nat) : Int) old) ∧ h.IsStrIter it (strIterType x) x t i ∧ e ≠ it ∧ i ≤ x.cps.size) where
  mem := by simp
  obj := fun i h st b hb => by
    obtain ⟨⟨old, he⟩, ⟨o, ho, hc, hd⟩, _⟩ := st
    have e' : b = e ∨ b = it := by simpa using hb
    rcases e' with z | z
    · rw [z]; exact ⟨_, he, fun v q => nomatch q⟩
    · rw [z]; exact ⟨o, ho, fun v q => by rw [hd] at q; cases q⟩
  keep := fun i h h' st k => let ⟨⟨old, he⟩, ⟨o, ho, r⟩, hne⟩ := st; ⟨⟨old, k e (by simp) _ he⟩, ⟨o, k it (by simp) o ho, r⟩, hne⟩
  item := by
    intro X hP hw hK hc i pins s σ H E I hf st hg
    subst hP hw hK
    obtain ⟨⟨old, he⟩, hit, hne, hle⟩ := st
    have hel : e < s.heap.objs.size := Heap.lt_size he
    have hil : it < s.heap.objs.size := by obtain ⟨_, q, _⟩ := hit; exact Heap.lt_size q
    refine wpAny_pyNext_enum_itemD (Draws.text (A := X.A.in1) (I.ok.hd hc) it x t) he hit hg hne (by simpa using hne) fun v h' tk hP ho hit' hT hsz hk => ?_
    obtain ⟨c, u, hcx, rfl⟩ := hP
    refine ⟨_, rfl, wpAny_letOwnedTupleGo_enum (s := { s with heap := h', toks := tk + 1 }) ho fun h'' he' sb => ?_⟩
    have hT2 : h''.get? s.heap.objs.size = some { cls := .type "tuple", data := .seq #[.int i tk, .str ⟨#[c]⟩ u] } := (sb.2 _ (Nat.ne_of_gt hel)).trans hT
    have new : ObjOk X.prog X.w (upd H s.heap.objs.size (.tup [.int (i : Nat), .str ⟨#[c]⟩])) h'' s.heap.objs.size (.tup [.int (i : Nat), .str ⟨#[c]⟩]) :=
      ⟨by show 2 ≤ sizeLine; decide, [.int i tk, .str ⟨#[c]⟩ u], .cons ⟨_, rfl⟩ (.cons ⟨_, rfl⟩ .nil), ⟨_, hT2, rfl, _, rfl⟩⟩
    have I1 : Inv X pins σ (upd H s.heap.objs.size (.tup [.int (i : Nat), .str ⟨#[c]⟩])) { s with heap := h'', toks := tk + 1 } :=
      I.turnedNew (ch := [e, it]) (fun b ob hb q => (sb.2 b (fun z => hb (by simp [z]))).trans (hk b ob (fun z => hb (by simp [z])) (fun z => hb (by simp [z])) q)) hf (Nat.le_refl _) new
    refine ⟨.ref s.heap.objs.size, _, I1, rfl, ⟨_, c, rfl, I.hok.fresh (Nat.le_refl _), rfl, hcx⟩, ⟨⟨.str ⟨#[c]⟩ u, ?_⟩, ?_, hne, hg⟩, fun b hb => ?_⟩
    · have e1 : ((i + 1 : Nat) : Int) = (i : Int) + 1 := by omega
      rw [e1]; exact he'
    · obtain ⟨o, q, r⟩ := hit'
      exact ⟨o, (sb.2 it (Ne.symm hne)).trans q, r⟩
    · have hb' : b < s.heap.objs.size := by
        have e' : b = e ∨ b = it := by simpa using hb
        rcases e' with z | z
        · rw [z]; exact hel
        · rw [z]; exact hil
      rw [upd_ne (Nat.ne_of_lt hb')]
      exact (hf b hb).1
  done := by
    intro X hP hw hK hc i pins s σ H E I hf st hg
    subst hP hw hK
    obtain ⟨⟨old, he⟩, hit, hne, hle⟩ := st
    have hge : x.cps.size ≤ i := hg
    obtain rfl : i = x.cps.size := by omega
    obtain ⟨f0, f1, f2, f3, f4, f5⟩ := hf it (by simp)
    exact wpAny_pyNext_enum_endD (Draws.text (A := X.A.in1) (I.ok.hd hc) it x t) he hit fun h' eb => ⟨rfl, I.turned (t' := s.toks) (fun b o hb q => eb b o hb q) f0 f1 f3 f4 f5⟩
  self := fun A i s Q E st h => let ⟨⟨_, he⟩, _⟩ := st; wpAny_pyIter_enum he h
def enumItems : List D → Option (List D)
  | [.lst xs] => some (enumD 0 xs)
  | [.str z] => some (enumD 0 (z.cps.toList.map fun c => .str ⟨#[c]⟩))
  | _ => none
theorem Grow.pair {F : Addr → Prop} {H : Hp} {p : Addr} {o : HO} (hp : H p = none) : Grow F H F (upd H p o) := Grow.laid hp
theorem itOk_enum {P : Program} {w : World} {K : PySem.W.Frag} {F M : Addr → Prop} {H : Hp} {a : Addr} {vs : List V} {ds : List D} (hF : F a) (h : H a = some (.lst vs)) (r : RepL P w K F H ds vs) (s : Sep F M H) : ItOk P w K (Ite K a) F M H (enumD 0 ds) := by
  intro F2 M2 H2 x i
  have kp := x.keeps s
  have h2 := kp.fk a _ hF h
  have q : SqL K H2 a vs := .inl (.inl h2)
  refine ⟨fun d hd => ?_, fun hl => ⟨vs, q, by rw [← r.length, ← enumD_length 0]; exact hl⟩⟩
  obtain ⟨d0, hd0, rfl⟩ := enumD_get hd
  obtain ⟨v, e1, e2⟩ := r.get hd0
  refine ⟨⟨vs, v, q, e1⟩, fun x3 H3 ⟨T, y, e3, hT, e4, e5⟩ => ?_⟩
  subst e3 e4
  have := e5 vs q
  rw [e1] at this
  cases this
  rw [Nat.zero_add]
  exact ⟨F2, Grow.laid hT, .tup (.inl upd_same) (.cons (.int _) (.cons ((e2.keeps kp).keeps (Grow.laid (F := F2) hT).keeps) .nil))⟩
theorem itOk_enumS {P : Program} {w : World} {K : PySem.W.Frag} {F M : Addr → Prop} {H : Hp} {z : Str} : ItOk P w K (Ites z) F M H (enumD 0 (z.cps.toList.map fun c => D.str ⟨#[c]⟩)) := by
  intro F2 M2 H2 x i
  refine ⟨fun d hd => ?_, fun hl => ?_⟩
  · obtain ⟨d0, hd0, rfl⟩ := enumD_get hd
    rw [List.getElem?_map] at hd0
    obtain ⟨c, hc, rfl⟩ := Option.map_eq_some_iff.mp hd0
    have hc' : z.cps[i]? = some c := by simpa using hc
    refine ⟨(Array.getElem?_eq_some_iff.mp hc').1, fun x3 H3 ⟨T, c', e3, hT, e4, e5⟩ => ?_⟩
    subst e3 e4
    rw [hc'] at e5
    cases e5
    rw [Nat.zero_add]
    exact ⟨F2, Grow.laid hT, .tup (.inl upd_same) (.cons (.int _) (.cons (.str _) .nil))⟩
  · have : z.cps.size ≤ i := by rw [enumD_length] at hl; simpa using hl
    exact this
theorem di_enum {elts : List Expr} {kk : Nat} {tpos : Pos} (hg : Gl X "enumerate") (hm : X.mg "enumerate" = none) (ha : DA X W [e] fl) (hs : starEach [e] X.env = [(false, eval e X.env)] := by rfl) :
    DI X W (.Tuple elts kk tpos) (.Call (.Name "enumerate" p) [e] [] pos) (iOf enumItems fl) := ⟨fun pins s σ H R I ⟨F, M, env, Qd, QE, Rl, q, hx, k⟩ => by
  refine Call_ (ld_blt I hg hm boot_enumerate (PyProof.Rows.callWith_type1 (thn (ha.run pos pins s σ H (fun vs H1 => ∃ F' M' ds env', Ext F M H F' M' H1 ∧ XRepL X F' H1 ds vs ∧ Rel X.prog X.w X.K F' M' H1 env' σ ∧ wpT ((T.of (enumItems ds)).bind fun ds => .ret (ds, env')) Qd QE) I
    ⟨F, M, env, _, QE, Rl, wpT_bind.mp q, hx, fun v H' F' M' d env' x R' r q' => ⟨F', M', d, env', x, r, R', q'⟩⟩) fun us s1 ⟨vs, H1, I1, r1, q1⟩ => ?_) hs rfl))
  obtain ⟨F1, M1, ds, env1, x1, rp, R1, q1⟩ := q1
  obtain ⟨out, eo, q2⟩ := wpT_of (wpT_bind.mp q1)
  unfold enumItems at eo
  split at eo
  · cases eo
    cases rp with
    | cons a t =>
      cases t
      cases a with
      | @lst a vs ds hF h r =>
        cases r1 with
        | cons b t =>
          cases t; cases b
          obtain ⟨its, rv, p', hz⟩ := I1.list (.inl (.inl h))
          refine call_enumerate_list p'.isList fun h' he hit hsz hk => wpAny_pyIter_enum he ?_
          have I2 : Inv X pins σ H1 { s1 with heap := h' } := I1.kept (t' := s1.toks) hk
          refine ⟨s1.heap.objs.size + 1, [s1.heap.objs.size + 1, s1.heap.objs.size], _, _, H1, rfl, I2, turn_enum _ (s1.heap.objs.size + 1) s1.heap.objs.size, ⟨⟨.none, he⟩, hit, Nat.succ_ne_self _⟩, fun b hb => ?_, k _ _ F1 M1 _ env1 x1 R1 q2 (itOk_enum hF h r R1.sep)⟩
          have e' : b = s1.heap.objs.size + 1 ∨ b = s1.heap.objs.size := by simpa using hb
          have hle : s1.heap.objs.size ≤ b := by
            rcases e' with z | z
            · rw [z]; exact Nat.le_add_right _ _
            · rw [z]; exact Nat.le_refl _
          exact I1.fpOk hle (I1.hok.fresh hle)
  · cases eo
    cases rp with
    | cons a t =>
      cases t; cases a
      cases r1 with
      | cons b t =>
        cases t
        obtain ⟨tk, rfl⟩ := b
        refine call_enumerate_str fun h' he hit hsz hk => wpAny_pyIter_enum he ?_
        have I2 : Inv X pins σ H1 { s1 with heap := h' } := I1.kept (t' := s1.toks) hk
        refine ⟨s1.heap.objs.size + 1, [s1.heap.objs.size + 1, s1.heap.objs.size], _, _, H1, rfl, I2, turn_enumS _ tk (s1.heap.objs.size + 1) s1.heap.objs.size, ⟨⟨.none, he⟩, hit, Nat.succ_ne_self _, Nat.zero_le _⟩, fun b hb => ?_, k _ _ F1 M1 _ env1 x1 R1 q2 itOk_enumS⟩
        have e' : b = s1.heap.objs.size + 1 ∨ b = s1.heap.objs.size := by simpa using hb
        have hle : s1.heap.objs.size ≤ b := by
          rcases e' with z | z
          · rw [z]; exact Nat.le_add_right _ _
          · rw [z]; exact Nat.le_refl _
        exact I1.fpOk hle (I1.hok.fresh hle)
  · cases eo⟩
end
end DL
set_option Elab.async false
set_option linter.all false
set_option maxRecDepth 100000
set_option autoImplicit false
set_option maxHeartbeats 1000000
/-! The data layer, part 8: list comprehensions. -/
namespace DL
open PySem PySem.Spec PyProof.Rows L2
/-- no error may leave -/
def T.nox {α : Type} : T α → T α
  | .ret a => .ret a
  | .exc _ _ => .stuck
  | .stuck => .stuck
  | .draw n k => .draw n fun r => (k r).nox
theorem wpT_nox {α : Type} {Q : α → Prop} {E E' : Str → Env → Prop} : ∀ {t : T α}, wpT t.nox Q E → wpT t Q E'
  | .ret a, h => h
  | .exc c e, h => h.elim
  | .stuck, h => h
  | .draw n k, h => fun r hr => wpT_nox (h r hr)
/-- a block's own names forgotten -/
def wipeE (env : Env) : List Nat → Env
  | [] => env
  | v :: vs => (wipeE env vs).set v .un
/-- .. and back: what the block shared stays shared -/
def backE (env : Env) (e : Env) : List Nat → Env
  | [] => e
  | v :: vs => match env[v]? with
    | some s => (backE env e vs).set v s
    | none => backE env e vs
def isMut : Sl → Bool
  | .mut _ => true
  | _ => false
def ownOk (env : Env) (vs : List Nat) : Bool := vs.all fun v => match env[v]? with
  | some s => !isMut s
  | none => true
theorem wipeE_length (env : Env) : ∀ vs : List Nat, (wipeE env vs).length = env.length
  | [] => rfl
  | v :: vs => by unfold wipeE; rw [List.length_set, wipeE_length env vs]
theorem wipeE_get {env : Env} {i : Nat} {s : Sl} : ∀ {vs : List Nat}, (wipeE env vs)[i]? = some s → s = .un ∨ (env[i]? = some s ∧ i ∉ vs)
  | [], h => .inr ⟨h, by simp⟩
  | v :: vs, h => by
    unfold wipeE at h
    by_cases hi : v = i
    · subst hi
      by_cases hv : v < (wipeE env vs).length
      · rw [List.getElem?_set_self hv] at h; cases h; exact .inl rfl
      · rw [List.getElem?_eq_none (by simpa using hv)] at h; cases h
    · rw [List.getElem?_set_ne hi] at h
      rcases wipeE_get h with h | ⟨h1, h2⟩
      · exact .inl h
      · exact .inr ⟨h1, by simp only [List.mem_cons, not_or]; exact ⟨fun e => hi e.symm, h2⟩⟩
theorem wipe_get {σ : L2.St} {i : Nat} : ∀ {vs : List Nat}, i ∉ vs → (wipe σ vs)[i]? = σ[i]?
  | [], _ => rfl
  | v :: vs, h => by
    simp only [List.mem_cons, not_or] at h
    unfold wipe
    rw [List.getElem?_set_ne (fun e => h.1 e.symm)]
    exact wipe_get h.2
theorem wipe_mem {σ : L2.St} {i : Nat} {x : Option V} : ∀ {vs : List Nat}, i ∈ vs → (wipe σ vs)[i]? = some x → x = none
  | v :: vs, h, e => by
    unfold wipe at e
    by_cases hv : v = i
    · subst hv
      by_cases hl : v < (wipe σ vs).length
      · rw [List.getElem?_set_self hl] at e; cases e; rfl
      · rw [List.getElem?_eq_none (by simpa using hl)] at e; cases e
    · rw [List.getElem?_set_ne hv] at e
      exact wipe_mem ((List.mem_cons.mp h).resolve_left fun z => hv z.symm) e
section
variable {P : Program} {w : World} {K : PySem.W.Frag} {F M F' M' : Addr → Prop} {H H' : Hp} {env env' : Env} {σ σ' : L2.St}
theorem Rel.wipe (R : Rel P w K F M H env σ) (vs : List Nat) : Rel P w K F M H (wipeE env vs) (L2.wipe σ vs) where
  sep := R.sep
  len := by rw [wipeE_length, wipe_length]; exact R.len
  val := fun i d h => by
    rcases wipeE_get h with h | ⟨h1, h2⟩
    · cases h
    · obtain ⟨v, h3, h4⟩ := R.val i d h1
      exact ⟨v, by rw [wipe_get h2]; exact h3, h4⟩
  mt := fun i d h => by
    rcases wipeE_get h with h | ⟨h1, h2⟩
    · cases h
    · obtain ⟨v, h3, h4⟩ := R.mt i d h1
      exact ⟨v, by rw [wipe_get h2]; exact h3, h4⟩
  inj := fun i j d1 d2 a h1 h2 h3 h4 => by
    rcases wipeE_get h1 with h1 | ⟨h1, n1⟩
    · cases h1
    · rcases wipeE_get h2 with h2 | ⟨h2, n2⟩
      · cases h2
      · rw [wipe_get n1] at h3
        rw [wipe_get n2] at h4
        exact R.inj i j d1 d2 a h1 h2 h3 h4
theorem backE_length {env e : Env} : ∀ vs : List Nat, (backE env e vs).length = e.length
  | [] => rfl
  | v :: vs => by
    unfold backE
    split
    · rw [List.length_set, backE_length vs]
    · exact backE_length vs
theorem backE_get {env e : Env} {i : Nat} {s : Sl} : ∀ {vs : List Nat}, (backE env e vs)[i]? = some s → (i ∈ vs ∧ env[i]? = some s) ∨ (e[i]? = some s ∧ (i ∈ vs → env[i]? = none))
  | [], h => .inr ⟨h, by simp⟩
  | v :: vs, h => by
    unfold backE at h
    split at h
    · rename_i s' hs
      by_cases hi : v = i
      · subst hi
        by_cases hv : v < (backE env e vs).length
        · rw [List.getElem?_set_self hv] at h; cases h; exact .inl ⟨List.mem_cons_self, hs⟩
        · rw [List.getElem?_eq_none (by simpa using hv)] at h; cases h
      · rw [List.getElem?_set_ne hi] at h
        rcases backE_get h with ⟨h1, h2⟩ | ⟨h1, h2⟩
        · exact .inl ⟨List.mem_cons_of_mem _ h1, h2⟩
        · exact .inr ⟨h1, fun z => (List.mem_cons.mp z).elim (fun z => absurd z.symm hi) h2⟩
    · rename_i hs
      rcases backE_get h with ⟨h1, h2⟩ | ⟨h1, h2⟩
      · exact .inl ⟨List.mem_cons_of_mem _ h1, h2⟩
      · exact .inr ⟨h1, fun z => (List.mem_cons.mp z).elim (fun z => z ▸ hs) h2⟩
/-- back from a block: env the names at its start, e at its end -/
theorem Rel.back {e : Env} {vs : List Nat} (R : Rel P w K F M H env σ) (ok : ownOk env vs = true) (kp : Keeps F H F' H') (S : Rel P w K F' M' H' e (L2.wipe σ vs)) : Rel P w K F' M' H' (backE env e vs) σ := by
  have nm : ∀ {i : Nat} {d : D}, i ∈ vs → env[i]? = some (.mut d) → False := fun {i d} h1 h2 => by
    have := List.all_eq_true.mp ok i h1
    rw [h2] at this
    exact Bool.false_ne_true this
  refine ⟨S.sep, by rw [backE_length]; exact S.len.trans (wipe_length _ _), fun i d h => ?_, fun i d h => ?_, fun i j d1 d2 a h1 h2 h3 h4 => ?_⟩
  · rcases backE_get h with ⟨h1, h2⟩ | ⟨h1, h2⟩
    · obtain ⟨v, h3, h4⟩ := R.val i d h2
      exact ⟨v, h3, h4.keeps kp⟩
    · obtain ⟨v, h3, h4⟩ := S.val i d h1
      exact ⟨v, (wipe_some h3).1, h4⟩
  · rcases backE_get h with ⟨h1, h2⟩ | ⟨h1, h2⟩
    · exact (nm h1 h2).elim
    · obtain ⟨v, h3, h4⟩ := S.mt i d h1
      exact ⟨v, (wipe_some h3).1, h4⟩
  · rcases backE_get h1 with ⟨m1, k1⟩ | ⟨k1, _⟩
    · exact (nm m1 k1).elim
    · rcases backE_get h2 with ⟨m2, k2⟩ | ⟨k2, _⟩
      · exact (nm m2 k2).elim
      · obtain ⟨b, z1, _⟩ := S.mt i d1 k1
        obtain ⟨b', z2, _⟩ := S.mt j d2 k2
        have y1 := (wipe_some z1).1
        have y2 := (wipe_some z2).1
        rw [h3] at y1; cases y1
        rw [h4] at y2; cases y2
        exact S.inj i j d1 d2 _ k1 k2 z1 z2
/-- a list that is no one's is changed -/
theorem Keeps.out {D : Addr} {acc : List V} {o : HO} (hD : H D = some (.lst acc)) (nF : ¬ F D) : Keeps F H F (upd H D o) where
  sub := fun _ h => h
  fk := fun a u f e => by rw [upd_ne (fun (z : a = D) => nF (z ▸ f))]; exact e
  tup := fun a xs e => by rw [upd_ne (fun z => by rw [z, hD] at e; cases e)]; exact e
  frz := fun a u v e => by rw [upd_ne (fun z => by rw [z, hD] at e; cases e)]; exact e
theorem Rel.out {D : Addr} {acc acc' : List V} (R : Rel P w K F M H env σ) (hD : H D = some (.lst acc)) (nF : ¬ F D) (nM : ¬ M D) : Rel P w K F M (upd H D (.lst acc')) env σ where
  sep := ⟨R.sep.apart, fun a m => by rw [upd_ne (fun (z : a = D) => nM (z ▸ m))]; exact R.sep.kind a m, fun a f => by rw [upd_ne (fun (z : a = D) => nF (z ▸ f))]; exact R.sep.ftr a f⟩
  len := R.len
  val := fun i d h => let ⟨v, h1, h2⟩ := R.val i d h; ⟨v, h1, h2.keeps (Keeps.out hD nF)⟩
  mt := fun i d h => let ⟨a, h1, h2, h3⟩ := R.mt i d h; ⟨a, h1, h2, h3.keeps (Keeps.out hD nF) fun o e => by rw [upd_ne (fun (z : a = D) => nM (z ▸ h2))]; exact e⟩
  inj := R.inj
theorem Ext.out {D : Addr} {F0 M0 : Addr → Prop} {H0 : Hp} {o : HO} (x : Ext F0 M0 H0 F M H) (hD : H0 D = none) : Ext F0 M0 H0 F M (upd H D o) where
  sub := x.sub
  new := x.new
  own := x.own
  keep := fun a u e n => by rw [upd_ne (ne_of_none e hD)]; exact x.keep a u e n
  there := fun a u e => by rw [upd_ne (ne_of_none e hD)]; exact x.there a u e
theorem Ext.outside {D : Addr} {u : HO} (x : Ext F M H F' M' H') (hD : H D = some u) (nF : ¬ F D) (nM : ¬ M D) : H' D = some u ∧ ¬ F' D ∧ ¬ M' D :=
  ⟨x.keep D u hD nM, fun f => (x.new D f).elim nF fun z => z.elim nM fun z => (by rw [hD] at z; cases z), fun m => (x.own D m).elim nM fun z => (by rw [hD] at z; cases z)⟩
end
section
variable (P : Program) (w : World) (K : PySem.W.Frag)
/-- a block's target: only its own names are written -/
def tDV (vs : List Nat) (g : MG) : TG := fun v σ H Q => ∃ (F M : Addr → Prop) (env : Env) (d : D) (Qd : Env → Prop) (E : Str → Env → Prop), Rel P w K F M H env σ ∧ Rep P w K F H d v ∧ wpT (g d env) Qd E ∧
  ∀ (σ' : L2.St) (env' : Env), L2.wipe σ' vs = L2.wipe σ vs → Rel P w K F M H env' σ' → Qd env' → Q σ' H
def tDVs (vs : List Nat) (g : MGs) : TGs := fun xs σ H Q => ∃ (F M : Addr → Prop) (env : Env) (ds : List D) (Qd : Env → Prop) (E : Str → Env → Prop), Rel P w K F M H env σ ∧ RepL P w K F H ds xs ∧ wpT (g ds env) Qd E ∧
  ∀ (σ' : L2.St) (env' : Env), L2.wipe σ' vs = L2.wipe σ vs → Rel P w K F M H env' σ' → Qd env' → Q σ' H
end
def DV (X : Cx) (vs : List Nat) (tg : Expr) (g : MG) : Prop := PG X tg (tDV X.prog X.w X.K vs g)
def DVs (X : Cx) (vs : List Nat) (tgs : List Expr) (g : MGs) : Prop := PGs X tgs (tDVs X.prog X.w X.K vs g)
theorem wipe_set {σ : L2.St} {i : Nat} {v : Option V} : ∀ {vs : List Nat}, i ∈ vs → wipe (σ.set i v) vs = wipe σ vs := by
  intro vs h
  refine List.ext_getElem? fun j => ?_
  by_cases hj : j ∈ vs
  · have l1 : (wipe (σ.set i v) vs).length = (wipe σ vs).length := by rw [wipe_length, wipe_length, List.length_set]
    by_cases hl : j < (wipe σ vs).length
    · rw [List.getElem?_eq_getElem hl, List.getElem?_eq_getElem (l1 ▸ hl)]
      rw [wipe_mem hj (List.getElem?_eq_getElem hl), wipe_mem hj (List.getElem?_eq_getElem (l1 ▸ hl))]
    · rw [List.getElem?_eq_none (by omega), List.getElem?_eq_none (by omega)]
  · rw [wipe_get hj, wipe_get hj, List.getElem?_set_ne (fun (e : i = j) => hj (e ▸ h))]
section
variable {X : Cx} {W : WX} {e tg iter elt c : Expr} {es tgs ifs : List Expr} {f fe : MD} {g : MG} {gs : MGs} {tt : MB} {fl : ML} {vs : List Nat} {pos : Pos}
theorem dv_name {i : Nat} {x : Str} (hN : X.N.Nodup) (hi : X.N[i]? = some x) (hx : Loc X.env.scope x) (hv : i ∈ vs) (hf : X.fn x = true ∨ X.env.scope.names.lookup x = some .local) : DV X vs (.Name x pos) (gSet i) :=
  pgW (pg_name hN hi hx hf) fun v σ H Q ⟨F, M, env, d, Qd, E, R, r, q, k⟩ => k _ _ (wipe_set hv) (R.set i r) q
theorem dvs_nil : DVs X vs [] gsNil := pgsW pgs_nil fun v σ H Q ⟨F, M, env, ds, Qd, E, R, r, q, k⟩ => by
  cases r with
  | nil => exact ⟨rfl, k _ _ rfl R q⟩
  | cons => exact q.elim
theorem dvs_cons (h1 : DV X vs e g) (h2 : DVs X vs es gs) (hs : (assignEach (e :: es) X.env).map (·.2) = assign e X.env :: (assignEach es X.env).map (·.2) := by rfl) : DVs X vs (e :: es) (gsCons g gs) :=
  pgsW (pgs_cons h1 h2 hs) fun v σ H Q ⟨F, M, env, ds, Qd, E, R, r, q, k⟩ => by
    cases r with
    | nil => exact q.elim
    | cons a r =>
      refine ⟨_, _, rfl, F, M, env, _, _, E, R, a, wpT_bind.mp q, fun σ1 env1 w1 R1 q1 => ?_⟩
      exact ⟨F, M, env1, _, Qd, E, R1, r, q1, fun σ' env' w2 => k σ' env' (w2.trans w1)⟩
theorem dv_tup {k n : Nat} (hc : X.calm = true) (h : DVs X vs es gs) (hn : (assignEach es X.env).length = n := by rfl) (hst : (assignEach es X.env).findIdx? (·.1) = none := by rfl) : DV X vs (.Tuple es k pos) (gTupD n gs) :=
  pgW (pg_tup hc h hn hst) fun v σ H Q ⟨F, M, env, d, Qd, E, R, r, q, kk⟩ => by
    cases r with
    | tup h1 h2 =>
      have q' := q
      unfold gTupD at q'
      dsimp only at q'
      split at q'
      · rename_i hl
        exact ⟨_, _, rfl, h1.sq, by rw [← h2.length]; exact hl, F, M, env, _, Qd, E, R, h2, q', kk⟩
      · exact q'.elim
    | _ => exact q.elim
/-- a clause's tests -/
def DTs (X : Cx) (W : WX) (ifs : List Expr) (t : MB) : Prop := PTs X ifs (XB X W t)
def mYes : MB := fun env => .ret (true, env)
theorem dts_nil : DTs X W [] mYes := ⟨fun pins s σ H Q I ⟨F, M, env, Qd, QE, R, q, hx, k⟩ => pts_nil.run pins s σ H Q I (k _ _ _ _ _ Ext.refl R q)⟩
theorem dts_one (h : DT X W c tt) : DTs X W [c] tt := pts_one h

def W0 : WX := fun _ _ _ _ => False
def lcGo (vs : List Nat) (g : MG) (tt : MB) (fe : MD) : List D → List D → Env → T (List D × Env)
  | [], acc, e => .ret (acc, e)
  | d :: r, acc, e => (g d e).bind fun e1 => (tt e1).bind fun (b, e2) =>
    if b = true then (fe e2).bind fun (y, e3) => if acc.length < sizeLine then lcGo vs g tt fe r (acc ++ [y]) (wipeE e3 vs) else .stuck
    else lcGo vs g tt fe r acc (wipeE e2 vs)
/-- [fe for g in fl if tt] -/
def mLc (vs : List Nat) (fl : ML) (g : MG) (tt : MB) (fe : MD) : MD := fun env => (fl env).bind fun (ds, e) =>
  if ownOk e vs = true then (lcGo vs g tt fe ds [] (wipeE e vs)).nox.bind fun (out, e2) => .ret (.lst out, backE e e2 vs) else .stuck
theorem wipe_wipe {σ σ2 : L2.St} (h : wipe σ2 vs = wipe (wipe σ vs) vs) : wipe σ2 vs = wipe σ vs := by
  rw [h]
  refine List.ext_getElem? fun j => ?_
  by_cases hj : j ∈ vs
  · have l1 : (wipe (wipe σ vs) vs).length = (wipe σ vs).length := by rw [wipe_length]
    by_cases hl : j < (wipe σ vs).length
    · rw [List.getElem?_eq_getElem hl, List.getElem?_eq_getElem (l1 ▸ hl)]
      rw [wipe_mem hj (List.getElem?_eq_getElem hl), wipe_mem hj (List.getElem?_eq_getElem (l1 ▸ hl))]
    · rw [List.getElem?_eq_none (by omega), List.getElem?_eq_none (by omega)]
  · rw [wipe_get hj]
theorem exOk0 {P : Program} {w : World} {K : PySem.W.Frag} {mg : Str → Option Value} {W : WX} {F M : Addr → Prop} {H : Hp} : ExOk P w K mg W F M H (fun _ _ => False) := fun _ _ _ _ _ _ _ _ _ q _ => q.elim
/-- what the comprehension's reading asks, from the data's -/
theorem lc_reads {P : Program} {w : World} {K : PySem.W.Frag} {mg : Str → Option Value} {W : WX} {σ : L2.St} {H : Hp} {Q : VK} (h : tDF P w K mg W (mLc vs fl g tt fe) σ H Q) :
    tLc (tDI P w K mg W fl) (tDV P w K vs g) (tDB P w K mg W0 tt) (tD P w K mg W0 fe) vs σ H Q := by
  obtain ⟨F, M, env, Qd, QE, R, q, hx, k⟩ := h
  refine ⟨F, M, env, _, QE, R, wpT_bind.mp q, hx, fun J H1 F1 M1 ds env1 x1 R1 q1 it => ?_⟩
  intro D hD
  dsimp only at q1
  split at q1
  case isFalse => exact q1.elim
  rename_i hok
  have hDH : H D = none := by
    cases z : H D with
    | none => rfl
    | some o => obtain ⟨o', e'⟩ := x1.there D o z; rw [hD] at e'; cases e'
  have nF1 : ¬ F1 D := fun f => by obtain ⟨o, e'⟩ := R1.sep.ftr D f; rw [hD] at e'; cases e'
  have nM1 : ¬ M1 D := fun m => by obtain ⟨o, e', _⟩ := R1.sep.kind D m; rw [hD] at e'; cases e'
  have q2 := wpT_nox (E' := fun _ _ => False) (wpT_mono (E' := QE) (fun _ z => z) (fun _ _ z => z) (wpT_bind.mp q1))
  refine ⟨fun i m H2 => m = ds.length - i ∧ i ≤ ds.length ∧ ∃ F2 M2 env2 acc accD, Ext F1 M1 H1 F2 M2 H2 ∧ Rel P w K F2 M2 H2 env2 (wipe σ vs) ∧ H2 D = some (.lst acc) ∧ RepL P w K F2 H2 accD acc ∧ ¬ F2 D ∧ ¬ M2 D ∧
      wpT (lcGo vs g tt fe (ds.drop i) accD env2) (fun (out, e2) => Qd (.lst out, backE env1 e2 vs)) (fun _ _ => False), ⟨ds.length, rfl, Nat.zero_le _, F1, M1, wipeE env1 vs, [], [], Ext.refl.out hD, ?_, upd_same, .nil, nF1, nM1, ?_⟩, ?_⟩
  · exact (R1.wipe vs).grow (Grow.laid hD)
  · exact q2
  rintro i m H2 ⟨rfl, hi, F2, M2, env2, acc, accD, x2, R2, hD2, ra, nF2, nM2, q2⟩
  obtain ⟨it1, it2⟩ := it F2 M2 H2 x2 i
  by_cases hlt : i < ds.length
  · obtain ⟨go, yl⟩ := it1 ds[i] (List.getElem?_eq_getElem hlt)
    refine .inr ⟨go, fun H2 => ∃ F2 M2 env2 acc accD, Ext F1 M1 H1 F2 M2 H2 ∧ Rel P w K F2 M2 H2 env2 (wipe σ vs) ∧ H2 D = some (.lst acc) ∧ RepL P w K F2 H2 accD acc ∧ ¬ F2 D ∧ ¬ M2 D ∧
      wpT (lcGo vs g tt fe (ds.drop (i + 1)) accD env2) (fun (out, e2) => Qd (.lst out, backE env1 e2 vs)) (fun _ _ => False), fun H' h' => ⟨ds.length - (i + 1), by omega, rfl, hlt, h'⟩, fun x H3 hy => ?_⟩
    obtain ⟨F3, gr, r3⟩ := yl x H3 hy
    rw [List.drop_eq_getElem_cons hlt] at q2
    have x3 := x2.trans (gr.ext (M := M2))
    obtain ⟨hD3, nF3, nM3⟩ := (gr.ext (M := M2)).outside hD2 nF2 nM2
    have R3 := R2.grow gr
    have ra3 := ra.keeps gr.keeps
    refine ⟨F3, M2, env2, _, _, fun _ _ => False, R3, r3, wpT_bind.mp q2, fun σ4 env4 w4 R4 q4 => ?_⟩
    have w4' := wipe_wipe w4
    refine ⟨w4', F3, M2, env4, _, fun _ _ => False, R4, wpT_bind.mp q4, exOk0, fun b H5 F5 M5 env5 x5 R5 q5 => ?_⟩
    obtain ⟨hD5, nF5, nM5⟩ := x5.outside hD3 nF3 nM3
    have ra5 := ra3.keeps (x5.keeps R4.sep)
    cases b with
    | true =>
      refine ⟨F5, M5, env5, _, fun _ _ => False, R5, wpT_bind.mp q5, exOk0, fun y H6 F6 M6 d6 env6 x6 R6 r6 q6 => ?_⟩
      obtain ⟨hD6, nF6, nM6⟩ := x6.outside hD5 nF5 nM5
      have ra6 := ra5.keeps (x6.keeps R5.sep)
      dsimp only at q6
      split at q6
      · rename_i hsz
        refine ⟨acc, hD6, by rw [← ra6.length]; exact hsz, F6, M6, _, _, _, (x3.trans (x5.trans x6)).out hD, ?_, upd_same, (ra6.append (.cons r6 .nil)).keeps (Keeps.out hD6 nF6), nF6, nM6, q6⟩
        rw [← w4']
        exact (R6.wipe vs).out hD6 nF6 nM6
      · exact q6.elim
    | false =>
      refine ⟨F5, M5, _, _, _, x3.trans x5, ?_, hD5, ra5, nF5, nM5, q5⟩
      rw [← w4']
      exact R5.wipe vs
  · have e : i = ds.length := by omega
    subst e
    rw [List.drop_length] at q2
    refine .inl ⟨it2 (Nat.le_refl _), k D H2 F2 M2 _ _ (x1.trans x2) (R1.back hok (x2.keeps R1.sep) R2) hDH nF2 nM2 (.lst hD2 ra) q2⟩
/-- a fresh list becomes a value -/
theorem de_fresh (h : DF X W e f) : DE X W e f := peW h fun σ H Q ⟨F, M, env, Qd, QE, R, q, hx, k⟩ => by
  refine ⟨F, M, env, Qd, QE, R, q, hx, fun a H1 F1 M1 d env1 x1 R1 na nF nM o q1 => ?_⟩
  have ks : Keeps F1 H1 (fun x => F1 x ∨ x = a) H1 := ⟨fun _ h => .inl h, fun _ _ _ h => h, fun _ _ h => h, fun _ _ _ h => h⟩
  have rp : Rep X.prog X.w X.K (fun x => F1 x ∨ x = a) H1 d (.ref a) ∧ ∃ o, H1 a = some o := by
    cases o with
    | lst h r => exact ⟨.lst (.inr rfl) h (r.keeps ks), _, h⟩
    | dk h r => exact ⟨.dk (.inr rfl) h (r.keeps ks), _, h⟩
    | dt h r => exact ⟨.dt (.inr rfl) h (r.keeps ks), _, h⟩
  obtain ⟨rp, oa, ha⟩ := rp
  refine k (.ref a) H1 (fun x => F1 x ∨ x = a) M1 d env1 ⟨fun x h => .inl (x1.sub x h), fun x h => h.elim (x1.new x) fun z => .inr (.inr (z ▸ na)), x1.own, x1.keep, x1.there⟩ ⟨⟨?_, R1.sep.kind, ?_⟩, R1.len, fun i d h => ?_, fun i d h => ?_, R1.inj⟩ rp q1
  · rintro x (f | f) m
    · exact R1.sep.apart x f m
    · exact nM (f ▸ m)
  · rintro x (f | f)
    · exact R1.sep.ftr x f
    · exact ⟨oa, f ▸ ha⟩
  · obtain ⟨v, h1, h2⟩ := R1.val i d h
    exact ⟨v, h1, h2.keeps ks⟩
  · obtain ⟨b, h1, h2, h3⟩ := R1.mt i d h
    exact ⟨b, h1, h2, h3.keeps ks fun _ z => z⟩
/-- the blocks' contexts -/
abbrev Blk (X : Cx) (scope : Scope) (Pr : Cx → Prop) : Prop := ∀ (s : Shared) (H : Hp) (C : Addr) (cl : List (Str × Addr)) (fp : List Addr), Pr (X.blk s H scope (compEnvC scope cl C X.env) fp)
theorem df_lc {scope : Scope} {own : List (Str × Nat)} (hc : X.calm = true) (hN : X.N.Nodup) (hi : DI X W tg iter fl) (ok : BlkOk X.N X.env.scope scope own) (hg : Blk X scope fun X => DV X (own.map (·.2)) tg g) (ht : Blk X scope fun X => DTs X W0 ifs tt) (he : Blk X scope fun X => DE X W0 elt fe)
    (hs : ∀ x, foldedSetIterable iter X.env x = pure x := by intro _; rfl) : DF X W (.ListComp elt [⟨tg, iter, ifs, 0⟩] scope pos) (mLc (own.map (·.2)) fl g tt fe) :=
  peW (pe_lc (wi := tDI X.prog X.w X.K X.mg W fl) (g := tDV X.prog X.w X.K (own.map fun (p : Str × Nat) => p.2) g) (tt := tDB X.prog X.w X.K X.mg W0 tt) (te := tD X.prog X.w X.K X.mg W0 fe) hc hN hi ok hg ht he hs) fun σ H Q h => lc_reads h
theorem ds_setLc {i : Nat} {y : Str} {py spos : Pos} {scope : Scope} {own : List (Str × Nat)} (hc : X.calm = true) (hN : X.N.Nodup) (hy : X.N[i]? = some y) (hyl : X.env.scope.names.lookup y = some .local)
    (hsw : swapsWith (.ListComp elt [⟨tg, iter, ifs, 0⟩] scope pos) (some (.Name y py)) spos.line X.env = pure true)
    (hi : DI X W tg iter fl) (ok : BlkOk X.N X.env.scope scope own) (hg : Blk X scope fun X => DV X (own.map (·.2)) tg g) (ht : Blk X scope fun X => DTs X W0 ifs tt) (he : Blk X scope fun X => DE X W0 elt fe)
    (hs : ∀ x, foldedSetIterable iter X.env x = pure x := by intro _; rfl) : DS X W (.Assign [.Name y py] (.ListComp elt [⟨tg, iter, ifs, 0⟩] scope pos) spos) (sSetM i (mLc (own.map (·.2)) fl g tt fe)) :=
  psW (ps_setLc (wi := tDI X.prog X.w X.K X.mg W fl) (g := tDV X.prog X.w X.K (own.map fun (p : Str × Nat) => p.2) g) (tt := tDB X.prog X.w X.K X.mg W0 tt) (te := tD X.prog X.w X.K X.mg W0 fe) hc hN hy hyl hsw hi ok hg ht he hs) fun De σ H ⟨F, M, env, Q, QE, R, q, hx, k1, k2, k3, k4⟩ => lc_reads (Q := fun x H1 => gName i x σ H1 De.nx) (by
    refine ⟨F, M, env, _, QE, R, wpT_bind.mp q, hx, fun a H1 F1 M1 d env1 x1 R1 na nF nM o1 q1 => ?_⟩
    exact k1 _ H1 F1 (fun x => M1 x ∨ x = a) _ ⟨x1.sub, x1.new, fun y hy => hy.elim (x1.own y) fun e => .inr (e ▸ na), x1.keep, x1.there⟩ (R1.setM i nF nM o1) q1)
end
end DL
set_option Elab.async false
set_option linter.all false
set_option maxRecDepth 100000
set_option autoImplicit false
set_option maxHeartbeats 1000000
/-! The data layer, part 9: dicts, own lists and dicts. -/
namespace DL
open PySem PySem.Spec PyProof.Rows L2
/-! ### dicts as data -/
section
variable {κ : Type} [DecidableEq κ]
def fFind (kf : D → Option κ) (kvs : List (D × D)) (k : κ) : Option D := (kvs.find? fun p => decide (kf p.1 = some k)).map (·.2)
def fPut (kf : D → Option κ) (kvs : List (D × D)) (dk : D) (k : κ) (d : D) : List (D × D) :=
  if (kvs.any fun p => decide (kf p.1 = some k)) = true then kvs.map fun p => if kf p.1 = some k then (p.1, d) else p else kvs ++ [(dk, d)]
theorem fPut_length {kf : D → Option κ} {kvs : List (D × D)} {dk : D} {k : κ} {d : D} : (fPut kf kvs dk k d).length ≤ kvs.length + 1 := by
  unfold fPut
  split
  · rw [List.length_map]; exact Nat.le_succ _
  · rw [List.length_append]; exact Nat.le_refl _
end
/-- what d holds at k: none where the key is of another kind -/
def dFind : Bool → List (D × D) → D → Option (Option D)
  | false, kvs, k => (fk k).map fun k => fFind fk kvs k
  | true, kvs, k => (tk k).map fun k => fFind tk kvs k
def dPut : Bool → List (D × D) → D → D → Option (List (D × D))
  | false, kvs, k, d => (fk k).map fun k' => fPut fk kvs k k' d
  | true, kvs, k, d => (tk k).map fun k' => fPut tk kvs k k' d
section
variable {P : Program} {w : World} {K : PySem.W.Frag} {F : Addr → Prop} {H : Hp}
/-- an option of data -/
def RepO (P : Program) (w : World) (K : PySem.W.Frag) (F : Addr → Prop) (H : Hp) : Option D → Option V → Prop
  | none, none => True
  | some d, some v => Rep P w K F H d v
  | _, _ => False
theorem RepK.find {k : Key} : ∀ {ds : List (D × D)} {kvs : List (Key × V)}, RepK P w K F H ds kvs → RepO P w K F H (fFind fk ds k) (valV kvs k)
  | _, _, .nil => trivial
  | _, _, .cons (dk := dk) (k := k') (d := d) (v := v) (ds := ds) (kvs := kvs) e a r => by
    unfold fFind
    by_cases h : k' = k
    · rw [valV_pos (show ((k', v) : Key × V).1 = k from h), List.find?_cons, e, h]
      simpa [RepO] using a
    · rw [valV_neg (show ¬ ((k', v) : Key × V).1 = k from h), List.find?_cons, e]
      have : decide (some k' = some k) = false := by simp [h]
      rw [this]
      exact r.find
theorem RepT.find {k : List Key} : ∀ {ds : List (D × D)} {kvs : List (List Key × V)}, RepT P w K F H ds kvs → RepO P w K F H (fFind tk ds k) (valV kvs k)
  | _, _, .nil => trivial
  | _, _, .cons (ts := ts) (ks := k') (d := d) (v := v) (ds := ds) (kvs := kvs) e a r => by
    unfold fFind
    have e' : tk (.tup ts) = some k' := e
    by_cases h : k' = k
    · rw [valV_pos (show ((k', v) : List Key × V).1 = k from h), List.find?_cons, e', h]
      simpa [RepO] using a
    · rw [valV_neg (show ¬ ((k', v) : List Key × V).1 = k from h), List.find?_cons, e']
      have : decide (some k' = some k) = false := by simp [h]
      rw [this]
      exact r.find
theorem RepK.anyK {k : Key} : ∀ {ds : List (D × D)} {kvs : List (Key × V)}, RepK P w K F H ds kvs → (ds.any fun p => decide (fk p.1 = some k)) = kvs.any fun kv => decide (kv.1 = k)
  | _, _, .nil => rfl
  | _, _, .cons e a r => by
    rw [List.any_cons, List.any_cons, r.anyK, e]
    simp
theorem RepT.anyK {k : List Key} : ∀ {ds : List (D × D)} {kvs : List (List Key × V)}, RepT P w K F H ds kvs → (ds.any fun p => decide (tk p.1 = some k)) = kvs.any fun kv => decide (kv.1 = k)
  | _, _, .nil => rfl
  | _, _, .cons (ts := ts) (ks := k') e a r => by
    have e' : tk (.tup ts) = some k' := e
    rw [List.any_cons, List.any_cons, r.anyK, e']
    simp
theorem RepK.mapPut {k : Key} {d : D} {v : V} (q : Rep P w K F H d v) : ∀ {ds : List (D × D)} {kvs : List (Key × V)}, RepK P w K F H ds kvs → RepK P w K F H (ds.map fun p => if fk p.1 = some k then (p.1, d) else p) (kvs.map fun kv => if kv.1 = k then (kv.1, v) else kv)
  | _, _, .nil => .nil
  | _, _, .cons (k := k') e a r => by
    rw [List.map_cons, List.map_cons, e]
    by_cases h : k' = k
    · rw [if_pos (by rw [h]), if_pos h]
      exact .cons e q (r.mapPut q)
    · rw [if_neg (fun z => h (Option.some.inj z)), if_neg h]
      exact .cons e a (r.mapPut q)
theorem RepT.mapPut {k : List Key} {d : D} {v : V} (q : Rep P w K F H d v) : ∀ {ds : List (D × D)} {kvs : List (List Key × V)}, RepT P w K F H ds kvs → RepT P w K F H (ds.map fun p => if tk p.1 = some k then (p.1, d) else p) (kvs.map fun kv => if kv.1 = k then (kv.1, v) else kv)
  | _, _, .nil => .nil
  | _, _, .cons (ts := ts) (ks := k') e a r => by
    have e' : tk (.tup ts) = some k' := e
    rw [List.map_cons, List.map_cons, e']
    by_cases h : k' = k
    · rw [if_pos (by rw [h]), if_pos h]
      exact .cons e q (r.mapPut q)
    · rw [if_neg (fun z => h (Option.some.inj z)), if_neg h]
      exact .cons e a (r.mapPut q)
theorem RepK.snoc {dk : D} {k : Key} {d : D} {v : V} (e : fk dk = some k) (q : Rep P w K F H d v) : ∀ {ds : List (D × D)} {kvs : List (Key × V)}, RepK P w K F H ds kvs → RepK P w K F H (ds ++ [(dk, d)]) (kvs ++ [(k, v)])
  | _, _, .nil => .cons e q .nil
  | _, _, .cons e' a r => .cons e' a (r.snoc e q)
theorem RepT.snoc {ts : List D} {k : List Key} {d : D} {v : V} (e : tk (.tup ts) = some k) (q : Rep P w K F H d v) : ∀ {ds : List (D × D)} {kvs : List (List Key × V)}, RepT P w K F H ds kvs → RepT P w K F H (ds ++ [(.tup ts, d)]) (kvs ++ [(k, v)])
  | _, _, .nil => .cons e q .nil
  | _, _, .cons e' a r => .cons e' a (r.snoc e q)
theorem RepK.put {dk : D} {k : Key} {d : D} {v : V} (e : fk dk = some k) (q : Rep P w K F H d v) {ds : List (D × D)} {kvs : List (Key × V)} (r : RepK P w K F H ds kvs) : RepK P w K F H (fPut fk ds dk k d) (putK kvs k v) := by
  unfold fPut putK
  rw [r.anyK]
  split
  · exact r.mapPut q
  · exact r.snoc e q
theorem RepT.put {dk : D} {k : List Key} {d : D} {v : V} (e : tk dk = some k) (q : Rep P w K F H d v) {ds : List (D × D)} {kvs : List (List Key × V)} (r : RepT P w K F H ds kvs) : RepT P w K F H (fPut tk ds dk k d) (putK kvs k v) := by
  cases dk with
  | tup ts =>
    unfold fPut putK
    rw [r.anyK]
    split
    · exact r.mapPut q
    · exact r.snoc e q
  | _ => cases e
theorem RepK.len : ∀ {ds : List (D × D)} {kvs : List (Key × V)}, RepK P w K F H ds kvs → ds.length = kvs.length
  | _, _, .nil => rfl
  | _, _, .cons _ _ r => congrArg (· + 1) r.len
theorem RepT.len : ∀ {ds : List (D × D)} {kvs : List (List Key × V)}, RepT P w K F H ds kvs → ds.length = kvs.length
  | _, _, .nil => rfl
  | _, _, .cons _ _ r => congrArg (· + 1) r.len
theorem fk_rep {d : D} {k : Key} {v : V} (e : fk d = some k) (r : Rep P w K F H d v) : v = kV k := by
  cases r <;> cases e <;> rfl
theorem fks_rep : ∀ {ts : List D} {ks : List Key} {vs : List V}, fks ts = some ks → RepL P w K F H ts vs → vs = ks.map kV
  | _, _, _, e, .nil => by cases e; rfl
  | d :: r, ks, _, e, .cons a t => by
    unfold fks at e
    split at e
    · rename_i k ks' h1 h2
      cases e
      rw [fk_rep h1 a, fks_rep h2 t]
      rfl
    · cases e
/-- (nothing is asked) -/
def NoT (_ : PySem.W.Frag) : Prop := True
theorem tk_rep (hK : NoT K) {d : D} {ks : List Key} {v : V} (e : tk d = some ks) (r : Rep P w K F H d v) : ∃ b, v = .ref b ∧ H b = some (.tup (ks.map kV)) := by
  cases r with
  | @tup a vs ds h q =>
    match ds, e, q with
    | t :: ts, e, q =>
      have e0 : fks (t :: ts) = some ks := e
      have e' := fks_rep e0 q
      subst e'
      rcases h with h | ⟨_, h5⟩
      · exact ⟨_, rfl, h⟩
      · cases ks with
        | nil =>
          unfold fks at e0
          split at e0
          · cases e0
          · cases e0
        | cons k ks => exact (h5 k ks rfl).elim
  | _ => cases e
/-- a dict at a, whoever's -/
inductive DictAt (P : Program) (w : World) (K : PySem.W.Frag) (F : Addr → Prop) (H : Hp) : Bool → List (D × D) → Addr → Prop
  | k {a kvs ds} : H a = some (.dK kvs) → RepK P w K F H ds kvs → DictAt P w K F H false ds a
  | t {a kvs ds} : H a = some (.dT kvs) → RepT P w K F H ds kvs → DictAt P w K F H true ds a
theorem Rep.dict {t : Bool} {ds : List (D × D)} {v : V} (r : Rep P w K F H (.dct t ds) v) : ∃ a, v = .ref a ∧ DictAt P w K F H t ds a := by
  cases r with
  | dk _ h r => exact ⟨_, rfl, .k h r⟩
  | dt _ h r => exact ⟨_, rfl, .t h r⟩
theorem Own.dict {t : Bool} {ds : List (D × D)} {a : Addr} (r : Own P w K F H (.dct t ds) a) : DictAt P w K F H t ds a := by
  cases r with
  | dk h r => exact .k h r
  | dt h r => exact .t h r
theorem DictAt.get (hK : NoT K) {t : Bool} {ds : List (D × D)} {a : Addr} {dk : D} {y : V} {o : Option D} (x : DictAt P w K F H t ds a) (hf : dFind t ds dk = some o) (ry : Rep P w K F H dk y) : ∃ ov, DGet H a y ov ∧ RepO P w K F H o ov := by
  cases x with
  | k h r =>
    obtain ⟨k, h1, h2⟩ := Option.map_eq_some_iff.mp hf
    subst h2
    refine ⟨_, .inl ⟨_, k, .inl h, fk_rep h1 ry, rfl⟩, r.find⟩
  | t h r =>
    obtain ⟨k, h1, h2⟩ := Option.map_eq_some_iff.mp hf
    subst h2
    obtain ⟨b, h3, h4⟩ := tk_rep hK h1 ry
    exact ⟨_, .inr ⟨_, k, b, .inl h, h3, h4, rfl⟩, r.find⟩
theorem DictAt.isD {t : Bool} {ds : List (D × D)} {a : Addr} (x : DictAt P w K F H t ds a) : IsD H a := by
  cases x with
  | k h r => exact .inl ⟨_, .inl h⟩
  | t h r => exact .inr ⟨_, .inl h⟩
theorem DictAt.len {t : Bool} {ds : List (D × D)} {a : Addr} (x : DictAt P w K F H t ds a) : (∃ kvs, H a = some (.dK kvs) ∧ ds.length = kvs.length) ∨ ∃ kvs, H a = some (.dT kvs) ∧ ds.length = kvs.length := by
  cases x with
  | k h r => exact .inl ⟨_, h, r.len⟩
  | t h r => exact .inr ⟨_, h, r.len⟩
/-- a[y] = v: the heap behind -/
theorem DictAt.put (hK : NoT K) {t : Bool} {ds es : List (D × D)} {a : Addr} {dk d : D} {y v : V} (x : DictAt P w K F H t ds a) (hp : dPut t ds dk d = some es) (ry : Rep P w K F H dk y) (rv : Rep P w K F H d v) (hz : ds.length < sizeLine) (nF : ¬ F a) :
    ∃ H', DPut H a y v H' ∧ (∀ b, b ≠ a → H' b = H b) ∧ Own P w K F H' (.dct t es) a := by
  cases x with
  | @k a kvs ds h r =>
    obtain ⟨k, h1, h2⟩ := Option.map_eq_some_iff.mp hp
    subst h2
    have kp : Keeps F H F (upd H a (.dK (putK kvs k v))) := ⟨fun _ z => z, fun b o f e => by rw [upd_ne (fun (z : b = a) => nF (z ▸ f))]; exact e, fun b xs e => by rw [upd_ne (fun (z : b = a) => by rw [z, h] at e; cases e)]; exact e, fun b o u e => by rw [upd_ne (fun (z : b = a) => by rw [z, h] at e; cases e)]; exact e⟩
    exact ⟨_, .inl ⟨kvs, k, h, fk_rep h1 ry, by rw [← r.len]; exact hz, rfl⟩, fun b hb => upd_ne hb, .dk upd_same ((r.put h1 rv).keeps kp)⟩
  | @t a kvs ds h r =>
    obtain ⟨k, h1, h2⟩ := Option.map_eq_some_iff.mp hp
    subst h2
    obtain ⟨b, h3, h4⟩ := tk_rep hK h1 ry
    have kp : Keeps F H F (upd H a (.dT (putK kvs k v))) := ⟨fun _ z => z, fun b o f e => by rw [upd_ne (fun (z : b = a) => nF (z ▸ f))]; exact e, fun b xs e => by rw [upd_ne (fun (z : b = a) => by rw [z, h] at e; cases e)]; exact e, fun b o u e => by rw [upd_ne (fun (z : b = a) => by rw [z, h] at e; cases e)]; exact e⟩
    exact ⟨_, .inr ⟨kvs, k, b, h, h3, h4, by rw [← r.len]; exact hz, rfl⟩, fun b hb => upd_ne hb, .dt upd_same ((r.put h1 rv).keeps kp)⟩
mutual
/-- no lists or dicts within -/
def flat : D → Bool
  | .tup xs => flats xs
  | .lst _ => false
  | .dct _ _ => false
  | .tape => false
  | .scr _ => false
  | .cel _ _ => false
  | _ => true
def flats : List D → Bool
  | [] => true
  | d :: r => flat d && flats r
end
mutual
theorem Rep.flat {F' : Addr → Prop} : ∀ {d : D} {v : V}, Rep P w K F H d v → DL.flat d = true → Rep P w K F' H d v
  | _, _, .non, _ => .non
  | _, _, .bl b, _ => .bl b
  | _, _, .int i, _ => .int i
  | _, _, .str s, _ => .str s
  | _, _, .tup h r, p => .tup h (r.flat p)
  | _, _, .lst .., p => by cases p
  | _, _, .dk .., p => by cases p
  | _, _, .dt .., p => by cases p
  | _, _, .tape .., p => by cases p
  | _, _, .scr .., p => by cases p
  | _, _, .cel .., p => by cases p
  | _, _, .scrK .., p => by cases p
theorem RepL.flat {F' : Addr → Prop} : ∀ {ds : List D} {vs : List V}, RepL P w K F H ds vs → flats ds = true → RepL P w K F' H ds vs
  | _, _, .nil, _ => .nil
  | _, _, .cons a r, p => by
    have p' : (DL.flat _ && flats _) = true := p
    rw [Bool.and_eq_true] at p'
    exact .cons (a.flat p'.1) (r.flat p'.2)
end
/-- a name's list or dict, read while it stays the name's own -/
theorem Rel.peek {M : Addr → Prop} {env : Env} {σ : L2.St} {i : Nat} {d : D} (R : Rel P w K F M H env σ) (h : env[i]? = some (.val d) ∨ env[i]? = some (.mut d)) :
    ∃ v, σ[i]? = some (some v) ∧ ∃ Fp, (∀ x, F x → Fp x) ∧ Rep P w K Fp H d v ∧ (env[i]? = some (.val d) → Rep P w K F H d v) := by
  rcases h with h | h
  · obtain ⟨v, h1, h2⟩ := R.val i d h
    exact ⟨v, h1, F, fun _ z => z, h2, fun _ => h2⟩
  · obtain ⟨a, h1, ma, ow⟩ := R.mt i d h
    have ks : Keeps F H (fun x => F x ∨ x = a) H := ⟨fun _ h => .inl h, fun _ _ _ h => h, fun _ _ h => h, fun _ _ _ h => h⟩
    refine ⟨_, h1, fun x => F x ∨ x = a, fun _ z => .inl z, ?_, fun z => ?_⟩
    · cases ow with
      | lst h r => exact .lst (.inr rfl) h (r.keeps ks)
      | dk h r => exact .dk (.inr rfl) h (r.keeps ks)
      | dt h r => exact .dt (.inr rfl) h (r.keeps ks)
    · rw [h] at z; cases z
/-- a name's own list or dict is changed -/
theorem Rel.mutate {M : Addr → Prop} {env : Env} {σ : L2.St} {i : Nat} {d d' : D} {a : Addr} {H' : Hp} (R : Rel P w K F M H env σ) (he : env[i]? = some (.mut d)) (hs : σ[i]? = some (some (.ref a))) (hx : ∀ b, b ≠ a → H' b = H b) (ow : Own P w K F H' d' a) :
    Ext F M H F M H' ∧ Keeps F H F H' ∧ Rel P w K F M H' (env.set i (.mut d')) σ := by
  obtain ⟨a', hs', ma, ow0⟩ := R.mt i d he
  rw [hs] at hs'
  have e' : a' = a := by injection hs' with z; injection z with z; injection z with z; exact z.symm
  subst e'
  have nF : ¬ F a' := fun f => R.sep.apart a' f ma
  have hk : ∀ a o, H a = some o → a ≠ a' → H' a = some o := fun a o e n => (hx a n).trans e
  have mt0 : ∃ o, H a' = some o ∧ MutO o := R.sep.kind a' ma
  have mt1 : ∃ o, H' a' = some o ∧ MutO o := by
    cases ow with
    | lst h _ => exact ⟨_, h, trivial⟩
    | dk h _ => exact ⟨_, h, trivial⟩
    | dt h _ => exact ⟨_, h, trivial⟩
  have kp : Keeps F H F H' := by
    refine ⟨fun _ z => z, fun b o f e => hk b o e fun z => nF (z ▸ f), fun b xs e => hk b _ e fun z => ?_, fun b o u e => hk b _ e fun z => ?_⟩
    · obtain ⟨o, h1, h2⟩ := mt0
      rw [← z, e] at h1; cases h1; exact h2
    · obtain ⟨o, h1, h2⟩ := mt0
      rw [← z, e] at h1; cases h1; exact h2
  have hi : i < env.length := (List.getElem?_eq_some_iff.mp he).1
  refine ⟨⟨fun _ z => z, fun _ z => .inl z, fun _ z => .inl z, fun b o e n => hk b o e fun z => n (z ▸ ma), fun b o e => ?_⟩, kp, ⟨R.sep.apart, fun b m => ?_, fun b f => ?_⟩, by simpa using R.len, fun j dj hj => ?_, fun j dj hj => ?_, fun j k d1 d2 b h1 h2 h3 h4 => ?_⟩
  · by_cases hb : b = a'
    · obtain ⟨o, h1, _⟩ := mt1; exact ⟨o, hb ▸ h1⟩
    · exact ⟨o, hk b o e hb⟩
  · by_cases hb : b = a'
    · subst hb; exact mt1
    · obtain ⟨o, h1, h2⟩ := R.sep.kind b m
      exact ⟨o, hk b o h1 hb, h2⟩
  · obtain ⟨o, e⟩ := R.sep.ftr b f
    exact ⟨o, kp.fk b o f e⟩
  · by_cases hij : i = j
    · subst hij; rw [List.getElem?_set_self hi] at hj; cases hj
    · rw [List.getElem?_set_ne hij] at hj
      obtain ⟨v, h1, h2⟩ := R.val j dj hj
      exact ⟨v, h1, h2.keeps kp⟩
  · by_cases hij : i = j
    · subst hij
      rw [List.getElem?_set_self hi] at hj
      cases hj
      exact ⟨a', hs, ma, ow⟩
    · rw [List.getElem?_set_ne hij] at hj
      obtain ⟨b, h1, h2, h3⟩ := R.mt j dj hj
      refine ⟨b, h1, h2, h3.keeps kp fun o e => hk b o e fun z => ?_⟩
      subst z
      exact hij (R.inj i j d dj _ he hj hs h1)
  · have g1 : ∃ d1, env[j]? = some (.mut d1) := by
      by_cases hij : i = j
      · subst hij; exact ⟨d, he⟩
      · rw [List.getElem?_set_ne hij] at h1; exact ⟨_, h1⟩
    have g2 : ∃ d2, env[k]? = some (.mut d2) := by
      by_cases hij : i = k
      · subst hij; exact ⟨d, he⟩
      · rw [List.getElem?_set_ne hij] at h2; exact ⟨_, h2⟩
    obtain ⟨_, g1⟩ := g1
    obtain ⟨_, g2⟩ := g2
    exact R.inj j k _ _ b g1 g2 h3 h4
end
end DL
set_option Elab.async false
set_option linter.all false
set_option maxRecDepth 100000
set_option autoImplicit false
set_option maxHeartbeats 1000000
/-! The data layer, part 10: reads of own lists and dicts, and their changes. -/
namespace DL
open PySem PySem.Spec PyProof.Rows L2
def peekE (e : Env) (i : Nat) : Option (D × Bool) := match e[i]? with
  | some (.val d) => some (d, false)
  | some (.mut d) => some (d, true)
  | _ => none
theorem peekE_or {e : Env} {i : Nat} {d : D} {own : Bool} (h : peekE e i = some (d, own)) : (own = false ∧ e[i]? = some (.val d)) ∨ (own = true ∧ e[i]? = some (.mut d)) := by
  unfold peekE at h
  split at h
  · rename_i d' he; cases h; exact .inl ⟨rfl, he⟩
  · rename_i d' he; cases h; exact .inr ⟨rfl, he⟩
  · cases h
section
variable {P : Program} {w : World} {K : PySem.W.Frag} {F M : Addr → Prop} {H : Hp} {env : Env} {σ : L2.St} {i : Nat}
theorem peek_use {d : D} {own : Bool} (R : Rel P w K F M H env σ) (h : peekE env i = some (d, own)) : ∃ v, σ[i]? = some (some v) ∧ ∃ Fp, (∀ x, F x → Fp x) ∧ Rep P w K Fp H d v ∧
    ∀ (r : D) (v' : V) (F' : Addr → Prop) (H' : Hp), (own = false ∨ flat r = true) → Grow Fp H F' H' → Rep P w K F' H' r v' → ∃ F3, Grow F H F3 H' ∧ Rep P w K F3 H' r v' := by
  rcases peekE_or h with ⟨e1, e2⟩ | ⟨e1, e2⟩
  · obtain ⟨v, h1, h2⟩ := R.val i d e2
    exact ⟨v, h1, F, fun _ z => z, h2, fun r v' F' H' _ g p => ⟨F', g, p⟩⟩
  · obtain ⟨v, h1, Fp, h2, h3, _⟩ := R.peek (.inr e2)
    refine ⟨v, h1, Fp, h2, h3, fun r v' F' H' c g p => ⟨F, ⟨fun _ z => z, fun _ z => .inl z, g.keep, fun _ z => .inl z⟩, p.flat (c.resolve_left fun z => ?_)⟩⟩
    rw [e1] at z; cases z
theorem peek_dict {t : Bool} {ds : List (D × D)} {own : Bool} (R : Rel P w K F M H env σ) (h : peekE env i = some (.dct t ds, own)) : ∃ a, σ[i]? = some (some (.ref a)) ∧ DictAt P w K F H t ds a := by
  rcases peekE_or h with ⟨e1, e2⟩ | ⟨e1, e2⟩
  · obtain ⟨v, h1, h2⟩ := R.val i _ e2
    obtain ⟨a, rfl, x⟩ := h2.dict
    exact ⟨a, h1, x⟩
  · obtain ⟨a, h1, _, ow⟩ := R.mt i _ e2
    exact ⟨a, h1, ow.dict⟩
theorem peek_list {ds : List D} {own : Bool} (R : Rel P w K F M H env σ) (h : peekE env i = some (.lst ds, own)) : ∃ a vs, σ[i]? = some (some (.ref a)) ∧ H a = some (.lst vs) ∧ RepL P w K F H ds vs := by
  rcases peekE_or h with ⟨e1, e2⟩ | ⟨e1, e2⟩
  · obtain ⟨v, h1, h2⟩ := R.val i _ e2
    cases h2 with
    | lst f h r => exact ⟨_, _, h1, h, r⟩
  · obtain ⟨a, h1, _, ow⟩ := R.mt i _ e2
    cases ow with
    | lst h r => exact ⟨_, _, h1, h, r⟩
theorem peek_there {d : D} {own : Bool} (R : Rel P w K F M H env σ) (h : peekE env i = some (d, own)) : ∃ v, σ[i]? = some (some v) := let ⟨v, h1, _⟩ := peek_use R h; ⟨v, h1⟩
end
/-! ### x[k], of a dict too -/
def dIxA : D → D → Option D
  | .dct t ds, k => (dFind t ds k).join
  | x, k => dIx x k
section
variable {X : Cx} {W : WX} {e a b c o : Expr} {es : List Expr} {f g fa fb fc : MD} {fl : ML} {pos p : Pos} {i : Nat} {x : Str}
def rDG : R2 := fun x y H Q => ∃ a v, x = .ref a ∧ DGet H a y (some v) ∧ Q v H
theorem ix_dict (hu : X.A.units + 1 < cLine) : IxR X rDG := by
  intro value slice pins s σ H x y v u Q I rx ry ⟨a, z, ex, g, q⟩ hs
  subst ex
  obtain rfl : v = Value.ref a := rx
  unfold subscriptTail
  refine wpAny_bind ?_
  rw [getitemInPython_of_ne (dict_typeIs I g).not_modules]
  refine wpAny_bind (wpAny_specialOf (dict_typeIs I g) PySem.F.slot_dict_getitem.lookup ?_)
  have fin : wpAny (model X.prog X.w) X.A (subscripted slice false (.ref a) u) (fun r s₃ => wpAny (model X.prog X.w) X.A (letTemporaryGo value (.ref a) r >>= fun _ => pure r) (EP X pins σ Q) X.xe s₃) X.xe s := by
    rw [hs]
    exact wpAny_operating (d_getItem hu I g ry fun w' s3 I3 rw' => wpAny_bind (wpAny_letTemporaryGo (wpAny_pure ⟨z, H, I3, rw', q⟩)))
  first
    | exact wpAny_pure (wpAny_bind fin)
    | exact wpAny_bind (wpAny_pure (wpAny_bind fin))
    | exact wpAny_bind fin
theorem find_some {P : Program} {w : World} {K : PySem.W.Frag} {F : Addr → Prop} {H : Hp} {d : D} {ov : Option V} (r : RepO P w K F H (some d) ov) : ∃ v, ov = some v ∧ Rep P w K F H d v := by
  cases ov with
  | none => exact r.elim
  | some v => exact ⟨v, rfl, r⟩
theorem join_some {t : Bool} {ds : List (D × D)} {k r : D} (h : (dFind t ds k).join = some r) : dFind t ds k = some (some r) := by
  cases e : dFind t ds k with
  | none => rw [e] at h; cases h
  | some o => rw [e] at h; exact congrArg some h
theorem dixA (hu : X.A.units + 1 < cLine) (hK : NoT X.K) : IxR X (rD2 X.prog X.w X.K dIxA) := by
  intro value slice pins s σ H x y v u Q I rx ry h hs
  obtain ⟨F, dx, dy, d, px, py_, e, q⟩ := h
  cases dx with
  | dct t ds =>
    obtain ⟨a, rfl, x⟩ := px.dict
    obtain ⟨ov, g, ro⟩ := x.get hK (join_some e) py_
    obtain ⟨z, rfl, rz⟩ := find_some ro
    exact ix_dict hu value slice pins s σ H _ y v u Q I rx ry ⟨a, z, rfl, g, q z F H Grow.refl rz⟩ hs
  | _ => exact dix value slice pins s σ H x y v u Q I rx ry ⟨F, _, dy, d, px, py_, e, q⟩ hs
def rIxAll (K : PySem.W.Frag) : R2 := fun x y H Q => rIx K x y H Q ∨ rDG x y H Q
theorem ix_all (hu : X.A.units + 1 < cLine) : IxR X (rIxAll X.K) := ix_seq.or (ix_dict hu)
/-- name[k] -/
def mIxB (i : Nat) (f : MD) : MD := fun env => match peekE env i with
  | none => .stuck
  | some _ => (f env).bind fun (k, e) => match peekE e i with
    | none => .stuck
    | some (d, own) => (T.of (dIxA d k)).bind fun r => if own = true then (match d with
        | .lst _ => .ret (r, e)
        | .dct _ _ => .ret (r, e)
        | _ => .stuck) else .ret (r, e)
theorem de_ixB (hu : X.A.units + 1 < cLine) (hK : NoT X.K) (hb : DE X W b f) (hN : X.N[i]? = some x := by rfl) (hv : Vis X.env.scope x := by first | exact Or.inl rfl | exact Or.inr (Or.inl rfl) | exact Or.inr (Or.inr rfl)) (hs : PlainIx b := by intro _ _; rfl)
    (hd : (x == ("__debug__" : Str)) = false := by decide) (hcd : (x == ("__classdict__" : Str)) = false := by decide) : DE X W (.Subscript (.Name x p) b pos) (mIxB i f) := by
  have base : PE X (.Subscript (.Name x p) b pos) (tOp (fun x y H Q => rIxAll X.K x y H Q ∨ rD2 X.prog X.w X.K dIxA x y H Q) (tVar i) (XD X W f)) := pe_ix ((ix_all hu).or (dixA hu hK)) (pe_var hN hv hd hcd) hb hs
  refine peW base fun σ H Q ⟨F, M, env, Qd, QE, R, q, hx, k⟩ => ?_
  unfold mIxB at q
  split at q
  · exact q.elim
  rename_i pr hpr
  obtain ⟨v, hv0⟩ := peek_there (d := pr.1) (own := pr.2) R hpr
  refine ⟨v, hv0, F, M, env, _, QE, R, wpT_bind.mp q, hx, fun u H1 F1 M1 d env1 x1 R1 p1 q1 => ?_⟩
  dsimp only at q1
  split at q1
  · exact q1.elim
  rename_i dd own hp
  obtain ⟨r, er, q2⟩ := wpT_of (wpT_bind.mp q1)
  cases own with
  | false =>
    obtain ⟨v', h1, h2⟩ := R1.val i dd ((peekE_or hp).elim (fun z => z.2) fun z => nomatch z.1)
    rw [hv0] at h1
    obtain rfl : v = v' := by injection h1 with z; injection z
    exact .inr ⟨F1, dd, d, r, h2, p1, er, fun v' F' H' g p => k v' H' F' M1 r env1 (x1.trans g.ext) (R1.grow g) p q2⟩
  | true =>
    cases dd with
    | lst ds =>
      obtain ⟨a, vs, h1, h2, h3⟩ := peek_list R1 hp
      rw [hv0] at h1
      obtain rfl : v = .ref a := by injection h1 with z; injection z
      cases d with
      | int j =>
        cases p1
        have er' : L2.atI ds j = some r := er
        obtain ⟨v', h4, h5⟩ := h3.atI er'
        exact .inl (.inl (.inl ⟨_, _, _, _, rfl, rfl, .inl (.inl h2), h4, k _ _ _ _ _ _ x1 R1 h5 q2⟩))
      | _ => cases er
    | dct t ds =>
      obtain ⟨a, h1, h2⟩ := peek_dict R1 hp
      rw [hv0] at h1
      obtain rfl : v = .ref a := by injection h1 with z; injection z
      obtain ⟨ov, g, ro⟩ := h2.get hK (join_some er) p1
      obtain ⟨z, rfl, rz⟩ := find_some ro
      exact .inl (.inr ⟨a, z, rfl, g, k _ _ _ _ _ _ x1 R1 rz q2⟩)
    | _ => exact q2.elim
/-! ### k in x -/
def dInA : D → D → Option D
  | k, .dct t ds => (dFind t ds k).map fun o => .bl o.isSome
  | x, y => dIn x y
def dNotInA : D → D → Option D
  | k, .dct t ds => (dFind t ds k).map fun o => .bl (!o.isSome)
  | x, y => dNotIn x y
theorem repO_isSome {P : Program} {w : World} {K : PySem.W.Frag} {F : Addr → Prop} {H : Hp} {d : Option D} {ov : Option V} (r : RepO P w K F H d ov) : ov.isSome = d.isSome := by
  cases d <;> cases ov <;> first | rfl | exact r.elim
theorem dop_inA (hu : X.A.units + 65 < cLine) (hK : NoT X.K) : OpR X (compareOp .In) (rD2 X.prog X.w X.K dInA) := by
  intro pins s σ H x y v u Q I rx ry h
  obtain ⟨F, dx, dy, d, px, py_, e, q⟩ := h
  cases dy with
  | dct t ds =>
    obtain ⟨a, rfl, z⟩ := py_.dict
    have e : (dFind t ds dx).map (fun o => D.bl o.isSome) = some d := by cases dx <;> exact e
    obtain ⟨o, eo, rfl⟩ := Option.map_eq_some_iff.mp e
    obtain ⟨ov, g, ro⟩ := z.get hK eo px
    obtain rfl : u = Value.ref a := ry
    exact d_in (by omega) I g rx fun s3 I3 => ⟨.bl ov.isSome, H, I3, rfl, q _ F H Grow.refl (by rw [repO_isSome ro]; exact .bl _)⟩
  | _ => exact dop_in hu pins s σ H x y v u Q I rx ry ⟨F, dx, _, d, px, py_, (by cases dx <;> exact e), q⟩
theorem dop_notInA (hu : X.A.units + 65 < cLine) (hK : NoT X.K) : OpR X (compareOp .NotIn) (rD2 X.prog X.w X.K dNotInA) := by
  intro pins s σ H x y v u Q I rx ry h
  obtain ⟨F, dx, dy, d, px, py_, e, q⟩ := h
  cases dy with
  | dct t ds =>
    obtain ⟨a, rfl, z⟩ := py_.dict
    have e : (dFind t ds dx).map (fun o => D.bl (!o.isSome)) = some d := by cases dx <;> exact e
    obtain ⟨o, eo, rfl⟩ := Option.map_eq_some_iff.mp e
    obtain ⟨ov, g, ro⟩ := z.get hK eo px
    obtain rfl : u = Value.ref a := ry
    exact d_notIn (by omega) I g rx fun s3 I3 => ⟨.bl (!ov.isSome), H, I3, rfl, q _ F H Grow.refl (by rw [repO_isSome ro]; exact .bl _)⟩
  | _ => exact dop_notIn hu pins s σ H x y v u Q I rx ry ⟨F, dx, _, d, px, py_, (by cases dx <;> exact e), q⟩
/-- what an operation gives that reads a name's own list or dict -/
def okB (own : Bool) (r : D) : Bool := !own || flat r
theorem okB_or {own : Bool} {r : D} (h : okB own r = true) : own = false ∨ flat r = true := by
  unfold okB at h
  rw [Bool.or_eq_true] at h
  exact h.imp (fun z => by cases own <;> first | rfl | cases z) id
def mCmpB (g : D → D → Option D) (f : MD) (i : Nat) : MD := fun env => (f env).bind fun (x, e) => match peekE e i with
  | none => .stuck
  | some (d, own) => (T.of (g x d)).bind fun r => if okB own r = true then .ret (r, e) else .stuck
theorem cmpB_reads {P : Program} {w : World} {K : PySem.W.Frag} {mg : Str → Option Value} {g2 : D → D → Option D} {σ : L2.St} {H : Hp} {Q : VK} (h : tD P w K mg W (mCmpB g2 f i) σ H Q) : tOp (rD2 P w K g2) (tD P w K mg W f) (tVar i) σ H Q := by
  obtain ⟨F, M, env, Qd, QE, R, q, hx, k⟩ := h
  refine ⟨F, M, env, _, QE, R, wpT_bind.mp q, hx, fun u H1 F1 M1 d env1 x1 R1 p1 q1 => ?_⟩
  dsimp only at q1
  split at q1
  · exact q1.elim
  rename_i dd own hp
  obtain ⟨r, er, q2⟩ := wpT_of (wpT_bind.mp q1)
  split at q2
  · rename_i hok
    obtain ⟨v, h1, Fp, h2, h3, h4⟩ := peek_use R1 hp
    refine ⟨v, h1, Fp, d, dd, r, p1.keeps ⟨h2, fun _ _ _ z => z, fun _ _ z => z, fun _ _ _ z => z⟩, h3, er, fun v' F' H' gr p => ?_⟩
    obtain ⟨F3, g3, p3⟩ := h4 r v' F' H' (okB_or hok) gr p
    exact k v' H' F3 M1 r env1 (x1.trans g3.ext) (R1.grow g3) p3 q2
  · exact q2.elim
theorem de_cmpB {op : CmpOp} {g2 : D → D → Option D} (ho : OpR X (compareOp op) (rD2 X.prog X.w X.K g2)) (ha : DE X W a fa) (hm : behindInMarks op (.Name x p) = false) (hN : X.N[i]? = some x := by rfl) (hv : Vis X.env.scope x := by first | exact Or.inl rfl | exact Or.inr (Or.inl rfl) | exact Or.inr (Or.inr rfl))
    (hd : (x == ("__debug__" : Str)) = false := by decide) (hcd : (x == ("__classdict__" : Str)) = false := by decide) : DE X W (.Compare a [op] [.Name x p] pos) (mCmpB g2 fa i) :=
  peW (pe_cmpR ho ha (pe_var hN hv hd hcd) hm) fun σ H Q h => cmpB_reads h
theorem dt_cmpB {op : CmpOp} {g2 : D → D → Option D} (ho : OpR X (compareOp op) (rD2 X.prog X.w X.K g2)) (ha : DE X W a fa) (hm : behindInMarks op (.Name x p) = false) (hN : X.N[i]? = some x := by rfl) (hv : Vis X.env.scope x := by first | exact Or.inl rfl | exact Or.inr (Or.inl rfl) | exact Or.inr (Or.inr rfl))
    (hd : (x == ("__debug__" : Str)) = false := by decide) (hcd : (x == ("__classdict__" : Str)) = false := by decide) : DT X W (.Compare a [op] [.Name x p] pos) (mTest isBl (mCmpB g2 fa i)) :=
  ptW (pt_cmpR ho ha (pe_var hN hv hd hcd) hm) fun σ H Q ⟨F, M, env, Qd, QE, R, q, hx, k⟩ => cmpB_reads ⟨F, M, env, _, QE, R, wpT_bind.mp q, hx, fun v H1 F1 M1 d env1 x1 R1 p1 q1 => by
    obtain ⟨kb, ek, q4⟩ := wpT_of (wpT_bind.mp q1)
    cases d <;> cases ek
    cases p1
    exact ⟨_, rfl, k _ H1 F1 M1 env1 x1 R1 q4⟩⟩
/-- a built-in of a name -/
def mSB (gs : List D → Option D) (i : Nat) : MD := fun env => match peekE env i with
  | none => .stuck
  | some (d, own) => (T.of (gs [d])).bind fun r => if okB own r = true then .ret (r, env) else .stuck
theorem sB_reads {P : Program} {w : World} {K : PySem.W.Frag} {mg : Str → Option Value} {gs : List D → Option D} {σ : L2.St} {H : Hp} {Q : List V → Hp → Prop} {Q0 : VK} (h : tD P w K mg W (mSB gs i) σ H Q0) : ∃ v, σ[i]? = some (some v) ∧ rDs P w K gs [v] H Q0 := by
  obtain ⟨F, M, env, Qd, QE, R, q, hx, k⟩ := h
  unfold mSB at q
  split at q
  · exact q.elim
  rename_i dd own hp
  obtain ⟨r, er, q2⟩ := wpT_of (wpT_bind.mp q)
  split at q2
  · rename_i hok
    obtain ⟨v, h1, Fp, h2, h3, h4⟩ := peek_use R hp
    refine ⟨v, h1, Fp, [dd], r, .cons h3 .nil, er, fun v' F' H' gr p => ?_⟩
    obtain ⟨F3, g3, p3⟩ := h4 r v' F' H' (okB_or hok) gr p
    exact k v' H' F3 M r env g3.ext (R.grow g3) p3 q2
  · exact q2.elim
theorem de_callBN {y : Str} {pn : Pos} {id : String} {gs : List D → Option D} (hc : CallR X (.builtin id) (rDs X.prog X.w X.K gs)) (hg : Gl X y) (hm : X.mg y = none) (hN : X.N[i]? = some x := by rfl) (hvv : Vis X.env.scope x := by first | exact Or.inl rfl | exact Or.inr (Or.inl rfl) | exact Or.inr (Or.inr rfl))
    (hv : bootBuiltins y = some (.builtin id) := by decide +kernel) (hn : y ≠ "__name__" := by decide) (hdb : (y == ("__debug__" : Str)) = false := by decide)
    (he : starEach [.Name x p] X.env = (false, eval (.Name x p) X.env) :: starEach [] X.env := by rfl) (hpl : (backTo pos (starEach [] X.env)).any (·.1) = false := by rfl)
    (hd : (x == ("__debug__" : Str)) = false := by decide) (hcd : (x == ("__classdict__" : Str)) = false := by decide) : DE X W (.Call (.Name y pn) [.Name x p] [] pos) (mSB gs i) :=
  peW (pe_callB hc hg hm hv (pa_cons (pe_var hN hvv hd hcd) pa_nil he) hn hdb he hpl) fun σ H Q h => sB_reads (Q := fun _ _ => True) h
theorem de_callTyN {y : Str} {pn : Pos} {id : String} {gs : List D → Option D} (hc : CallR X (.type id) (rDs X.prog X.w X.K gs)) (hg : Gl X y) (hm : X.mg y = none) (hN : X.N[i]? = some x := by rfl) (hvv : Vis X.env.scope x := by first | exact Or.inl rfl | exact Or.inr (Or.inl rfl) | exact Or.inr (Or.inr rfl))
    (hv : bootBuiltins y = some (.type id) := by decide +kernel) (hn : y ≠ "__name__" := by decide) (hdb : (y == ("__debug__" : Str)) = false := by decide)
    (he : starEach [.Name x p] X.env = (false, eval (.Name x p) X.env) :: starEach [] X.env := by rfl) (hpl : (backTo pos (starEach [] X.env)).any (·.1) = false := by rfl)
    (hd : (x == ("__debug__" : Str)) = false := by decide) (hcd : (x == ("__classdict__" : Str)) = false := by decide) : DE X W (.Call (.Name y pn) [.Name x p] [] pos) (mSB gs i) :=
  peW (pe_callTy hc hg hm hv (pa_cons (pe_var hN hvv hd hcd) pa_nil he) hn hdb he hpl) fun σ H Q h => sB_reads (Q := fun _ _ => True) h
/-- len, of a dict with flat keys too -/
def dLenA : List D → Option D
  | [.dct false ds] => some (.int ds.length)
  | xs => dLen xs
theorem dcall_lenA : CallR X (.builtin "len") (rDs X.prog X.w X.K dLenA) := by
  intro pins s σ H xs us Q I r h
  obtain ⟨F, ds, d, rp, e, q⟩ := h
  unfold dLenA at e
  split at e
  · cases e
    cases rp with
    | cons a t =>
      cases t
      cases a with
      | dk f h r' => exact call_lenD pins s σ H _ us Q I r ⟨_, _, rfl, h, by rw [← r'.len]; exact q _ _ _ Grow.refl (.int _)⟩
  · exact dcall_len pins s σ H xs us Q I r ⟨F, ds, d, rp, e, q⟩
/-- a name's truth -/
def gTruA : D → Option Bool
  | .dct false ds => some (!ds.isEmpty)
  | d => gTru d
theorem gTruA_ok {P : Program} {w : World} {K : PySem.W.Frag} {F : Addr → Prop} {H : Hp} {d : D} {v : V} {t : Bool} (r : Rep P w K F H d v) (h : gTruA d = some t) : TruV K v H t := by
  unfold gTruA at h
  split at h
  · cases h
    cases r with
    | dk f h r' => exact .inr (.inr ⟨_, h, by cases r' <;> rfl⟩)
  · exact gTru_ok r h
def mTruN (i : Nat) : MB := fun env => match peekE env i with
  | none => .stuck
  | some (d, _) => (T.of (gTruA d)).bind fun b => .ret (b, env)
theorem dt_valN (hN : X.N[i]? = some x := by rfl) (hv : Vis X.env.scope x := by first | exact Or.inl rfl | exact Or.inr (Or.inl rfl) | exact Or.inr (Or.inr rfl)) (he : ∀ whole, isTrue (.Name x p) X.env whole = (do let v ← whole; standAt (Expr.pos (.Name x p)); holding [v] (truthy v)) := by intro _; rfl)
    (hd : (x == ("__debug__" : Str)) = false := by decide) (hcd : (x == ("__classdict__" : Str)) = false := by decide) : DT X W (.Name x p) (mTruN i) := ptW (pt_truth (pe_var hN hv hd hcd) he) fun σ H Q ⟨F, M, env, Qd, QE, R, q, hx, k⟩ => by
  unfold mTruN at q
  split at q
  · exact q.elim
  rename_i dd own hp
  obtain ⟨r, er, q2⟩ := wpT_of (wpT_bind.mp q)
  obtain ⟨v, h1, Fp, h2, h3, h4⟩ := peek_use R hp
  exact ⟨v, h1, r, gTruA_ok h3 er, k _ _ _ _ _ Ext.refl R q2⟩
/-! ### x.get(k), x.get(k, d) -/
def mGet1 (i : Nat) (f : MD) : MD := fun env => match peekE env i with
  | some (.dct _ _, _) => (f env).bind fun (k, e) => match peekE e i with
    | some (.dct t ds, _) => (T.of (dFind t ds k)).bind fun o => .ret (o.getD .non, e)
    | _ => .stuck
  | _ => .stuck
def mGet2 (i : Nat) (f g : MD) : MD := fun env => match peekE env i with
  | some (.dct _ _, _) => (f env).bind fun (k, e) => (g e).bind fun (z, e2) => match peekE e2 i with
    | some (.dct t ds, _) => (T.of (dFind t ds k)).bind fun o => .ret (o.getD z, e2)
    | _ => .stuck
  | _ => .stuck
theorem de_get1 {apos cpos : Pos} (hu : X.A.units + 1 < cLine) (hK : NoT X.K) (he : DE X W e f) (m : M1 X (.Name x p) "get" apos e cpos) (hN : X.N[i]? = some x := by rfl) (hv : Vis X.env.scope x := by first | exact Or.inl rfl | exact Or.inr (Or.inl rfl) | exact Or.inr (Or.inr rfl))
    (hd : (x == ("__debug__" : Str)) = false := by decide) (hcd : (x == ("__classdict__" : Str)) = false := by decide) : DE X W (.Call (.Attribute (.Name x p) "get" apos) [e] [] cpos) (mGet1 i f) := peW (pe_dget1 hu (pe_var hN hv hd hcd) he m) fun σ H Q ⟨F, M, env, Qd, QE, R, q, hx, k⟩ => by
  unfold mGet1 at q
  split at q
  · rename_i t0 ds0 own0 hp0
    obtain ⟨a, ha, x0⟩ := peek_dict R hp0
    refine ⟨_, ha, a, rfl, x0.isD, F, M, env, _, QE, R, wpT_bind.mp q, hx, fun u H1 F1 M1 d env1 x1 R1 p1 q1 => ?_⟩
    dsimp only at q1
    split at q1
    · rename_i t ds own hp
      obtain ⟨o, eo, q2⟩ := wpT_of (wpT_bind.mp q1)
      obtain ⟨a', ha', x2⟩ := peek_dict R1 hp
      rw [ha] at ha'
      obtain rfl : a = a' := by injection ha' with z; injection z with z; injection z
      obtain ⟨ov, g, ro⟩ := x2.get hK eo p1
      refine ⟨ov, g, k _ _ _ _ _ _ x1 R1 ?_ q2⟩
      cases o <;> cases ov <;> first | exact .non | exact ro | exact ro.elim
    · exact q1.elim
  · exact q.elim
theorem de_get2 {b : Expr} {apos cpos : Pos} (hu : X.A.units + 1 < cLine) (hK : NoT X.K) (he : DE X W e f) (hb : DE X W b g) (m : M2 X (.Name x p) "get" apos e b cpos) (hN : X.N[i]? = some x := by rfl) (hv : Vis X.env.scope x := by first | exact Or.inl rfl | exact Or.inr (Or.inl rfl) | exact Or.inr (Or.inr rfl))
    (hd : (x == ("__debug__" : Str)) = false := by decide) (hcd : (x == ("__classdict__" : Str)) = false := by decide) : DE X W (.Call (.Attribute (.Name x p) "get" apos) [e, b] [] cpos) (mGet2 i f g) := peW (pe_dget2 hu (pe_var hN hv hd hcd) he hb m) fun σ H Q ⟨F, M, env, Qd, QE, R, q, hx, k⟩ => by
  unfold mGet2 at q
  split at q
  · rename_i t0 ds0 own0 hp0
    obtain ⟨a, ha, x0⟩ := peek_dict R hp0
    refine ⟨_, ha, a, rfl, x0.isD, F, M, env, _, QE, R, wpT_bind.mp q, hx, fun u H1 F1 M1 d env1 x1 R1 p1 q1 => ?_⟩
    refine ⟨F1, M1, env1, _, QE, R1, wpT_bind.mp q1, hx.mono x1, fun u2 H2 F2 M2 d2 env2 x2 R2 p2 q2 => ?_⟩
    dsimp only at q2
    split at q2
    · rename_i t ds own hp
      obtain ⟨o, eo, q3⟩ := wpT_of (wpT_bind.mp q2)
      obtain ⟨a', ha', x3⟩ := peek_dict R2 hp
      rw [ha] at ha'
      obtain rfl : a = a' := by injection ha' with z; injection z with z; injection z
      obtain ⟨ov, g, ro⟩ := x3.get hK eo (p1.keeps (x2.keeps R1.sep))
      refine ⟨ov, g, k _ _ _ _ _ _ (x1.trans x2) R2 ?_ q3⟩
      cases o <;> cases ov <;> first | exact p2 | exact ro | exact ro.elim
    · exact q2.elim
  · exact q.elim
/-! ### changes -/
/-- a method that changes its list or dict, by values -/
def rMu (P : Program) (w : World) (K : PySem.W.Frag) (g : D → List D → Option (D × D)) : V → List V → Hp → VK → Prop := fun x xs H Q => ∃ (F : Addr → Prop) (l : Addr) (dx : D) (dxs : List D) (d' dr : D), x = .ref l ∧ ¬ F l ∧ (∀ a, F a → ∃ o, H a = some o) ∧ Own P w K F H dx l ∧ RepL P w K F H dxs xs ∧ g dx dxs = some (d', dr) ∧
  ∀ (v : V) (H' : Hp), (∀ b, b ≠ l → H' b = H b) → Own P w K F H' d' l → Rep P w K F H' dr v → Q v H'
def mMut (i : Nat) (g : D → List D → Option (D × D)) (fl : ML) : MD := fun env => match env[i]? with
  | some (.mut _) => (fl env).bind fun (ds, e) => match e[i]? with
    | some (.mut d) => (T.of (g d ds)).bind fun (d', r) => .ret (r, e.set i (.mut d'))
    | _ => .stuck
  | _ => .stuck
def tyN : String → D → Bool
  | "list", .lst _ => true
  | "dict", .dct _ _ => true
  | _, _ => false
theorem own_ty {P : Program} {w : World} {K : PySem.W.Frag} {F : Addr → Prop} {H : Hp} {d : D} {a : Addr} (o : Own P w K F H d a) : (∃ T, tyV K T (.ref a) H ∧ ((∃ xs, d = .lst xs ∧ T = "list") ∨ ∃ t ds, d = .dct t ds ∧ T = "dict")) := by
  cases o with
  | lst h _ => exact ⟨"list", .inl ⟨rfl, _, .inl (.inl h)⟩, .inl ⟨_, rfl, rfl⟩⟩
  | dk h _ => exact ⟨"dict", .inr (.inr (.inl ⟨rfl, .inl ⟨_, h⟩⟩)), .inr ⟨_, _, rfl, rfl⟩⟩
  | dt h _ => exact ⟨"dict", .inr (.inr (.inl ⟨rfl, .inr ⟨_, h⟩⟩)), .inr ⟨_, _, rfl, rfl⟩⟩
/-- x.m(..), m changes x: a list's method -/
def mMutL (i : Nat) (g : D → List D → Option (D × D)) (fl : ML) : MD := fun env => match env[i]? with
  | some (.mut (.lst _)) => mMut i g fl env
  | _ => .stuck
def mMutD (i : Nat) (g : D → List D → Option (D × D)) (fl : ML) : MD := fun env => match env[i]? with
  | some (.mut (.dct _ _)) => mMut i g fl env
  | _ => .stuck
theorem mut_reads {P : Program} {w : World} {K : PySem.W.Frag} {mg : Str → Option Value} {g2 : D → List D → Option (D × D)} {σ : L2.St} {H : Hp} {Q : VK} {F M : Addr → Prop} {env : Env} {Qd : D × Env → Prop} {QE : Str → Env → Prop} {a0 : Addr} (ha : σ[i]? = some (some (.ref a0))) (R : Rel P w K F M H env σ) (q : wpT (mMut i g2 fl env) Qd QE) (hx : ExOk P w K mg W F M H QE)
    (k : ∀ (v : V) (H' : Hp) (F' M' : Addr → Prop) (d : D) (env' : Env), Ext F M H F' M' H' → Rel P w K F' M' H' env' σ → Rep P w K F' H' d v → Qd (d, env') → Q v H') : tDL P w K mg W fl σ H fun xs H2 => rMu P w K g2 (.ref a0) xs H2 Q := by
  unfold mMut at q
  split at q
  · refine ⟨F, M, env, _, QE, R, wpT_bind.mp q, hx, fun vs H1 F1 M1 ds env1 x1 R1 p1 q1 => ?_⟩
    dsimp only at q1
    split at q1
    · rename_i d hd
      obtain ⟨⟨d', r⟩, er, q2⟩ := wpT_of (wpT_bind.mp q1)
      obtain ⟨a, ha', ma, ow⟩ := R1.mt i d hd
      rw [ha] at ha'
      obtain rfl : a0 = a := by injection ha' with z; injection z with z; injection z
      refine ⟨F1, a0, d, ds, d', r, rfl, fun f => R1.sep.apart _ f ma, R1.sep.ftr, ow, p1, er, fun v H' hb ow' rv => ?_⟩
      obtain ⟨e1, e2, e3⟩ := R1.mutate hd ha hb ow'
      exact k v H' F1 M1 r _ (x1.trans e1) e3 rv q2
    · exact q1.elim
  · exact q.elim
theorem de_mutL {name : Str} {id : String} {apos cpos : Pos} {g2 : D → List D → Option (D × D)} (slot : Slot "list" name id) (hm : MtR X id (rMu X.prog X.w X.K g2)) (ha : DA X W (e :: es) fl) (hN : X.N[i]? = some x := by rfl) (hv : Vis X.env.scope x := by first | exact Or.inl rfl | exact Or.inr (Or.inl rfl) | exact Or.inr (Or.inr rfl))
    (hty : typeOf (.builtin id) = pure (.type "method_descriptor") := by rfl)
    (hbase : attributeBase (.Name x p) name X.env (eval (.Name x p) X.env) = eval (.Name x p) X.env := by rfl)
    (hfew : ((backTo cpos (starEach (e :: es) X.env)).all (fun x => !x.1) && (backToKw cpos (keywordEach [] X.env)).all (fun x => x.1.isSome)
      && decide ((e :: es).length + ([] : List Keyword).length + (if ([] : List Keyword).isEmpty then 0 else 1) < 30)) = true := by rfl)
    (hline : (apos.endLine == cpos.line) = true := by rfl) (hs : starEach (e :: es) X.env = (false, eval e X.env) :: starEach es X.env := by rfl) (hplain : (backTo cpos (starEach es X.env)).any (·.1) = false := by rfl)
    (hd : (x == ("__debug__" : Str)) = false := by decide) (hcd : (x == ("__classdict__" : Str)) = false := by decide) : DE X W (.Call (.Attribute (.Name x p) name apos) (e :: es) [] cpos) (mMutL i g2 fl) :=
  peW (pe_bm PySem.F.plainAttrs_list slot hty hm (pe_var hN hv hd hcd) ha hbase hfew hline hs hplain) fun σ H Q ⟨F, M, env, Qd, QE, R, q, hx, k⟩ => by
    unfold mMutL at q
    split at q
    · rename_i xs hxs
      obtain ⟨a, h1, h2, h3⟩ := R.mt i _ hxs
      refine ⟨_, h1, ?_, mut_reads h1 R q hx k⟩
      cases h3 with
      | lst h _ => exact .inl ⟨rfl, _, .inl (.inl h)⟩
    · exact q.elim
theorem de_mutL0 {name : Str} {id : String} {apos cpos : Pos} {g2 : D → List D → Option (D × D)} (slot : Slot "list" name id) (hm : MtR X id (rMu X.prog X.w X.K g2)) (hN : X.N[i]? = some x := by rfl) (hv : Vis X.env.scope x := by first | exact Or.inl rfl | exact Or.inr (Or.inl rfl) | exact Or.inr (Or.inr rfl))
    (hty : typeOf (.builtin id) = pure (.type "method_descriptor") := by rfl)
    (hbase : attributeBase (.Name x p) name X.env (eval (.Name x p) X.env) = eval (.Name x p) X.env := by rfl)
    (hline : (apos.endLine == cpos.line) = true := by rfl)
    (hd : (x == ("__debug__" : Str)) = false := by decide) (hcd : (x == ("__classdict__" : Str)) = false := by decide) : DE X W (.Call (.Attribute (.Name x p) name apos) [] [] cpos) (mMutL i g2 mNil) :=
  peW (pe_bm0 PySem.F.plainAttrs_list slot hty hm (pe_var hN hv hd hcd) hbase hline) fun σ H Q ⟨F, M, env, Qd, QE, R, q, hx, k⟩ => by
    unfold mMutL at q
    split at q
    · rename_i xs hxs
      obtain ⟨a, h1, h2, h3⟩ := R.mt i _ hxs
      refine ⟨_, h1, ?_, ?_⟩
      · cases h3 with
        | lst h _ => exact .inl ⟨rfl, _, .inl (.inl h)⟩
      · obtain ⟨F', M', env', Qd', QE', R', q', hx', k'⟩ := mut_reads h1 R q hx k
        exact k' [] H F' M' [] env' Ext.refl R' .nil q'
    · exact q.elim
theorem de_mutD {name : Str} {id : String} {apos cpos : Pos} {g2 : D → List D → Option (D × D)} (slot : Slot "dict" name id) (hm : MtR X id (rMu X.prog X.w X.K g2)) (ha : DA X W (e :: es) fl) (hN : X.N[i]? = some x := by rfl) (hv : Vis X.env.scope x := by first | exact Or.inl rfl | exact Or.inr (Or.inl rfl) | exact Or.inr (Or.inr rfl))
    (hty : typeOf (.builtin id) = pure (.type "method_descriptor") := by rfl)
    (hbase : attributeBase (.Name x p) name X.env (eval (.Name x p) X.env) = eval (.Name x p) X.env := by rfl)
    (hfew : ((backTo cpos (starEach (e :: es) X.env)).all (fun x => !x.1) && (backToKw cpos (keywordEach [] X.env)).all (fun x => x.1.isSome)
      && decide ((e :: es).length + ([] : List Keyword).length + (if ([] : List Keyword).isEmpty then 0 else 1) < 30)) = true := by rfl)
    (hline : (apos.endLine == cpos.line) = true := by rfl) (hs : starEach (e :: es) X.env = (false, eval e X.env) :: starEach es X.env := by rfl) (hplain : (backTo cpos (starEach es X.env)).any (·.1) = false := by rfl)
    (hd : (x == ("__debug__" : Str)) = false := by decide) (hcd : (x == ("__classdict__" : Str)) = false := by decide) : DE X W (.Call (.Attribute (.Name x p) name apos) (e :: es) [] cpos) (mMutD i g2 fl) :=
  peW (pe_bm PySem.F.plainAttrs_dict slot hty hm (pe_var hN hv hd hcd) ha hbase hfew hline hs hplain) fun σ H Q ⟨F, M, env, Qd, QE, R, q, hx, k⟩ => by
    unfold mMutD at q
    split at q
    · rename_i xs ds hxs
      obtain ⟨a, h1, h2, h3⟩ := R.mt i _ hxs
      refine ⟨_, h1, ?_, mut_reads h1 R q hx k⟩
      cases h3 with
      | dk h _ => exact .inr (.inr (.inl ⟨rfl, .inl ⟨_, h⟩⟩))
      | dt h _ => exact .inr (.inr (.inl ⟨rfl, .inr ⟨_, h⟩⟩))
    · exact q.elim
end
end DL
set_option Elab.async false
set_option linter.all false
set_option maxRecDepth 100000
set_option autoImplicit false
set_option maxHeartbeats 1000000
/-! The data layer, part 11: changes of own lists and dicts; displays; dict(..). -/
namespace DL
open PySem PySem.Spec PyProof.Rows L2
theorem nodup1 {α : Type} : ∀ {l : List α}, l.length ≤ 1 → l.Nodup
  | [], _ => List.nodup_nil
  | [_], _ => List.nodup_cons.mpr ⟨List.not_mem_nil, List.nodup_nil⟩
  | _ :: _ :: _, h => absurd h (by simp)
def gAppend : D → List D → Option (D × D)
  | .lst xs, [y] => if xs.length < sizeLine then some (.lst (xs ++ [y]), .non) else none
  | _, _ => none
def gExtend : D → List D → Option (D × D)
  | .lst xs, [.lst ys] => if xs.length + ys.length ≤ sizeLine then some (.lst (xs ++ ys), .non) else none
  | _, _ => none
def gPop : D → List D → Option (D × D)
  | .lst xs, [] => (xs[xs.length - 1]?).map fun y => (.lst xs.dropLast, y)
  | _, _ => none
/-- the pairs es into ds -/
def dMerge (t : Bool) (ds es : List (D × D)) : Option (List (D × D)) := es.foldl (fun acc p => acc.bind fun a => dPut t a p.1 p.2) (some ds)
def gUpdate : D → List D → Option (D × D)
  | .dct true ds, [.dct true es] => if ds.length + es.length ≤ sizeLine ∧ (ds ≠ [] ∨ es.length ≤ 1) then (dMerge true ds es).map fun m => (.dct true m, .non) else none
  | _, _ => none
section
variable {P : Program} {w : World} {K : PySem.W.Frag} {F : Addr → Prop} {H : Hp}
theorem RepL.dropLast : ∀ {ds : List D} {vs : List V}, RepL P w K F H ds vs → RepL P w K F H ds.dropLast vs.dropLast
  | _, _, .nil => .nil
  | _, _, .cons a .nil => .nil
  | _, _, .cons a (.cons b r) => .cons a (RepL.dropLast (.cons b r))
theorem RepL.eraseIdx : ∀ {ds : List D} {vs : List V} (i : Nat), RepL P w K F H ds vs → RepL P w K F H (ds.eraseIdx i) (vs.eraseIdx i)
  | _, _, _, .nil => .nil
  | _, _, 0, .cons a r => r
  | _, _, i + 1, .cons a r => .cons a (r.eraseIdx i)
theorem RepL.set : ∀ {ds : List D} {vs : List V} {d : D} {v : V} (i : Nat), RepL P w K F H ds vs → Rep P w K F H d v → RepL P w K F H (ds.set i d) (vs.set i v)
  | _, _, _, _, _, .nil, _ => .nil
  | _, _, _, _, 0, .cons a r, q => .cons q r
  | _, _, _, _, i + 1, .cons a r, q => .cons a (r.set i q)
theorem Keeps.outT {a : Addr} {o o' : HO} (h : H a = some o) (nF : ¬ F a) (mu : MutO o) : Keeps F H F (upd H a o') :=
  ⟨fun _ z => z, fun b u f e => by rw [upd_ne (fun (z : b = a) => nF (z ▸ f))]; exact e, fun b xs e => by rw [upd_ne (fun (z : b = a) => by rw [z, h] at e; cases e; exact mu)]; exact e, fun b u v e => by rw [upd_ne (fun (z : b = a) => by rw [z, h] at e; cases e; exact mu)]; exact e⟩
abbrev mergeT (kvs more : List (List Key × V)) : List (List Key × V) := more.foldl (fun acc kv => putK acc kv.1 kv.2) kvs
theorem merge_none (t : Bool) : ∀ es : List (D × D), es.foldl (fun acc p => acc.bind fun a => dPut t a p.1 p.2) none = none
  | [] => rfl
  | p :: r => merge_none t r
theorem RepT.merge : ∀ {es : List (D × D)} {more : List (List Key × V)} {ds m : List (D × D)} {kvs : List (List Key × V)}, RepT P w K F H es more → RepT P w K F H ds kvs → dMerge true ds es = some m → RepT P w K F H m (mergeT kvs more)
  | _, _, _, _, _, .nil, r, h => by cases h; exact r
  | _, _, ds, m, kvs, .cons (ts := ts) (ks := ks) (d := d) (v := v) (ds := es) e a q, r, h => by
    have e' : tk (.tup ts) = some ks := e
    have h' : dMerge true (fPut tk ds (.tup ts) ks d) es = some m := by
      have : dPut true ds (.tup ts) d = some (fPut tk ds (.tup ts) ks d) := by
        show (tk (.tup ts)).map _ = _
        rw [e']; rfl
      unfold dMerge at h ⊢
      rw [List.foldl_cons] at h
      rw [← this]
      exact h
    show RepT P w K F H m (mergeT (putK kvs ks v) _)
    exact RepT.merge q (r.put e' a) h'
theorem RepK.merge : ∀ {es : List (D × D)} {more : List (Key × V)} {ds m : List (D × D)} {kvs : List (Key × V)}, RepK P w K F H es more → RepK P w K F H ds kvs → dMerge false ds es = some m → RepK P w K F H m (mergeK kvs more)
  | _, _, _, _, _, .nil, r, h => by cases h; exact r
  | _, _, ds, m, kvs, .cons (dk := dk) (k := ks) (d := d) (v := v) (ds := es) e a q, r, h => by
    have h' : dMerge false (fPut fk ds dk ks d) es = some m := by
      have : dPut false ds dk d = some (fPut fk ds dk ks d) := by
        show (fk dk).map _ = _
        rw [e]; rfl
      unfold dMerge at h ⊢
      rw [List.foldl_cons] at h
      rw [← this]
      exact h
    show RepK P w K F H m (mergeK (putK kvs ks v) _)
    exact RepK.merge q (r.put e a) h'
theorem KT.merge : ∀ {more : List (List Key × V)} {ys : List (List Key × Addr × Value)} {kvs : List (List Key × V)} {xs : List (List Key × Addr × Value)}, KT H more ys → KT H kvs xs → KT H (mergeT kvs more) (storedAllH xs ys)
  | _, _, _, _, .nil, r => r
  | _, _, _, _, .cons (a := p) (b := q) ⟨h1, h2, h3⟩ t, r => by
    show KT H (mergeT (putK _ p.1 p.2) _) (storedAllH (storedH _ q.1 q.2.1 q.2.2) _)
    rw [← h1]
    exact KT.merge t (KT.put r p.1 h2 h3)
theorem mergeT_len : ∀ (more kvs : List (List Key × V)), (mergeT kvs more).length ≤ kvs.length + more.length
  | [], _ => Nat.le_refl _
  | p :: r, kvs => by
    have h1 := mergeT_len r (putK kvs p.1 p.2)
    have h2 := length_putK kvs p.1 p.2
    have h3 : (mergeT kvs (p :: r)).length = (mergeT (putK kvs p.1 p.2) r).length := rfl
    rw [List.length_cons, h3]
    omega
end
section
variable {X : Cx} {W : WX} {e a b c o : Expr} {es : List Expr} {f g fa fb fc : MD} {fl : ML} {pos p : Pos} {i : Nat} {x : Str}
theorem dmt_append : MtR X "list.append" (rMu X.prog X.w X.K gAppend) := by
  intro pins s σ H x xs v us Q I rx rxs ⟨F, l, dx, dxs, d', dr, ex, nF, ft, ow, rl, eg, q⟩
  subst ex
  unfold gAppend at eg
  split at eg
  · split at eg
    · rename_i hz
      cases eg
      cases rl with
      | cons a t =>
        cases t
        cases ow with
        | lst h r =>
          exact mt_append pins s σ H _ _ v us Q I rx rxs ⟨l, _, _, rfl, rfl, h, by rw [← r.length]; exact hz, q _ _ (fun b hb => upd_ne hb) (.lst upd_same ((r.append (.cons a .nil)).keeps (Keeps.outT h nF trivial))) .non⟩
    · cases eg
  · cases eg
theorem dmt_extend : MtR X "list.extend" (rMu X.prog X.w X.K gExtend) := by
  intro pins s σ H x xs v us Q I rx rxs ⟨F, l, dx, dxs, d', dr, ex, nF, ft, ow, rl, eg, q⟩
  subst ex
  unfold gExtend at eg
  split at eg
  · split at eg
    · rename_i hz
      cases eg
      cases rl with
      | cons a t =>
        cases t
        cases a with
        | lst fb hb rb =>
          cases ow with
          | lst h r =>
            exact mt_extend pins s σ H _ _ v us Q I rx rxs ⟨l, _, _, _, rfl, rfl, h, hb, by rw [← r.length, ← rb.length]; exact hz, q _ _ (fun b hb => upd_ne hb) (.lst upd_same ((r.append rb).keeps (Keeps.outT h nF trivial))) .non⟩
    · cases eg
  · cases eg
theorem dmt_pop : MtR X "list.pop" (rMu X.prog X.w X.K gPop) := by
  intro pins s σ H x xs v us Q I rx rxs ⟨F, l, dx, dxs, d', dr, ex, nF, ft, ow, rl, eg, q⟩
  subst ex
  unfold gPop at eg
  split at eg
  · obtain ⟨y, hy, eg⟩ := Option.map_eq_some_iff.mp eg
    cases eg
    cases rl
    cases ow with
    | lst h r =>
      obtain ⟨u, h1, h2⟩ := r.get hy
      exact mt_pop pins s σ H _ _ v us Q I rx rxs ⟨l, _, u, rfl, rfl, h, by rw [← r.length]; exact h1, q _ _ (fun b hb => upd_ne hb) (.lst upd_same (r.dropLast.keeps (Keeps.outT h nF trivial))) (h2.keeps (Keeps.outT h nF trivial))⟩
  · cases eg
theorem kt_types {pins : List (Addr × Obj)} {σ : L2.St} {H : Hp} {s : Shared} (I : L2.Inv X pins σ H s) : ∀ {l : List (List Key × V)} {m : List (List Key × Addr × Value)}, KT H l m → ∀ x ∈ m, s.TypeIs (.ref x.2.1) "tuple" := by
  intro l m q
  induction q with
  | nil => intro x hx; exact nomatch hx
  | @cons p q ps qs hq t ih =>
    intro x hx
    rcases List.mem_cons.mp hx with e | hx
    · subst e
      obtain ⟨_, its, r, o, h1, h2, n, h3⟩ := (show ObjOk X.prog X.w H s.heap x.2.1 (.tup (p.1.map kV)) from I.hok _ _ hq.2.1)
      exact ⟨o, h1, h2⟩
    · exact ih x hx
theorem dmt_update (hu : X.A.units + 2 < cLine) : MtR X "dict.update" (rMu X.prog X.w X.K gUpdate) := by
  intro pins s σ H x xs v us Q I rx rxs ⟨F, l, dx, dxs, d', dr, ex, nF, ft, ow, rl, eg, q⟩
  subst ex
  unfold gUpdate at eg
  split at eg
  · split at eg
    · rename_i ds es hz
      obtain ⟨m, hm, eg⟩ := Option.map_eq_some_iff.mp eg
      cases eg
      cases rl with
      | cons a t =>
        cases t
        cases a with
        | @dt b more es fb hb rb =>
          cases ow with
          | @dt _ kvs ds h r =>
            have hlb : l ≠ b := fun z => nF (z ▸ fb)
            obtain rfl : v = Value.ref l := rx
            obtain ⟨u, rfl, ru⟩ := vals1 rxs
            obtain rfl : u = Value.ref b := ru
            obtain ⟨z1, hd1, ks1, rel1, dd1⟩ := dt_of I.hok h
            obtain ⟨z2, hd2, ks2, rel2, dd2⟩ := dt_of I.hok hb
            have e1 : ds.length = kvs.length := r.len
            have e2 : es.length = more.length := rb.len
            have l1 := Paired.length rel1
            have l2 := Paired.length rel2
            refine call_update_dictH (tupleKind_room_in1 (by omega)) hlb hd2 dd1 dd2 ?_ (by omega) fun h' hd' _ hs => ?_
            · rcases hz.2 with c | c
              · refine .inl fun e => c ?_
                rw [e] at l1
                exact List.length_eq_zero_iff.mp (by simpa using e1.trans l1)
              · refine .inr ⟨kt_types I rel2, ?_⟩
                exact nodup1 (by rw [List.length_map]; omega)
            · have hk : KT (upd H l (.dT (mergeT kvs more))) (mergeT kvs more) (storedAllH ks1 ks2) := (KT.merge rel2 rel1).keeps fun c ys ec => by
                rw [upd_ne (fun (z : c = l) => by rw [z, h] at ec; cases ec)]; exact ec
              obtain ⟨qo, es', ep, hq, h2, h3, h4, _, h5⟩ := hd'
              have kp : Keeps F H F (upd H l (.dT (mergeT kvs more))) := Keeps.outT h nF trivial
              refine ⟨.non, _, d_write (t' := s.toks) I (by rw [h]; exact True.intro) hs ⟨qo, hq⟩ (ob := .dT (mergeT kvs more)) ⟨?_, hd1, _, hk, qo, es', ep, hq, h2, h3, h4, h5⟩, rfl, q _ _ (fun b hb => upd_ne hb) (.dt upd_same ((RepT.merge rb r hm).keeps kp)) .non⟩
              have := mergeT_len more kvs
              have z := hz.1
              omega
    · cases eg
  · cases eg
/-! ### x[k] = v -/
def gStore : D → D → D → Option D
  | .lst xs, .int j, v => (L2.ixN xs.length j).map fun n => .lst (xs.set n v)
  | .dct t ds, k, v => if ds.length < sizeLine then (dPut t ds k v).map fun es => .dct t es else none
  | _, _, _ => none
/-- name[k] = v -/
def sStore (i : Nat) (fk fv : MD) : MS := fun env => (fv env).bind fun (v, e) => match e[i]? with
  | some (.mut _) => (fk e).bind fun (k, e2) => match e2[i]? with
    | some (.mut d) => (T.of (gStore d k v)).bind fun d' => .ret (.nx, e2.set i (.mut d'))
    | _ => .stuck
  | _ => .stuck
theorem gStore_reads {P : Program} {w : World} {K : PySem.W.Frag} {F : Addr → Prop} {H : Hp} (hK : NoT K) {d k v d' : D} {a : Addr} {y z : V} (e : gStore d k v = some d') (ow : Own P w K F H d a) (nF : ¬ F a) (ry : Rep P w K F H k y) (rz : Rep P w K F H v z) :
    (∃ H', rSetL (.ref a) y z H (fun H2 => H2 = H') ∧ (∀ b, b ≠ a → H' b = H b) ∧ Own P w K F H' d' a) ∨ ∃ H', DPut H a y z H' ∧ (∀ b, b ≠ a → H' b = H b) ∧ Own P w K F H' d' a := by
  cases ow with
  | @lst _ vs ds h r =>
    cases k with
    | int j =>
      cases ry
      obtain ⟨n, hn, rfl⟩ := Option.map_eq_some_iff.mp (show (L2.ixN ds.length j).map (fun n => D.lst (ds.set n v)) = some d' from e)
      have kp : Keeps F H F (upd H a (.lst (vs.set n z))) := Keeps.outT h nF trivial
      exact .inl ⟨_, ⟨a, vs, j, n, rfl, rfl, h, by rw [← r.length]; exact hn, rfl⟩, fun b hb => upd_ne hb, .lst upd_same ((r.set n rz).keeps kp)⟩
    | _ => cases e
  | dk h r =>
    unfold gStore at e
    dsimp only at e
    split at e
    · rename_i hz
      obtain ⟨es, he, rfl⟩ := Option.map_eq_some_iff.mp e
      obtain ⟨H', h1, h2, h3⟩ := (DictAt.k h r).put hK he ry rz hz nF
      exact .inr ⟨H', h1, h2, h3⟩
    · cases e
  | dt h r =>
    unfold gStore at e
    dsimp only at e
    split at e
    · rename_i hz
      obtain ⟨es, he, rfl⟩ := Option.map_eq_some_iff.mp e
      obtain ⟨H', h1, h2, h3⟩ := (DictAt.t h r).put hK he ry rz hz nF
      exact .inr ⟨H', h1, h2, h3⟩
    · cases e
theorem set_all (hu : X.A.units + 1 < cLine) : PSet X (fun o i v H Q => (∃ H', rSetL o i v H (fun H2 => H2 = H') ∧ Q H') ∨ ∃ a H', o = .ref a ∧ DPut H a i v H' ∧ Q H') := by
  intro pins s σ H o i v ov iv u Q I ro ri rv h
  rcases h with ⟨H', h1, h2⟩ | ⟨a, H', h1, h2, h3⟩
  · exact set_list pins s σ H o i v ov iv u Q I ro ri rv (by
      obtain ⟨p, xs, k, j, e1, e2, e3, e4, e5⟩ := h1
      exact ⟨p, xs, k, j, e1, e2, e3, e4, by rw [e5]; exact h2⟩)
  · exact set_dict hu pins s σ H o i v ov iv u Q I ro ri rv ⟨a, H', h1, h2, h3⟩
theorem ds_store {tpos : Pos} (hu : X.A.units + 1 < cLine) (hK : NoT X.K) (hb : DE X W b f) (he : DE X W e g) (hN : X.N[i]? = some x := by rfl) (hv : Vis X.env.scope x := by first | exact Or.inl rfl | exact Or.inr (Or.inl rfl) | exact Or.inr (Or.inr rfl))
    (ha : ∀ v, assign (.Subscript (.Name x p) b tpos) X.env v = (do
      let ov ← holding [v] (eval (.Name x p) X.env)
      let iv ← holding [v, ov] (eval b X.env)
      standAt tpos
      holding [v, ov, iv] (setItem ov iv v)
      release [v, ov, iv] []) := by intro _; rfl)
    (hs : swapsWithSole [.Subscript (.Name x p) b tpos] e pos.line X.env = pure false := by rfl) (hw : swappedStores [.Subscript (.Name x p) b tpos] e X.env = pure none := by rfl)
    (h1 : (assignEach [.Subscript (.Name x p) b tpos] X.env).map (·.2) = [assign (.Subscript (.Name x p) b tpos) X.env] := by rfl)
    (hd : (x == ("__debug__" : Str)) = false := by decide) (hcd : (x == ("__classdict__" : Str)) = false := by decide) : DS X W (.Assign [.Subscript (.Name x p) b tpos] e pos) (sStore i f g) := by
  refine psW (ps_asg he (pg_sub (pe_var hN hv hd hcd) hb (set_all hu) ha) hs hw h1) fun De σ H ⟨F, M, env, Q, QE, R, q, hx, k1, k2, k3, k4⟩ => ?_
  refine ⟨F, M, env, _, QE, R, wpT_bind.mp q, hx, fun v H1 F1 M1 d env1 x1 R1 p1 q1 => ?_⟩
  dsimp only at q1
  split at q1
  · rename_i d0 hd0
    obtain ⟨a, h2, h3, h4⟩ := R1.mt i d0 hd0
    refine ⟨_, h2, F1, M1, env1, _, QE, R1, wpT_bind.mp q1, hx.mono x1, fun y H2 F2 M2 dk env2 x2 R2 p2 q2 => ?_⟩
    dsimp only at q2
    split at q2
    · rename_i dd hdd
      obtain ⟨d', ed, q3⟩ := wpT_of (wpT_bind.mp q2)
      obtain ⟨a', h5, h6, h7⟩ := R2.mt i dd hdd
      rw [h2] at h5
      obtain rfl : a = a' := by injection h5 with z; injection z with z; injection z
      rcases gStore_reads hK ed h7 (fun f => R2.sep.apart _ f h6) p2 (p1.keeps (x2.keeps R1.sep)) with ⟨H', g1, g2, g3⟩ | ⟨H', g1, g2, g3⟩
      · obtain ⟨e1, e2, e3⟩ := R2.mutate hdd h2 g2 g3
        exact .inl ⟨H', g1, k1 _ _ _ _ _ (x1.trans (x2.trans e1)) e3 q3⟩
      · obtain ⟨e1, e2, e3⟩ := R2.mutate hdd h2 g2 g3
        exact .inr ⟨a, H', rfl, g1, k1 _ _ _ _ _ (x1.trans (x2.trans e1)) e3 q3⟩
    · exact q2.elim
  · exact q1.elim
/-! ### fresh -/
def mLst (fl : ML) : MD := fun env => (fl env).bind fun (ds, e) => if ds.length ≤ sizeLine then .ret (.lst ds, e) else .stuck
theorem df_list (hl : DA X W es fl) : DF X W (.List es pos) (mLst fl) := peW (pe_lst hl) fun σ H Q ⟨F, M, env, Qd, QE, R, q, hx, k⟩ => by
  refine ⟨F, M, env, _, QE, R, wpT_bind.mp q, hx, fun vs H1 F1 M1 ds env1 x1 R1 p1 q1 => ?_⟩
  dsimp only at q1
  split at q1
  · rename_i hle
    refine ⟨by rw [← p1.length]; exact hle, fun p hp => ?_⟩
    have g : Grow F1 H1 F1 (upd H1 p (.lst vs)) := Grow.laid hp
    have hpH : H p = none := by
      cases z : H p with
      | none => rfl
      | some o => obtain ⟨o', e'⟩ := x1.there p o z; rw [hp] at e'; cases e'
    exact k p _ F1 M1 _ env1 (x1.trans g.ext) (R1.grow g) hpH (fun f => by obtain ⟨o, e⟩ := R1.sep.ftr p f; rw [hp] at e; cases e) (fun m => by obtain ⟨o, e, _⟩ := R1.sep.kind p m; rw [hp] at e; cases e) (.lst upd_same (p1.keeps g.keeps)) q1
  · exact q1.elim
theorem df_dictK : DF X W (.Dict [] [] pos) (mC (.dct false [])) := peW pe_dnewK fun σ H Q ⟨F, M, env, Qd, QE, R, q, hx, k⟩ p hp => by
  have g : Grow F H F (upd H p (.dK [])) := Grow.laid hp
  exact k p _ F M _ env g.ext (R.grow g) hp (fun f => by obtain ⟨o, e⟩ := R.sep.ftr p f; rw [hp] at e; cases e) (fun m => by obtain ⟨o, e, _⟩ := R.sep.kind p m; rw [hp] at e; cases e) (.dk upd_same .nil) q
theorem df_dictT : DF X W (.Dict [] [] pos) (mC (.dct true [])) := peW pe_dnewT fun σ H Q ⟨F, M, env, Qd, QE, R, q, hx, k⟩ p hp => by
  have g : Grow F H F (upd H p (.dT [])) := Grow.laid hp
  exact k p _ F M _ env g.ext (R.grow g) hp (fun f => by obtain ⟨o, e⟩ := R.sep.ftr p f; rw [hp] at e; cases e) (fun m => by obtain ⟨o, e, _⟩ := R.sep.kind p m; rw [hp] at e; cases e) (.dt upd_same .nil) q
/-! ### dict(pairs) -/
def asPair : D → Option (D × D)
  | .tup [k, v] => some (k, v)
  | _ => none
def dDict (t : Bool) : List D → Option D
  | [.lst ps] => ((ps.mapM asPair).bind fun kvs => dMerge t [] kvs).map fun m => .dct t m
  | _ => none
theorem mapM_cons' {α β : Type} {f : α → Option β} {a : α} {r : List α} {out : List β} (h : (a :: r).mapM f = some out) : ∃ b bs, f a = some b ∧ r.mapM f = some bs ∧ out = b :: bs := by
  rw [List.mapM_cons] at h
  cases e1 : f a with
  | none => rw [e1] at h; cases h
  | some b =>
    cases e2 : r.mapM f with
    | none => rw [e1, e2] at h; cases h
    | some bs => rw [e1, e2] at h; cases h; exact ⟨b, bs, rfl, rfl, rfl⟩
theorem pairs_rep {P : Program} {w : World} {K : PySem.W.Frag} {F : Addr → Prop} {H : Hp} (hK : NoT K) : ∀ {ps : List D} {kvs m : List (D × D)} {acc : List (D × D)} {vs : List V}, ps.mapM asPair = some kvs → RepL P w K F H ps vs → dMerge true acc kvs = some m →
    ∃ (ts : List Addr) (more : List (List Key × V)) (bs : List Addr), vs = ts.map V.ref ∧ RepT P w K F H kvs more ∧ Paired (fun t (q : (List Key × V) × Addr) => SqT K H t [.ref q.2, q.1.2] ∧ H q.2 = some (.tup (q.1.1.map kV))) ts (more.zip bs) ∧ bs.length = more.length
  | [], _, _, _, _, h, .nil, _ => by cases h; exact ⟨[], [], [], rfl, .nil, .nil, rfl⟩
  | d :: r, _, m, acc, _, h, .cons a t, hm => by
    obtain ⟨kv, kvs, h1, h2, rfl⟩ := mapM_cons' h
    unfold asPair at h1
    split at h1
    · rename_i k v
      cases h1
      cases hp : dPut true acc k v with
      | none =>
        unfold dMerge at hm
        rw [List.foldl_cons] at hm
        have : (some acc).bind (fun a => dPut true a (k, v).1 (k, v).2) = none := hp
        rw [this, merge_none] at hm
        cases hm
      | some acc' =>
        have hm' : dMerge true acc' kvs = some m := by
          unfold dMerge at hm ⊢
          rw [List.foldl_cons] at hm
          have : (some acc).bind (fun a => dPut true a (k, v).1 (k, v).2) = some acc' := hp
          rw [this] at hm
          exact hm
        obtain ⟨ts, more, bs, e1, e2, e3, e4⟩ := pairs_rep hK h2 t hm'
        obtain ⟨ks, hk, _⟩ := Option.map_eq_some_iff.mp hp
        cases a with
        | @tup a0 _ _ hT hL =>
          cases hL with
          | cons ak t2 =>
            cases t2 with
            | cons av t3 =>
              cases t3
              obtain ⟨b, rfl, hb⟩ := tk_rep hK hk ak
              have hT' := hT.sq
              cases k with
              | tup kts => exact ⟨a0 :: ts, (ks, _) :: more, b :: bs, by rw [List.map_cons, ← e1], .cons hk av e2, .cons ⟨hT', hb⟩ e3, by rw [List.length_cons, List.length_cons, e4]⟩
              | _ => cases hk
    · cases h1
end
end DL
set_option Elab.async false
set_option linter.all false
set_option maxRecDepth 100000
set_option autoImplicit false
set_option maxHeartbeats 1000000
/-! The data layer, part 12: dict(..), dict comprehensions with keys of either kind. -/
namespace DL
open PySem PySem.Spec PyProof.Rows L2
section
variable {X : Cx} {W : WX} {e a b c o : Expr} {es : List Expr} {f g fa fb fc : MD} {fl : ML} {pos p : Pos} {i : Nat} {x : Str}
theorem pairs_heap {pins : List (Addr × Obj)} {σ : L2.St} {H : Hp} {s : Shared} (I : L2.Inv X pins σ H s) : ∀ {ts : List Addr} {more : List (List Key × V)} {bs : List Addr}, Paired (fun t (q : (List Key × V) × Addr) => SqT X.K H t [.ref q.2, q.1.2] ∧ H q.2 = some (.tup (q.1.1.map kV))) ts (more.zip bs) → bs.length = more.length →
    ∃ ph : List (List Key × Addr × Value), KT H more ph ∧ ph.length = ts.length ∧ ∀ (j : Nat) (q : List Key × Addr × Value), ph[j]? = some q → ∃ t, ts[j]? = some t ∧ PairAt s.heap t (.ref q.2.1) q.2.2
  | [], [], _, _, _ => ⟨[], .nil, rfl, fun j q e => by simp at e⟩
  | [], m :: more, [], _, hl => by simp at hl
  | [], m :: more, b :: bs, h, _ => nomatch h
  | t :: ts, [], _, h, _ => by simp at h; exact nomatch h
  | t :: ts, m :: more, [], h, hl => by simp at hl
  | t :: ts, m :: more, b :: bs, h, hl => by
    rw [List.zip_cons_cons] at h
    cases h with
    | cons h1 h2 =>
      obtain ⟨ph, k1, k2, k3⟩ := pairs_heap I h2 (by simpa using hl)
      obtain ⟨its, rv, ht, _⟩ := I.tuple (a := t) (xs := [.ref b, m.2]) h1.1
      obtain ⟨u, y, ei, ru, ry⟩ := vals2 rv
      subst ei
      obtain rfl : u = Value.ref b := ru
      refine ⟨(m.1, b, y) :: ph, .cons ⟨rfl, h1.2, ry⟩ k1, by rw [List.length_cons, List.length_cons, k2], fun j q e => ?_⟩
      cases j with
      | zero =>
        have e' : (m.1, b, y) = q := Option.some.inj e
        subst e'
        exact ⟨t, rfl, .inl ht⟩
      | succ j =>
        obtain ⟨t', e1, e2⟩ := k3 j q (by simpa using e)
        exact ⟨t', by simpa using e1, e2⟩
theorem dcall_dictT (hc : X.calm = true) (hu : X.A.units + 2 < cLine) (hK : NoT X.K) : CallR X (.type "dict") (rDs X.prog X.w X.K (dDict true)) := by
  intro pins s σ H xs us Q I r ⟨F, ds, d, rp, e, q⟩
  unfold dDict at e
  split at e
  · rename_i ps
    obtain ⟨m, hm, rfl⟩ := Option.map_eq_some_iff.mp e
    obtain ⟨kvs, hk, hm⟩ := Option.bind_eq_some_iff.mp hm
    cases rp with
    | cons a t =>
      cases t
      cases a with
      | @lst l vs _ f h1 h2 =>
        obtain ⟨ts, more, bs, e1, rT, pr, hb⟩ := pairs_rep hK hk h2 hm
        subst e1
        rw [Vals.ref1 r]
        obtain ⟨its, rv, pl, hz⟩ := I.list (.inl (.inl h1))
        have ei := refs_at rv
        subst ei
        rw [List.length_map] at hz
        obtain ⟨ph, kt, hl, hp⟩ := pairs_heap I pr hb
        obtain ⟨ol, n, ho, hcl, hd, hdat⟩ := pl
        have hkeys : ∀ z ∈ ph, (tupleKind (mixKind X.prog X.w)).is s.heap z.1 z.2.1 := by
          have all : ∀ {l : List (List Key × V)} {m : List (List Key × Addr × Value)}, KT H l m → ∀ x ∈ m, (tupleKind (mixKind X.prog X.w)).is s.heap x.1 x.2.1 := by
            intro l m q
            induction q with
            | nil => intro x hx; exact nomatch hx
            | @cons p q ps qs hq t ih =>
              intro x hx
              rcases List.mem_cons.mp hx with e | hx
              · subst e
                exact key_of I.hok (by rw [← hq.1]; exact hq.2.1)
              · exact ih x hx
          exact all kt
        refine call_dict_pairsH (knd := tupleKind (mixKind X.prog X.w)) (ps := ph) (PairArg.list l (ts.map Value.ref).toArray (fun j => (ts[j]?).getD 0) (ph.map fun z => ((.ref z.2.1 : Value), z.2.2))) (I.ok.hd hc) (show X.A.in1.in1.units < cLine from ?_) ⟨⟨ol, n, ho, hcl, hd, hdat⟩, by simp [hl], fun j k v hj => ?_⟩ ⟨by rw [List.length_map], fun i key v hi => ?_⟩
          (fun h' hk' z hz' => tupleKind_stays.stays (fun b ob _ _ eb _ => hk' b ob (Nat.ne_of_lt (Heap.lt_size eb)) (fun z => nomatch z) eb) (hkeys z hz')) (by rw [List.length_map, hl]; exact hz) fun h' tk hd' k => ?_
        · show X.A.units + 1 + 1 < cLine
          omega
        · rw [List.getElem?_map] at hj
          obtain ⟨z, hz1, hz2⟩ := Option.map_eq_some_iff.mp hj
          obtain ⟨t, e1, e2⟩ := hp j z hz1
          cases hz2
          refine ⟨by simp [e1], ?_⟩
          show PairAt s.heap ((ts[j]?).getD 0) _ _
          rw [e1]
          exact e2
        · have hi' : (ph.map fun z => ((.ref z.2.1 : Value), z.2.2))[i]? = some (key, v) := hi
          rw [List.getElem?_map] at hi'
          obtain ⟨z, hz1, hz2⟩ := Option.map_eq_some_iff.mp hi'
          cases hz2
          exact ⟨z.1, z.2.1, hz1, rfl⟩
        · have hm' : (s.heap.objs.size == sysModules) = false := beq_eq_false_iff_ne.mpr (Nat.ne_of_gt I.big)
          have hn : H s.heap.objs.size = none := I.hok.fresh (Nat.le_refl _)
          have g : Grow F H (fun a => F a ∨ a = s.heap.objs.size) (upd H s.heap.objs.size (.dT (mergeT [] more))) := Grow.share hn
          have l1 := Paired.length kt
          obtain ⟨qo, es', ep, hq, h2', h3, h4, _, h5⟩ := hd'
          refine ⟨.ref s.heap.objs.size, upd H s.heap.objs.size (.dT (mergeT [] more)), I.laid (t' := tk) (fun b ob eb => k b ob (fun z => nomatch z) eb) (Nat.le_refl _) (show ObjOk X.prog X.w _ _ _ (.dT (mergeT [] more)) from ⟨?_, hm', _, (KT.merge kt .nil).keeps (fun c ys ec => by rw [upd_ne (ne_of_none ec hn)]; exact ec), qo, es', ep, hq, h2', h3, h4, h5⟩), rfl, q _ _ _ g (.dt (.inr rfl) upd_same ((RepT.merge rT .nil hm).keeps g.keeps))⟩
          have := mergeT_len more []
          simp only [List.length_nil] at this
          omega
  · cases e
/-! ### dict comprehensions -/
theorem dictSet_put {pins : List (Addr × Obj)} {σ : L2.St} {H H' : Hp} {s : Shared} {E : Value → Shared → Prop} {D : Addr} {y v : V} {u r : Value} {Q : Unit → Shared → Prop} (hu : X.A.units < cLine) (I : L2.Inv X pins σ H s) (g : DPut H D y v H')
    (ry : RelV y u) (rv : RelV v r) (h : ∀ s', L2.Inv X pins σ H' s' → Q () s') : wpAny (model X.prog X.w) X.A (dictSet D u r) Q E s := by
  rcases g with ⟨kvs, k, e, ey, l, eH⟩ | ⟨kvs, k, b, e, ey, eb, l, eH⟩
  · subst ey eH
    exact d_dictSet I e l ry rv h
  · subst ey eH
    cases (show u = Value.ref b from ry)
    obtain ⟨z, hd, xs, rel, dd⟩ := dt_of I.hok e
    have hz : xs.length ≤ sizeLine := by rw [← Paired.length rel]; exact z
    have hl : (putK kvs k v).length ≤ sizeLine := by have := length_putK kvs k v; omega
    refine wpAny_dictSet_heap (hsz := hz) (knd := tupleKind (mixKind X.prog X.w)) (show X.A.units < cLine from hu) (key_of I.hok eb) dd fun h' dd' hs => h _ ?_
    obtain ⟨q, es, ep, hq, h2, h3, h4, _, h5⟩ := dd'
    refine d_write I (by rw [e]; exact True.intro) hs ⟨q, hq⟩ ⟨hl, hd, _, (rel.put k eb rv).keeps fun c ys ec => ?_, q, es, ep, hq, h2, h3, h4, h5⟩
    rw [upd_ne (ne_of ec e (fun z => nomatch z))]
    exact ec
/-- what a dict comprehension asks: o0 the new dict -/
def tDcA (o0 : HO) (wi : TI) (g : TG) (tt : TT) (tk tv : TE) (vs : List Nat) : TE := fun σ H Q => wi σ H fun J H1 => ∀ D, H1 D = none → ∃ Wd : Nat → Nat → Hp → Prop, (∃ m, Wd 0 m (upd H1 D o0)) ∧ ∀ i m H, Wd i m H →
  (J.stop i H ∧ Q (.ref D) H) ∨ (J.go i H ∧ ∃ Nx : Hp → Prop, (∀ H', Nx H' → ∃ m', m' < m ∧ Wd (i + 1) m' H') ∧ ∀ x H', J.yld i H x H' → g x (L2.wipe σ vs) H' fun σ2 H2 => L2.wipe σ2 vs = L2.wipe σ vs ∧ tt σ2 H2 fun b H3 =>
    if b = true then tk σ2 H3 fun y H4 => tv σ2 H4 fun z H5 => ∃ H6, DPut H5 D y z H6 ∧ Nx H6 else Nx H3)
theorem dcA_core {o0 : HO} {pins : List (Addr × Obj)} {s : Shared} {σ : L2.St} {H : Hp} {Q : VK} {kx vx tg iter : Expr} {ifs : List Expr} {scope : Scope} {own : List (Str × Nat)} {pos' : Pos} {wi : TI} {g : TG} {tt : TT} {tk tv : TE} {use : Option (Value → Sem Unit)} {Qf : Value → Shared → Prop} (h0 : o0 = .dK [] ∨ o0 = .dT []) (hu : X.A.units < cLine) (hc : X.calm = true) (hN : X.N.Nodup) (I : L2.Inv X pins σ H s) (hi : PI X tg iter wi) (ok : BlkOk X.N X.env.scope scope own)
    (hg : Blk X scope fun X => PG X tg g) (ht : Blk X scope fun X => PTs X ifs tt) (hk : Blk X scope fun X => PE X kx tk) (he : Blk X scope fun X => PE X vx tv) (hs : ∀ x, foldedSetIterable iter X.env x = pure x)
    (h : tDcA o0 wi g tt tk tv (own.map (·.2)) σ H Q)
    (hRR : ∀ D C s' m H', L2.Inv X pins σ H' s' → Q (.ref D) H' → s'.heap.Ns C m → FpOk X pins H' C → compPost (model X.prog X.w) X.A X.xe use Qf (.ref D) C (.ok .next) s') :
    wpAny (model X.prog X.w) X.A (comprehension (.DictComp kx vx [⟨tg, iter, ifs, 0⟩] scope pos) scope X.env pos' newDict false (eval iter X.env) use) Qf X.xe s := by
  -- the block is entered: its iterator, its dict at D, its frame
  refine wpAny_comprehension_free rfl hs (closure_ok fun y hy e => (ok.free y hy e).elim (fun k => I.ok.has _ (.inl k)) fun k => I.ok.has _ (.inr k)) ok.kind (fun y hy e => by rw [ok.uniq y hy, e])
    (thn (hi.run pins s σ H _ I h) fun xv s1 hx => thn hx fun itv s2 h2 => ?_)
  obtain ⟨it, fp, tn, J, H2, e, I2, Tn, st2, f2, q⟩ := h2
  subst e
  refine wpAny_newObj_type (newEnv_comp ?_)
  generalize hD : s2.heap.objs.size = D
  have hDn : H2 D = none := I2.hok.fresh (Nat.le_of_eq hD)
  obtain ⟨Wd, ⟨m0, w0⟩, turn⟩ := q D hDn
  generalize hs3 : ({ s2 with heap := s2.heap.push { cls := .type "dict", data := .dict #[] } } : Shared) = s3
  have h3 : s3.heap = s2.heap.push { cls := .type "dict", data := .dict #[] } := by rw [← hs3]
  have I3 : L2.Inv X pins σ (upd H2 D o0) s3 := by
    rw [← hs3]
    refine I2.laid (t' := s2.toks) (fun b o e => Heap.get?_push_of_some _ e) (Nat.le_of_eq hD) ?_
    rw [← hD]
    rcases h0 with z | z <;> subst z
    · exact dk_empty s2.heap I2.big
    · exact dt_empty s2.heap I2.big
  have f3 : ∀ b ∈ fp, FpOk X pins (upd H2 D o0) b ∧ b < s3.heap.objs.size := fun b hb => by
    obtain ⟨o, e, _⟩ := Tn.obj _ _ st2 b hb
    have hlt := Heap.lt_size e
    refine ⟨⟨?_, (f2 b hb).2⟩, by rw [h3, Heap.size_push]; exact Nat.lt_succ_of_lt hlt⟩
    rw [upd_ne (by rw [← hD]; exact Nat.ne_of_lt hlt)]
    exact (f2 b hb).1
  have I4 := block_start I3 ok hN f3
  have pg := hg s3 (upd H2 D o0) s3.heap.objs.size (cellsFrom (s3.heap.objs.size + 1) scope.names (cloFrom X.env.cells scope.names [])) fp
  have pt := ht s3 (upd H2 D o0) s3.heap.objs.size (cellsFrom (s3.heap.objs.size + 1) scope.names (cloFrom X.env.cells scope.names [])) fp
  have pk := hk s3 (upd H2 D o0) s3.heap.objs.size (cellsFrom (s3.heap.objs.size + 1) scope.names (cloFrom X.env.cells scope.names [])) fp
  have pv := he s3 (upd H2 D o0) s3.heap.objs.size (cellsFrom (s3.heap.objs.size + 1) scope.names (cloFrom X.env.cells scope.names [])) fp
  show codeAny _ _ (.compStart (.DictComp kx vx [⟨tg, iter, ifs, 0⟩] scope pos) 0 (.ref it) (.ref D) (compEnvC scope (cellsFrom (s3.heap.objs.size + 1) scope.names (cloFrom X.env.cells scope.names [])) s3.heap.objs.size X.env)) _ { s3 with heap := pushCells (s3.heap.push { cls := .type "dict", data := .dict #[] }) scope.names }
  have nfp : ∀ b ∈ fp, (upd H2 D o0) b = none := fun b hb => (f3 b hb).1.1
  generalize hce : compEnvC scope (cellsFrom (s3.heap.objs.size + 1) scope.names (cloFrom X.env.cells scope.names [])) s3.heap.objs.size X.env = ce at I4 pg pt pk pv ⊢
  have cL : ce.locals = s3.heap.objs.size := by subst hce; rfl
  generalize hH3 : upd H2 D o0 = H3 at I3 I4 pg pt pk pv w0 nfp f3
  generalize hs4 : ({ s3 with heap := pushCells (s3.heap.push { cls := .type "dict", data := .dict #[] }) scope.names } : Shared) = s4 at I4 ⊢
  have st4 : tn 0 s4.heap := Tn.keep _ _ _ st2 fun b _ o e => by rw [← hs4]; exact pushCells_keeps _ _ _ _ (Heap.get?_push_of_some _ (by rw [h3]; exact Heap.get?_push_of_some _ e))
  have stat : ∀ {σ' : L2.St} {H' : Hp} {s' : Shared}, L2.Inv (X.blk s3 H3 scope ce fp) [] σ' H' s' → (∀ b ∈ fp, H' b = none) → ∀ b ∈ fp, FpOk (X.blk s3 H3 scope ce fp) [] H' b := fun {σ' H' s'} I' hn b hb =>
    ⟨hn b hb, (I'.ok.exf b hb).1, I'.ok.exfs b hb, .inl hb, fun x c e => (I'.ok.exf b hb).2 x c e, fun p hp => absurd (show p ∈ ([] : List (Addr × Obj)) ++ [] from hp) (by simp)⟩
  refine codeAny_compStart_dict ?lp (Tn.self X.A 0 _ _ _ st4 ?lp)
  refine compLoop_anyD (fun n s' => ∃ i H', L2.Inv (X.blk s3 H3 scope ce fp) [] (L2.wipe σ (own.map (·.2))) H' s' ∧ tn i s'.heap ∧ (∀ b ∈ fp, H' b = none) ∧ Wd i n H') ?_ m0 ⟨0, H3, I4, st4, nfp, w0⟩
  rintro n s5 ⟨i, H5, I5, st5, n5, w5⟩
  rcases turn i n H5 w5 with ⟨stop, qq⟩ | ⟨go, Nx, hNx, step⟩
  · -- the end: back to the def's context
    refine thnF (Tn.done (X.blk s3 H3 scope ce fp) rfl rfl rfl hc i [] s5 _ H5 (fun _ _ => False) I5 (stat I5 n5) st5 stop) fun r s6 ⟨hr, I6⟩ => ?_
    subst hr
    have I7 : L2.Inv X pins σ H5 s6 := I3.call' (ch := fp) I6.os I6.base I6.hok I6.bare fun b hb => ⟨(f3 b hb).1.2.2.2.1, (f3 b hb).1.2.1, (f3 b hb).1.2.2.2.2.1, (f3 b hb).1.2.2.2.2.2⟩
    have nC : H5 s3.heap.objs.size = none := by
      have z : H5 ce.locals = none := I6.free
      rw [cL] at z
      exact z
    obtain ⟨m, hn, _⟩ := I6.loc
    have hn : s6.heap.Ns ce.locals m := hn
    rw [cL] at hn
    exact hRR D s3.heap.objs.size s6 m H5 I7 qq hn (I3.fpOk (Nat.le_refl _) nC)
  · refine thnF (Tn.item (X.blk s3 H3 scope ce fp) rfl rfl rfl hc i [] s5 _ H5 (fun _ _ => False) I5 (stat I5 n5) st5 go) fun r s6 ⟨u, hr, h6⟩ => ?_
    subst hr
    refine thnF h6 fun _ s7 ⟨x, H7, I7, r7, y7, st7, n7⟩ => ?_
    refine thnF (pg.run _ s7 _ H7 x u _ (I7.pinned (stat I7 n7) (Tn.obj _ _ st7)) r7 (step x H7 y7)) fun _ s8 ⟨σ8, H8, I8, hw8, q8⟩ => ?_
    refine thnF (pt.run _ s8 σ8 H8 _ I8 q8) fun b s9 ⟨H9, I9, q9⟩ => ?_
    have again : ∀ {s' : Shared} {H' : Hp}, L2.Inv (X.blk s3 H3 scope ce fp) ([] ++ pinsAt fp s7.heap) σ8 H' s' → Nx H' → ∃ m, m < n ∧ ∃ i H', L2.Inv (X.blk s3 H3 scope ce fp) [] (L2.wipe σ (own.map (·.2))) H' s' ∧ tn i s'.heap ∧ (∀ b ∈ fp, H' b = none) ∧ Wd i m H' := fun {s' H'} I' nx => by
      obtain ⟨m', hm, w'⟩ := hNx H' nx
      have pin' : ∀ b ∈ fp, ∀ o, s7.heap.get? b = some o → s'.heap.get? b = some o ∧ H' b = none := fun b hb o e =>
        let z := I'.pin (b, o) (List.mem_append_right _ (List.mem_append_right _ (mem_pinsAt hb e)))
        ⟨z.1, z.2.1⟩
      have hl : (L2.wipe σ (own.map (·.2))).length = σ8.length := by rw [← hw8, wipe_length]
      refine ⟨m', hm, i + 1, H', (I'.unpinned (pins := [])).weak hl (fun j v e => ?_), Tn.keep _ _ _ st7 fun b hb o e => (pin' b hb o e).1, fun b hb => ?_, w'⟩
      · rw [← hw8] at e
        exact (wipe_some e).1
      · obtain ⟨o, e, _⟩ := Tn.obj _ _ st7 b hb
        exact (pin' b hb o e).2
    cases b with
    | false =>
      simp only [Bool.false_eq_true, if_false] at q9 ⊢
      exact again I9 q9
    | true =>
      simp only [if_true] at q9 ⊢
      refine thnF (pk.run _ s9 σ8 H9 _ I9 q9) fun z s10 ⟨yk, H10, I10, r10, q10⟩ => ?_
      refine thnF (pv.run _ s10 σ8 H10 _ I10 q10) fun z2 s11 ⟨yv, H11, I11, r11, H12, hp, nx⟩ => ?_
      exact dictSet_put (X := X.blk s3 H3 scope ce fp) hu I11 hp r10 r11 fun s12 I12 => again I12 nx
theorem pe_dcA {o0 : HO} {kx vx tg iter : Expr} {ifs : List Expr} {scope : Scope} {own : List (Str × Nat)} {wi : TI} {g : TG} {tt : TT} {tk tv : TE} (h0 : o0 = .dK [] ∨ o0 = .dT []) (hu : X.A.units < cLine) (hc : X.calm = true) (hN : X.N.Nodup) (hi : PI X tg iter wi) (ok : BlkOk X.N X.env.scope scope own)
    (hg : Blk X scope fun X => PG X tg g) (ht : Blk X scope fun X => PTs X ifs tt) (hk : Blk X scope fun X => PE X kx tk) (he : Blk X scope fun X => PE X vx tv) (hs : ∀ x, foldedSetIterable iter X.env x = pure x := by intro _; rfl) :
    PE X (.DictComp kx vx [⟨tg, iter, ifs, 0⟩] scope pos) (tDcA o0 wi g tt tk tv (own.map (·.2))) := by
  refine ⟨fun pins s σ H Q I h => ?_⟩
  rw [arm_eval_DictComp]
  refine dcA_core h0 hu hc hN I hi ok hg ht hk he hs h fun D C s' m H' I' q hn fp => ⟨m, hn, fun h'' sb => ?_⟩
  obtain ⟨g0, g1, g2, g3, g4, g5⟩ := fp
  exact ⟨.ref D, H', I'.turned (t' := s'.toks) (fun b o hb e => (sb.2 b hb).trans e) g0 g1 g3 g4 g5, rfl, q⟩
/-- name = {..} on one line, the name a local -/
theorem ps_setDcA {o0 : HO} {i : Nat} {y : Str} {py spos : Pos} {kx vx tg iter : Expr} {ifs : List Expr} {scope : Scope} {own : List (Str × Nat)} {wi : TI} {g : TG} {tt : TT} {tk tv : TE} (h0 : o0 = .dK [] ∨ o0 = .dT []) (hu : X.A.units < cLine) (hc : X.calm = true) (hN : X.N.Nodup) (hy : X.N[i]? = some y) (hyl : X.env.scope.names.lookup y = some .local)
    (hsw : swapsWith (.DictComp kx vx [⟨tg, iter, ifs, 0⟩] scope pos) (some (.Name y py)) spos.line X.env = pure true) (hi : PI X tg iter wi) (ok : BlkOk X.N X.env.scope scope own)
    (hg : Blk X scope fun X => PG X tg g) (ht : Blk X scope fun X => PTs X ifs tt) (hk : Blk X scope fun X => PE X kx tk) (he : Blk X scope fun X => PE X vx tv) (hs : ∀ x, foldedSetIterable iter X.env x = pure x := by intro _; rfl) :
    PS X (.Assign [.Name y py] (.DictComp kx vx [⟨tg, iter, ifs, 0⟩] scope pos) spos) (tAsg (tDcA o0 wi g tt tk tv (own.map (·.2))) (gName i)) := by
  refine ⟨fun pins s σ H De I h => ?_⟩
  rw [exec_Assign_Name_used _ _ _ _ hsw]
  refine wpAny_bind (wpAny_standAt (wpAny_bind ?_))
  show wpAny _ X.A (do let _ ← comprehension (.DictComp kx vx [⟨tg, iter, ifs, 0⟩] scope pos) scope X.env (firstIterPos [⟨tg, iter, ifs, 0⟩] pos) newDict false (eval iter X.env) (some (assign (.Name y py) X.env))) _ _ s
  have h : tDcA o0 wi g tt tk tv (own.map (·.2)) σ H (fun x H1 => gName i x σ H1 De.nx) := h
  refine wpAny_bind (thn (dcA_core (Qf := fun _ s' => SP X pins De .next s') h0 hu hc hN I hi ok hg ht hk he hs h fun L C s' m H' I' q hn fp => ?_) fun _ s' hq => wpAny_pure (wpAny_pure hq))
  show wpAny _ _ (assign (.Name y py) X.env (.ref L)) _ _ _
  refine wpAny_assign_Name (store_ok2 (v := V.ref L) I' hN hy (.inl hyl) rfl (fun s2 I2 ⟨a, sb, ha⟩ => ?_) (.inr hyl))
  obtain ⟨g0, g1, g2, g3, g4, g5⟩ := fp
  have haC : C ≠ a := by
    rcases ha with z | z
    · rw [z]; exact g1
    · exact fun e => g4 y a z e.symm
  exact ⟨m, hn.sameBut sb haC, fun h3 sb3 => ⟨_, H', I2.turned (t' := s2.toks) (fun b o hb e => (sb3.2 b hb).trans e) g0 g1 g3 g4 g5, q⟩⟩
end
end DL
set_option Elab.async false
set_option linter.all false
set_option maxRecDepth 100000
set_option autoImplicit false
set_option maxHeartbeats 1000000
/-! The data layer, part 13: dict comprehensions on data. -/
namespace DL
open PySem PySem.Spec PyProof.Rows L2
section
variable {P : Program} {w : World} {K : PySem.W.Frag} {F M F' M' : Addr → Prop} {H H' : Hp} {env env' : Env} {σ σ' : L2.St}
theorem Rel.outG {D : Addr} {o : HO} (R : Rel P w K F M H env σ) (hD : H D = some o) (mu : MutO o) (nF : ¬ F D) (nM : ¬ M D) (hx : ∀ b, b ≠ D → H' b = H b) : Rel P w K F M H' env σ := by
  have kp : Keeps F H F H' := ⟨fun _ z => z, fun a u f e => (hx a fun z => nF (z ▸ f)).trans e, fun a xs e => (hx a fun z => by rw [z, hD] at e; cases e; exact mu).trans e, fun a u v e => (hx a fun z => by rw [z, hD] at e; cases e; exact mu).trans e⟩
  exact ⟨⟨R.sep.apart, fun a m => by rw [hx a fun z => nM (z ▸ m)]; exact R.sep.kind a m, fun a f => by rw [hx a fun z => nF (z ▸ f)]; exact R.sep.ftr a f⟩, R.len,
    fun i d h => let ⟨v, h1, h2⟩ := R.val i d h; ⟨v, h1, h2.keeps kp⟩, fun i d h => let ⟨a, h1, h2, h3⟩ := R.mt i d h; ⟨a, h1, h2, h3.keeps kp fun o e => (hx a fun z => nM (z ▸ h2)).trans e⟩, R.inj⟩
theorem Ext.outG {D : Addr} {F0 M0 : Addr → Prop} {H0 : Hp} (x : Ext F0 M0 H0 F M H) (hD : H0 D = none) (hx : ∀ b, b ≠ D → H' b = H b) : Ext F0 M0 H0 F M H' where
  sub := x.sub
  new := x.new
  own := x.own
  keep := fun a u e n => (hx a (ne_of_none e hD)).trans (x.keep a u e n)
  there := fun a u e => by rw [hx a (ne_of_none e hD)]; exact x.there a u e
end
def dcGo (t : Bool) (vs : List Nat) (g : MG) (tt : MB) (fk fv : MD) : List D → List (D × D) → Env → T (List (D × D) × Env)
  | [], acc, e => .ret (acc, e)
  | d :: r, acc, e => (g d e).bind fun e1 => (tt e1).bind fun (b, e2) =>
    if b = true then (fk e2).bind fun (k, e3) => (fv e3).bind fun (v, e4) => if acc.length < sizeLine then (T.of (dPut t acc k v)).bind fun acc' => dcGo t vs g tt fk fv r acc' (wipeE e4 vs) else .stuck
    else dcGo t vs g tt fk fv r acc (wipeE e2 vs)
/-- {fk: fv for g in fl if tt} -/
def mDc (t : Bool) (vs : List Nat) (fl : ML) (g : MG) (tt : MB) (fk fv : MD) : MD := fun env => (fl env).bind fun (ds, e) =>
  if ownOk e vs = true then (dcGo t vs g tt fk fv ds [] (wipeE e vs)).nox.bind fun (out, e2) => .ret (.dct t out, backE e e2 vs) else .stuck
def newDO : Bool → HO
  | false => .dK []
  | true => .dT []
theorem newDO_or : ∀ t, newDO t = .dK [] ∨ newDO t = .dT []
  | false => .inl rfl
  | true => .inr rfl
theorem own_new {P : Program} {w : World} {K : PySem.W.Frag} {F : Addr → Prop} {H : Hp} {a : Addr} : ∀ {t : Bool}, H a = some (newDO t) → Own P w K F H (.dct t []) a
  | false, h => .dk h .nil
  | true, h => .dt h .nil
theorem own_mut {P : Program} {w : World} {K : PySem.W.Frag} {F : Addr → Prop} {H : Hp} {d : D} {a : Addr} (o : Own P w K F H d a) : ∃ u, H a = some u ∧ MutO u := by
  cases o with
  | lst h _ => exact ⟨_, h, trivial⟩
  | dk h _ => exact ⟨_, h, trivial⟩
  | dt h _ => exact ⟨_, h, trivial⟩
section
variable {X : Cx} {W : WX} {e tg iter kx vx c : Expr} {es tgs ifs : List Expr} {fk fv : MD} {g : MG} {tt : MB} {fl : ML} {vs : List Nat} {pos : Pos} {t : Bool}
theorem dc_reads {P : Program} {w : World} {K : PySem.W.Frag} {mg : Str → Option Value} {W : WX} {σ : L2.St} {H : Hp} {Q : VK} (hK : NoT K) (h : tDF P w K mg W (mDc t vs fl g tt fk fv) σ H Q) :
    tDcA (newDO t) (tDI P w K mg W fl) (tDV P w K vs g) (tDB P w K mg W0 tt) (tD P w K mg W0 fk) (tD P w K mg W0 fv) vs σ H Q := by
  obtain ⟨F, M, env, Qd, QE, R, q, hx, k⟩ := h
  refine ⟨F, M, env, _, QE, R, wpT_bind.mp q, hx, fun J H1 F1 M1 ds env1 x1 R1 q1 it => ?_⟩
  intro D hD
  dsimp only at q1
  split at q1
  case isFalse => exact q1.elim
  rename_i hok
  have hDH : H D = none := by
    cases z : H D with
    | none => rfl
    | some o => obtain ⟨o', e'⟩ := x1.there D o z; rw [hD] at e'; cases e'
  have nF1 : ¬ F1 D := fun f => by obtain ⟨o, e'⟩ := R1.sep.ftr D f; rw [hD] at e'; cases e'
  have nM1 : ¬ M1 D := fun m => by obtain ⟨o, e', _⟩ := R1.sep.kind D m; rw [hD] at e'; cases e'
  have q2 := wpT_nox (E' := fun _ _ => False) (wpT_mono (E' := QE) (fun _ z => z) (fun _ _ z => z) (wpT_bind.mp q1))
  refine ⟨fun i m H2 => m = ds.length - i ∧ i ≤ ds.length ∧ ∃ F2 M2 env2 acc, Ext F1 M1 H1 F2 M2 H2 ∧ Rel P w K F2 M2 H2 env2 (wipe σ vs) ∧ Own P w K F2 H2 (.dct t acc) D ∧ ¬ F2 D ∧ ¬ M2 D ∧
      wpT (dcGo t vs g tt fk fv (ds.drop i) acc env2) (fun (out, e2) => Qd (.dct t out, backE env1 e2 vs)) (fun _ _ => False), ⟨ds.length, rfl, Nat.zero_le _, F1, M1, wipeE env1 vs, [], Ext.refl.out hD, ?_, own_new upd_same, nF1, nM1, ?_⟩, ?_⟩
  · exact (R1.wipe vs).grow (Grow.laid hD)
  · exact q2
  rintro i m H2 ⟨rfl, hi, F2, M2, env2, acc, x2, R2, ow2, nF2, nM2, q2⟩
  obtain ⟨it1, it2⟩ := it F2 M2 H2 x2 i
  by_cases hlt : i < ds.length
  · obtain ⟨go, yl⟩ := it1 ds[i] (List.getElem?_eq_getElem hlt)
    refine .inr ⟨go, fun H2 => ∃ F2 M2 env2 acc, Ext F1 M1 H1 F2 M2 H2 ∧ Rel P w K F2 M2 H2 env2 (wipe σ vs) ∧ Own P w K F2 H2 (.dct t acc) D ∧ ¬ F2 D ∧ ¬ M2 D ∧
      wpT (dcGo t vs g tt fk fv (ds.drop (i + 1)) acc env2) (fun (out, e2) => Qd (.dct t out, backE env1 e2 vs)) (fun _ _ => False), fun H' h' => ⟨ds.length - (i + 1), by omega, rfl, hlt, h'⟩, fun x H3 hy => ?_⟩
    obtain ⟨F3, gr, r3⟩ := yl x H3 hy
    rw [List.drop_eq_getElem_cons hlt] at q2
    have x3 := x2.trans (gr.ext (M := M2))
    -- the dict is no one's through each step
    have step : ∀ {Fa Ma Fb Mb : Addr → Prop} {Ha Hb : Hp} {acc : List (DL.D × DL.D)}, Sep Fa Ma Ha → Ext Fa Ma Ha Fb Mb Hb → Own P w K Fa Ha (.dct t acc) D → ¬ Fa D → ¬ Ma D → Own P w K Fb Hb (.dct t acc) D ∧ ¬ Fb D ∧ ¬ Mb D := fun s x o nF nM => by
      obtain ⟨u, hu, _⟩ := own_mut o
      obtain ⟨a1, a2, a3⟩ := x.outside hu nF nM
      exact ⟨o.keeps (x.keeps s) fun v hv => by rw [hu] at hv; cases hv; exact a1, a2, a3⟩
    obtain ⟨ow3, nF3, nM3⟩ := step R2.sep (gr.ext (M := M2)) ow2 nF2 nM2
    have R3 := R2.grow gr
    refine ⟨F3, M2, env2, _, _, fun _ _ => False, R3, r3, wpT_bind.mp q2, fun σ4 env4 w4 R4 q4 => ?_⟩
    have w4' := wipe_wipe w4
    refine ⟨w4', F3, M2, env4, _, fun _ _ => False, R4, wpT_bind.mp q4, exOk0, fun b H5 F5 M5 env5 x5 R5 q5 => ?_⟩
    obtain ⟨ow5, nF5, nM5⟩ := step R4.sep x5 ow3 nF3 nM3
    cases b with
    | true =>
      refine ⟨F5, M5, env5, _, fun _ _ => False, R5, wpT_bind.mp q5, exOk0, fun y H6 F6 M6 d6 env6 x6 R6 r6 q6 => ?_⟩
      obtain ⟨ow6, nF6, nM6⟩ := step R5.sep x6 ow5 nF5 nM5
      refine ⟨F6, M6, env6, _, fun _ _ => False, R6, wpT_bind.mp q6, exOk0, fun z H7 F7 M7 d7 env7 x7 R7 r7 q7 => ?_⟩
      obtain ⟨ow7, nF7, nM7⟩ := step R6.sep x7 ow6 nF6 nM6
      dsimp only at q7
      split at q7
      · rename_i hsz
        obtain ⟨acc', ea, q8⟩ := wpT_of (wpT_bind.mp q7)
        obtain ⟨H8, hp, hx8, ow8⟩ := ow7.dict.put hK ea (r6.keeps (x7.keeps R6.sep)) r7 hsz nF7
        obtain ⟨u7, hu7, mu7⟩ := own_mut ow7
        refine ⟨H8, hp, F7, M7, _, acc', (x3.trans (x5.trans (x6.trans x7))).outG hD hx8, ?_, ow8, nF7, nM7, q8⟩
        rw [← w4']
        exact (R7.wipe vs).outG hu7 mu7 nF7 nM7 hx8
      · exact q7.elim
    | false =>
      refine ⟨F5, M5, _, _, x3.trans x5, ?_, ow5, nF5, nM5, q5⟩
      rw [← w4']
      exact R5.wipe vs
  · have e : i = ds.length := by omega
    subst e
    rw [List.drop_length] at q2
    exact .inl ⟨it2 (Nat.le_refl _), k D H2 F2 M2 _ _ (x1.trans x2) (R1.back hok (x2.keeps R1.sep) R2) hDH nF2 nM2 ow2 q2⟩
theorem df_dc {scope : Scope} {own : List (Str × Nat)} (hu : X.A.units < cLine) (hK : NoT X.K) (hc : X.calm = true) (hN : X.N.Nodup) (hi : DI X W tg iter fl) (ok : BlkOk X.N X.env.scope scope own) (hg : Blk X scope fun X => DV X (own.map (·.2)) tg g) (ht : Blk X scope fun X => DTs X W0 ifs tt) (hk : Blk X scope fun X => DE X W0 kx fk) (he : Blk X scope fun X => DE X W0 vx fv)
    (hs : ∀ x, foldedSetIterable iter X.env x = pure x := by intro _; rfl) : DF X W (.DictComp kx vx [⟨tg, iter, ifs, 0⟩] scope pos) (mDc t (own.map (·.2)) fl g tt fk fv) :=
  peW (pe_dcA (wi := tDI X.prog X.w X.K X.mg W fl) (g := tDV X.prog X.w X.K (own.map fun (p : Str × Nat) => p.2) g) (tt := tDB X.prog X.w X.K X.mg W0 tt) (tk := tD X.prog X.w X.K X.mg W0 fk) (tv := tD X.prog X.w X.K X.mg W0 fv) (newDO_or t) hu hc hN hi ok hg ht hk he hs) fun σ H Q h => dc_reads hK h
theorem ds_setDc {i : Nat} {y : Str} {py spos : Pos} {scope : Scope} {own : List (Str × Nat)} (hu : X.A.units < cLine) (hK : NoT X.K) (hc : X.calm = true) (hN : X.N.Nodup) (hy : X.N[i]? = some y) (hyl : X.env.scope.names.lookup y = some .local)
    (hsw : swapsWith (.DictComp kx vx [⟨tg, iter, ifs, 0⟩] scope pos) (some (.Name y py)) spos.line X.env = pure true)
    (hi : DI X W tg iter fl) (ok : BlkOk X.N X.env.scope scope own) (hg : Blk X scope fun X => DV X (own.map (·.2)) tg g) (ht : Blk X scope fun X => DTs X W0 ifs tt) (hk : Blk X scope fun X => DE X W0 kx fk) (he : Blk X scope fun X => DE X W0 vx fv)
    (hs : ∀ x, foldedSetIterable iter X.env x = pure x := by intro _; rfl) : DS X W (.Assign [.Name y py] (.DictComp kx vx [⟨tg, iter, ifs, 0⟩] scope pos) spos) (sSetM i (mDc t (own.map (·.2)) fl g tt fk fv)) :=
  psW (ps_setDcA (wi := tDI X.prog X.w X.K X.mg W fl) (g := tDV X.prog X.w X.K (own.map fun (p : Str × Nat) => p.2) g) (tt := tDB X.prog X.w X.K X.mg W0 tt) (tk := tD X.prog X.w X.K X.mg W0 fk) (tv := tD X.prog X.w X.K X.mg W0 fv) (newDO_or t) hu hc hN hy hyl hsw hi ok hg ht hk he hs) fun De σ H ⟨F, M, env, Q, QE, R, q, hx, k1, k2, k3, k4⟩ => dc_reads (Q := fun x H1 => gName i x σ H1 De.nx) hK (by
    refine ⟨F, M, env, _, QE, R, wpT_bind.mp q, hx, fun a H1 F1 M1 d env1 x1 R1 na nF nM o1 q1 => ?_⟩
    exact k1 _ H1 F1 (fun x => M1 x ∨ x = a) _ ⟨x1.sub, x1.new, fun y hy => hy.elim (x1.own y) fun e => .inr (e ▸ na), x1.keep, x1.there⟩ (R1.setM i nF nM o1) q1)
end
end DL
set_option Elab.async false
set_option linter.all false
set_option maxRecDepth 100000
set_option autoImplicit false
set_option maxHeartbeats 1000000
/-! The data layer, part 14: defs, calls, errors. -/
namespace DL
open PySem PySem.Spec PyProof.Rows L2
def T.inEnv {α : Type} (e : Env) : T α → T α
  | .ret a => .ret a
  | .exc c _ => .exc c e
  | .stuck => .stuck
  | .draw n k => .draw n fun r => (k r).inEnv e
theorem wpT_inEnv {α : Type} {Q : α → Prop} {E : Str → Env → Prop} {e : Env} : ∀ {t : T α}, wpT (t.inEnv e) Q E ↔ wpT t Q (fun c _ => E c e)
  | .ret a => Iff.rfl
  | .exc c _ => Iff.rfl
  | .stuck => Iff.rfl
  | .draw n k => ⟨fun h r hr => wpT_inEnv.mp (h r hr), fun h r hr => wpT_inEnv.mpr (h r hr)⟩
def T.catch {α : Type} : T α → (Str → Env → T α) → T α
  | .ret a, _ => .ret a
  | .exc c e, h => h c e
  | .stuck, _ => .stuck
  | .draw n k, h => .draw n fun r => (k r).catch h
theorem wpT_catch {α : Type} {Q : α → Prop} {E : Str → Env → Prop} {h : Str → Env → T α} : ∀ {t : T α}, wpT (t.catch h) Q E ↔ wpT t Q (fun c e => wpT (h c e) Q E)
  | .ret a => Iff.rfl
  | .exc c _ => Iff.rfl
  | .stuck => Iff.rfl
  | .draw n k => ⟨fun z r hr => wpT_catch.mp (z r hr), fun z r hr => wpT_catch.mpr (z r hr)⟩
/-- a def on data -/
abbrev MF := List D → T D
def mFn (N n : Nat) (m : MS) : MF := fun ds => if ds.length = n then (m (ds.map Sl.val ++ List.replicate (N - n) .un)).bind fun (f, _) => match f with
  | .rt d => .ret d
  | .nx => .ret .non
  | _ => .stuck
  else .stuck
/-- what a def on data promises -/
def spD (P : Program) (w : World) (K : PySem.W.Frag) (mg : Str → Option Value) (n : Nat) (g : MF) : Sp := fun vs H Q E => vs.length = n ∧ ∃ (F : Addr → Prop) (ds : List D) (Qd : D → Prop) (QE : Str → Env → Prop), (∀ a, F a → ∃ o, H a = some o) ∧ RepL P w K F H ds vs ∧ wpT (g ds) Qd QE ∧
  (∀ (v : V) (H' : Hp) (F' : Addr → Prop) (d : D), Grow F H F' H' → Rep P w K F' H' d v → Qd d → Q v H') ∧
  ∀ (c : Str) (C : Addr) (H' : Hp) (F' : Addr → Prop) (e : Env), Grow F H F' H' → QE c e → mg c = some (.ref C) → E (.ref C) none H'
section
variable {P : Program} {w : World} {K : PySem.W.Frag} {F M F' M' : Addr → Prop} {H H' : Hp} {env env' : Env} {σ σ' : L2.St}
theorem Ext.grow0 (x : Ext F (fun _ => False) H F' M' H') (s : Sep F' M' H') : Grow F H F' H' :=
  ⟨x.sub, fun a f => (x.new a f).imp id fun z => z.resolve_left id, fun a o e => x.keep a o e id, fun a f => .inr (s.ftr a f)⟩
theorem Rel.start {N : List Str} {ds : List D} {vs : List V} (ft : ∀ a, F a → ∃ o, H a = some o) (r : RepL P w K F H ds vs) : Rel P w K F (fun _ => False) H (ds.map Sl.val ++ List.replicate (N.length - ds.length) .un) (L2.start N vs) where
  sep := ⟨fun _ _ z => z, fun _ z => z.elim, ft⟩
  len := by simp [L2.start, r.length]
  val := fun i d h => by
    by_cases hi : i < ds.length
    · rw [List.getElem?_append_left (by simpa using hi), List.getElem?_map] at h
      obtain ⟨d', h1, h2⟩ := Option.map_eq_some_iff.mp h
      cases h2
      obtain ⟨v, h3, h4⟩ := r.get h1
      refine ⟨v, ?_, h4⟩
      unfold L2.start
      rw [List.getElem?_append_left (by rw [List.length_map, ← r.length]; exact hi), List.getElem?_map, h3]
      rfl
    · rw [List.getElem?_append_right (by simpa using hi)] at h
      have := List.mem_replicate.mp (List.mem_of_getElem? h)
      cases this.2
  mt := fun i d h => by
    rcases List.mem_append.mp (List.mem_of_getElem? h) with z | z
    · obtain ⟨_, _, e⟩ := List.mem_map.mp z; cases e
    · cases (List.mem_replicate.mp z).2
  inj := fun i j d d' a h => by
    rcases List.mem_append.mp (List.mem_of_getElem? h) with z | z
    · obtain ⟨_, _, e⟩ := List.mem_map.mp z; cases e
    · cases (List.mem_replicate.mp z).2
end
/-- THE RULE for a def on data -/
theorem fnD_ok {P : Program} {w : World} {K : PySem.W.Frag} {mg : Str → Option Value} {base : Heap} {x qual : Str} {st : Stmt} {f : Addr} {fd : FuncData} {N ps : List Str} {k : Nat} {m : MS} (F : Fun K x qual st f fd) (S : FnScope N ps (defScope st))
    (hb : ∀ (cdv : Value) (A : Around) (outer : List PySem.Env) (s : Shared) (H : Hp) (E : XK), Room k (A.deeper (envOfC qual (defScope st) s.heap.objs.size f cdv)) →
      DSs (cxOf (L2.CX P w) P w K mg base N qual (defScope st) f cdv A outer s H E) (fun cls d _ H' => E cls d H') (defBody st) m) : FnOk P w K mg base (L2.CX P w) (k + 1) f fd ps (spD P w K mg ps.length (mFn N.length ps.length m)) := by
  refine F.okX S (fun vs H Q E h => h.1) fun cdv A outer s H vs Q E hr h => ⟨_, hb cdv A outer s H E hr, ?_⟩
  obtain ⟨hl, Fa, ds, Qd, QE, ft, r, q, k1, k2⟩ := h
  have hdl : ds.length = ps.length := r.length.trans hl
  unfold mFn at q
  rw [if_pos hdl] at q
  have R : Rel P w K Fa (fun _ => False) H (ds.map Sl.val ++ List.replicate (N.length - ps.length) .un) (L2.start N vs) := by
    rw [← hdl]
    exact Rel.start ft r
  refine ⟨Fa, fun _ => False, _, _, QE, R, wpT_bind.mp q, ?_, ?_, ?_, ?_, ?_⟩
  · intro c C env' σ' H' F' M' x R' qe mgc
    exact k2 c C H' F' env' (x.grow0 R'.sep) qe mgc
  · intro σ' H' F' M' env' x R' q'
    exact k1 .non H' F' .non (x.grow0 R'.sep) .non q'
  · intro σ' H' F' M' env' x R' q'
    exact q'.elim
  · intro σ' H' F' M' env' x R' q'
    exact q'.elim
  · intro v σ' H' F' M' d env' x R' r' q'
    exact k1 v H' F' d (x.grow0 R'.sep) r' q'
section
variable {X : Cx} {W : WX} {e a b c : Expr} {es : List Expr} {f fa : MD} {fl : ML} {pos p : Pos} {x : Str}
def mCall (g : MF) (fl : ML) : MD := fun env => (fl env).bind fun (ds, e) => ((g ds).inEnv e).bind fun d => .ret (d, e)
theorem call_reads {P : Program} {w : World} {K : PySem.W.Frag} {mg : Str → Option Value} {n : Nat} {g : MF} {σ : L2.St} {H : Hp} {Q : VK} (h : tD P w K mg W (mCall g fl) σ H Q) : tDL P w K mg W fl σ H fun vs H1 => vs.length = n → spD P w K mg n g vs H1 Q (WE W σ) := by
  obtain ⟨F, M, env, Qd, QE, R, q, hx, k⟩ := h
  refine ⟨F, M, env, _, QE, R, wpT_bind.mp q, hx, fun vs H1 F1 M1 ds env1 x1 R1 p1 q1 hn => ?_⟩
  refine ⟨hn, F1, ds, _, _, R1.sep.ftr, p1, wpT_inEnv.mp (wpT_bind.mp q1), fun v H' F' d g' r' q' => ?_, fun cc C H' F' e g' q' mgc => ?_⟩
  · exact k v H' F' M1 d env1 (x1.trans g'.ext) (R1.grow g') r' q'
  · exact hx cc C env1 σ H' F' M1 (x1.trans g'.ext) (R1.grow g') q' mgc
/-- f(e, ..), f a def on data -/
theorem de_call {k n : Nat} {fn : Addr} {fd : FuncData} {ps : List Str} {g : MF} (Fo : FnOk X.prog X.w X.K X.mg X.base (L2.CX X.prog X.w) k fn fd ps (spD X.prog X.w X.K X.mg n g)) (tk : Takes X W) (hr : Room k X.A) (hm : X.mg x = some (.ref fn)) (hk : PySem.W.keepIn X.K (.ref fn) = true) (hb : Binds X.K fd ps [])
    (ha : DA X W (e :: es) fl) (hn : (e :: es).length = n := by rfl) (hg : Gl X x := by rfl) (hdb : (x == ("__debug__" : Str)) = false := by decide) (he : starEach (e :: es) X.env = (false, eval e X.env) :: starEach es X.env := by rfl) (hpl : (backTo pos (starEach es X.env)).any (·.1) = false := by rfl)
    (hlen : ∀ env Q E, wpT (fl env) Q E → wpT (fl env) (fun r => Q r ∧ r.1.length = n) E) : DE X W (.Call (.Name x p) (e :: es) [] pos) (mCall g fl) :=
  peW (pe_callS (E := WE W) Fo hr hg hm hk hb (fun σ => passAt tk σ) ha hdb he hpl) fun σ H Q h => by
    obtain ⟨F, M, env, Qd, QE, R, q, hx, kk⟩ := call_reads (n := n) h
    refine ⟨F, M, env, _, QE, R, hlen _ _ _ q, hx, fun vs H1 F1 M1 ds env1 x1 R1 p1 q1 => kk vs H1 F1 M1 ds env1 x1 R1 p1 q1.1 (by rw [← p1.length]; exact q1.2)⟩
theorem len_nil : ∀ env Q E, wpT (mNil env) Q E → wpT (mNil env) (fun r => Q r ∧ r.1.length = 0) E := fun _ _ _ h => ⟨h, rfl⟩
theorem len_cons {n : Nat} {fl : ML} (h : ∀ env Q E, wpT (fl env) Q E → wpT (fl env) (fun r => Q r ∧ r.1.length = n) E) : ∀ env Q E, wpT (mCons f fl env) Q E → wpT (mCons f fl env) (fun r => Q r ∧ r.1.length = n + 1) E := fun env Q E q => by
  refine wpT_bind.mpr (wpT_mono (fun d hd => ?_) (fun _ _ z => z) (wpT_bind.mp q))
  refine wpT_bind.mpr (wpT_mono (fun ds hds => ?_) (fun _ _ z => z) (h _ _ _ (wpT_bind.mp hd)))
  exact ⟨hds.1, by rw [← hds.2]; rfl⟩
/-! ### raise -/
def sRaise (c : Str) : MS := fun env => .exc c env
theorem ds_raise {C : Addr} {m : Str} {bmB : List Value} {B newId initId : String} {j : Nat} {p2 pos2 : Pos} (hc : X.calm = true) (tk : Takes X W) (Fx : ExcBaseFacts B newId initId bmB) (q : PySem.W.excIn X.K C bmB newId = true) (gC : X.mg x = some (.ref C)) (kC : PySem.W.keepIn X.K (.ref C) = true) (r : Raises X (.ref C)) (hg : Gl X x := by rfl) (hdb : (x == ("__debug__" : Str)) = false := by decide) :
    DS X W (.Raise (some (.Call (.Name x p) [.Constant (.str m) j p2] [] pos)) none pos2) (sRaise x) :=
  psW (ps_raise hc tk (pmk_own Fx q gC kC r hg hdb)) fun De σ H ⟨F, M, env, Q, QE, R, qq, hx, k1, k2, k3, k4⟩ => hx x C env σ H F M Ext.refl R qq gC
/-- raise X(e, ..) -/
def sRaiseA (c : Str) (fl : ML) : MS := fun env => (fl env).bind fun (ds, e) => if ds.length ≤ sizeLine then .exc c e else .stuck
theorem ds_raiseA {C : Addr} {bmB : List Value} {B newId initId : String} {pos2 : Pos} (hc : X.calm = true) (tk : Takes X W) (Fx : ExcBaseFacts B newId initId bmB) (q : PySem.W.excIn X.K C bmB newId = true) (gC : X.mg x = some (.ref C)) (kC : PySem.W.keepIn X.K (.ref C) = true) (r : Raises X (.ref C)) (ha : DA X W (e :: es) fl) (hg : Gl X x := by rfl) (hdb : (x == ("__debug__" : Str)) = false := by decide)
    (he : starEach (e :: es) X.env = (false, eval e X.env) :: starEach es X.env := by rfl) (hpl : (backTo pos (starEach es X.env)).any (·.1) = false := by rfl) :
    DS X W (.Raise (some (.Call (.Name x p) (e :: es) [] pos)) none pos2) (sRaiseA x fl) :=
  psW (ps_raise hc tk (pmk_ownA Fx q gC kC r hg ha hdb he hpl)) fun De σ H ⟨F, M, env, Q, QE, R, qq, hx, k1, k2, k3, k4⟩ => by
    refine ⟨F, M, env, _, QE, R, wpT_bind.mp qq, hx, fun vs H1 F1 M1 ds env1 x1 R1 p1 q1 => ?_⟩
    dsimp only at q1
    split at q1
    · rename_i hz
      exact ⟨by rw [← p1.length]; exact hz, hx x C env1 σ H1 F1 M1 x1 R1 q1 gC⟩
    · exact q1.elim
/-! ### try -/
def sTry (cat : Str → Option Bool) (m h : MS) : MS := fun env => (m env).catch fun c e => match cat c with
  | some true => (h e).nox
  | some false => .exc c e
  | none => .stuck
theorem ds_try {y : Str} {cv : Value} {body suite : List Stmt} {b₀ : Stmt} {np pos' : Pos} {m h : MS} {cat : Str → Option Bool} (hs : X.stack = X.env :: X.outer) (hf : X.env.frame = some X.env.locals) (hcn : Names X y cv) (tk : Takes X W)
    (hcat : ∀ (c : Str) (C : Addr) (bb : Bool), X.mg c = some (.ref C) → cat c = some bb → PySem.W.exmOne X.K (.ref C) cv = some bb)
    (hb : ∀ (W' : WX) (pn : List (Addr × Obj)) (xe : Value → Shared → Prop), Takes (X.tr pn xe) W' → PassesOwn (model X.prog X.w) X.A X.env xe → DSs (X.tr pn xe) W' body m)
    (hsu : ∀ (a : Addr) (pn : List (Addr × Obj)), DSs (X.suite a pn) W0 (b₀ :: suite) h) :
    DS X W (.Try body [.ExceptHandler (some (.Name y np)) none (b₀ :: suite) pos'] [] [] pos) (sTry cat m h) :=
  psW (ps_try_only (tb := fun W' => tDS X.prog X.w X.K X.mg W' m) (ts := fun _ _ _ => tDS X.prog X.w X.K X.mg W0 h) hs hf hcn tk hb (fun a oe cls d pn _ _ => hsu a _)) fun De σ H ⟨F, M, env, Q, QE, R, q, hx, k1, k2, k3, k4⟩ => by
    refine ⟨F, M, env, Q, _, R, wpT_catch.mp q, ?_, k1, k2, k3, k4⟩
    intro c C env' σ' H' F' M' x R' q' mgc
    cases hcc : cat c with
    | none =>
      rw [hcc] at q'
      exact q'.elim
    | some bb =>
      refine ⟨bb, hcat c C bb mgc hcc, fun hbt a na => ?_, fun hbf => ?_⟩
      · subst hbt
        rw [hcc] at q'
        refine ⟨F', M', env', Q, fun _ _ => False, R', wpT_nox q', exOk0, fun σ2 H2 F2 M2 e2 x2 => k1 σ2 H2 F2 M2 e2 (x.trans x2), fun σ2 H2 F2 M2 e2 x2 => k2 σ2 H2 F2 M2 e2 (x.trans x2), fun σ2 H2 F2 M2 e2 x2 => k3 σ2 H2 F2 M2 e2 (x.trans x2), fun v σ2 H2 F2 M2 d e2 x2 => k4 v σ2 H2 F2 M2 d e2 (x.trans x2)⟩
      · subst hbf
        rw [hcc] at q'
        exact hx c C env' σ' H' F' M' x R' q' mgc
/-! ### a name of the module -/
theorem de_globS {z : Str} {tt : Tok} (hm : X.mg x = some (.str z tt)) (hg : Gl X x := by rfl) (hd : (x == ("__debug__" : Str)) = false := by decide) : DE X W (.Name x p) (mC (.str z)) :=
  peW (pe_glob (v := .str z) hg hm ⟨tt, rfl⟩ hd) fun σ H Q ⟨F, M, env, Qd, QE, R, q, hx, k⟩ => k _ H F M _ env Ext.refl R (.str z) q
theorem de_globI {z : Int} {tt : Tok} (hm : X.mg x = some (.int z tt)) (hg : Gl X x := by rfl) (hd : (x == ("__debug__" : Str)) = false := by decide) : DE X W (.Name x p) (mC (.int z)) :=
  peW (pe_glob (v := .int z) hg hm ⟨tt, rfl⟩ hd) fun σ H Q ⟨F, M, env, Qd, QE, R, q, hx, k⟩ => k _ H F M _ env Ext.refl R (.int z) q
/-- name += e of texts -/
def dIAdd : D → D → Option D
  | .int i, .int j => some (.int (i + j))
  | .str x, .str y => if x.length + y.length ≤ sizeLine then some (.str (x ++ y)) else none
  | _, _ => none
theorem dip_add : PIp X .Add (rD2 X.prog X.w X.K dIAdd) := by
  intro pins s σ H x y v u Q I rx ry ⟨F, dx, dy, d, px, py_, e, q⟩
  unfold dIAdd at e
  split at e
  · cases px; cases py_; cases e
    exact ip_add pins s σ H _ _ v u Q I rx ry ⟨_, _, rfl, rfl, q _ _ _ Grow.refl (.int _)⟩
  · split at e
    · rename_i hl
      cases px; cases py_; cases e
      exact iop_add_str pins s σ H _ _ v u Q I rx ry ⟨_, _, rfl, rfl, hl, q _ _ _ Grow.refl (.str _)⟩
    · cases e
  · cases e
theorem dip_sub : PIp X .Sub (rD2 X.prog X.w X.K dSub) := by
  intro pins s σ H x y v u Q I rx ry ⟨F, dx, dy, d, px, py_, e, q⟩
  unfold dSub at e
  split at e
  · cases px; cases py_; cases e
    exact ip_sub pins s σ H _ _ v u Q I rx ry ⟨_, _, rfl, rfl, q _ _ _ Grow.refl (.int _)⟩
  · cases e
end
end DL
set_option Elab.async false
set_option linter.all false
set_option maxRecDepth 100000
set_option autoImplicit false
set_option maxHeartbeats 1000000
/-! The data layer, part 15: dict displays; the law's tape. -/
namespace DL
open PySem PySem.Spec PyProof.Rows L2
/-! ### {k: v, ..} -/
def mPs : List (MD × MD) → Env → T (List (D × D) × Env)
  | [], e => .ret ([], e)
  | (fk, fv) :: r, e => (fk e).bind fun (k, e1) => (fv e1).bind fun (v, e2) => (mPs r e2).bind fun (ps, e3) => .ret ((k, v) :: ps, e3)
inductive RepPs (P : Program) (w : World) (K : PySem.W.Frag) (F : Addr → Prop) (H : Hp) : List (D × D) → List (V × V) → Prop
  | nil : RepPs P w K F H [] []
  | cons {dk d k v ds ps} : Rep P w K F H dk k → Rep P w K F H d v → RepPs P w K F H ds ps → RepPs P w K F H ((dk, d) :: ds) ((k, v) :: ps)
section
variable {P : Program} {w : World} {K : PySem.W.Frag} {mg : Str → Option Value} {W : WX}
theorem pairs_reads {σ : L2.St} : ∀ {ms : List (MD × MD)} {F M : Addr → Prop} {env : Env} {H : Hp} {Qd : List (D × D) × Env → Prop} {QE : Str → Env → Prop} {Q : List (V × V) → Hp → Prop}, Rel P w K F M H env σ → wpT (mPs ms env) Qd QE → ExOk P w K mg W F M H QE →
    (∀ (ps : List (V × V)) (H' : Hp) (F' M' : Addr → Prop) (ds : List (D × D)) (env' : Env), Ext F M H F' M' H' → Rel P w K F' M' H' env' σ → RepPs P w K F' H' ds ps → Qd (ds, env') → Q ps H') → tPairs (ms.map fun m => (tD P w K mg W m.1, tD P w K mg W m.2)) σ H Q
  | [], F, M, env, H, Qd, QE, Q, R, q, hx, k => k [] H F M [] env Ext.refl R .nil q
  | (fk, fv) :: r, F, M, env, H, Qd, QE, Q, R, q, hx, k => by
    refine ⟨F, M, env, _, QE, R, wpT_bind.mp q, hx, fun x H1 F1 M1 dk env1 x1 R1 p1 q1 => ?_⟩
    refine ⟨F1, M1, env1, _, QE, R1, wpT_bind.mp q1, hx.mono x1, fun y H2 F2 M2 dv env2 x2 R2 p2 q2 => ?_⟩
    refine pairs_reads (Q := fun ps H3 => Q ((x, y) :: ps) H3) R2 (wpT_bind.mp q2) (hx.mono (x1.trans x2)) fun ps H3 F3 M3 ds env3 x3 R3 p3 q3 => ?_
    exact k _ H3 F3 M3 _ env3 (x1.trans (x2.trans x3)) R3 (.cons ((p1.keeps (x2.keeps R1.sep)).keeps (x3.keeps R2.sep)) (p2.keeps (x3.keeps R2.sep)) p3) q3
theorem repPs_flat {F : Addr → Prop} {H : Hp} : ∀ {ds m acc : List (D × D)} {ps : List (V × V)}, RepPs P w K F H ds ps → dMerge false acc ds = some m → ∃ kvs : List (Key × V), ps = kvs.map (fun kv => (kV kv.1, kv.2)) ∧ RepK P w K F H ds kvs
  | [], _, _, _, .nil, _ => ⟨[], rfl, .nil⟩
  | (dk, d) :: r, m, acc, _, .cons (v := v) hk hv t, h => by
    cases hp : dPut false acc dk d with
    | none =>
      unfold dMerge at h
      rw [List.foldl_cons] at h
      have : (some acc).bind (fun a => dPut false a (dk, d).1 (dk, d).2) = none := hp
      rw [this, merge_none] at h
      cases h
    | some acc' =>
      have h' : dMerge false acc' r = some m := by
        unfold dMerge at h ⊢
        rw [List.foldl_cons] at h
        have : (some acc).bind (fun a => dPut false a (dk, d).1 (dk, d).2) = some acc' := hp
        rw [this] at h
        exact h
      obtain ⟨k, hk', _⟩ := Option.map_eq_some_iff.mp hp
      obtain ⟨kvs, e1, e2⟩ := repPs_flat t h'
      exact ⟨(k, v) :: kvs, by rw [List.map_cons, ← e1, fk_rep hk' hk], .cons hk' hv e2⟩
end
def mDisp (ms : List (MD × MD)) : MD := fun env => (mPs ms env).bind fun (ds, e) => if ds.length ≤ 15 then (T.of (dMerge false [] ds)).bind fun m => .ret (.dct false m, e) else .stuck
/-- the pairs of a display -/
def DPs (X : Cx) (W : WX) (pos : Pos) (keys : List (Option Expr)) (vals : List Expr) (ms : List (MD × MD)) : Prop := PPs X pos keys vals (ms.map fun m => (XD X W m.1, XD X W m.2))
section
variable {X : Cx} {W : WX} {k v : Expr} {keys : List (Option Expr)} {vals : List Expr} {fk fv : MD} {ms : List (MD × MD)} {pos : Pos}
theorem dps_nil : DPs X W pos [] [] [] := pps_nil
theorem dps_cons (hk : DE X W k fk) (hv : DE X W v fv) (hr : DPs X W pos keys vals ms) : DPs X W pos (some k :: keys) (v :: vals) ((fk, fv) :: ms) := pps_cons hk hv hr
theorem RepPs.length {P : Program} {w : World} {K : PySem.W.Frag} {F : Addr → Prop} {H : Hp} : ∀ {ds : List (D × D)} {ps : List (V × V)}, RepPs P w K F H ds ps → ds.length = ps.length
  | _, _, .nil => rfl
  | _, _, .cons _ _ r => congrArg (· + 1) r.length
theorem df_disp (h : DPs X W pos keys vals ms) (hall : keys.all (·.isSome) = true := by rfl) (hl : keys.length = vals.length := by rfl) (h0 : keys ≠ [] := by simp) (h15 : keys.length ≤ 15 := by decide) : DF X W (.Dict keys vals pos) (mDisp ms) :=
  peW (pe_disp h hall hl h0 h15) fun σ H Q ⟨F, M, env, Qd, QE, R, q, hx, kk⟩ p hp => by
    have g : Grow F H F (upd H p (.dK [])) := Grow.laid hp
    have nF : ¬ F p := fun f => by obtain ⟨o, e'⟩ := R.sep.ftr p f; rw [hp] at e'; cases e'
    have nM : ¬ M p := fun m => by obtain ⟨o, e', _⟩ := R.sep.kind p m; rw [hp] at e'; cases e'
    refine pairs_reads (R.grow g) (wpT_bind.mp q) (hx.mono g.ext) fun ps H2 F2 M2 ds env2 x2 R2 p2 q2 => ?_
    obtain ⟨hD2, nF2, nM2⟩ := x2.outside (u := .dK []) upd_same nF nM
    dsimp only at q2
    split at q2
    · rename_i hle
      obtain ⟨m, hm, q3⟩ := wpT_of (wpT_bind.mp q2)
      obtain ⟨kvs, e1, rk⟩ := repPs_flat p2 hm
      have kp : Keeps F2 H2 F2 (upd H2 p (.dK (mergeK [] kvs))) := Keeps.outT hD2 nF2 trivial
      refine ⟨hD2, kvs, e1, by rw [← rk.len]; exact hle, kk p _ F2 M2 _ env2 (((g.ext (M := M)).trans x2).outG hp fun b hb => upd_ne hb) (R2.outG hD2 trivial nF2 nM2 fun b hb => upd_ne hb) hp nF2 nM2 (.dk upd_same ((RepK.merge rk .nil hm).keeps kp)) q3⟩
    · exact q2.elim
end
/-! ### the tape -/
def tapeD (c : Addr) (cs : List Int) (at_ left seed salt : Int) : D := .dct false [(.str "cells", .cel c cs), (.str "at", .int at_), (.str "left", .int left), (.str "seed", .int seed), (.str "salt", .int salt)]
/-- a tape as it stands between the takes -/
def TapeIs (c : Addr) (cs : List Int) (d : D) : Prop := ∃ (at_ left seed salt : Int), 0 ≤ at_ ∧ 0 ≤ left ∧ 0 ≤ seed ∧ seed < 2147483647 ∧ 0 ≤ salt ∧ d = tapeD c cs at_ left seed salt
abbrev tapeK (c : Addr) (at_ left seed salt : Int) : List (Key × V) := [((Sum.inr ("cells" : Str) : Key), V.ref c), (Sum.inr ("at" : Str), V.int at_), (Sum.inr ("left" : Str), V.int left), (Sum.inr ("seed" : Str), V.int seed), (Sum.inr ("salt" : Str), V.int salt)]
section
variable {X : Cx} {W : WX} {sts : List Stmt} {m : MS}
theorem tape_open {pins : List (Addr × Obj)} {σ : L2.St} {H : Hp} {s : Shared} {a c : Addr} (I : L2.Inv X pins σ H s) (h : H a = some (TapeO X.prog X.w a c)) :
    ∃ at_ left seed salt, 0 ≤ at_ ∧ 0 ≤ left ∧ 0 ≤ seed ∧ seed < 2147483647 ∧ 0 ≤ salt ∧ L2.Inv X pins σ (upd H a (.dK (tapeK c at_ left seed salt))) s := by
  obtain ⟨⟨hm, at_, left, seed, salt, vs, h1, h2, h3, h4, h5, kv, dd⟩, ⟨o, ho⟩, _⟩ := I.hok a _ h
  refine ⟨at_, left, seed, salt, h1, h2, h3, h4, h5, ?_⟩
  have := d_write (h' := s.heap) (t' := s.toks) (ob := .dK (tapeK c at_ left seed salt)) I (by rw [h]; exact True.intro) (Heap.SameBut.refl a s.heap) ⟨o, ho⟩ ⟨by show 5 ≤ sizeLine; rw [sizeLine_eq]; decide, hm, vs, kv, dd⟩
  exact this
theorem tape_close {pins : List (Addr × Obj)} {σ : L2.St} {H : Hp} {s : Shared} {a c : Addr} {at_ left seed salt : Int} (I : L2.Inv X pins σ H s) (h : H a = some (.dK (tapeK c at_ left seed salt))) (h1 : 0 ≤ at_) (h2 : 0 ≤ left) (h3 : 0 ≤ seed) (h4 : seed < 2147483647) (h5 : 0 ≤ salt) :
    L2.Inv X pins σ (upd H a (TapeO X.prog X.w a c)) s := by
  obtain ⟨z, hm, vs, kv, dd⟩ := dk_of I.hok h
  obtain ⟨o, _, _, ho, _⟩ := id dd
  refine d_write (h' := s.heap) (t' := s.toks) (ob := TapeO X.prog X.w a c) I (by rw [h]; exact True.intro) (Heap.SameBut.refl a s.heap) ⟨o, ho⟩ ⟨⟨hm, at_, left, seed, salt, vs, h1, h2, h3, h4, h5, kv, dd⟩, ⟨o, ho⟩, fun p1 p2 ⟨g1, b1, b2, b3, b4, us, c1, c2, c3, c4, c5, c6, c7⟩ hk => ⟨g1, b1, b2, b3, b4, us, c1, c2, c3, c4, c5, c6, ?_⟩⟩
  exact c7.at hk
end
end DL
set_option Elab.async false
set_option linter.all false
set_option maxRecDepth 100000
set_option autoImplicit false
set_option maxHeartbeats 1000000
/-! The data layer, part 16: the law's two helpers of the tape. -/
namespace DL
open PySem PySem.Spec PyProof.Rows L2
/-! ### blocks that leave some slots as they are -/
def tDSk (P : Program) (w : World) (K : PySem.W.Frag) (mg : Str → Option Value) (W : WX) (ks : List Nat) (m : MS) : TS := fun De σ H => ∃ (F M : Addr → Prop) (env : Env) (Q : Fl × Env → Prop) (QE : Str → Env → Prop), Rel P w K F M H env σ ∧ wpT (m env) Q QE ∧ ExOk P w K mg W F M H QE ∧
  (∀ (σ' : L2.St) (H' : Hp) (F' M' : Addr → Prop) (env' : Env), (∀ i ∈ ks, σ'[i]? = σ[i]?) → Ext F M H F' M' H' → Rel P w K F' M' H' env' σ' → Q (.nx, env') → De.nx σ' H') ∧
  (∀ (v : V) (σ' : L2.St) (H' : Hp) (F' M' : Addr → Prop) (d : D) (env' : Env), (∀ i ∈ ks, σ'[i]? = σ[i]?) → Ext F M H F' M' H' → Rel P w K F' M' H' env' σ' → Rep P w K F' H' d v → Q (.rt d, env') → De.rt v H')
def DSk (X : Cx) (W : WX) (ks : List Nat) (st : Stmt) (m : MS) : Prop := PS X st (tDSk X.prog X.w X.K X.mg W ks m)
def DSsk (X : Cx) (W : WX) (ks : List Nat) (st : List Stmt) (m : MS) : Prop := PSs X st (tDSk X.prog X.w X.K X.mg W ks m)
section
variable {X : Cx} {W : WX} {ks : List Nat} {e b c : Expr} {st : Stmt} {sts body : List Stmt} {f g : MD} {ba : MB} {m n : MS} {pos p : Pos} {i : Nat} {x : Str}
theorem dsk_nil : DSsk X W ks [] sNext := pssW pss_nil fun De σ H ⟨F, M, env, Q, QE, R, q, hx, k1, k4⟩ => k1 _ _ _ _ _ (fun _ _ => rfl) Ext.refl R q
theorem dsk_cons (h1 : DSk X W ks st m) (h2 : DSsk X W ks sts n) : DSsk X W ks (st :: sts) (sSeq m n) := pssW (pss_cons h1 h2) fun De σ H ⟨F, M, env, Q, QE, R, q, hx, k1, k4⟩ => by
  refine ⟨F, M, env, _, QE, R, wpT_bind.mp q, hx, fun σ1 H1 F1 M1 env1 s1 x1 R1 q1 => ?_, fun v σ1 H1 F1 M1 d env1 s1 x1 R1 r1 q1 => ?_⟩
  · exact ⟨F1, M1, env1, Q, QE, R1, q1, hx.mono x1, fun σ2 H2 F2 M2 env2 s2 x2 => k1 σ2 H2 F2 M2 env2 (fun i hi => (s2 i hi).trans (s1 i hi)) (x1.trans x2), fun v σ2 H2 F2 M2 d env2 s2 x2 => k4 v σ2 H2 F2 M2 d env2 (fun i hi => (s2 i hi).trans (s1 i hi)) (x1.trans x2)⟩
  · exact k4 _ _ _ _ _ _ _ s1 x1 R1 r1 q1
theorem dsk_one (h1 : DSk X W ks st m) : DSsk X W ks [st] m := pss_one h1
theorem dsk_ret (he : DE X W e f) : DSk X W ks (.Return (some e) pos) (sRet f) := psW (ps_ret he) fun De σ H ⟨F, M, env, Q, QE, R, q, hx, k1, k4⟩ =>
  ⟨F, M, env, _, QE, R, wpT_bind.mp q, hx, fun v H1 F1 M1 d env1 x1 R1 p1 q1 => k4 _ σ _ _ _ _ _ (fun _ _ => rfl) x1 R1 p1 q1⟩
theorem dsk_if (hc : DT X W c ba) (ha : DSsk X W ks sts m) (hb : DSsk X W ks body n) : DSk X W ks (.If c sts body pos) (sIf ba m n) := psW (ps_if hc ha hb) fun De σ H ⟨F, M, env, Q, QE, R, q, hx, k1, k4⟩ => by
  refine ⟨F, M, env, _, QE, R, wpT_bind.mp q, hx, fun t H1 F1 M1 env1 x1 R1 q1 => ?_⟩
  cases t with
  | true => exact ⟨F1, M1, env1, Q, QE, R1, q1, hx.mono x1, fun σ2 H2 F2 M2 env2 s2 x2 => k1 σ2 H2 F2 M2 env2 s2 (x1.trans x2), fun v σ2 H2 F2 M2 d env2 s2 x2 => k4 v σ2 H2 F2 M2 d env2 s2 (x1.trans x2)⟩
  | false => exact ⟨F1, M1, env1, Q, QE, R1, q1, hx.mono x1, fun σ2 H2 F2 M2 env2 s2 x2 => k1 σ2 H2 F2 M2 env2 s2 (x1.trans x2), fun v σ2 H2 F2 M2 d env2 s2 x2 => k4 v σ2 H2 F2 M2 d env2 s2 (x1.trans x2)⟩
theorem dsk_set {i : Nat} {x : Str} {pos' : Pos} (hN : X.N.Nodup) (hi : X.N[i]? = some x) (hx : Loc X.env.scope x) (he : DE X W e f) (hik : i ∉ ks) (hs : swapsWith e (some (.Name x pos')) pos.line X.env = pure false := by rfl) (hf : X.fn x = true ∨ X.env.scope.names.lookup x = some .local := by first | exact .inl rfl | exact .inr rfl | assumption) :
    DSk X W ks (.Assign [.Name x pos'] e pos) (sAsg f (gSet i)) := psW (ps_set hN hi hx he hs hf) fun De σ H ⟨F, M, env, Q, QE, R, q, hx, k1, k4⟩ =>
  ⟨F, M, env, _, QE, R, wpT_bind.mp q, hx, fun v H1 F1 M1 d env1 x1 R1 p1 q1 => k1 _ _ _ _ _ (fun j hj => List.getElem?_set_ne (fun (z : i = j) => hik (z ▸ hj))) x1 (R1.set i p1) q1⟩
theorem dsk_store {tpos : Pos} (hu : X.A.units + 1 < cLine) (hK : NoT X.K) (hb : DE X W b f) (he : DE X W e g) (hN : X.N[i]? = some x := by rfl) (hv : Vis X.env.scope x := by first | exact Or.inl rfl | exact Or.inr (Or.inl rfl) | exact Or.inr (Or.inr rfl))
    (ha : ∀ v, assign (.Subscript (.Name x p) b tpos) X.env v = (do
      let ov ← holding [v] (eval (.Name x p) X.env)
      let iv ← holding [v, ov] (eval b X.env)
      standAt tpos
      holding [v, ov, iv] (setItem ov iv v)
      release [v, ov, iv] []) := by intro _; rfl)
    (hs : swapsWithSole [.Subscript (.Name x p) b tpos] e pos.line X.env = pure false := by rfl) (hw : swappedStores [.Subscript (.Name x p) b tpos] e X.env = pure none := by rfl)
    (h1 : (assignEach [.Subscript (.Name x p) b tpos] X.env).map (·.2) = [assign (.Subscript (.Name x p) b tpos) X.env] := by rfl)
    (hd : (x == ("__debug__" : Str)) = false := by decide) (hcd : (x == ("__classdict__" : Str)) = false := by decide) : DSk X W ks (.Assign [.Subscript (.Name x p) b tpos] e pos) (sStore i f g) := by
  refine psW (ps_asg he (pg_sub (pe_var hN hv hd hcd) hb (set_all hu) ha) hs hw h1) fun De σ H ⟨F, M, env, Q, QE, R, q, hx, k1, k4⟩ => ?_
  refine ⟨F, M, env, _, QE, R, wpT_bind.mp q, hx, fun v H1 F1 M1 d env1 x1 R1 p1 q1 => ?_⟩
  dsimp only at q1
  split at q1
  · rename_i d0 hd0
    obtain ⟨a, h2, h3, h4⟩ := R1.mt i d0 hd0
    refine ⟨_, h2, F1, M1, env1, _, QE, R1, wpT_bind.mp q1, hx.mono x1, fun y H2 F2 M2 dk env2 x2 R2 p2 q2 => ?_⟩
    dsimp only at q2
    split at q2
    · rename_i dd hdd
      obtain ⟨d', ed, q3⟩ := wpT_of (wpT_bind.mp q2)
      obtain ⟨a', h5, h6, h7⟩ := R2.mt i dd hdd
      rw [h2] at h5
      obtain rfl : a = a' := by injection h5 with z; injection z with z; injection z
      rcases gStore_reads hK ed h7 (fun f => R2.sep.apart _ f h6) p2 (p1.keeps (x2.keeps R1.sep)) with ⟨H', g1, g2, g3⟩ | ⟨H', g1, g2, g3⟩
      · obtain ⟨e1, e2, e3⟩ := R2.mutate hdd h2 g2 g3
        exact .inl ⟨H', g1, k1 _ _ _ _ _ (fun _ _ => rfl) (x1.trans (x2.trans e1)) e3 q3⟩
      · obtain ⟨e1, e2, e3⟩ := R2.mutate hdd h2 g2 g3
        exact .inr ⟨a, H', rfl, g1, k1 _ _ _ _ _ (fun _ _ => rfl) (x1.trans (x2.trans e1)) e3 q3⟩
    · exact q2.elim
  · exact q1.elim
end
/-! ### take -/
def gTake : MF := fun ds => match ds with
  | [.tape, .int m] => if 0 < m ∧ m < 1073741824 then .draw (m.toNat - 1) fun r => .ret (.int (r : Int)) else .stuck
  | _ => .stuck
/-- what a take does to a tape, on data -/
def TakeOk (N : Nat) (m : MS) : Prop := ∀ (c : Addr) (cs : List Int) (d : D) (many : Int), (∀ i ∈ cs, (0 : Int) ≤ i) → TapeIs c cs d → 0 < many → many < 1073741824 → wpT (m ([.mut d, .val (.int many)] ++ List.replicate (N - 2) .un)) (fun (f, e) => ∃ r d', f = .rt (.int r) ∧ 0 ≤ r ∧ r < many ∧ e[0]? = some (.mut d') ∧ TapeIs c cs d') fun _ _ => False
theorem tape_own {P : Program} {w : World} {K : PySem.W.Frag} {F : Addr → Prop} {H : Hp} {a c : Addr} {cs : List Int} {at_ left seed salt : Int} (o : Own P w K F H (tapeD c cs at_ left seed salt) a) : H a = some (.dK (tapeK c at_ left seed salt)) := by
  cases o with
  | dk h r =>
    cases r with
    | cons e1 r1 t => cases t with
      | cons e2 r2 t => cases t with
        | cons e3 r3 t => cases t with
          | cons e4 r4 t => cases t with
            | cons e5 r5 t =>
              cases t
              cases e1; cases e2; cases e3; cases e4; cases e5
              cases r1
              cases r2; cases r3; cases r4; cases r5
              exact h
theorem tape_own' {P : Program} {w : World} {K : PySem.W.Frag} {F : Addr → Prop} {H : Hp} {a c : Addr} {cs : List Int} {at_ left seed salt : Int} (hF : F c) (hc : H c = some (.lst (cs.map V.int))) (h : H a = some (.dK (tapeK c at_ left seed salt))) : Own P w K F H (tapeD c cs at_ left seed salt) a :=
  .dk h (.cons rfl (.cel hF hc) (.cons rfl (.int _) (.cons rfl (.int _) (.cons rfl (.int _) (.cons rfl (.int _) .nil)))))
theorem take_ok {P : Program} {w : World} {K : PySem.W.Frag} {mg : Str → Option Value} {base : Heap} {x qual : Str} {st : Stmt} {f : Addr} {fd : FuncData} {N ps : List Str} {k : Nat} {m : MS} (F : Fun K x qual st f fd) (S : FnScope N ps (defScope st)) (h2 : ps.length = 2)
    (ht : TakeOk N.length m)
    (hb : ∀ (cdv : Value) (A : Around) (outer : List PySem.Env) (s : Shared) (H : Hp) (E : XK), Room k (A.deeper (envOfC qual (defScope st) s.heap.objs.size f cdv)) →
      DSsk (cxOf (L2.CX P w) P w K mg base N qual (defScope st) f cdv A outer s H E) W0 [0] (defBody st) m) : FnOk P w K mg base (L2.CX P w) (k + 1) f fd ps (spD P w K mg ps.length gTake) := by
  refine F.okX S (fun vs H Q E h => h.1) fun cdv A outer s H vs Q E hr h => ?_
  obtain ⟨hl, Fa, ds, Qd, QE, ft, r, q, k1, k2⟩ := h
  have hD := hb cdv A outer s H E hr
  -- the body under the opened tape
  refine ⟨fun De σ H => ∃ a c, H a = some (TapeO P w a c) ∧ ∀ at_ left seed salt, 0 ≤ at_ → 0 ≤ left → 0 ≤ seed → seed < 2147483647 → 0 ≤ salt →
    tDSk P w K mg W0 [0] m { nx := fun _ _ => False, rt := fun v H' => ∃ at' left' seed' salt', 0 ≤ at' ∧ 0 ≤ left' ∧ 0 ≤ seed' ∧ seed' < 2147483647 ∧ 0 ≤ salt' ∧ H' a = some (.dK (tapeK c at' left' seed' salt')) ∧ De.rt v (upd H' a (TapeO P w a c)) } σ (upd H a (.dK (tapeK c at_ left seed salt))), ⟨fun pins s1 σ1 H1 De I1 hh => ?_⟩, ?_⟩
  · obtain ⟨a, c, ha, hh⟩ := hh
    obtain ⟨at_, left, seed, salt, b1, b2, b3, b4, b5, I2⟩ := tape_open (c := c) I1 ha
    refine thn (hD.run pins s1 σ1 _ _ I2 (hh at_ left seed salt b1 b2 b3 b4 b5)) fun fl s2 hs => ?_
    cases fl with
    | ret u =>
      obtain ⟨v, σ2, H2, I3, rv, at', left', seed', salt', c1, c2, c3, c4, c5, c6, c7⟩ := hs
      exact ⟨v, σ2, _, tape_close I3 c6 c1 c2 c3 c4 c5, rv, c7⟩
    | next => obtain ⟨_, _, _, z⟩ := hs; exact z.elim
    | brk => obtain ⟨_, _, _, z⟩ := hs; exact z.elim
    | cont => obtain ⟨_, _, _, z⟩ := hs; exact z.elim
  · unfold gTake at q
    split at q
    · rename_i many
      split at q
      · rename_i hm
        cases r with
        | cons r1 r2 =>
          cases r2 with
          | cons r2 r3 =>
            cases r3
            cases r2
            cases r1 with
            | @tape a c cs f1 f2 g1 g2 g3 =>
              have hac : c ≠ a := fun z => by rw [z, g1] at g2; cases g2
              refine ⟨a, c, g1, fun at_ left seed salt b1 b2 b3 b4 b5 => ?_⟩
              have hH1 : upd H a (.dK (tapeK c at_ left seed salt)) c = some (.lst (cs.map V.int)) := by rw [upd_ne hac]; exact g2
              have ow : Own P w K (fun x => x = c) (upd H a (.dK (tapeK c at_ left seed salt))) (tapeD c cs at_ left seed salt) a := tape_own' rfl hH1 upd_same
              have R : Rel P w K (fun x => x = c) (fun x => x = a) (upd H a (.dK (tapeK c at_ left seed salt))) ([.mut (tapeD c cs at_ left seed salt), .val (.int many)] ++ List.replicate (N.length - 2) .un) (L2.start N [.ref a, .int many]) := by
                refine ⟨⟨fun y h1 h2 => hac (h1.symm.trans h2), fun y hy => ⟨.dK (tapeK c at_ left seed salt), (congrArg _ hy).trans upd_same, True.intro⟩, fun y hy => ⟨.lst (cs.map V.int), (congrArg _ hy).trans hH1⟩⟩, by simp [L2.start], fun i d hi => ?_, fun i d hi => ?_, fun i j d1 d2 b hi hj _ _ => ?_⟩
                · match i, hi with
                  | 0, hi => cases hi
                  | 1, hi => cases hi; exact ⟨.int many, rfl, .int _⟩
                  | i + 2, hi =>
                    have := List.mem_of_getElem? (show (List.replicate (N.length - 2) Sl.un)[i]? = some (.val d) from hi)
                    cases (List.mem_replicate.mp this).2
                · match i, hi with
                  | 0, hi => cases hi; exact ⟨a, rfl, rfl, ow⟩
                  | 1, hi => cases hi
                  | i + 2, hi =>
                    have := List.mem_of_getElem? (show (List.replicate (N.length - 2) Sl.un)[i]? = some (.mut d) from hi)
                    cases (List.mem_replicate.mp this).2
                · have z : ∀ {i d}, (([Sl.mut (tapeD c cs at_ left seed salt), .val (.int many)] ++ List.replicate (N.length - 2) .un : Env))[i]? = some (.mut d) → i = 0 := fun {i d} hi => by
                    match i, hi with
                    | 0, hi => rfl
                    | 1, hi => cases hi
                    | i + 2, hi =>
                      have := List.mem_of_getElem? (show (List.replicate (N.length - 2) Sl.un)[i]? = some (.mut d) from hi)
                      cases (List.mem_replicate.mp this).2
                  rw [z hi, z hj]
              refine ⟨fun x => x = c, fun x => x = a, _, _, fun _ _ => False, R, ht c cs _ many g3 ⟨at_, left, seed, salt, b1, b2, b3, b4, b5, rfl⟩ hm.1 hm.2, exOk0, ?_, ?_⟩
              · rintro σ' H' F' M' env' _ _ _ ⟨r, d', z, _⟩
                cases z
              · rintro v σ' H' F' M' d env' ss x' R' rv ⟨r, d', z, z1, z2, z3, at', left', seed', salt', c1, c2, c3, c4, c5, rfl⟩
                cases z
                cases rv
                obtain ⟨a', e1, e2, e3⟩ := R'.mt 0 _ z3
                have e4 := ss 0 (by simp)
                rw [e4] at e1
                have e5 : a = a' := by
                  have : some (some (V.ref a)) = some (some (V.ref a')) := e1
                  injection this with y; injection y with y; injection y
                subst e5
                refine ⟨at', left', seed', salt', c1, c2, c3, c4, c5, tape_own e3, ?_⟩
                have gr : Grow Fa H Fa (upd H' a (TapeO P w a c)) := by
                  refine ⟨fun _ y => y, fun _ y => .inl y, fun b o hb => ?_, fun _ y => .inl y⟩
                  by_cases hba : b = a
                  · subst hba
                    rw [g1] at hb
                    cases hb
                    exact upd_same
                  · rw [upd_ne hba]
                    exact x'.keep b o (by rw [upd_ne hba]; exact hb) hba
                have hq := q r.toNat (by omega)
                have hr : ((r.toNat : Nat) : Int) = r := Int.toNat_of_nonneg z1
                have hq' : Qd (.int ((r.toNat : Nat) : Int)) := hq
                rw [hr] at hq'
                exact k1 (.int r) _ Fa (.int r) gr (.int r) hq'
      · exact q.elim
    · exact q.elim
end DL
set_option Elab.async false
set_option linter.all false
set_option maxRecDepth 100000
set_option autoImplicit false
set_option maxHeartbeats 1000000
/-! The data layer, part 17: the tape is made; words for the derivations. -/
namespace DL
open PySem PySem.Spec PyProof.Rows L2
def mFin (m : MS) (f : MD) : Env → T D := fun env => (m env).bind fun (fl, e) => match fl with
  | .nx => (f e).bind fun (d, _) => .ret d
  | _ => .stuck
/-- a body that ends with the return of something fresh -/
def tFin (P : Program) (w : World) (K : PySem.W.Frag) (mg : Str → Option Value) (W : WX) (m : MS) (f : MD) : TS := fun De σ H => ∃ (F M : Addr → Prop) (env : Env) (Qd : D → Prop) (QE : Str → Env → Prop), Rel P w K F M H env σ ∧ wpT (mFin m f env) Qd QE ∧ ExOk P w K mg W F M H QE ∧
  ∀ (a : Addr) (H' : Hp) (F' M' : Addr → Prop) (d : D), Ext F M H F' M' H' → Sep F' M' H' → H a = none → ¬ F' a → ¬ M' a → Own P w K F' H' d a → Qd d → De.rt (.ref a) H'
def DFin (X : Cx) (W : WX) (sts : List Stmt) (m : MS) (f : MD) : Prop := PSs X sts (tFin X.prog X.w X.K X.mg W m f)
section
variable {X : Cx} {W : WX} {e : Expr} {st : Stmt} {sts : List Stmt} {f : MD} {m n : MS} {pos : Pos}
theorem fin_last (he : DF X W e f) : DFin X W [.Return (some e) pos] sNext f := pssW (pss_one (ps_ret he)) fun De σ H ⟨F, M, env, Qd, QE, R, q, hx, k⟩ =>
  ⟨F, M, env, _, QE, R, wpT_bind.mp q, hx, fun a H1 F1 M1 d env1 x1 R1 na nF nM ow q1 => k a H1 F1 M1 d x1 R1.sep na nF nM ow q1⟩
theorem fin_cons (h1 : DS X W st m) (h2 : DFin X W sts n f) : DFin X W (st :: sts) (sSeq m n) f := pssW (pss_cons h1 h2) fun De σ H ⟨F, M, env, Qd, QE, R, q, hx, k⟩ => by
  refine ⟨F, M, env, _, QE, R, wpT_bind.mp (wpT_bind.mp q), hx, fun σ1 H1 F1 M1 env1 x1 R1 q1 => ?_, fun σ1 H1 F1 M1 env1 x1 R1 q1 => q1.elim, fun σ1 H1 F1 M1 env1 x1 R1 q1 => q1.elim, fun v σ1 H1 F1 M1 d env1 x1 R1 r1 q1 => q1.elim⟩
  refine ⟨F1, M1, env1, Qd, QE, R1, wpT_bind.mpr q1, hx.mono x1, fun a H2 F2 M2 d x2 s2 na => k a H2 F2 M2 d (x1.trans x2) s2 ?_⟩
  cases z : H a with
  | none => rfl
  | some o => obtain ⟨o', e'⟩ := x1.there a o z; rw [na] at e'; cases e'
end
def gMake : MF := fun ds => match ds with
  | [.scr ns] => if ns.length ≤ 1000 then .ret .tape else .stuck
  | _ => .stuck
def MakeOk (N : Nat) (m : MS) (f : MD) : Prop := ∀ ns : List Int, ns.length ≤ 1000 → wpT (mFin m f ([.val (.scr ns)] ++ List.replicate (N - 1) .un)) (fun d => ∃ (cs : List Int) (at_ left seed salt : Int), (∀ i ∈ cs, (0 : Int) ≤ i) ∧ 0 ≤ at_ ∧ 0 ≤ left ∧ 0 ≤ seed ∧ seed < 2147483647 ∧ 0 ≤ salt ∧
  d = .dct false [(.str "cells", .lst (cs.map .int)), (.str "at", .int at_), (.str "left", .int left), (.str "seed", .int seed), (.str "salt", .int salt)]) fun _ _ => False
theorem ints_of {P : Program} {w : World} {K : PySem.W.Frag} {F : Addr → Prop} {H : Hp} : ∀ {cs : List Int} {vs : List V}, RepL P w K F H (cs.map D.int) vs → vs = cs.map V.int
  | [], _, .nil => rfl
  | c :: r, _, .cons a t => by cases a; rw [ints_of t]; rfl
theorem made_own {P : Program} {w : World} {K : PySem.W.Frag} {F : Addr → Prop} {H : Hp} {a : Addr} {cs : List Int} {at_ left seed salt : Int} (o : Own P w K F H (.dct false [(.str "cells", .lst (cs.map .int)), (.str "at", .int at_), (.str "left", .int left), (.str "seed", .int seed), (.str "salt", .int salt)]) a) :
    ∃ c, F c ∧ H c = some (.lst (cs.map V.int)) ∧ H a = some (.dK (tapeK c at_ left seed salt)) := by
  cases o with
  | dk h r =>
    cases r with
    | cons e1 r1 t => cases t with
      | cons e2 r2 t => cases t with
        | cons e3 r3 t => cases t with
          | cons e4 r4 t => cases t with
            | cons e5 r5 t =>
              cases t
              cases e1; cases e2; cases e3; cases e4; cases e5
              cases r1 with
              | lst f1 h1 l1 =>
                cases r2; cases r3; cases r4; cases r5
                rw [ints_of l1] at h1
                exact ⟨_, f1, h1, h⟩
theorem make_ok {P : Program} {w : World} {K : PySem.W.Frag} {mg : Str → Option Value} {base : Heap} {x qual : Str} {st : Stmt} {f : Addr} {fd : FuncData} {N ps : List Str} {k : Nat} {m : MS} {ff : MD} (F : Fun K x qual st f fd) (S : FnScope N ps (defScope st)) (h1 : ps.length = 1)
    (ht : MakeOk N.length m ff)
    (hb : ∀ (cdv : Value) (A : Around) (outer : List PySem.Env) (s : Shared) (H : Hp) (E : XK), Room k (A.deeper (envOfC qual (defScope st) s.heap.objs.size f cdv)) →
      DFin (cxOf (L2.CX P w) P w K mg base N qual (defScope st) f cdv A outer s H E) W0 (defBody st) m ff) : FnOk P w K mg base (L2.CX P w) (k + 1) f fd ps (spD P w K mg ps.length gMake) := by
  refine F.okX S (fun vs H Q E h => h.1) fun cdv A outer s H vs Q E hr h => ?_
  obtain ⟨hl, Fa, ds, Qd, QE, ft, r, q, k1, k2⟩ := h
  have hD := hb cdv A outer s H E hr
  refine ⟨fun De σ H => tFin P w K mg W0 m ff { nx := fun _ _ => False, rt := fun v H' => ∃ p c at' left' seed' salt', v = V.ref p ∧ 0 ≤ at' ∧ 0 ≤ left' ∧ 0 ≤ seed' ∧ seed' < 2147483647 ∧ 0 ≤ salt' ∧ H' p = some (.dK (tapeK c at' left' seed' salt')) ∧ De.rt v (upd H' p (TapeO P w p c)) } σ H, ⟨fun pins s1 σ1 H1 De I1 hh => ?_⟩, ?_⟩
  · refine thn (hD.run pins s1 σ1 _ _ I1 hh) fun fl s2 hs => ?_
    cases fl with
    | ret u =>
      obtain ⟨v, σ2, H2, I3, rv, p, c, at', left', seed', salt', c0, c1, c2, c3, c4, c5, c6, c7⟩ := hs
      exact ⟨v, σ2, _, tape_close I3 c6 c1 c2 c3 c4 c5, rv, c7⟩
    | next => obtain ⟨_, _, _, z⟩ := hs; exact z.elim
    | brk => obtain ⟨_, _, _, z⟩ := hs; exact z.elim
    | cont => obtain ⟨_, _, _, z⟩ := hs; exact z.elim
  · unfold gMake at q
    split at q
    · rename_i ns
      split at q
      · rename_i hn
        have hdl : ([D.scr ns]).length = 1 := rfl
        have R : Rel P w K Fa (fun _ => False) H ([.val (.scr ns)] ++ List.replicate (N.length - 1) .un) (L2.start N vs) := Rel.start ft r
        refine ⟨Fa, fun _ => False, _, _, fun _ _ => False, R, ht ns hn, exOk0, fun a H' F' M' d x sp na nF nM ow qd => ?_⟩
        obtain ⟨cs, at_, left, seed, salt, g0, g1, g2, g3, g4, g5, rfl⟩ := qd
        obtain ⟨c, e1, e2, e3⟩ := made_own ow
        refine ⟨a, c, at_, left, seed, salt, rfl, g1, g2, g3, g4, g5, e3, ?_⟩
        have hca : c ≠ a := fun z => nF (z ▸ e1)
        refine k1 (.ref a) _ (fun y => F' y ∨ y = a) .tape ⟨fun y hy => .inl (x.sub y hy), fun y hy => ?_, fun b o hb => ?_, fun y hy => .inr ?_⟩ (.tape (cs := cs) (.inr rfl) (.inl e1) upd_same (by rw [upd_ne hca]; exact e2) g0) q
        · rcases hy with hy | hy
          · exact (x.new y hy).imp id fun z => z.resolve_left id
          · exact .inr (hy ▸ na)
        · rw [upd_ne (ne_of_none hb na)]
          exact x.keep b o hb id
        · by_cases hya : y = a
          · exact ⟨_, by rw [hya]; exact upd_same⟩
          · obtain ⟨o, ho⟩ := sp.ftr y (hy.resolve_right hya)
            exact ⟨o, by rw [upd_ne hya]; exact ho⟩
      · exact q.elim
    · exact q.elim
/-! ### words for the derivations -/
def mTuple (h : ML) : MD := mTup fun env => (h env).bind fun (ds, e) => if ds.length ≤ sizeLine then .ret (ds, e) else .stuck
section
variable {X : Cx} {W : WX} {e : Expr} {es : List Expr} {h : ML} {pos : Pos}
theorem de_tuple {x1} (hl : DA X W es h) : DE X W (.Tuple es x1 pos) (mTuple h) := de_tup hl
theorem u66 {k : Nat} {A : Around} (hr : Room k A) : A.units + 66 < cLine := by have := hr.un; omega
theorem u65 {k : Nat} {A : Around} (hr : Room k A) : A.units + 65 < cLine := by have := hr.un; omega
theorem u64 {k : Nat} {A : Around} (hr : Room k A) : A.units + 64 < cLine := by have := hr.un; omega
theorem u2 {k : Nat} {A : Around} (hr : Room k A) : A.units + 2 < cLine := by have := hr.un; omega
theorem u1 {k : Nat} {A : Around} (hr : Room k A) : A.units + 1 < cLine := by have := hr.un; omega
theorem u0 {k : Nat} {A : Around} (hr : Room k A) : A.units < cLine := by have := hr.un; omega
end
end DL
set_option Elab.async false
set_option linter.all false
set_option maxRecDepth 100000
set_option autoImplicit false
set_option maxHeartbeats 1000000
/-! The data layer, part 18: two fresh things at once; the built-ins' names. -/
namespace DL
open PySem PySem.Spec PyProof.Rows L2
def sTwo (i j : Nat) (f g : MD) : MS := fun env => (f env).bind fun (d, e) => (g e).bind fun (d2, e2) => .ret (.nx, (e2.set i (.mut d)).set j (.mut d2))
section
variable {X : Cx} {W : WX} {a b : Expr} {f g : MD} {pos p1 p2 q1 q2 : Pos} {i j k1 k2 : Nat} {x y : Str}
/-- x, y = [..], {..} -/
theorem ds_two (hc : X.calm = true) (hN : X.N.Nodup) (hi : X.N[i]? = some x) (hj : X.N[j]? = some y) (hx : Loc X.env.scope x) (hy : Loc X.env.scope y) (h1 : DF X W a f) (h2 : DF X W b g) (hfx : X.fn x = true ∨ X.env.scope.names.lookup x = some .local := by first | exact .inl rfl | exact .inr rfl) (hfy : X.fn y = true ∨ X.env.scope.names.lookup y = some .local := by first | exact .inl rfl | exact .inr rfl)
    (ha : starEach [a, b] X.env = (false, eval a X.env) :: starEach [b] X.env := by rfl) (hb : starEach [b] X.env = (false, eval b X.env) :: starEach [] X.env := by rfl)
    (hs : swapsWithSole [.Tuple [.Name x p1, .Name y p2] k1 q1] (.Tuple [a, b] k2 q2) pos.line X.env = pure false := by rfl) (hw : swappedStores [.Tuple [.Name x p1, .Name y p2] k1 q1] (.Tuple [a, b] k2 q2) X.env = pure none := by rfl)
    (ht : (assignEach [.Tuple [.Name x p1, .Name y p2] k1 q1] X.env).map (·.2) = [assign (.Tuple [.Name x p1, .Name y p2] k1 q1) X.env] := by rfl)
    (hu1 : (assignEach [.Name x p1, .Name y p2] X.env).map (·.2) = assign (.Name x p1) X.env :: (assignEach [.Name y p2] X.env).map (·.2) := by rfl) (hu2 : (assignEach [.Name y p2] X.env).map (·.2) = assign (.Name y p2) X.env :: (assignEach [] X.env).map (·.2) := by rfl)
    (hn : (assignEach [.Name x p1, .Name y p2] X.env).length = 2 := by rfl) (hst : (assignEach [.Name x p1, .Name y p2] X.env).findIdx? (·.1) = none := by rfl) :
    DS X W (.Assign [.Tuple [.Name x p1, .Name y p2] k1 q1] (.Tuple [a, b] k2 q2) pos) (sTwo i j f g) := by
  refine psW (ps_asg (pe_tup (pa_cons h1 (pa_cons h2 pa_nil hb) ha)) (pg_tup hc (pgs_cons (pg_name hN hi hx hfx) (pgs_cons (pg_name hN hj hy hfy) pgs_nil hu2) hu1) hn hst) hs hw ht) fun De σ H ⟨F, M, env, Q, QE, R, q, hxx, k1, k2, k3, k4⟩ => ?_
  refine ⟨F, M, env, _, QE, R, wpT_bind.mp q, hxx, fun a1 H1 F1 M1 d1 env1 x1 R1 na1 nF1 nM1 ow1 q1 => ?_⟩
  refine ⟨F1, M1, env1, _, QE, R1, wpT_bind.mp q1, hxx.mono x1, fun a2 H2 F2 M2 d2 env2 x2 R2 na2 nF2 nM2 ow2 q2 => ?_⟩
  obtain ⟨u1, hu1', _⟩ := own_mut ow1
  obtain ⟨k1', nF1', nM1'⟩ := x2.outside hu1' nF1 nM1
  have ow1' : Own X.prog X.w X.K F2 H2 d1 a1 := ow1.keeps (x2.keeps R1.sep) fun o ho => by rw [hu1'] at ho; cases ho; exact k1'
  refine ⟨by show 2 ≤ sizeLine; rw [sizeLine_eq]; decide, fun p hp => ?_⟩
  have gr : Grow F2 H2 F2 (upd H2 p (.tup [.ref a1, .ref a2])) := Grow.laid hp
  have np1 : a1 ≠ p := ne_of_none k1' hp
  obtain ⟨u2, hu2', _⟩ := own_mut ow2
  have np2 : a2 ≠ p := ne_of_none hu2' hp
  have n12 : a2 ≠ a1 := fun z => by rw [z, hu1'] at na2; cases na2
  have o1 := ow1'.keeps gr.keeps fun o ho => gr.keep a1 o ho
  have o2 := ow2.keeps gr.keeps fun o ho => gr.keep a2 o ho
  refine ⟨p, [.ref a1, .ref a2], rfl, .inl (.inl upd_same), rfl, .ref a1, [.ref a2], rfl, .ref a2, [], rfl, rfl, ?_⟩
  have R3 := (R2.grow gr).setM i nF1' nM1' o1
  have R4 := R3.setM j nF2 (fun m => m.elim nM2 n12) o2
  refine k1 _ _ F2 (fun z => (M2 z ∨ z = a1) ∨ z = a2) _ ?_ R4 q2
  have e3 := x1.trans (x2.trans (gr.ext (M := M2)))
  have na1H : H a1 = none := na1
  have na2H : H a2 = none := by
    cases z : H a2 with
    | none => rfl
    | some o => obtain ⟨o', e'⟩ := x1.there a2 o z; rw [na2] at e'; cases e'
  exact ⟨e3.sub, e3.new, fun z hz => (hz.elim (fun hz => hz.elim (e3.own z) fun e => .inr (e ▸ na1H)) fun e => .inr (e ▸ na2H)), e3.keep, e3.there⟩
/-- a, b = e, f with plain local names -/
def sPar (i j : Nat) (h : ML) : MS := fun env => (h env).bind fun (ds, e) => match ds with
  | [a, b] => .ret (.nx, (e.set i (.val a)).set j (.val b))
  | _ => .stuck
def sPar3 (i j l : Nat) (h : ML) : MS := fun env => (h env).bind fun (ds, e) => match ds with
  | [a, b, c] => .ret (.nx, ((e.set i (.val a)).set j (.val b)).set l (.val c))
  | _ => .stuck
variable {h : ML} {c : Expr} {z : Str} {l : Nat} {p3 : Pos}
theorem ds_par (hc : X.calm = true) (hN : X.N.Nodup) (hi : X.N[i]? = some x) (hj : X.N[j]? = some y) (hij : i ≠ j) (ha : DA X W [a, b] h) (hx : X.env.scope.names.lookup x = some .local := by rfl) (hy : X.env.scope.names.lookup y = some .local := by rfl)
    (hw : swappedStores [.Tuple [.Name x p1, .Name y p2] k1 q1] (.Tuple [a, b] k2 q2) X.env = pure (some [x, y]) := by rfl)
    (hs : swapsWithSole [.Tuple [.Name x p1, .Name y p2] k1 q1] (.Tuple [a, b] k2 q2) pos.line X.env = pure false := by rfl) :
    DS X W (.Assign [.Tuple [.Name x p1, .Name y p2] k1 q1] (.Tuple [a, b] k2 q2) pos) (sPar i j h) := psW (ps_par hc hN hi hj hij hx hy ha hw hs) fun De σ H ⟨F, M, env, Q, QE, R, q, hxx, k1, k2, k3, k4⟩ => by
  refine ⟨F, M, env, _, QE, R, wpT_bind.mp q, hxx, fun vs H1 F1 M1 ds env1 x1 R1 p1 q1 => ?_⟩
  dsimp only at q1
  split at q1
  · cases p1 with
    | cons r1 t => cases t with
      | cons r2 t =>
        cases t
        exact ⟨_, _, rfl, k1 _ _ _ _ _ x1 ((R1.set i r1).set j r2) q1⟩
  · exact q1.elim
theorem ds_par3 (hc : X.calm = true) (hN : X.N.Nodup) (hi : X.N[i]? = some x) (hj : X.N[j]? = some y) (hl : X.N[l]? = some z) (hij : i ≠ j) (hil : i ≠ l) (hjl : j ≠ l) (ha : DA X W [a, b, c] h) (hx : X.env.scope.names.lookup x = some .local := by rfl) (hy : X.env.scope.names.lookup y = some .local := by rfl) (hz : X.env.scope.names.lookup z = some .local := by rfl)
    (hw : swappedStores [.Tuple [.Name x p1, .Name y p2, .Name z p3] k1 q1] (.Tuple [a, b, c] k2 q2) X.env = pure (some [x, y, z]) := by rfl)
    (hs : swapsWithSole [.Tuple [.Name x p1, .Name y p2, .Name z p3] k1 q1] (.Tuple [a, b, c] k2 q2) pos.line X.env = pure false := by rfl) :
    DS X W (.Assign [.Tuple [.Name x p1, .Name y p2, .Name z p3] k1 q1] (.Tuple [a, b, c] k2 q2) pos) (sPar3 i j l h) := psW (ps_par3 hc hN hi hj hl hij hil hjl hx hy hz ha hw hs) fun De σ H ⟨F, M, env, Q, QE, R, q, hxx, k1, k2, k3, k4⟩ => by
  refine ⟨F, M, env, _, QE, R, wpT_bind.mp q, hxx, fun vs H1 F1 M1 ds env1 x1 R1 p1 q1 => ?_⟩
  dsimp only at q1
  split at q1
  · cases p1 with
    | cons r1 t => cases t with
      | cons r2 t => cases t with
        | cons r3 t =>
          cases t
          exact ⟨_, _, _, rfl, k1 _ _ _ _ _ x1 (((R1.set i r1).set j r2).set l r3) q1⟩
  · exact q1.elim
theorem ds_twoP (hc : X.calm = true) (hN : X.N.Nodup) (hi : X.N[i]? = some x) (hj : X.N[j]? = some y) (hij : i ≠ j) (h1 : DF X W a f) (h2 : DF X W b g) (hx : X.env.scope.names.lookup x = some .local := by rfl) (hy : X.env.scope.names.lookup y = some .local := by rfl)
    (ha : starEach [a, b] X.env = (false, eval a X.env) :: starEach [b] X.env := by rfl) (hb : starEach [b] X.env = (false, eval b X.env) :: starEach [] X.env := by rfl)
    (hw : swappedStores [.Tuple [.Name x p1, .Name y p2] k1 q1] (.Tuple [a, b] k2 q2) X.env = pure (some [x, y]) := by rfl)
    (hs : swapsWithSole [.Tuple [.Name x p1, .Name y p2] k1 q1] (.Tuple [a, b] k2 q2) pos.line X.env = pure false := by rfl) :
    DS X W (.Assign [.Tuple [.Name x p1, .Name y p2] k1 q1] (.Tuple [a, b] k2 q2) pos) (sTwo i j f g) := psW (ps_par hc hN hi hj hij hx hy (pa_cons h1 (pa_cons h2 pa_nil hb) ha) hw hs) fun De σ H ⟨F, M, env, Q, QE, R, q, hxx, k1, k2, k3, k4⟩ => by
  refine ⟨F, M, env, _, QE, R, wpT_bind.mp q, hxx, fun a1 H1 F1 M1 d1 env1 x1 R1 na1 nF1 nM1 ow1 q1 => ?_⟩
  refine ⟨F1, M1, env1, _, QE, R1, wpT_bind.mp q1, hxx.mono x1, fun a2 H2 F2 M2 d2 env2 x2 R2 na2 nF2 nM2 ow2 q2 => ?_⟩
  obtain ⟨u1, hu1', _⟩ := own_mut ow1
  obtain ⟨k1', nF1', nM1'⟩ := x2.outside hu1' nF1 nM1
  have ow1' : Own X.prog X.w X.K F2 H2 d1 a1 := ow1.keeps (x2.keeps R1.sep) fun o ho => by rw [hu1'] at ho; cases ho; exact k1'
  have n12 : a2 ≠ a1 := fun z => by rw [z, hu1'] at na2; cases na2
  have R3 := R2.setM i nF1' nM1' ow1'
  have R4 := R3.setM j nF2 (fun m => m.elim nM2 n12) ow2
  have e3 := x1.trans x2
  have na1H : H a1 = none := na1
  have na2H : H a2 = none := by
    cases z : H a2 with
    | none => rfl
    | some o => obtain ⟨o', e'⟩ := x1.there a2 o z; rw [na2] at e'; cases e'
  exact ⟨_, _, rfl, k1 _ _ F2 (fun z => (M2 z ∨ z = a1) ∨ z = a2) _ ⟨e3.sub, e3.new, fun z hz => (hz.elim (fun hz => hz.elim (e3.own z) fun e => .inr (e ▸ na1H)) fun e => .inr (e ▸ na2H)), e3.keep, e3.there⟩ R4 q2⟩
end
theorem bt_len : bootBuiltins ("len" : Str) = some (.builtin "len") := by decide +kernel
theorem bt_max : bootBuiltins ("max" : Str) = some (.builtin "max") := by decide +kernel
theorem bt_min : bootBuiltins ("min" : Str) = some (.builtin "min") := by decide +kernel
theorem bt_sum : bootBuiltins ("sum" : Str) = some (.builtin "sum") := by decide +kernel
theorem bt_any : bootBuiltins ("any" : Str) = some (.builtin "any") := by decide +kernel
theorem bt_all : bootBuiltins ("all" : Str) = some (.builtin "all") := by decide +kernel
theorem bt_abs : bootBuiltins ("abs" : Str) = some (.builtin "abs") := by decide +kernel
theorem bt_sorted : bootBuiltins ("sorted" : Str) = some (.builtin "sorted") := by decide +kernel
theorem bt_tuple : bootBuiltins ("tuple" : Str) = some (.type "tuple") := by decide +kernel
theorem bt_list : bootBuiltins ("list" : Str) = some (.type "list") := by decide +kernel
theorem bt_str : bootBuiltins ("str" : Str) = some (.type "str") := by decide +kernel
theorem bt_int : bootBuiltins ("int" : Str) = some (.type "int") := by decide +kernel
theorem bt_dict : bootBuiltins ("dict" : Str) = some (.type "dict") := by decide +kernel
end DL
set_option Elab.async false
set_option linter.all false
set_option maxRecDepth 100000
set_option autoImplicit false
set_option maxHeartbeats 1000000
/-! The data layer, part 19: the tape's two helpers on data. -/
namespace DL
open PySem PySem.Spec PyProof.Rows L2
noncomputable def m__law_tape : MS := (sSeq (sSetM 1 (mLc [2] (iAny (mVar 0)) (gSet 2) mYes (mS dAbs (mCons (mS dInt (mCons (mVar 2) mNil)) mNil))))
  (sSeq (sAsg (mC (.int 7)) (gSet 3))
  (sSeq (sFor (iAny (mVar 1)) (gSet 2) (sAsg (m2 dMod (mS dInt (mCons (m2 dAdd (m2 dMul (mVar 3) (mC (.int 31))) (mVar 2)) mNil)) (mC (.int 2147483647))) (gSet 3)))
  sNext)))
noncomputable def ff__law_tape : MD := (mDisp (((mC (.str "cells")), (mVar 1)) :: ((mC (.str "at")), (mC (.int 0))) :: ((mC (.str "left")), (mC (.int 0))) :: ((mC (.str "seed")), (mVar 3)) :: ((mC (.str "salt")), (mC (.int 0))) :: []))
noncomputable def m__law_take : MS := (sSeq (sIf (mAnd (mTest isBl (m2 dEq (mIxB 0 (mC (.str "left"))) (mC (.int 0)))) (mTest isBl (m2 dLt (mIxB 0 (mC (.str "at"))) (mS dLenA (mCons (mIxB 0 (mC (.str "cells"))) mNil))))) (sSeq (sStore 0 (mC (.str "left")) (m2 dIxA (mIxB 0 (mC (.str "cells"))) (mIxB 0 (mC (.str "at")))))
  (sStore 0 (mC (.str "at")) (m2 dAdd (mIxB 0 (mC (.str "at"))) (mC (.int 1))))) sNext)
  (sSeq (sIf (mTest isBl (m2 dGt (mIxB 0 (mC (.str "left"))) (mC (.int 0)))) (sSeq (sAsg (m2 dMod (mS dInt (mCons (mIxB 0 (mC (.str "left"))) mNil)) (mVar 1)) (gSet 2))
  (sSeq (sStore 0 (mC (.str "left")) (m2 dFdiv (mIxB 0 (mC (.str "left"))) (mVar 1)))
  (sRet (mVar 2)))) sNext)
  (sSeq (sStore 0 (mC (.str "salt")) (m2 dAdd (mIxB 0 (mC (.str "salt"))) (mC (.int 1))))
  (sSeq (sAsg (m2 dMod (mS dInt (mCons (m2 dAdd (m2 dMul (mIxB 0 (mC (.str "seed"))) (mC (.int 48271))) (m2 dMul (mIxB 0 (mC (.str "salt"))) (mC (.int 69621)))) mNil)) (mC (.int 2147483647))) (gSet 3))
  (sSeq (sAsg (m2 dMod (mS dInt (mCons (m2 dAdd (m2 dAdd (m2 dMul (mVar 3) (mVar 3)) (m2 dMul (mIxB 0 (mC (.str "salt"))) (mC (.int 40692)))) (mC (.int 12345))) mNil)) (mC (.int 2147483399))) (gSet 3))
  (sRet (m2 dMod (mS dInt (mCons (mVar 3) mNil)) (mVar 1))))))))
theorem seq_nx {m n : MS} {env : Env} {P : Env → Prop} {Q : Fl × Env → Prop} {E : Str → Env → Prop} (h1 : wpT (m env) (fun r => r.1 = .nx ∧ P r.2) E) (h2 : ∀ e, P e → wpT (n e) Q E) : wpT (sSeq m n env) Q E := by
  refine wpT_bind.mpr (wpT_mono (fun r hr => ?_) (fun _ _ z => z) h1)
  obtain ⟨f, e⟩ := r
  obtain ⟨rfl, hp⟩ := hr
  exact h2 e hp
section
variable {c : Addr} {cs : List Int} {a l s t : Int} {v1 v2 v3 : Sl}
theorem tg_left : mIxB 0 (mC (.str "left")) [.mut (tapeD c cs a l s t), v1, v2, v3] = .ret (.int l, [.mut (tapeD c cs a l s t), v1, v2, v3]) := rfl
theorem tg_at : mIxB 0 (mC (.str "at")) [.mut (tapeD c cs a l s t), v1, v2, v3] = .ret (.int a, [.mut (tapeD c cs a l s t), v1, v2, v3]) := rfl
theorem tg_cells : mIxB 0 (mC (.str "cells")) [.mut (tapeD c cs a l s t), v1, v2, v3] = .ret (.cel c cs, [.mut (tapeD c cs a l s t), v1, v2, v3]) := rfl
theorem tg_seed : mIxB 0 (mC (.str "seed")) [.mut (tapeD c cs a l s t), v1, v2, v3] = .ret (.int s, [.mut (tapeD c cs a l s t), v1, v2, v3]) := rfl
theorem tg_salt : mIxB 0 (mC (.str "salt")) [.mut (tapeD c cs a l s t), v1, v2, v3] = .ret (.int t, [.mut (tapeD c cs a l s t), v1, v2, v3]) := rfl
theorem ts_left {x : Int} : gStore (tapeD c cs a l s t) (.str "left") (.int x) = some (tapeD c cs a x s t) := rfl
theorem ts_at {x : Int} : gStore (tapeD c cs a l s t) (.str "at") (.int x) = some (tapeD c cs x l s t) := rfl
theorem ts_salt {x : Int} : gStore (tapeD c cs a l s t) (.str "salt") (.int x) = some (tapeD c cs a l s x) := rfl
theorem ts_store {f g : MD} {x : Int} {k : Str} {d' : D} (hg : g [.mut (tapeD c cs a l s t), v1, v2, v3] = .ret (.int x, [.mut (tapeD c cs a l s t), v1, v2, v3])) (hf : f [.mut (tapeD c cs a l s t), v1, v2, v3] = .ret (.str k, [.mut (tapeD c cs a l s t), v1, v2, v3])) (hd : gStore (tapeD c cs a l s t) (.str k) (.int x) = some d') :
    sStore 0 f g [.mut (tapeD c cs a l s t), v1, v2, v3] = .ret (.nx, [.mut d', v1, v2, v3]) := by
  show (g _).bind _ = _
  rw [hg]
  show (f _).bind _ = _
  rw [hf]
  show (T.of (gStore _ _ _)).bind _ = _
  rw [hd]
  rfl
theorem m2_eq {g : D → D → Option D} {f h : MD} {e : Env} {x y z : D} (hf : f e = .ret (x, e)) (hh : h e = .ret (y, e)) (hg : g x y = some z) : m2 g f h e = .ret (z, e) := by
  show (f e).bind _ = _
  rw [hf]
  show (h e).bind _ = _
  rw [hh]
  show (T.of (g x y)).bind _ = _
  rw [hg]
  rfl
theorem mS1_eq {g : List D → Option D} {f : MD} {e : Env} {x z : D} (hf : f e = .ret (x, e)) (hg : g [x] = some z) : mS g (mCons f mNil) e = .ret (z, e) := by
  show (T.bind (T.bind (f e) _) _) = _
  rw [hf]
  show (T.of (g [x])).bind _ = _
  rw [hg]
  rfl
theorem test_eq {g : D → Option Bool} {f : MD} {e : Env} {x : D} {b : Bool} (hf : f e = .ret (x, e)) (hg : g x = some b) : mTest g f e = .ret (b, e) := by
  show (f e).bind _ = _
  rw [hf]
  show (T.of (g x)).bind _ = _
  rw [hg]
  rfl
theorem and_eq {f g : MB} {e : Env} {a b : Bool} (hf : f e = .ret (a, e)) (hg : a = true → g e = .ret (b, e)) : mAnd f g e = .ret (a && b, e) := by
  show (f e).bind _ = _
  rw [hf]
  cases a with
  | true => exact hg rfl
  | false => rfl
theorem sIf_eq {c : MB} {m n : MS} {e : Env} {b : Bool} (hc : c e = .ret (b, e)) : sIf c m n e = if b = true then m e else n e := by
  show (c e).bind _ = _
  rw [hc]
  rfl
theorem sAsg_eq {f : MD} {i : Nat} {e : Env} {x : D} (hf : f e = .ret (x, e)) : sAsg f (gSet i) e = .ret (.nx, e.set i (.val x)) := by
  show (f e).bind _ = _
  rw [hf]
  rfl
theorem sRet_eq {f : MD} {e : Env} {x : D} (hf : f e = .ret (x, e)) : sRet f e = .ret (.rt x, e) := by
  show (f e).bind _ = _
  rw [hf]
  rfl
theorem seq_eq {m n : MS} {e e' : Env} (hm : m e = .ret (.nx, e')) : sSeq m n e = n e' := by
  show (m e).bind _ = _
  rw [hm]
  rfl
theorem seq_rt {m n : MS} {e e' : Env} {d : D} (hm : m e = .ret (.rt d, e')) : sSeq m n e = .ret (.rt d, e') := by
  show (m e).bind _ = _
  rw [hm]
  rfl
theorem dMul_r {i j : Int} (h : fit64 j = true) : dMul (.int i) (.int j) = some (.int (i * j)) := by
  show (if fit64 i || fit64 j then some (D.int (i * j)) else none) = _
  rw [h, Bool.or_true]; rfl
theorem atI_ok {α : Type} {xs : List α} {i : Int} (h0 : 0 ≤ i) (h1 : i < xs.length) : ∃ v, L2.atI xs i = some v ∧ v ∈ xs := by
  have hl : i.toNat < xs.length := by omega
  refine ⟨xs[i.toNat], ?_, List.getElem_mem hl⟩
  have := L2.atI_nat (List.getElem?_eq_getElem hl)
  rwa [Int.toNat_of_nonneg h0] at this
theorem take_is : TakeOk 4 m__law_take := by
  rintro c cs d many hcs ⟨a, l, s, t, h1, h2, h3, h4, h5, rfl⟩ hm hm2
  show wpT (m__law_take [.mut (tapeD c cs a l s t), .val (.int many), .un, .un]) _ _
  -- what lies behind the first test
  have tail : ∀ (a l : Int), 0 ≤ a → 0 ≤ l → wpT (sSeq (sIf (mTest isBl (m2 dGt (mIxB 0 (mC (.str "left"))) (mC (.int 0)))) (sSeq (sAsg (m2 dMod (mS dInt (mCons (mIxB 0 (mC (.str "left"))) mNil)) (mVar 1)) (gSet 2))
      (sSeq (sStore 0 (mC (.str "left")) (m2 dFdiv (mIxB 0 (mC (.str "left"))) (mVar 1)))
      (sRet (mVar 2)))) sNext)
      (sSeq (sStore 0 (mC (.str "salt")) (m2 dAdd (mIxB 0 (mC (.str "salt"))) (mC (.int 1))))
      (sSeq (sAsg (m2 dMod (mS dInt (mCons (m2 dAdd (m2 dMul (mIxB 0 (mC (.str "seed"))) (mC (.int 48271))) (m2 dMul (mIxB 0 (mC (.str "salt"))) (mC (.int 69621)))) mNil)) (mC (.int 2147483647))) (gSet 3))
      (sSeq (sAsg (m2 dMod (mS dInt (mCons (m2 dAdd (m2 dAdd (m2 dMul (mVar 3) (mVar 3)) (m2 dMul (mIxB 0 (mC (.str "salt"))) (mC (.int 40692)))) (mC (.int 12345))) mNil)) (mC (.int 2147483399))) (gSet 3))
      (sRet (m2 dMod (mS dInt (mCons (mVar 3) mNil)) (mVar 1)))))) [.mut (tapeD c cs a l s t), .val (.int many), .un, .un]) (fun (f, e) => ∃ r d', f = .rt (.int r) ∧ 0 ≤ r ∧ r < many ∧ e[0]? = some (.mut d') ∧ TapeIs c cs d') (fun _ _ => False) := by
    intro a l ha hl
    have htest : mTest isBl (m2 dGt (mIxB 0 (mC (.str "left"))) (mC (.int 0))) [.mut (tapeD c cs a l s t), .val (.int many), .un, .un] = .ret (decide (0 < l), [.mut (tapeD c cs a l s t), .val (.int many), .un, .un]) := test_eq (m2_eq tg_left rfl rfl) rfl
    by_cases hl0 : 0 < l
    · have e1 : sIf (mTest isBl (m2 dGt (mIxB 0 (mC (.str "left"))) (mC (.int 0)))) (sSeq (sAsg (m2 dMod (mS dInt (mCons (mIxB 0 (mC (.str "left"))) mNil)) (mVar 1)) (gSet 2))
          (sSeq (sStore 0 (mC (.str "left")) (m2 dFdiv (mIxB 0 (mC (.str "left"))) (mVar 1)))
          (sRet (mVar 2)))) sNext [.mut (tapeD c cs a l s t), .val (.int many), .un, .un] = .ret (.rt (.int (l % many)), [.mut (tapeD c cs a (l / many) s t), .val (.int many), .val (.int (l % many)), .un]) := by
        rw [sIf_eq htest, if_pos (decide_eq_true hl0)]
        rw [seq_eq (sAsg_eq (m2_eq (mS1_eq tg_left rfl) rfl (show dMod (.int l) (.int many) = some (.int (l % many)) from if_pos hm)))]
        show sSeq _ _ [.mut (tapeD c cs a l s t), .val (.int many), .val (.int (l % many)), .un] = _
        rw [seq_eq (ts_store (m2_eq tg_left rfl (show dFdiv (.int l) (.int many) = some (.int (l / many)) from if_pos ⟨hm, hm2⟩)) rfl ts_left)]
        exact sRet_eq rfl
      rw [seq_rt e1]
      exact ⟨l % many, _, rfl, Int.emod_nonneg _ (by omega), Int.emod_lt_of_pos _ hm, rfl, a, l / many, s, t, ha, Int.ediv_nonneg hl (by omega), h3, h4, h5, rfl⟩
    · rw [seq_eq (e' := [.mut (tapeD c cs a l s t), .val (.int many), .un, .un]) (by rw [sIf_eq htest, if_neg (by simpa using hl0)]; rfl)]
      rw [seq_eq (ts_store (m2_eq tg_salt rfl rfl) rfl ts_salt)]
      have f1 : m2 dMod (mS dInt (mCons (m2 dAdd (m2 dMul (mIxB 0 (mC (.str "seed"))) (mC (.int 48271))) (m2 dMul (mIxB 0 (mC (.str "salt"))) (mC (.int 69621)))) mNil)) (mC (.int 2147483647)) [.mut (tapeD c cs a l s (t + 1)), .val (.int many), .un, .un] = .ret (.int ((s * 48271 + (t + 1) * 69621) % 2147483647), [.mut (tapeD c cs a l s (t + 1)), .val (.int many), .un, .un]) :=
        m2_eq (mS1_eq (m2_eq (m2_eq tg_seed rfl (dMul_r (by decide))) (m2_eq tg_salt rfl (dMul_r (by decide))) rfl) rfl) rfl rfl
      rw [seq_eq (sAsg_eq f1)]
      generalize hx : (s * 48271 + (t + 1) * 69621) % 2147483647 = x
      have hx0 : 0 ≤ x := by rw [← hx]; exact Int.emod_nonneg _ (by decide)
      have hx1 : x < 2147483647 := by rw [← hx]; exact Int.emod_lt_of_pos _ (by decide)
      have hfx : fit64 x = true := by
        unfold fit64
        rw [Bool.and_eq_true]
        exact ⟨decide_eq_true (by omega), decide_eq_true (by omega)⟩
      show wpT (sSeq _ _ [.mut (tapeD c cs a l s (t + 1)), .val (.int many), .un, .val (.int x)]) _ _
      have f2 : m2 dMod (mS dInt (mCons (m2 dAdd (m2 dAdd (m2 dMul (mVar 3) (mVar 3)) (m2 dMul (mIxB 0 (mC (.str "salt"))) (mC (.int 40692)))) (mC (.int 12345))) mNil)) (mC (.int 2147483399)) [.mut (tapeD c cs a l s (t + 1)), .val (.int many), .un, .val (.int x)] = .ret (.int ((x * x + (t + 1) * 40692 + 12345) % 2147483399), [.mut (tapeD c cs a l s (t + 1)), .val (.int many), .un, .val (.int x)]) :=
        m2_eq (mS1_eq (m2_eq (m2_eq (m2_eq rfl rfl (dMul_r hfx)) (m2_eq tg_salt rfl (dMul_r (by decide))) rfl) rfl rfl) rfl) rfl rfl
      rw [seq_eq (sAsg_eq f2)]
      generalize (x * x + (t + 1) * 40692 + 12345) % 2147483399 = y
      show wpT (sRet _ [.mut (tapeD c cs a l s (t + 1)), .val (.int many), .un, .val (.int y)]) _ _
      rw [sRet_eq (m2_eq (mS1_eq rfl rfl) rfl (show dMod (.int y) (.int many) = some (.int (y % many)) from if_pos hm))]
      exact ⟨y % many, _, rfl, Int.emod_nonneg _ (by omega), Int.emod_lt_of_pos _ hm, rfl, a, l, s, t + 1, ha, hl, h3, h4, by omega, rfl⟩
  -- the first test
  unfold m__law_take
  have hb : mAnd (mTest isBl (m2 dEq (mIxB 0 (mC (.str "left"))) (mC (.int 0)))) (mTest isBl (m2 dLt (mIxB 0 (mC (.str "at"))) (mS dLenA (mCons (mIxB 0 (mC (.str "cells"))) mNil)))) [.mut (tapeD c cs a l s t), .val (.int many), .un, .un] = .ret (decide (l = 0) && decide (a < (cs.length : Int)), [.mut (tapeD c cs a l s t), .val (.int many), .un, .un]) :=
    and_eq (test_eq (m2_eq tg_left rfl rfl) rfl) fun _ => test_eq (m2_eq tg_at (mS1_eq tg_cells rfl) rfl) rfl
  by_cases hc : (decide (l = 0) && decide (a < (cs.length : Int))) = true
  · rw [Bool.and_eq_true, decide_eq_true_eq, decide_eq_true_eq] at hc
    obtain ⟨n, e1, e2⟩ := atI_ok (xs := cs) h1 hc.2
    have e3 : dIxA (.cel c cs) (.int a) = some (.int n) := by
      show (L2.atI cs a).map D.int = _
      rw [e1]; rfl
    rw [seq_eq (e' := [.mut (tapeD c cs (a + 1) n s t), .val (.int many), .un, .un]) (by
      rw [sIf_eq hb, if_pos (by rw [Bool.and_eq_true, decide_eq_true_eq, decide_eq_true_eq]; exact hc)]
      rw [seq_eq (ts_store (m2_eq tg_cells tg_at e3) rfl ts_left)]
      exact ts_store (m2_eq tg_at rfl rfl) rfl ts_at)]
    exact tail _ _ (by omega) (hcs n e2)
  · rw [seq_eq (e' := [.mut (tapeD c cs a l s t), .val (.int many), .un, .un]) (by rw [sIf_eq hb, if_neg hc]; rfl)]
    exact tail a l h1 h2
/-! ### the tape is made -/
theorem nox_eq {α : Type} {t : T α} {a : α} (h : t = .ret a) : t.nox = .ret a := by rw [h]; rfl
abbrev absI (n : Int) : Int := if n < 0 then -n else n
theorem absgo : ∀ (ns acc : List Int) (v0 v1 v3 : Sl), acc.length + ns.length ≤ 1000 →
    lcGo [2] (gSet 2) mYes (mS dAbs (mCons (mS dInt (mCons (mVar 2) mNil)) mNil)) (ns.map D.int) (acc.map D.int) [v0, v1, .un, v3] = .ret ((acc ++ ns.map fun n => absI n).map D.int, [v0, v1, .un, v3])
  | [], acc, v0, v1, v3, _ => by
    show T.ret _ = _
    simp
  | n :: r, acc, v0, v1, v3, h => by
    have hz : (acc.map D.int).length < sizeLine := by
      rw [List.length_map, sizeLine_eq]
      rw [List.length_cons] at h
      omega
    have ih := absgo r (acc ++ [absI n]) v0 v1 v3 (by rw [List.length_append, List.length_singleton]; rw [List.length_cons] at h; omega)
    show (if (acc.map D.int).length < sizeLine then lcGo [2] (gSet 2) mYes (mS dAbs (mCons (mS dInt (mCons (mVar 2) mNil)) mNil)) (r.map D.int) (acc.map D.int ++ [.int (absI n)]) [v0, v1, .un, v3] else .stuck) = _
    rw [if_pos hz]
    rw [List.map_append] at ih
    rw [show acc.map D.int ++ [.int (absI n)] = acc.map D.int ++ [absI n].map D.int from rfl, ih]
    simp
theorem seedgo : ∀ (ns : List Int) (v0 v1 v2 : Sl) (s : Int), 0 ≤ s → s < 2147483647 → ∃ s' v2', 0 ≤ s' ∧ s' < 2147483647 ∧
    forGo (gSet 2) (sAsg (m2 dMod (mS dInt (mCons (m2 dAdd (m2 dMul (mVar 3) (mC (.int 31))) (mVar 2)) mNil)) (mC (.int 2147483647))) (gSet 3)) (ns.map D.int) [v0, v1, v2, .val (.int s)] = .ret (.nx, [v0, v1, v2', .val (.int s')])
  | [], v0, v1, v2, s, h1, h2 => ⟨s, v2, h1, h2, rfl⟩
  | n :: r, v0, v1, v2, s, h1, h2 => by
    obtain ⟨s', v2', e1, e2, e3⟩ := seedgo r v0 v1 (.val (.int n)) ((s * 31 + n) % 2147483647) (Int.emod_nonneg _ (by decide)) (Int.emod_lt_of_pos _ (by decide))
    refine ⟨s', v2', e1, e2, ?_⟩
    rw [← e3]
    have f1 : sAsg (m2 dMod (mS dInt (mCons (m2 dAdd (m2 dMul (mVar 3) (mC (.int 31))) (mVar 2)) mNil)) (mC (.int 2147483647))) (gSet 3) [v0, v1, .val (.int n), .val (.int s)] = .ret (.nx, [v0, v1, .val (.int n), .val (.int ((s * 31 + n) % 2147483647))]) :=
      sAsg_eq (m2_eq (mS1_eq (m2_eq (m2_eq rfl rfl (dMul_r (by decide))) rfl rfl) rfl) rfl rfl)
    show (sAsg _ (gSet 3) [v0, v1, .val (.int n), .val (.int s)]).bind _ = _
    rw [f1]
    rfl
theorem make_is : MakeOk 4 m__law_tape ff__law_tape := by
  intro ns hns
  show wpT (mFin m__law_tape ff__law_tape [.val (.scr ns), .un, .un, .un]) _ _
  have e1 : sSetM 1 (mLc [2] (iAny (mVar 0)) (gSet 2) mYes (mS dAbs (mCons (mS dInt (mCons (mVar 2) mNil)) mNil))) [.val (.scr ns), .un, .un, .un] = .ret (.nx, [.val (.scr ns), .mut (.lst ((ns.map fun n => absI n).map D.int)), .un, .un]) := by
    have := absgo ns [] (.val (.scr ns)) .un .un (by simpa using hns)
    show (T.bind (T.bind (T.nox (lcGo [2] (gSet 2) mYes _ (ns.map D.int) ([] : List D) [.val (.scr ns), .un, .un, .un])) _) _) = _
    have this' : lcGo [2] (gSet 2) mYes (mS dAbs (mCons (mS dInt (mCons (mVar 2) mNil)) mNil)) (ns.map D.int) ([] : List D) [.val (.scr ns), .un, .un, .un] = _ := this
    rw [nox_eq this']
    rfl
  obtain ⟨s', v2', g1, g2, g3⟩ := seedgo (ns.map fun n => absI n) (.val (.scr ns)) (.val (.lst ((ns.map fun n => absI n).map D.int))) .un 7 (by decide) (by decide)
  have e2 : m__law_tape [.val (.scr ns), .un, .un, .un] = .ret (.nx, [.val (.scr ns), .val (.lst ((ns.map fun n => absI n).map D.int)), v2', .val (.int s')]) := by
    unfold m__law_tape
    rw [seq_eq e1]
    rw [seq_eq (sAsg_eq rfl)]
    show sSeq _ _ [.val (.scr ns), .mut (.lst ((ns.map fun n => absI n).map D.int)), .un, .val (.int 7)] = _
    rw [seq_eq (e' := [.val (.scr ns), .val (.lst ((ns.map fun n => absI n).map D.int)), v2', .val (.int s')])]
    · rfl
    · rw [← g3]; rfl
  show wpT ((m__law_tape _).bind _) _ _
  rw [e2]
  refine ⟨ns.map fun n => absI n, 0, 0, s', 0, fun i hi => ?_, by decide, by decide, g1, g2, by decide, rfl⟩
  obtain ⟨n, _, rfl⟩ := List.mem_map.mp hi
  show 0 ≤ (if n < 0 then -n else n)
  split <;> omega
end
end DL
set_option Elab.async false
set_option linter.all false
set_option maxRecDepth 100000
set_option autoImplicit false
set_option maxHeartbeats 1000000
/-! The data layer, part 20: the end. -/
namespace DL
open PySem PySem.Spec PyProof.Rows L2
/-- what the law's def promises -/
def spLaw (K : PySem.W.Frag) : Sp := fun vs H Q _ => ∃ (a : Addr) (ns : List Int), vs = [.ref a] ∧ ns.length ≤ 63 ∧ SqL K H a (ns.map V.int) ∧ ∀ H', Q (.bl true) H'
theorem law_imp {P : Program} {w : World} {K : PySem.W.Frag} {mg : Str → Option Value} {g : MF} (hg : ∀ ns : List Int, ns.length ≤ 63 → wpT (g [.scr ns]) (fun d => d = .bl true) fun _ _ => False) : ∀ vs H Q E, spLaw K vs H Q E → spD P w K mg 1 g vs H Q E := by
  rintro vs H Q E ⟨a, ns, rfl, hn, hS, k⟩
  refine ⟨rfl, fun x => x = a ∧ ∃ o, H x = some o, [.scr ns], _, _, fun x hx => hx.2, .cons ?_ .nil, hg ns hn, fun v H' F' d g r e => ?_, fun _ _ _ _ _ _ z => z.elim⟩
  · rcases hS with h | h
    · refine .scr ⟨rfl, ?_⟩ h
      rcases h with h | ⟨o, h⟩
      · exact ⟨_, h⟩
      · exact ⟨_, h⟩
    · exact .scrK h
  · subst e
    cases r
    exact k H'
theorem walk {l : PySem.W.OpenLaw} {q : Program} {loose : List Str} {XP : (Str → Option Value) → Heap → Prop} {YP : World → Heap → Prop} {d : DefRec} {K : Params → PySem.W.Frag} {k : Nat} (hn : l.most = some 63) (hdf : d.params.defaults = []) (hr : Room k callerA)
    (hY : ∀ (w : World) (h : Heap), YP w h → (K w.params).In h)
    (F : ∀ (w : World) (mg : Str → Option Value) (fa : Addr) (h : Heap), (K w.params).In h → h.Ns mainGlobals mg → mg d.name = some (.ref fa) →
      ∃ fd : FuncData, (∀ (s : Shared) (u : Value), BindsTo s fd ⟨[u], []⟩ [("script", u)]) ∧ ∀ base : Heap, (K w.params).In base → base.Ns mainGlobals mg → FnOk l.prog w (K w.params) mg base (L2.CX l.prog w) k fa fd ["script"] (spLaw (K w.params))) :
    PySem.W.WalkO q loose XP YP l.row.toRowW d [] (fun f vs => PySem.call f vs) :=
  L2.walk_of (n := 63) (k := k) (x := "script") (CX := fun w => L2.CX l.prog w) (sp := fun w => spLaw (K w.params)) hn (by decide) hdf hr hY F (fun _ _ a ns hl _ hS => ⟨a, ns, rfl, hl, hS, fun _ => rfl⟩)
    fun _ _ _ _ _ ⟨_, _, _, _, _, _, _, _, _, _, _, _, z⟩ => z.elim
end DL
set_option Elab.async false
set_option linter.all false
set_option maxRecDepth 100000
set_option autoImplicit false
set_option maxHeartbeats 1000000
/-! Plain facts of mirrors, part 1: comprehensions, pairs of ints. -/
namespace DL
open PySem L2
theorem wipeE_out {env : Env} {i : Nat} : ∀ {vs : List Nat}, i ∉ vs → (wipeE env vs)[i]? = env[i]?
  | [], _ => rfl
  | v :: vs, h => by
    simp only [List.mem_cons, not_or] at h
    unfold wipeE
    rw [List.getElem?_set_ne (fun e => h.1 e.symm)]
    exact wipeE_out h.2
theorem backE_wipe (env : Env) (vs : List Nat) : backE env (wipeE env vs) vs = env := by
  refine List.ext_getElem? fun i => ?_
  have hl : (backE env (wipeE env vs) vs).length = env.length := by rw [backE_length, wipeE_length]
  by_cases hi : i < env.length
  · rw [List.getElem?_eq_getElem (by rw [hl]; exact hi)]
    have h := List.getElem?_eq_getElem (l := backE env (wipeE env vs) vs) (by rw [hl]; exact hi)
    rcases backE_get h with ⟨_, h2⟩ | ⟨h1, h2⟩
    · exact h2.symm
    · by_cases hv : i ∈ vs
      · have := h2 hv
        rw [List.getElem?_eq_getElem hi] at this
        cases this
      · rw [wipeE_out hv] at h1
        exact h1.symm
  · rw [List.getElem?_eq_none (by rw [hl]; omega), List.getElem?_eq_none (by omega)]
section
variable {ι : Type} {vs : List Nat} {g : MG} {tt : MB} {fe fk fv : MD} {fl : ML} {f : ι → D} {β : ι → Bool} {φ : ι → D} {e0 e : Env}
/-- one turn of a comprehension that changes nothing -/
def StepOk (vs : List Nat) (g : MG) (tt : MB) (fe : MD) (e0 : Env) (d : D) (b : Bool) (r : D) : Prop :=
  ∃ e1 e2, g d e0 = .ret e1 ∧ tt e1 = .ret (b, e2) ∧ (b = false → wipeE e2 vs = e0) ∧ (b = true → ∃ e3, fe e2 = .ret (r, e3) ∧ wipeE e3 vs = e0)
theorem lcGo_eval : ∀ (xs : List ι) (acc : List D), (∀ x ∈ xs, StepOk vs g tt fe e0 (f x) (β x) (φ x)) → acc.length + xs.length ≤ sizeLine → lcGo vs g tt fe (xs.map f) acc e0 = .ret (acc ++ (xs.filter β).map φ, e0)
  | [], acc, _, _ => by simp [lcGo]
  | x :: r, acc, h, hl => by
    rw [List.length_cons] at hl
    obtain ⟨e1, e2, h1, h2, h3, h4⟩ := h x List.mem_cons_self
    have hr := fun y hy => h y (List.mem_cons_of_mem _ hy)
    show (g (f x) e0).bind _ = _
    rw [h1]
    show (tt e1).bind _ = _
    rw [h2]
    cases hb : β x with
    | false =>
      show lcGo vs g tt fe (r.map f) acc (wipeE e2 vs) = _
      rw [h3 hb, lcGo_eval r acc hr (by omega), List.filter_cons, hb]
      rfl
    | true =>
      obtain ⟨e3, h5, h6⟩ := h4 hb
      show (fe e2).bind _ = _
      rw [h5]
      show (if acc.length < sizeLine then lcGo vs g tt fe (r.map f) (acc ++ [φ x]) (wipeE e3 vs) else .stuck) = _
      rw [if_pos (by omega), h6, lcGo_eval r _ hr (by rw [List.length_append, List.length_singleton]; omega), List.filter_cons, hb]
      simp
theorem mLc_eval {xs : List ι} {env : Env} (hf : fl env = .ret (xs.map f, e)) (ho : ownOk e vs = true) (h : ∀ x ∈ xs, StepOk vs g tt fe (wipeE e vs) (f x) (β x) (φ x)) (hl : xs.length ≤ sizeLine) : mLc vs fl g tt fe env = .ret (.lst ((xs.filter β).map φ), e) := by
  show (fl env).bind _ = _
  rw [hf]
  show (if ownOk e vs = true then _ else _) = _
  rw [if_pos ho, lcGo_eval xs [] h (by simpa using hl)]
  show T.ret (D.lst ([] ++ _), backE e (wipeE e vs) vs) = _
  rw [backE_wipe, List.nil_append]
/-- no test -/
theorem mLc_map {xs : List ι} {env : Env} (hf : fl env = .ret (xs.map f, e)) (ho : ownOk e vs = true) (h : ∀ x ∈ xs, ∃ e1 e3, g (f x) (wipeE e vs) = .ret e1 ∧ fe e1 = .ret (φ x, e3) ∧ wipeE e3 vs = wipeE e vs) (hl : xs.length ≤ sizeLine) : mLc vs fl g mYes fe env = .ret (.lst (xs.map φ), e) := by
  rw [mLc_eval (β := fun _ => true) (φ := φ) hf ho (fun x hx => ?_) hl, List.filter_eq_self.mpr (fun _ _ => rfl)]
  obtain ⟨e1, e3, h1, h2, h3⟩ := h x hx
  exact ⟨e1, e1, h1, rfl, (fun z => Bool.noConfusion z), fun _ => ⟨e3, h2, h3⟩⟩
/-- one turn of a dict comprehension that changes nothing -/
theorem dcGo_eval {t : Bool} {ψ : ι → D} : ∀ (xs : List ι) (acc out : List (D × D)), (∀ x ∈ xs, ∃ e1 e3 e4, g (f x) e0 = .ret e1 ∧ fk e1 = .ret (φ x, e3) ∧ fv e3 = .ret (ψ x, e4) ∧ wipeE e4 vs = e0) → acc.length + xs.length ≤ sizeLine → xs.foldl (fun o x => o.bind fun a => dPut t a (φ x) (ψ x)) (some acc) = some out →
    dcGo t vs g mYes fk fv (xs.map f) acc e0 = .ret (out, e0)
  | [], acc, out, _, _, ho => by cases ho; rfl
  | x :: r, acc, out, h, hl, ho => by
    rw [List.length_cons] at hl
    obtain ⟨e1, e3, e4, h1, h2, h3, h4⟩ := h x List.mem_cons_self
    have hr := fun y hy => h y (List.mem_cons_of_mem _ hy)
    rw [List.foldl_cons] at ho
    have nonef : ∀ l : List ι, l.foldl (fun o x => o.bind fun a => dPut t a (φ x) (ψ x)) none = none := fun l => by
      induction l with
      | nil => rfl
      | cons _ _ ih => exact ih
    cases hp : dPut t acc (φ x) (ψ x) with
    | none =>
      have : (some acc).bind (fun a => dPut t a (φ x) (ψ x)) = none := hp
      rw [this, nonef] at ho
      cases ho
    | some acc' =>
      have e5 : (some acc).bind (fun a => dPut t a (φ x) (ψ x)) = some acc' := hp
      rw [e5] at ho
      have hl' : acc'.length ≤ acc.length + 1 := by
        cases t with
        | false =>
          obtain ⟨k, _, rfl⟩ := Option.map_eq_some_iff.mp hp
          exact fPut_length
        | true =>
          obtain ⟨k, _, rfl⟩ := Option.map_eq_some_iff.mp hp
          exact fPut_length
      show (g (f x) e0).bind _ = _
      rw [h1]
      show (fk e1).bind _ = _
      rw [h2]
      show (fv e3).bind _ = _
      rw [h3]
      show (if acc.length < sizeLine then (T.of (dPut t acc (φ x) (ψ x))).bind _ else .stuck) = _
      rw [if_pos (by omega), hp]
      show dcGo t vs g mYes fk fv (r.map f) acc' (wipeE e4 vs) = _
      rw [h4]
      exact dcGo_eval r acc' out hr (by omega) ho
theorem mDc_eval {t : Bool} {ψ : ι → D} {xs : List ι} {env : Env} {out : List (D × D)} (hf : fl env = .ret (xs.map f, e)) (ho : ownOk e vs = true) (h : ∀ x ∈ xs, ∃ e1 e3 e4, g (f x) (wipeE e vs) = .ret e1 ∧ fk e1 = .ret (φ x, e3) ∧ fv e3 = .ret (ψ x, e4) ∧ wipeE e4 vs = wipeE e vs) (hl : xs.length ≤ sizeLine)
    (hout : xs.foldl (fun o x => o.bind fun a => dPut t a (φ x) (ψ x)) (some []) = some out) : mDc t vs fl g mYes fk fv env = .ret (.dct t out, e) := by
  show (fl env).bind _ = _
  rw [hf]
  show (if ownOk e vs = true then _ else _) = _
  rw [if_pos ho, dcGo_eval xs [] out h (by simpa using hl) hout]
  show T.ret (D.dct t out, backE e (wipeE e vs) vs) = _
  rw [backE_wipe]
end
/-! ### finds behind puts -/
section
variable {κ : Type} [DecidableEq κ] {kf : D → Option κ}
theorem fFind_put {k j : κ} {dk d : D} (e : kf dk = some k) : ∀ {kvs : List (D × D)}, fFind kf (fPut kf kvs dk k d) j = if j = k then some d else fFind kf kvs j := by
  intro kvs
  unfold fPut
  split
  · rename_i hany
    induction kvs with
    | nil => simp at hany
    | cons p r ih =>
      unfold fFind
      rw [List.map_cons, List.find?_cons, List.find?_cons]
      by_cases hk : kf p.1 = some k
      · rw [if_pos hk]
        by_cases hj : j = k
        · subst hj
          simp [hk]
        · have h1 : ¬ (kf p.1 = some j) := fun z => hj (Option.some.inj (z.symm.trans hk))
          rw [if_neg hj]
          simp only [h1, decide_false]
          have : ∀ l : List (D × D), ((l.map fun p => if kf p.1 = some k then (p.1, d) else p).find? fun p => decide (kf p.1 = some j)).map (·.2) = (l.find? fun p => decide (kf p.1 = some j)).map (·.2) := by
            intro l
            induction l with
            | nil => rfl
            | cons q l ihl =>
              rw [List.map_cons, List.find?_cons, List.find?_cons]
              by_cases hq : kf q.1 = some k
              · rw [if_pos hq]
                have h2 : ¬ (kf q.1 = some j) := fun z => hj (Option.some.inj (z.symm.trans hq))
                simp only [h2, decide_false]
                exact ihl
              · rw [if_neg hq]
                by_cases hq2 : kf q.1 = some j
                · simp [hq2]
                · simp only [hq2, decide_false]
                  exact ihl
          exact this r
      · rw [if_neg hk]
        have hany' : (r.any fun p => decide (kf p.1 = some k)) = true := by
          rw [List.any_cons] at hany
          simpa [hk] using hany
        by_cases hq : kf p.1 = some j
        · have hj : ¬ j = k := fun z => hk (z ▸ hq)
          simp [hq, hj]
        · simp only [hq, decide_false]
          have := ih hany'
          unfold fFind at this
          exact this
  · rename_i hany
    unfold fFind
    rw [List.find?_append]
    by_cases hj : j = k
    · subst hj
      have : kvs.find? (fun p => decide (kf p.1 = some j)) = none := by
        rw [List.find?_eq_none]
        intro p hp hd
        exact hany (List.any_eq_true.mpr ⟨p, hp, hd⟩)
      rw [this]
      simp [e]
    · have h1 : ¬ k = j := fun z => hj z.symm
      rw [if_neg hj]
      simp [List.find?_cons, e, h1]
end
/-! ### pairs of ints -/
def pD (p : Int × Int) : D := .tup [.int p.1, .int p.2]
def pK (p : Int × Int) : List Key := [Sum.inl p.1, Sum.inl p.2]
theorem tk_pD (p : Int × Int) : tk (pD p) = some (pK p) := rfl
theorem pK_inj {p q : Int × Int} (h : pK p = pK q) : p = q := by
  unfold pK at h
  injection h with h1 h2
  injection h2 with h2 _
  injection h1 with h1
  injection h2 with h2
  exact Prod.ext h1 h2
theorem toI_map : ∀ xs : List Int, toI (xs.map D.int) = some xs
  | [] => rfl
  | x :: r => by
    show (toI (r.map D.int)).map (x :: ·) = _
    rw [toI_map r]; rfl
theorem toS_map : ∀ xs : List Str, toS (xs.map D.str) = some xs
  | [] => rfl
  | x :: r => by
    show (toS (r.map D.str)).map (x :: ·) = _
    rw [toS_map r]; rfl
theorem toB_map : ∀ xs : List Bool, toB (xs.map D.bl) = some xs
  | [] => rfl
  | x :: r => by
    show (toB (r.map D.bl)).map (x :: ·) = _
    rw [toB_map r]; rfl
theorem maxI_some {xs : List Int} (h : xs ≠ []) : ∃ m, maxI xs = some m := by
  cases xs with
  | nil => exact absurd rfl h
  | cons x r => exact ⟨_, rfl⟩
theorem dMax_ints {xs : List Int} (h : xs ≠ []) : ∃ m, dMax [.lst (xs.map D.int)] = some (.int m) ∧ m ∈ xs ∧ ∀ x ∈ xs, x ≤ m := by
  obtain ⟨m, hm⟩ := maxI_some h
  refine ⟨m, ?_, (maxI_ok hm).1, (maxI_ok hm).2⟩
  show ((toI (xs.map D.int)).bind maxI).map D.int = _
  rw [toI_map]
  show (maxI xs).map D.int = _
  rw [hm]; rfl
theorem minI_some {xs : List Int} (h : xs ≠ []) : ∃ m, minI xs = some m := by
  cases xs with
  | nil => exact absurd rfl h
  | cons x r => exact ⟨_, rfl⟩
theorem dMin_ints {xs : List Int} (h : xs ≠ []) : ∃ m, dMin [.lst (xs.map D.int)] = some (.int m) ∧ m ∈ xs ∧ ∀ x ∈ xs, m ≤ x := by
  obtain ⟨m, hm⟩ := minI_some h
  refine ⟨m, ?_, (minI_ok hm).1, (minI_ok hm).2⟩
  show ((toI (xs.map D.int)).bind minI).map D.int = _
  rw [toI_map]
  show (minI xs).map D.int = _
  rw [hm]; rfl
theorem eqv_pD (p q : Int × Int) : PyData.eqv (py (pD p)) (py (pD q)) = decide (p = q) := by
  show ((p.1 == q.1) && ((p.2 == q.2) && true)) = _
  rw [Bool.and_true]
  by_cases h : p = q
  · subst h; simp
  · rw [decide_eq_false h]
    by_cases h1 : p.1 = q.1
    · have h2 : p.2 ≠ q.2 := fun z => h (Prod.ext h1 z)
      simp [h2]
    · simp [h1]
theorem plains_pD : ∀ cs : List (Int × Int), plains (cs.map pD) = true
  | [] => rfl
  | c :: r => by
    show (plain (pD c) && plains (r.map pD)) = true
    rw [plains_pD r]; rfl
end DL
set_option Elab.async false
set_option linter.all false
set_option maxRecDepth 100000
set_option autoImplicit false
set_option maxHeartbeats 4000000
namespace DL
open PySem PySem.Spec PyProof.Rows L2
def top (i : Nat) : Stmt := PySem.Challenge.pw_nogapsleft_k14_texts_of_shapes.main.body.getD i (.Pass ⟨0, 0, 0, 0⟩)
abbrev st_shape_text : Stmt := top 5
abbrev st_parse_shape : Stmt := top 6
abbrev st_tiling_text : Stmt := top 7
abbrev st_numbers_text : Stmt := top 8
abbrev st__law_tape : Stmt := top 10
abbrev st__law_take : Stmt := top 11
abbrev st__law_text : Stmt := top 12
abbrev st__law_read : Stmt := top 13
abbrev st_law : Stmt := top 14
structure Tx (K : PySem.W.Frag) (mg : Str → Option Value) where
  noT : NoT K
  m_abs : mg "abs" = none
  m_all : mg "all" = none
  m_any : mg "any" = none
  m_dict : mg "dict" = none
  m_enumerate : mg "enumerate" = none
  m_int : mg "int" = none
  m_len : mg "len" = none
  m_max : mg "max" = none
  m_min : mg "min" = none
  m_range : mg "range" = none
  m_sorted : mg "sorted" = none
  m_str : mg "str" = none
  m_tuple : mg "tuple" = none
  t_LETTERS : Tok
  g_LETTERS : mg "LETTERS" = some (.str "abcdefghijklmnopqrstuvwxyz" t_LETTERS)
  c_GapError : Addr
  xm_GapError : mg "GapError" = some (.ref c_GapError)
  xc_GapError : PySem.W.excIn K c_GapError [.type "ValueError", .type "Exception", .type "BaseException", .type "object"] "ValueError.__new__" = true
  xk_GapError : PySem.W.keepIn K (.ref c_GapError) = true
  xb_GapError : PySem.W.subIn K (.ref c_GapError) (.type "BaseException") = some true
  xy_GapError : PySem.W.typeIn K (.ref c_GapError) = some (.type "type")
  c_InvalidForm : Addr
  xm_InvalidForm : mg "InvalidForm" = some (.ref c_InvalidForm)
  xc_InvalidForm : PySem.W.excIn K c_InvalidForm [.type "ValueError", .type "Exception", .type "BaseException", .type "object"] "ValueError.__new__" = true
  xk_InvalidForm : PySem.W.keepIn K (.ref c_InvalidForm) = true
  xb_InvalidForm : PySem.W.subIn K (.ref c_InvalidForm) (.type "BaseException") = some true
  xy_InvalidForm : PySem.W.typeIn K (.ref c_InvalidForm) = some (.type "type")
  xe_GapError_GapError : PySem.W.exmOne K (.ref c_GapError) (.ref c_GapError) = some true
  xe_InvalidForm_GapError : PySem.W.exmOne K (.ref c_InvalidForm) (.ref c_GapError) = some true
  a_shape_text : Addr
  fd_shape_text : FuncData
  F_shape_text : Fun K "shape_text" "shape_text" st_shape_text a_shape_text fd_shape_text
  mg_shape_text : mg "shape_text" = some (.ref a_shape_text)
  a_parse_shape : Addr
  fd_parse_shape : FuncData
  F_parse_shape : Fun K "parse_shape" "parse_shape" st_parse_shape a_parse_shape fd_parse_shape
  mg_parse_shape : mg "parse_shape" = some (.ref a_parse_shape)
  a_tiling_text : Addr
  fd_tiling_text : FuncData
  F_tiling_text : Fun K "tiling_text" "tiling_text" st_tiling_text a_tiling_text fd_tiling_text
  mg_tiling_text : mg "tiling_text" = some (.ref a_tiling_text)
  a_numbers_text : Addr
  fd_numbers_text : FuncData
  F_numbers_text : Fun K "numbers_text" "numbers_text" st_numbers_text a_numbers_text fd_numbers_text
  mg_numbers_text : mg "numbers_text" = some (.ref a_numbers_text)
  a__law_tape : Addr
  fd__law_tape : FuncData
  F__law_tape : Fun K "_law_tape" "_law_tape" st__law_tape a__law_tape fd__law_tape
  mg__law_tape : mg "_law_tape" = some (.ref a__law_tape)
  a__law_take : Addr
  fd__law_take : FuncData
  F__law_take : Fun K "_law_take" "_law_take" st__law_take a__law_take fd__law_take
  mg__law_take : mg "_law_take" = some (.ref a__law_take)
  a__law_text : Addr
  fd__law_text : FuncData
  F__law_text : Fun K "_law_text" "_law_text" st__law_text a__law_text fd__law_text
  mg__law_text : mg "_law_text" = some (.ref a__law_text)
  a__law_read : Addr
  fd__law_read : FuncData
  F__law_read : Fun K "_law_read" "_law_read" st__law_read a__law_read fd__law_read
  mg__law_read : mg "_law_read" = some (.ref a__law_read)
  a_law : Addr
  fd_law : FuncData
  F_law : Fun K "law" "law" st_law a_law fd_law
  mg_law : mg "law" = some (.ref a_law)
section
variable {P : Program} {w : World} {K : PySem.W.Frag} {mg : Str → Option Value} {base : Heap}
theorem Tx.kp_shape_text (T : Tx K mg) : PySem.W.keepIn K (.ref T.a_shape_text) = true := T.F_shape_text.kp
theorem Tx.bd_shape_text (T : Tx K mg) : Binds K T.fd_shape_text ["cells"] [] := T.F_shape_text.binds (ps := ["cells"]) fun _ _ _ _ _ _ us hl => match us, hl with | [_], _ => rfl
theorem Tx.kp_parse_shape (T : Tx K mg) : PySem.W.keepIn K (.ref T.a_parse_shape) = true := T.F_parse_shape.kp
theorem Tx.bd_parse_shape (T : Tx K mg) : Binds K T.fd_parse_shape ["text"] [] := T.F_parse_shape.binds (ps := ["text"]) fun _ _ _ _ _ _ us hl => match us, hl with | [_], _ => rfl
theorem Tx.kp_tiling_text (T : Tx K mg) : PySem.W.keepIn K (.ref T.a_tiling_text) = true := T.F_tiling_text.kp
theorem Tx.bd_tiling_text (T : Tx K mg) : Binds K T.fd_tiling_text ["region", "places", "chosen"] [] := T.F_tiling_text.binds (ps := ["region", "places", "chosen"]) fun _ _ _ _ _ _ us hl => match us, hl with | [_, _, _], _ => rfl
theorem Tx.kp_numbers_text (T : Tx K mg) : PySem.W.keepIn K (.ref T.a_numbers_text) = true := T.F_numbers_text.kp
theorem Tx.bd_numbers_text (T : Tx K mg) : Binds K T.fd_numbers_text ["row"] [] := T.F_numbers_text.binds (ps := ["row"]) fun _ _ _ _ _ _ us hl => match us, hl with | [_], _ => rfl
theorem Tx.kp__law_tape (T : Tx K mg) : PySem.W.keepIn K (.ref T.a__law_tape) = true := T.F__law_tape.kp
theorem Tx.bd__law_tape (T : Tx K mg) : Binds K T.fd__law_tape ["script"] [] := T.F__law_tape.binds (ps := ["script"]) fun _ _ _ _ _ _ us hl => match us, hl with | [_], _ => rfl
theorem Tx.kp__law_take (T : Tx K mg) : PySem.W.keepIn K (.ref T.a__law_take) = true := T.F__law_take.kp
theorem Tx.bd__law_take (T : Tx K mg) : Binds K T.fd__law_take ["tape", "many"] [] := T.F__law_take.binds (ps := ["tape", "many"]) fun _ _ _ _ _ _ us hl => match us, hl with | [_, _], _ => rfl
theorem Tx.kp__law_text (T : Tx K mg) : PySem.W.keepIn K (.ref T.a__law_text) = true := T.F__law_text.kp
theorem Tx.bd__law_text (T : Tx K mg) : Binds K T.fd__law_text ["cells"] [] := T.F__law_text.binds (ps := ["cells"]) fun _ _ _ _ _ _ us hl => match us, hl with | [_], _ => rfl
theorem Tx.kp__law_read (T : Tx K mg) : PySem.W.keepIn K (.ref T.a__law_read) = true := T.F__law_read.kp
theorem Tx.bd__law_read (T : Tx K mg) : Binds K T.fd__law_read ["text"] [] := T.F__law_read.binds (ps := ["text"]) fun _ _ _ _ _ _ us hl => match us, hl with | [_], _ => rfl
theorem Tx.kp_law (T : Tx K mg) : PySem.W.keepIn K (.ref T.a_law) = true := T.F_law.kp
theorem Tx.bd_law (T : Tx K mg) : Binds K T.fd_law ["script"] [] := T.F_law.binds (ps := ["script"]) fun _ _ _ _ _ _ us hl => match us, hl with | [_], _ => rfl
def cat_GapError (c : Str) : Option Bool := if c = "GapError" then some true else if c = "InvalidForm" then some true else none
theorem xt_GapError (T : Tx K mg) : ∀ (c : Str) (C : Addr) (bb : Bool), mg c = some (.ref C) → cat_GapError c = some bb → PySem.W.exmOne K (.ref C) (.ref T.c_GapError) = some bb := by
  intro c C bb h1 h2
  unfold cat_GapError at h2
  split at h2
  · rename_i e
    subst e
    rw [T.xm_GapError] at h1
    cases h1; cases h2
    exact T.xe_GapError_GapError
  split at h2
  · rename_i e
    subst e
    rw [T.xm_InvalidForm] at h1
    cases h1; cases h2
    exact T.xe_InvalidForm_GapError
  cases h2
theorem sc_shape_text : FnScope ["cells", "wide", "tall", "x", "_", "y", "told", "cell", "rows", "row"] ["cells"] (defScope st_shape_text) := ⟨rfl, rfl, rfl, by decide +kernel, rfl, by decide +kernel, by decide +kernel⟩
noncomputable def m_shape_text : MS := (sSeq (sIf (mNot (mTruN 0)) (sRet (mC (.str ""))) sNext)
  (sSeq (sAsg (mTuple (mCons (m2 dAdd (mS dMax (mCons (mLc [3, 4] (iAny (mVar 0)) (gTupD 2 (gsCons (gSet 3) (gsCons (gSet 4) gsNil))) mYes (mVar 3)) mNil)) (mC (.int 1))) (mCons (m2 dAdd (mS dMax (mCons (mLc [4, 5] (iAny (mVar 0)) (gTupD 2 (gsCons (gSet 4) (gsCons (gSet 5) gsNil))) mYes (mVar 5)) mNil)) (mC (.int 1))) mNil))) (gTupD 2 (gsCons (gSet 1) (gsCons (gSet 2) gsNil))))
  (sSeq (sAsg (mDc true [7] (iAny (mVar 0)) (gSet 7) mYes (mS dTuple (mCons (mVar 7) mNil)) (mC (.bl true))) (gSet 6))
  (sSeq (sSetM 8 (mLc [5] (iOf rng1 (mCons (mVar 2) mNil)) (gSet 5) mYes (mSM1 dJoin (mC (.str "")) (mLc [3] (iOf rng1 (mCons (mVar 1) mNil)) (gSet 3) mYes (mIf (mTest isBl (mCmpB dInA (mTuple (mCons (mVar 3) (mCons (mVar 5) mNil))) 6)) (mC (.str "#")) (mC (.str ".")))))))
  (sRet (mSM1 dJoin (mC (.str "")) (mLc [9] (iAny (mVar 8)) (gSet 9) mYes (m2 dAdd (mVar 9) (mC (.str "\n"))))))))))
noncomputable def f_shape_text : MF := mFn 10 1 m_shape_text
theorem dv_shape_text (T : Tx K mg) (cdv : Value) (A : Around) (outer : List PySem.Env) (s : Shared) (H : Hp) (E : XK) (hr : Room 0 (A.deeper (envOfC "shape_text" (defScope st_shape_text) s.heap.objs.size T.a_shape_text cdv))) :
  DSs (cxOf (L2.CX P w) P w K mg base ["cells", "wide", "tall", "x", "_", "y", "told", "cell", "rows", "row"] "shape_text" (defScope st_shape_text) T.a_shape_text cdv A outer s H E) (fun cls d _ H' => E cls d H') (defBody st_shape_text) m_shape_text :=
  have nd := (sc_shape_text).nd
  (dss_cons (ds_if (dt_not (dt_valN (i := 0))) (dss_one (ds_ret de_str)) dss_nil)
  (dss_cons (ds_asg (de_tuple (da_cons (de_op dop_add (de_callB (dcall_max (by rfl)) (by rfl) T.m_max (da_cons (de_fresh (df_lc (own := [("x", 3), ("_", 4)]) (by rfl) nd (di_any (de_var (i := 0))) (blkOk_by (by rfl)) (fun _ _ _ _ _ => (dv_tup (by rfl) (dvs_cons (dv_name nd rfl (by first | exact Or.inl rfl | exact Or.inr rfl) (by decide) (by first | exact Or.inl rfl | exact Or.inr rfl)) (dvs_cons (dv_name nd rfl (by first | exact Or.inl rfl | exact Or.inr rfl) (by decide) (by first | exact Or.inl rfl | exact Or.inr rfl)) dvs_nil)))) (fun _ _ _ _ _ => dts_nil) (fun _ _ _ _ _ => (de_var (i := 3))))) da_nil) bt_max) de_int) (da_cons (de_op dop_add (de_callB (dcall_max (by rfl)) (by rfl) T.m_max (da_cons (de_fresh (df_lc (own := [("_", 4), ("y", 5)]) (by rfl) nd (di_any (de_var (i := 0))) (blkOk_by (by rfl)) (fun _ _ _ _ _ => (dv_tup (by rfl) (dvs_cons (dv_name nd rfl (by first | exact Or.inl rfl | exact Or.inr rfl) (by decide) (by first | exact Or.inl rfl | exact Or.inr rfl)) (dvs_cons (dv_name nd rfl (by first | exact Or.inl rfl | exact Or.inr rfl) (by decide) (by first | exact Or.inl rfl | exact Or.inr rfl)) dvs_nil)))) (fun _ _ _ _ _ => dts_nil) (fun _ _ _ _ _ => (de_var (i := 5))))) da_nil) bt_max) de_int) da_nil))) (dg_tup (by rfl) (dgs_cons (dg_name nd rfl (by first | exact Or.inl rfl | exact Or.inr rfl)) (dgs_cons (dg_name nd rfl (by first | exact Or.inl rfl | exact Or.inr rfl)) dgs_nil))))
  (dss_cons (ds_set (i := 6) nd rfl (by first | exact Or.inl rfl | exact Or.inr rfl) (de_fresh (df_dc (t := true) (own := [("cell", 7)]) (u0 hr) T.noT (by rfl) nd (di_any (de_var (i := 0))) (blkOk_by (by rfl)) (fun _ _ _ _ _ => (dv_name nd rfl (by first | exact Or.inl rfl | exact Or.inr rfl) (by decide) (by first | exact Or.inl rfl | exact Or.inr rfl))) (fun _ _ _ _ _ => dts_nil) (fun _ _ _ _ _ => (de_callTy (dcall_tuple) (by rfl) T.m_tuple (da_cons (de_var (i := 7)) da_nil) bt_tuple)) (fun _ _ _ _ _ => de_bl))))
  (dss_cons (ds_setLc (i := 8) (own := [("y", 5)]) (by rfl) nd rfl (by rfl) (sw_true (by rfl) (by rfl) (by rfl) (by rfl)) (di_range1 (by rfl) T.m_range (da_cons (de_var (i := 2)) da_nil)) (blkOk_by (by rfl)) (fun _ _ _ _ _ => (dv_name nd rfl (by first | exact Or.inl rfl | exact Or.inr rfl) (by decide) (by first | exact Or.inl rfl | exact Or.inr rfl))) (fun _ _ _ _ _ => dts_nil) (fun _ _ _ _ _ => (de_sm1 PySem.F.slot_str_join dmt_join de_str (de_fresh (df_lc (own := [("x", 3)]) (by rfl) nd (di_range1 (by rfl) T.m_range (da_cons (de_var (i := 1)) da_nil)) (blkOk_by (by rfl)) (fun _ _ _ _ _ => (dv_name nd rfl (by first | exact Or.inl rfl | exact Or.inr rfl) (by decide) (by first | exact Or.inl rfl | exact Or.inr rfl))) (fun _ _ _ _ _ => dts_nil) (fun _ _ _ _ _ => (de_ifExp (dt_cmpB (i := 6) (dop_inA (u65 hr) T.noT) (de_tuple (da_cons (de_var (i := 3)) (da_cons (de_var (i := 5)) da_nil))) (by rfl)) de_str de_str)))))))
  (dss_one (ds_ret (de_sm1 PySem.F.slot_str_join dmt_join de_str (de_fresh (df_lc (own := [("row", 9)]) (by rfl) nd (di_any (de_var (i := 8))) (blkOk_by (by rfl)) (fun _ _ _ _ _ => (dv_name nd rfl (by first | exact Or.inl rfl | exact Or.inr rfl) (by decide) (by first | exact Or.inl rfl | exact Or.inr rfl))) (fun _ _ _ _ _ => dts_nil) (fun _ _ _ _ _ => (de_op dop_add (de_var (i := 9)) de_str)))))))))))
theorem ok_shape_text (T : Tx K mg) : FnOk P w K mg base (L2.CX P w) 1 T.a_shape_text T.fd_shape_text ["cells"] (spD P w K mg 1 f_shape_text) := fnD_ok T.F_shape_text sc_shape_text (dv_shape_text T)
theorem sc_parse_shape : FnScope ["text", "rows", "sign", "row", "found", "y", "x", "_"] ["text"] (defScope st_parse_shape) := ⟨rfl, rfl, rfl, by decide +kernel, rfl, by decide +kernel, by decide +kernel⟩
noncomputable def m_parse_shape : MS := (sSeq (sIf (mOr (mTest isBl (m2 dEq (mVar 0) (mC (.str "")))) (mTest isBl (m2 dNe (m2 dIxA (mVar 0) (m1 dNeg (mC (.int 1)))) (mC (.str "\n"))))) (sRaise "InvalidForm") sNext)
  (sSeq (sAsg (mSM1 dSplit (mSl dSl (mVar 0) moNone (moSome (m1 dNeg (mC (.int 1))))) (mC (.str "\n"))) (gSet 1))
  (sSeq (sIf (mOr (mTest isBl (m2 dGt (mS dLenA (mCons (mVar 1) mNil)) (mC (.int 10)))) (mOr (mNot (mTest isBl (mChain dLe dLe (mC (.int 1)) (mS dLenA (mCons (m2 dIxA (mVar 1) (mC (.int 0))) mNil)) (mC (.int 10))))) (mNot (mTest gTru (mS dAll (mCons (mLc [3] (iAny (mVar 1)) (gSet 3) mYes (mS dAll (mCons (mLc [2] (iAny (mVar 3)) (gSet 2) mYes (m2 dInA (mVar 2) (mC (.str "#.")))) mNil))) mNil)))))) (sRaise "InvalidForm") sNext)
  (sSeq (sSetM 4 (mLst mNil))
  (sSeq (sFor (iOf enumItems (mCons (mVar 1) mNil)) (gTupD 2 (gsCons (gSet 5) (gsCons (gSet 3) gsNil))) (sExpr (mMutL 4 gExtend (mCons (mLc [6, 2] (iOf enumItems (mCons (mVar 3) mNil)) (gTupD 2 (gsCons (gSet 6) (gsCons (gSet 2) gsNil))) (mTest isBl (m2 dEq (mVar 2) (mC (.str "#")))) (mTuple (mCons (mVar 6) (mCons (mVar 5) mNil)))) mNil))))
  (sSeq (sAsg (mS dTuple (mCons (mS dSorted (mCons (mVar 4) mNil)) mNil)) (gSet 4))
  (sSeq (sIf (mOr (mTest isBl (m2 dNe (mCall f_shape_text (mCons (mVar 4) mNil)) (mVar 0))) (mOr (mTest isBl (m2 dGt (mS dMin (mCons (mLc [6, 7] (iAny (mVar 4)) (gTupD 2 (gsCons (gSet 6) (gsCons (gSet 7) gsNil))) mYes (mVar 6)) mNil)) (mC (.int 0)))) (mTest isBl (m2 dGt (mS dMin (mCons (mLc [7, 5] (iAny (mVar 4)) (gTupD 2 (gsCons (gSet 7) (gsCons (gSet 5) gsNil))) mYes (mVar 5)) mNil)) (mC (.int 0)))))) (sRaise "InvalidForm") sNext)
  (sRet (mVar 4)))))))))
noncomputable def f_parse_shape : MF := mFn 8 1 m_parse_shape
theorem dv_parse_shape (T : Tx K mg) (cdv : Value) (A : Around) (outer : List PySem.Env) (s : Shared) (H : Hp) (E : XK) (hr : Room 1 (A.deeper (envOfC "parse_shape" (defScope st_parse_shape) s.heap.objs.size T.a_parse_shape cdv))) :
  DSs (cxOf (L2.CX P w) P w K mg base ["text", "rows", "sign", "row", "found", "y", "x", "_"] "parse_shape" (defScope st_parse_shape) T.a_parse_shape cdv A outer s H E) (fun cls d _ H' => E cls d H') (defBody st_parse_shape) m_parse_shape :=
  have nd := (sc_parse_shape).nd
  (dss_cons (ds_if (dt_w (dw_or (dt_cmp (dop_eq (u64 hr)) (de_var (i := 0)) de_str (by rfl)) (dw_or1 (dt_cmp (dop_ne (u64 hr)) (de_ix (dixA (u1 hr) T.noT) (de_var (i := 0)) (de_un dop_neg de_int)) de_str (by rfl))))) (dss_one (ds_raise (by rfl) (takes_of rfl rfl rfl rfl) PySem.F.excBase_ValueError T.xc_InvalidForm T.xm_InvalidForm T.xk_InvalidForm (raises_own T.xb_InvalidForm T.xy_InvalidForm))) dss_nil)
  (dss_cons (ds_set (i := 1) nd rfl (by first | exact Or.inl rfl | exact Or.inr rfl) (de_sm1 PySem.F.slot_str_split dmt_split (de_sl dsl (de_var (i := 0)) do_none (do_some (de_un dop_neg de_int))) de_str))
  (dss_cons (ds_if (dt_w (dw_or (dt_cmp (dop_gt) (de_callB (dcall_lenA) (by rfl) T.m_len (da_cons (de_var (i := 1)) da_nil) bt_len) de_int (by rfl)) (dw_or (dt_not (dt_chain (dop_le) (dop_le) de_int (de_callB (dcall_lenA) (by rfl) T.m_len (da_cons (de_ix (dixA (u1 hr) T.noT) (de_var (i := 1)) de_int) da_nil) bt_len) de_int)) (dw_or1 (dt_not (dt_val (de_callB (dcall_all (by rfl)) (by rfl) T.m_all (da_cons (de_fresh (df_lc (own := [("row", 3)]) (by rfl) nd (di_any (de_var (i := 1))) (blkOk_by (by rfl)) (fun _ _ _ _ _ => (dv_name nd rfl (by first | exact Or.inl rfl | exact Or.inr rfl) (by decide) (by first | exact Or.inl rfl | exact Or.inr rfl))) (fun _ _ _ _ _ => dts_nil) (fun _ _ _ _ _ => (de_callB (dcall_all (by rfl)) (by rfl) T.m_all (da_cons (de_fresh (df_lc (own := [("sign", 2)]) (by rfl) nd (di_any (de_var (i := 3))) (blkOk_by (by rfl)) (fun _ _ _ _ _ => (dv_name nd rfl (by first | exact Or.inl rfl | exact Or.inr rfl) (by decide) (by first | exact Or.inl rfl | exact Or.inr rfl))) (fun _ _ _ _ _ => dts_nil) (fun _ _ _ _ _ => (de_cmp (dop_inA (u65 hr) T.noT) (de_var (i := 2)) de_str (by rfl))))) da_nil) bt_all)))) da_nil) bt_all))))))) (dss_one (ds_raise (by rfl) (takes_of rfl rfl rfl rfl) PySem.F.excBase_ValueError T.xc_InvalidForm T.xm_InvalidForm T.xk_InvalidForm (raises_own T.xb_InvalidForm T.xy_InvalidForm))) dss_nil)
  (dss_cons (ds_setM (i := 4) nd rfl (by first | exact Or.inl rfl | exact Or.inr rfl) (df_list da_nil))
  (dss_cons (ds_for (passes_of rfl) (by rfl) (di_enum (by rfl) T.m_enumerate (da_cons (de_var (i := 1)) da_nil)) (dg_tup (by rfl) (dgs_cons (dg_name nd rfl (by first | exact Or.inl rfl | exact Or.inr rfl)) (dgs_cons (dg_name nd rfl (by first | exact Or.inl rfl | exact Or.inr rfl)) dgs_nil))) (dss_one (ds_expr (de_mutL (i := 4) PySem.F.slot_list_extend dmt_extend (da_cons (de_fresh (df_lc (own := [("x", 6), ("sign", 2)]) (by rfl) nd (di_enum (by rfl) T.m_enumerate (da_cons (de_var (i := 3)) da_nil)) (blkOk_by (by rfl)) (fun _ _ _ _ _ => (dv_tup (by rfl) (dvs_cons (dv_name nd rfl (by first | exact Or.inl rfl | exact Or.inr rfl) (by decide) (by first | exact Or.inl rfl | exact Or.inr rfl)) (dvs_cons (dv_name nd rfl (by first | exact Or.inl rfl | exact Or.inr rfl) (by decide) (by first | exact Or.inl rfl | exact Or.inr rfl)) dvs_nil)))) (fun _ _ _ _ _ => (dts_one (dt_cmp (dop_eq (u64 hr)) (de_var (i := 2)) de_str (by rfl)))) (fun _ _ _ _ _ => (de_tuple (da_cons (de_var (i := 6)) (da_cons (de_var (i := 5)) da_nil)))))) da_nil)))))
  (dss_cons (ds_set (i := 4) nd rfl (by first | exact Or.inl rfl | exact Or.inr rfl) (de_callTy (dcall_tuple) (by rfl) T.m_tuple (da_cons (de_callB (dcall_sorted (u66 hr)) (by rfl) T.m_sorted (da_cons (de_var (i := 4)) da_nil) bt_sorted) da_nil) bt_tuple))
  (dss_cons (ds_if (dt_w (dw_or (dt_cmp (dop_ne (u64 hr)) (de_call (ok_shape_text T) (takes_of rfl rfl rfl rfl) (hr.mono (by decide)) T.mg_shape_text T.kp_shape_text T.bd_shape_text (da_cons (de_var (i := 4)) da_nil) (hlen := (len_cons len_nil))) (de_var (i := 0)) (by rfl)) (dw_or (dt_cmp (dop_gt) (de_callB (dcall_min (by rfl)) (by rfl) T.m_min (da_cons (de_fresh (df_lc (own := [("x", 6), ("_", 7)]) (by rfl) nd (di_any (de_var (i := 4))) (blkOk_by (by rfl)) (fun _ _ _ _ _ => (dv_tup (by rfl) (dvs_cons (dv_name nd rfl (by first | exact Or.inl rfl | exact Or.inr rfl) (by decide) (by first | exact Or.inl rfl | exact Or.inr rfl)) (dvs_cons (dv_name nd rfl (by first | exact Or.inl rfl | exact Or.inr rfl) (by decide) (by first | exact Or.inl rfl | exact Or.inr rfl)) dvs_nil)))) (fun _ _ _ _ _ => dts_nil) (fun _ _ _ _ _ => (de_var (i := 6))))) da_nil) bt_min) de_int (by rfl)) (dw_or1 (dt_cmp (dop_gt) (de_callB (dcall_min (by rfl)) (by rfl) T.m_min (da_cons (de_fresh (df_lc (own := [("_", 7), ("y", 5)]) (by rfl) nd (di_any (de_var (i := 4))) (blkOk_by (by rfl)) (fun _ _ _ _ _ => (dv_tup (by rfl) (dvs_cons (dv_name nd rfl (by first | exact Or.inl rfl | exact Or.inr rfl) (by decide) (by first | exact Or.inl rfl | exact Or.inr rfl)) (dvs_cons (dv_name nd rfl (by first | exact Or.inl rfl | exact Or.inr rfl) (by decide) (by first | exact Or.inl rfl | exact Or.inr rfl)) dvs_nil)))) (fun _ _ _ _ _ => dts_nil) (fun _ _ _ _ _ => (de_var (i := 5))))) da_nil) bt_min) de_int (by rfl)))))) (dss_one (ds_raise (by rfl) (takes_of rfl rfl rfl rfl) PySem.F.excBase_ValueError T.xc_InvalidForm T.xm_InvalidForm T.xk_InvalidForm (raises_own T.xb_InvalidForm T.xy_InvalidForm))) dss_nil)
  (dss_one (ds_ret (de_var (i := 4)))))))))))
theorem ok_parse_shape (T : Tx K mg) : FnOk P w K mg base (L2.CX P w) 2 T.a_parse_shape T.fd_parse_shape ["text"] (spD P w K mg 1 f_parse_shape) := fnD_ok T.F_parse_shape sc_parse_shape (dv_parse_shape T)
theorem sc_tiling_text : FnScope ["region", "places", "chosen", "cells", "cell", "wide", "tall", "x", "_", "y", "by", "k", "names", "rows", "row", "told"] ["region", "places", "chosen"] (defScope st_tiling_text) := ⟨rfl, rfl, rfl, by decide +kernel, rfl, by decide +kernel, by decide +kernel⟩
noncomputable def m_tiling_text : MS := (sSeq (sIf (mOr (mTest isBl (m2 dGt (mS dLenA (mCons (mVar 2) mNil)) (mC (.int 26)))) (mNot (mTruN 0))) (sRaise "InvalidForm") sNext)
  (sSeq (sSetM 3 (mLc [4] (iAny (mVar 0)) (gSet 4) mYes (mS dTuple (mCons (mVar 4) mNil))))
  (sSeq (sPar 5 6 (mCons (m2 dAdd (mS dMax (mCons (mLc [7, 8] (iAny (mVar 3)) (gTupD 2 (gsCons (gSet 7) (gsCons (gSet 8) gsNil))) mYes (mVar 7)) mNil)) (mC (.int 1))) (mCons (m2 dAdd (mS dMax (mCons (mLc [8, 9] (iAny (mVar 3)) (gTupD 2 (gsCons (gSet 8) (gsCons (gSet 9) gsNil))) mYes (mVar 9)) mNil)) (mC (.int 1))) mNil)))
  (sSeq (sSetM 10 (mC (.dct true [])))
  (sSeq (sFor (iAny (mVar 2)) (gSet 11) (sExpr (mMutD 10 gUpdate (mCons (mDc true [4] (iAny (m2 dIxA (m2 dIxA (mVar 1) (mVar 11)) (mC (.int 1)))) (gSet 4) mYes (mS dTuple (mCons (mVar 4) mNil)) (mVar 11)) mNil))))
  (sSeq (sTwo 12 13 (mC (.dct false [])) (mLst mNil))
  (sSeq (sFor (iOf rng1 (mCons (mVar 6) mNil)) (gSet 9) (sSeq (sAsg (mC (.str "")) (gSet 14))
  (sSeq (sFor (iOf rng1 (mCons (mVar 5) mNil)) (gSet 7) (sSeq (sAsg (mGet1 10 (mTuple (mCons (mVar 7) (mCons (mVar 9) mNil)))) (gSet 15))
  (sSeq (sIf (mAnd (mTest isBl (m2 dNotN (mVar 15) (mC .non))) (mTest isBl (mCmpB dNotInA (mVar 15) 12))) (sStore 12 (mVar 15) (m2 dIxA (mC (.str "abcdefghijklmnopqrstuvwxyz")) (mSB dLenA 12))) sNext)
  (sAug dIAdd 14 (mIf (mTest isBl (m2 dIsN (mVar 15) (mC .non))) (mC (.str ".")) (mIxB 12 (mVar 15)))))))
  (sExpr (mMutL 13 gAppend (mCons (mVar 14) mNil))))))
  (sRet (mSM1 dJoin (mC (.str "")) (mLc [14] (iAny (mVar 13)) (gSet 14) mYes (m2 dAdd (mVar 14) (mC (.str "\n")))))))))))))
noncomputable def f_tiling_text : MF := mFn 16 3 m_tiling_text
theorem dv_tiling_text (T : Tx K mg) (cdv : Value) (A : Around) (outer : List PySem.Env) (s : Shared) (H : Hp) (E : XK) (hr : Room 0 (A.deeper (envOfC "tiling_text" (defScope st_tiling_text) s.heap.objs.size T.a_tiling_text cdv))) :
  DSs (cxOf (L2.CX P w) P w K mg base ["region", "places", "chosen", "cells", "cell", "wide", "tall", "x", "_", "y", "by", "k", "names", "rows", "row", "told"] "tiling_text" (defScope st_tiling_text) T.a_tiling_text cdv A outer s H E) (fun cls d _ H' => E cls d H') (defBody st_tiling_text) m_tiling_text :=
  have nd := (sc_tiling_text).nd
  (dss_cons (ds_if (dt_w (dw_or (dt_cmp (dop_gt) (de_callB (dcall_lenA) (by rfl) T.m_len (da_cons (de_var (i := 2)) da_nil) bt_len) de_int (by rfl)) (dw_or1 (dt_not (dt_valN (i := 0)))))) (dss_one (ds_raise (by rfl) (takes_of rfl rfl rfl rfl) PySem.F.excBase_ValueError T.xc_InvalidForm T.xm_InvalidForm T.xk_InvalidForm (raises_own T.xb_InvalidForm T.xy_InvalidForm))) dss_nil)
  (dss_cons (ds_setLc (i := 3) (own := [("cell", 4)]) (by rfl) nd rfl (by rfl) (sw_true (by rfl) (by rfl) (by rfl) (by rfl)) (di_any (de_var (i := 0))) (blkOk_by (by rfl)) (fun _ _ _ _ _ => (dv_name nd rfl (by first | exact Or.inl rfl | exact Or.inr rfl) (by decide) (by first | exact Or.inl rfl | exact Or.inr rfl))) (fun _ _ _ _ _ => dts_nil) (fun _ _ _ _ _ => (de_callTy (dcall_tuple) (by rfl) T.m_tuple (da_cons (de_var (i := 4)) da_nil) bt_tuple)))
  (dss_cons (ds_par (i := 5) (j := 6) (by rfl) nd rfl rfl (by decide) (da_cons (de_op dop_add (de_callB (dcall_max (by rfl)) (by rfl) T.m_max (da_cons (de_fresh (df_lc (own := [("x", 7), ("_", 8)]) (by rfl) nd (di_any (de_var (i := 3))) (blkOk_by (by rfl)) (fun _ _ _ _ _ => (dv_tup (by rfl) (dvs_cons (dv_name nd rfl (by first | exact Or.inl rfl | exact Or.inr rfl) (by decide) (by first | exact Or.inl rfl | exact Or.inr rfl)) (dvs_cons (dv_name nd rfl (by first | exact Or.inl rfl | exact Or.inr rfl) (by decide) (by first | exact Or.inl rfl | exact Or.inr rfl)) dvs_nil)))) (fun _ _ _ _ _ => dts_nil) (fun _ _ _ _ _ => (de_var (i := 7))))) da_nil) bt_max) de_int) (da_cons (de_op dop_add (de_callB (dcall_max (by rfl)) (by rfl) T.m_max (da_cons (de_fresh (df_lc (own := [("_", 8), ("y", 9)]) (by rfl) nd (di_any (de_var (i := 3))) (blkOk_by (by rfl)) (fun _ _ _ _ _ => (dv_tup (by rfl) (dvs_cons (dv_name nd rfl (by first | exact Or.inl rfl | exact Or.inr rfl) (by decide) (by first | exact Or.inl rfl | exact Or.inr rfl)) (dvs_cons (dv_name nd rfl (by first | exact Or.inl rfl | exact Or.inr rfl) (by decide) (by first | exact Or.inl rfl | exact Or.inr rfl)) dvs_nil)))) (fun _ _ _ _ _ => dts_nil) (fun _ _ _ _ _ => (de_var (i := 9))))) da_nil) bt_max) de_int) da_nil)))
  (dss_cons (ds_setM (i := 10) nd rfl (by first | exact Or.inl rfl | exact Or.inr rfl) df_dictT)
  (dss_cons (ds_for (passes_of rfl) (by rfl) (di_any (de_var (i := 2))) (dg_name nd rfl (by first | exact Or.inl rfl | exact Or.inr rfl)) (dss_one (ds_expr (de_mutD (i := 10) PySem.F.slot_dict_update (dmt_update (u2 hr)) (da_cons (de_fresh (df_dc (t := true) (own := [("cell", 4)]) (u0 hr) T.noT (by rfl) nd (di_any (de_ix (dixA (u1 hr) T.noT) (de_ix (dixA (u1 hr) T.noT) (de_var (i := 1)) (de_var (i := 11))) de_int)) (blkOk_by (by rfl)) (fun _ _ _ _ _ => (dv_name nd rfl (by first | exact Or.inl rfl | exact Or.inr rfl) (by decide) (by first | exact Or.inl rfl | exact Or.inr rfl))) (fun _ _ _ _ _ => dts_nil) (fun _ _ _ _ _ => (de_callTy (dcall_tuple) (by rfl) T.m_tuple (da_cons (de_var (i := 4)) da_nil) bt_tuple)) (fun _ _ _ _ _ => (de_var (i := 11))))) da_nil)))))
  (dss_cons (ds_twoP (i := 12) (j := 13) (by rfl) nd rfl rfl (by decide) df_dictK (df_list da_nil))
  (dss_cons (ds_for (passes_of rfl) (by rfl) (di_range1 (by rfl) T.m_range (da_cons (de_var (i := 6)) da_nil)) (dg_name nd rfl (by first | exact Or.inl rfl | exact Or.inr rfl)) (dss_cons (ds_set (i := 14) nd rfl (by first | exact Or.inl rfl | exact Or.inr rfl) de_str)
  (dss_cons (ds_for (passes_of rfl) (by rfl) (di_range1 (by rfl) T.m_range (da_cons (de_var (i := 5)) da_nil)) (dg_name nd rfl (by first | exact Or.inl rfl | exact Or.inr rfl)) (dss_cons (ds_set (i := 15) nd rfl (by first | exact Or.inl rfl | exact Or.inr rfl) (de_get1 (i := 10) (u1 hr) T.noT (de_tuple (da_cons (de_var (i := 7)) (da_cons (de_var (i := 9)) da_nil))) ⟨by rfl, by rfl, by rfl, by rfl⟩))
  (dss_cons (ds_if (dt_w (dw_and (dt_cmp (dop_notN) (de_var (i := 15)) de_non (by rfl)) (dw_and1 (dt_cmpB (i := 12) (dop_notInA (u65 hr) T.noT) (de_var (i := 15)) (by rfl))))) (dss_one (ds_store (i := 12) (u1 hr) T.noT (de_var (i := 15)) (de_ix (dixA (u1 hr) T.noT) (de_globS T.g_LETTERS) (de_callBN (i := 12) (dcall_lenA) (by rfl) T.m_len (hv := bt_len))))) dss_nil)
  (dss_one (ds_aug (i := 14) nd rfl (by first | exact Or.inl rfl | exact Or.inr rfl) (de_ifExp (dt_cmp (dop_isN) (de_var (i := 15)) de_non (by rfl)) de_str (de_ixB (i := 12) (u1 hr) T.noT (de_var (i := 15)))) dip_add)))))
  (dss_one (ds_expr (de_mutL (i := 13) PySem.F.slot_list_append dmt_append (da_cons (de_var (i := 14)) da_nil)))))))
  (dss_one (ds_ret (de_sm1 PySem.F.slot_str_join dmt_join de_str (de_fresh (df_lc (own := [("row", 14)]) (by rfl) nd (di_any (de_var (i := 13))) (blkOk_by (by rfl)) (fun _ _ _ _ _ => (dv_name nd rfl (by first | exact Or.inl rfl | exact Or.inr rfl) (by decide) (by first | exact Or.inl rfl | exact Or.inr rfl))) (fun _ _ _ _ _ => dts_nil) (fun _ _ _ _ _ => (de_op dop_add (de_var (i := 14)) de_str))))))))))))))
theorem ok_tiling_text (T : Tx K mg) : FnOk P w K mg base (L2.CX P w) 1 T.a_tiling_text T.fd_tiling_text ["region", "places", "chosen"] (spD P w K mg 3 f_tiling_text) := fnD_ok T.F_tiling_text sc_tiling_text (dv_tiling_text T)
theorem sc_numbers_text : FnScope ["row", "a"] ["row"] (defScope st_numbers_text) := ⟨rfl, rfl, rfl, by decide +kernel, rfl, by decide +kernel, by decide +kernel⟩
noncomputable def m_numbers_text : MS := (sRet (mIf (mTruN 0) (mSM1 dJoin (mC (.str " ")) (mLc [1] (iAny (mVar 0)) (gSet 1) mYes (mS dStr (mCons (mVar 1) mNil)))) (mC (.str "-"))))
noncomputable def f_numbers_text : MF := mFn 2 1 m_numbers_text
theorem dv_numbers_text (T : Tx K mg) (cdv : Value) (A : Around) (outer : List PySem.Env) (s : Shared) (H : Hp) (E : XK) (hr : Room 0 (A.deeper (envOfC "numbers_text" (defScope st_numbers_text) s.heap.objs.size T.a_numbers_text cdv))) :
  DSs (cxOf (L2.CX P w) P w K mg base ["row", "a"] "numbers_text" (defScope st_numbers_text) T.a_numbers_text cdv A outer s H E) (fun cls d _ H' => E cls d H') (defBody st_numbers_text) m_numbers_text :=
  have nd := (sc_numbers_text).nd
  (dss_one (ds_ret (de_ifExp (dt_valN (i := 0)) (de_sm1 PySem.F.slot_str_join dmt_join de_str (de_fresh (df_lc (own := [("a", 1)]) (by rfl) nd (di_any (de_var (i := 0))) (blkOk_by (by rfl)) (fun _ _ _ _ _ => (dv_name nd rfl (by first | exact Or.inl rfl | exact Or.inr rfl) (by decide) (by first | exact Or.inl rfl | exact Or.inr rfl))) (fun _ _ _ _ _ => dts_nil) (fun _ _ _ _ _ => (de_callTy (dcall_str) (by rfl) T.m_str (da_cons (de_var (i := 1)) da_nil) bt_str))))) de_str)))
theorem ok_numbers_text (T : Tx K mg) : FnOk P w K mg base (L2.CX P w) 1 T.a_numbers_text T.fd_numbers_text ["row"] (spD P w K mg 1 f_numbers_text) := fnD_ok T.F_numbers_text sc_numbers_text (dv_numbers_text T)
theorem sc__law_tape : FnScope ["script", "cells", "cell", "seed"] ["script"] (defScope st__law_tape) := ⟨rfl, rfl, rfl, by decide +kernel, rfl, by decide +kernel, by decide +kernel⟩
theorem dv__law_tape (T : Tx K mg) (cdv : Value) (A : Around) (outer : List PySem.Env) (s : Shared) (H : Hp) (E : XK) (hr : Room 0 (A.deeper (envOfC "_law_tape" (defScope st__law_tape) s.heap.objs.size T.a__law_tape cdv))) :
  DFin (cxOf (L2.CX P w) P w K mg base ["script", "cells", "cell", "seed"] "_law_tape" (defScope st__law_tape) T.a__law_tape cdv A outer s H E) W0 (defBody st__law_tape) m__law_tape ff__law_tape :=
  have nd := (sc__law_tape).nd
  (fin_cons (ds_setLc (i := 1) (own := [("cell", 2)]) (by rfl) nd rfl (by rfl) (sw_true (by rfl) (by rfl) (by rfl) (by rfl)) (di_any (de_var (i := 0))) (blkOk_by (by rfl)) (fun _ _ _ _ _ => (dv_name nd rfl (by first | exact Or.inl rfl | exact Or.inr rfl) (by decide) (by first | exact Or.inl rfl | exact Or.inr rfl))) (fun _ _ _ _ _ => dts_nil) (fun _ _ _ _ _ => (de_callB (dcall_abs) (by rfl) T.m_abs (da_cons (de_callTy (dcall_int) (by rfl) T.m_int (da_cons (de_var (i := 2)) da_nil) bt_int) da_nil) bt_abs)))
  (fin_cons (ds_set (i := 3) nd rfl (by first | exact Or.inl rfl | exact Or.inr rfl) de_int)
  (fin_cons (ds_for (passes_of rfl) (by rfl) (di_any (de_var (i := 1))) (dg_name nd rfl (by first | exact Or.inl rfl | exact Or.inr rfl)) (dss_one (ds_set (i := 3) nd rfl (by first | exact Or.inl rfl | exact Or.inr rfl) (de_op dop_mod (de_callTy (dcall_int) (by rfl) T.m_int (da_cons (de_op dop_add (de_op dop_mul (de_var (i := 3)) de_int) (de_var (i := 2))) da_nil) bt_int) de_int))))
  (fin_last (df_disp (dps_cons de_str (de_var (i := 1)) (dps_cons de_str de_int (dps_cons de_str de_int (dps_cons de_str (de_var (i := 3)) (dps_cons de_str de_int dps_nil))))))))))
def f__law_tape : MF := gMake
theorem ok__law_tape (T : Tx K mg) : FnOk P w K mg base (L2.CX P w) 1 T.a__law_tape T.fd__law_tape ["script"] (spD P w K mg 1 f__law_tape) := make_ok T.F__law_tape sc__law_tape rfl make_is (dv__law_tape T)
theorem sc__law_take : FnScope ["tape", "many", "drawn", "mixed"] ["tape", "many"] (defScope st__law_take) := ⟨rfl, rfl, rfl, by decide +kernel, rfl, by decide +kernel, by decide +kernel⟩
theorem dv__law_take (T : Tx K mg) (cdv : Value) (A : Around) (outer : List PySem.Env) (s : Shared) (H : Hp) (E : XK) (hr : Room 0 (A.deeper (envOfC "_law_take" (defScope st__law_take) s.heap.objs.size T.a__law_take cdv))) :
  DSsk (cxOf (L2.CX P w) P w K mg base ["tape", "many", "drawn", "mixed"] "_law_take" (defScope st__law_take) T.a__law_take cdv A outer s H E) W0 [0] (defBody st__law_take) m__law_take :=
  have nd := (sc__law_take).nd
  (dsk_cons (dsk_if (dt_w (dw_and (dt_cmp (dop_eq (u64 hr)) (de_ixB (i := 0) (u1 hr) T.noT de_str) de_int (by rfl)) (dw_and1 (dt_cmp (dop_lt) (de_ixB (i := 0) (u1 hr) T.noT de_str) (de_callB (dcall_lenA) (by rfl) T.m_len (da_cons (de_ixB (i := 0) (u1 hr) T.noT de_str) da_nil) bt_len) (by rfl))))) (dsk_cons (dsk_store (i := 0) (u1 hr) T.noT de_str (de_ix (dixA (u1 hr) T.noT) (de_ixB (i := 0) (u1 hr) T.noT de_str) (de_ixB (i := 0) (u1 hr) T.noT de_str)))
  (dsk_one (dsk_store (i := 0) (u1 hr) T.noT de_str (de_op dop_add (de_ixB (i := 0) (u1 hr) T.noT de_str) de_int)))) dsk_nil)
  (dsk_cons (dsk_if (dt_cmp (dop_gt) (de_ixB (i := 0) (u1 hr) T.noT de_str) de_int (by rfl)) (dsk_cons (dsk_set (i := 2) nd rfl (by first | exact Or.inl rfl | exact Or.inr rfl) (de_op dop_mod (de_callTy (dcall_int) (by rfl) T.m_int (da_cons (de_ixB (i := 0) (u1 hr) T.noT de_str) da_nil) bt_int) (de_var (i := 1))) (by decide))
  (dsk_cons (dsk_store (i := 0) (u1 hr) T.noT de_str (de_op dop_fdiv (de_ixB (i := 0) (u1 hr) T.noT de_str) (de_var (i := 1))))
  (dsk_one (dsk_ret (de_var (i := 2)))))) dsk_nil)
  (dsk_cons (dsk_store (i := 0) (u1 hr) T.noT de_str (de_op dop_add (de_ixB (i := 0) (u1 hr) T.noT de_str) de_int))
  (dsk_cons (dsk_set (i := 3) nd rfl (by first | exact Or.inl rfl | exact Or.inr rfl) (de_op dop_mod (de_callTy (dcall_int) (by rfl) T.m_int (da_cons (de_op dop_add (de_op dop_mul (de_ixB (i := 0) (u1 hr) T.noT de_str) de_int) (de_op dop_mul (de_ixB (i := 0) (u1 hr) T.noT de_str) de_int)) da_nil) bt_int) de_int) (by decide))
  (dsk_cons (dsk_set (i := 3) nd rfl (by first | exact Or.inl rfl | exact Or.inr rfl) (de_op dop_mod (de_callTy (dcall_int) (by rfl) T.m_int (da_cons (de_op dop_add (de_op dop_add (de_op dop_mul (de_var (i := 3)) (de_var (i := 3))) (de_op dop_mul (de_ixB (i := 0) (u1 hr) T.noT de_str) de_int)) de_int) da_nil) bt_int) de_int) (by decide))
  (dsk_one (dsk_ret (de_op dop_mod (de_callTy (dcall_int) (by rfl) T.m_int (da_cons (de_var (i := 3)) da_nil) bt_int) (de_var (i := 1))))))))))
def f__law_take : MF := gTake
theorem ok__law_take (T : Tx K mg) : FnOk P w K mg base (L2.CX P w) 1 T.a__law_take T.fd__law_take ["tape", "many"] (spD P w K mg 2 f__law_take) := take_ok T.F__law_take sc__law_take rfl take_is (dv__law_take T)
theorem sc__law_text : FnScope ["cells", "wide", "tall", "x", "y", "rows"] ["cells"] (defScope st__law_text) := ⟨rfl, rfl, rfl, by decide +kernel, rfl, by decide +kernel, by decide +kernel⟩
noncomputable def m__law_text : MS := (sSeq (sIf (mTest isBl (m2 dEq (mS dLenA (mCons (mVar 0) mNil)) (mC (.int 0)))) (sRet (mC (.str ""))) sNext)
  (sSeq (sAsg (mTuple (mCons (m2 dAdd (mS dMax (mCons (mLc [3, 4] (iAny (mVar 0)) (gTupD 2 (gsCons (gSet 3) (gsCons (gSet 4) gsNil))) mYes (mVar 3)) mNil)) (mC (.int 1))) (mCons (m2 dAdd (mS dMax (mCons (mLc [3, 4] (iAny (mVar 0)) (gTupD 2 (gsCons (gSet 3) (gsCons (gSet 4) gsNil))) mYes (mVar 4)) mNil)) (mC (.int 1))) mNil))) (gTupD 2 (gsCons (gSet 1) (gsCons (gSet 2) gsNil))))
  (sSeq (sSetM 5 (mLc [4] (iOf rng1 (mCons (mVar 2) mNil)) (gSet 4) mYes (mSM1 dJoin (mC (.str "")) (mLc [3] (iOf rng1 (mCons (mVar 1) mNil)) (gSet 3) mYes (mIf (mTest isBl (mCmpB dInA (mTuple (mCons (mVar 3) (mCons (mVar 4) mNil))) 0)) (mC (.str "#")) (mC (.str ".")))))))
  (sRet (m2 dAdd (mSM1 dJoin (mC (.str "\n")) (mVar 5)) (mC (.str "\n")))))))
noncomputable def f__law_text : MF := mFn 6 1 m__law_text
theorem dv__law_text (T : Tx K mg) (cdv : Value) (A : Around) (outer : List PySem.Env) (s : Shared) (H : Hp) (E : XK) (hr : Room 0 (A.deeper (envOfC "_law_text" (defScope st__law_text) s.heap.objs.size T.a__law_text cdv))) :
  DSs (cxOf (L2.CX P w) P w K mg base ["cells", "wide", "tall", "x", "y", "rows"] "_law_text" (defScope st__law_text) T.a__law_text cdv A outer s H E) (fun cls d _ H' => E cls d H') (defBody st__law_text) m__law_text :=
  have nd := (sc__law_text).nd
  (dss_cons (ds_if (dt_cmp (dop_eq (u64 hr)) (de_callB (dcall_lenA) (by rfl) T.m_len (da_cons (de_var (i := 0)) da_nil) bt_len) de_int (by rfl)) (dss_one (ds_ret de_str)) dss_nil)
  (dss_cons (ds_asg (de_tuple (da_cons (de_op dop_add (de_callB (dcall_max (by rfl)) (by rfl) T.m_max (da_cons (de_fresh (df_lc (own := [("x", 3), ("y", 4)]) (by rfl) nd (di_any (de_var (i := 0))) (blkOk_by (by rfl)) (fun _ _ _ _ _ => (dv_tup (by rfl) (dvs_cons (dv_name nd rfl (by first | exact Or.inl rfl | exact Or.inr rfl) (by decide) (by first | exact Or.inl rfl | exact Or.inr rfl)) (dvs_cons (dv_name nd rfl (by first | exact Or.inl rfl | exact Or.inr rfl) (by decide) (by first | exact Or.inl rfl | exact Or.inr rfl)) dvs_nil)))) (fun _ _ _ _ _ => dts_nil) (fun _ _ _ _ _ => (de_var (i := 3))))) da_nil) bt_max) de_int) (da_cons (de_op dop_add (de_callB (dcall_max (by rfl)) (by rfl) T.m_max (da_cons (de_fresh (df_lc (own := [("x", 3), ("y", 4)]) (by rfl) nd (di_any (de_var (i := 0))) (blkOk_by (by rfl)) (fun _ _ _ _ _ => (dv_tup (by rfl) (dvs_cons (dv_name nd rfl (by first | exact Or.inl rfl | exact Or.inr rfl) (by decide) (by first | exact Or.inl rfl | exact Or.inr rfl)) (dvs_cons (dv_name nd rfl (by first | exact Or.inl rfl | exact Or.inr rfl) (by decide) (by first | exact Or.inl rfl | exact Or.inr rfl)) dvs_nil)))) (fun _ _ _ _ _ => dts_nil) (fun _ _ _ _ _ => (de_var (i := 4))))) da_nil) bt_max) de_int) da_nil))) (dg_tup (by rfl) (dgs_cons (dg_name nd rfl (by first | exact Or.inl rfl | exact Or.inr rfl)) (dgs_cons (dg_name nd rfl (by first | exact Or.inl rfl | exact Or.inr rfl)) dgs_nil))))
  (dss_cons (ds_setLc (i := 5) (own := [("y", 4)]) (by rfl) nd rfl (by rfl) (sw_true (by rfl) (by rfl) (by rfl) (by rfl)) (di_range1 (by rfl) T.m_range (da_cons (de_var (i := 2)) da_nil)) (blkOk_by (by rfl)) (fun _ _ _ _ _ => (dv_name nd rfl (by first | exact Or.inl rfl | exact Or.inr rfl) (by decide) (by first | exact Or.inl rfl | exact Or.inr rfl))) (fun _ _ _ _ _ => dts_nil) (fun _ _ _ _ _ => (de_sm1 PySem.F.slot_str_join dmt_join de_str (de_fresh (df_lc (own := [("x", 3)]) (by rfl) nd (di_range1 (by rfl) T.m_range (da_cons (de_var (i := 1)) da_nil)) (blkOk_by (by rfl)) (fun _ _ _ _ _ => (dv_name nd rfl (by first | exact Or.inl rfl | exact Or.inr rfl) (by decide) (by first | exact Or.inl rfl | exact Or.inr rfl))) (fun _ _ _ _ _ => dts_nil) (fun _ _ _ _ _ => (de_ifExp (dt_cmpB (i := 0) (dop_inA (u65 hr) T.noT) (de_tuple (da_cons (de_var (i := 3)) (da_cons (de_var (i := 4)) da_nil))) (by rfl)) de_str de_str)))))))
  (dss_one (ds_ret (de_op dop_add (de_sm1 PySem.F.slot_str_join dmt_join de_str (de_var (i := 5))) de_str))))))
theorem ok__law_text (T : Tx K mg) : FnOk P w K mg base (L2.CX P w) 1 T.a__law_text T.fd__law_text ["cells"] (spD P w K mg 1 f__law_text) := fnD_ok T.F__law_text sc__law_text (dv__law_text T)
theorem sc__law_read : FnScope ["text"] ["text"] (defScope st__law_read) := ⟨rfl, rfl, rfl, by decide +kernel, rfl, by decide +kernel, by decide +kernel⟩
noncomputable def m__law_read : MS := (sTry cat_GapError (sRet (mTuple (mCons (mCall f_parse_shape (mCons (mVar 0) mNil)) mNil))) (sRet (mC .non)))
noncomputable def f__law_read : MF := mFn 1 1 m__law_read
theorem dv__law_read (T : Tx K mg) (cdv : Value) (A : Around) (outer : List PySem.Env) (s : Shared) (H : Hp) (E : XK) (hr : Room 2 (A.deeper (envOfC "_law_read" (defScope st__law_read) s.heap.objs.size T.a__law_read cdv))) :
  DSs (cxOf (L2.CX P w) P w K mg base ["text"] "_law_read" (defScope st__law_read) T.a__law_read cdv A outer s H E) (fun cls d _ H' => E cls d H') (defBody st__law_read) m__law_read :=
  have nd := (sc__law_read).nd
  (dss_one (ds_try (by rfl) (by rfl) ⟨by rfl, by decide, .inl T.xm_GapError⟩ (takes_of rfl rfl rfl rfl) (xt_GapError T) (fun _ _ _ tk po => (dss_one (ds_ret (de_tuple (da_cons (de_call (ok_parse_shape T) tk (hr.mono (by decide)) T.mg_parse_shape T.kp_parse_shape T.bd_parse_shape (da_cons (de_var (i := 0)) da_nil) (hlen := (len_cons len_nil))) da_nil))))) (fun _ _ => (dss_one (ds_ret de_non)))))
theorem ok__law_read (T : Tx K mg) : FnOk P w K mg base (L2.CX P w) 3 T.a__law_read T.fd__law_read ["text"] (spD P w K mg 1 f__law_read) := fnD_ok T.F__law_read sc__law_read (dv__law_read T)
theorem sc_law : FnScope ["script", "tape", "wide", "tall", "cells", "x", "y", "text", "settled", "turn", "at", "sign", "bent", "told", "rows", "good", "s", "row", "k", "a", "places", "cell", "chosen", "order", "names", "lines", "b"] ["script"] (defScope st_law) := ⟨rfl, rfl, rfl, by decide +kernel, rfl, by decide +kernel, by decide +kernel⟩
noncomputable def m_law : MS := (sSeq (sAsg (mCall f__law_tape (mCons (mVar 0) mNil)) (gSet 1))
  (sSeq (sPar 2 3 (mCons (m2 dAdd (mC (.int 1)) (mCall f__law_take (mCons (mVar 1) (mCons (mC (.int 5)) mNil)))) (mCons (m2 dAdd (mC (.int 1)) (mCall f__law_take (mCons (mVar 1) (mCons (mC (.int 5)) mNil)))) mNil)))
  (sSeq (sAsg (mLst mNil) (gSet 4))
  (sSeq (sFor (iOf rng1 (mCons (mVar 2) mNil)) (gSet 5) (sAsg (m2 dAdd (mVar 4) (mLc [6] (iOf rng1 (mCons (mVar 3) mNil)) (gSet 6) (mTest isBl (m2 dEq (mCall f__law_take (mCons (mVar 1) (mCons (mC (.int 2)) mNil))) (mC (.int 0)))) (mTuple (mCons (mVar 5) (mCons (mVar 6) mNil))))) (gSet 4)))
  (sSeq (sAsg (mS dTuple (mCons (mVar 4) mNil)) (gSet 4))
  (sSeq (sAsg (mCall f__law_text (mCons (mVar 4) mNil)) (gSet 7))
  (sSeq (sAsg (mAndV (m2 dGt (mS dLenA (mCons (mVar 4) mNil)) (mC (.int 0))) (mAndV (m2 dEq (mS dMin (mCons (mLc [5, 6] (iAny (mVar 4)) (gTupD 2 (gsCons (gSet 5) (gsCons (gSet 6) gsNil))) mYes (mVar 5)) mNil)) (mC (.int 0))) (m2 dEq (mS dMin (mCons (mLc [5, 6] (iAny (mVar 4)) (gTupD 2 (gsCons (gSet 5) (gsCons (gSet 6) gsNil))) mYes (mVar 6)) mNil)) (mC (.int 0))))) (gSet 8))
  (sSeq (sIf (mOr (mTest isBl (m2 dNe (mCall f_shape_text (mCons (mVar 4) mNil)) (mVar 7))) (mTest isBl (m2 dNe (mCall f__law_read (mCons (mVar 7) mNil)) (mIf (mTruN 8) (mTuple (mCons (mVar 4) mNil)) (mC .non))))) (sRet (mC (.bl false))) sNext)
  (sSeq (sFor (iOf rng1 (mCons (mC (.int 12)) mNil)) (gSet 9) (sSeq (sAsg (mCall f__law_take (mCons (mVar 1) (mCons (m2 dAdd (mS dLenA (mCons (mVar 7) mNil)) (mC (.int 1))) mNil))) (gSet 10))
  (sSeq (sAsg (m2 dIxA (mC (.str "#.\n a")) (mCall f__law_take (mCons (mVar 1) (mCons (mC (.int 5)) mNil)))) (gSet 11))
  (sSeq (sAsg (m2 dIxA (mLst (mCons (m2 dAdd (mSl dSl (mVar 7) moNone (moSome (mVar 10))) (mSl dSl (mVar 7) (moSome (m2 dAdd (mVar 10) (mC (.int 1)))) moNone)) (mCons (m2 dAdd (m2 dAdd (mSl dSl (mVar 7) moNone (moSome (mVar 10))) (mVar 11)) (mSl dSl (mVar 7) (moSome (mVar 10)) moNone)) (mCons (m2 dAdd (m2 dAdd (mSl dSl (mVar 7) moNone (moSome (mVar 10))) (mVar 11)) (mSl dSl (mVar 7) (moSome (m2 dAdd (mVar 10) (mC (.int 1)))) moNone)) (mCons (m2 dAdd (mVar 7) (mSl dSl (mVar 7) moNone (moSome (mVar 10)))) mNil))))) (mCall f__law_take (mCons (mVar 1) (mCons (mC (.int 4)) mNil)))) (gSet 12))
  (sSeq (sAsg (mCall f__law_read (mCons (mVar 12) mNil)) (gSet 13))
  (sSeq (sIf (mAnd (mTest isBl (m2 dNotN (mVar 13) (mC .non))) (mTest isBl (m2 dNe (mCall f__law_text (mCons (m2 dIxA (mVar 13) (mC (.int 0))) mNil)) (mVar 12)))) (sRet (mC (.bl false))) sNext)
  (sSeq (sAsg (mSM1 dSplit (mSl dSl (mVar 12) moNone (moSome (m1 dNeg (mC (.int 1))))) (mC (.str "\n"))) (gSet 14))
  (sSeq (sAsg (mAndV (m2 dEq (mSl dSl (mVar 12) (moSome (m1 dNeg (mC (.int 1)))) moNone) (mC (.str "\n"))) (mAndV (m2 dLt (mS dLenA (mCons (mVar 14) mNil)) (mC (.int 11))) (mS dAll (mCons (mLc [17] (iAny (mVar 14)) (gSet 17) mYes (mAndV (m2 dEq (mS dLenA (mCons (mVar 17) mNil)) (mS dLenA (mCons (m2 dIxA (mVar 14) (mC (.int 0))) mNil))) (mS dAll (mCons (mLc [16] (iAny (mVar 17)) (gSet 16) mYes (m2 dInA (mVar 16) (mC (.str "#.")))) mNil)))) mNil)))) (gSet 15))
  (sSeq (sAsg (mAndV (mVar 15) (mAndV (mChain dLt dLt (mC (.int 0)) (mS dLenA (mCons (m2 dIxA (mVar 14) (mC (.int 0))) mNil)) (mC (.int 11))) (mAndV (m2 dInA (mC (.str "#")) (m2 dIxA (mVar 14) (mC (.int 0)))) (mAndV (m2 dInA (mC (.str "#")) (m2 dIxA (mVar 14) (m1 dNeg (mC (.int 1))))) (mAndV (mS dAny (mCons (mLc [17] (iAny (mVar 14)) (gSet 17) mYes (m2 dEq (m2 dIxA (mVar 17) (mC (.int 0))) (mC (.str "#")))) mNil)) (mS dAny (mCons (mLc [17] (iAny (mVar 14)) (gSet 17) mYes (m2 dEq (m2 dIxA (mVar 17) (m1 dNeg (mC (.int 1)))) (mC (.str "#")))) mNil))))))) (gSet 15))
  (sIf (mTest isBl (m2 dNe (m2 dNotN (mVar 13) (mC .non)) (mVar 15))) (sRet (mC (.bl false))) sNext))))))))))
  (sSeq (sAsg (mS dTuple (mCons (mLc [18] (iOf rng1 (mCons (mCall f__law_take (mCons (mVar 1) (mCons (mC (.int 4)) mNil))) mNil)) (gSet 18) mYes (m2 dSub (mCall f__law_take (mCons (mVar 1) (mCons (mC (.int 30)) mNil))) (mC (.int 9)))) mNil)) (gSet 17))
  (sSeq (sIf (mTest isBl (m2 dNe (mCall f_numbers_text (mCons (mVar 17) mNil)) (mIf (mTest isBl (m2 dGt (mS dLenA (mCons (mVar 17) mNil)) (mC (.int 0)))) (mSM1 dJoin (mC (.str " ")) (mLc [19] (iAny (mVar 17)) (gSet 19) mYes (mS dStr (mCons (mVar 19) mNil)))) (mC (.str "-"))))) (sRet (mC (.bl false))) sNext)
  (sSeq (sIf (mTest isBl (m2 dGt (mS dLenA (mCons (mVar 4) mNil)) (mC (.int 0)))) (sSeq (sAsg (mS dTuple (mCons (mLc [21] (iAny (mVar 4)) (gSet 21) mYes (mTuple (mCons (mC (.int 0)) (mCons (mTuple (mCons (mVar 21) mNil)) mNil)))) mNil)) (gSet 20))
  (sSeq (sAsg (mS dTuple (mCons (mLc [18] (iOf rng1 (mCons (mS dLenA (mCons (mVar 4) mNil)) mNil)) (gSet 18) (mTest isBl (m2 dGt (mCall f__law_take (mCons (mVar 1) (mCons (mC (.int 3)) mNil))) (mC (.int 0)))) (mVar 18)) mNil)) (gSet 22))
  (sSeq (sAsg (mCall f_tiling_text (mCons (mVar 4) (mCons (mVar 20) (mCons (mVar 22) mNil)))) (gSet 13))
  (sSeq (sAsg (mS dSorted (mCons (mLc [18] (iAny (mVar 22)) (gSet 18) mYes (mTuple (mCons (m2 dIxA (m2 dIxA (mVar 4) (mVar 18)) (mC (.int 1))) (mCons (m2 dIxA (m2 dIxA (mVar 4) (mVar 18)) (mC (.int 0))) mNil)))) mNil)) (gSet 23))
  (sSeq (sAsg (mS (dDict true) (mCons (mLc [18] (iOf rng1 (mCons (mS dLenA (mCons (mVar 23) mNil)) mNil)) (gSet 18) mYes (mTuple (mCons (m2 dIxA (mVar 23) (mVar 18)) (mCons (m2 dIxA (mC (.str "abcdefghijklmnopqrstuvwxyz")) (mVar 18)) mNil)))) mNil)) (gSet 24))
  (sSeq (sAsg (mSM1 dSplit (mVar 13) (mC (.str "\n"))) (gSet 25))
  (sSeq (sFor (iOf rng1 (mCons (m2 dSub (mS dLenA (mCons (mVar 25) mNil)) (mC (.int 1))) mNil)) (gSet 6) (sIf (mTest isBl (m2 dNe (m2 dIxA (mVar 25) (mVar 6)) (mSM1 dJoin (mC (.str "")) (mLc [5] (iOf rng1 (mCons (m2 dAdd (mS dMax (mCons (mLc [19, 26] (iAny (mVar 4)) (gTupD 2 (gsCons (gSet 19) (gsCons (gSet 26) gsNil))) mYes (mVar 19)) mNil)) (mC (.int 1))) mNil)) (gSet 5) mYes (mGet2 24 (mTuple (mCons (mVar 6) (mCons (mVar 5) mNil))) (mC (.str "."))))))) (sRet (mC (.bl false))) sNext))
  (sIf (mTest isBl (m2 dNe (mS dLenA (mCons (mVar 25) mNil)) (m2 dAdd (mS dMax (mCons (mLc [19, 26] (iAny (mVar 4)) (gTupD 2 (gsCons (gSet 19) (gsCons (gSet 26) gsNil))) mYes (mVar 26)) mNil)) (mC (.int 2))))) (sRet (mC (.bl false))) sNext)))))))) sNext)
  (sTry cat_GapError (sSeq (sExpr (mCall f_tiling_text (mCons (mTuple mNil) (mCons (mTuple mNil) (mCons (mTuple mNil) mNil)))))
  (sRet (mC (.bl false)))) (sRet (mC (.bl true))))))))))))))))
noncomputable def f_law : MF := mFn 27 1 m_law
theorem dv_law (T : Tx K mg) (cdv : Value) (A : Around) (outer : List PySem.Env) (s : Shared) (H : Hp) (E : XK) (hr : Room 3 (A.deeper (envOfC "law" (defScope st_law) s.heap.objs.size T.a_law cdv))) :
  DSs (cxOf (L2.CX P w) P w K mg base ["script", "tape", "wide", "tall", "cells", "x", "y", "text", "settled", "turn", "at", "sign", "bent", "told", "rows", "good", "s", "row", "k", "a", "places", "cell", "chosen", "order", "names", "lines", "b"] "law" (defScope st_law) T.a_law cdv A outer s H E) (fun cls d _ H' => E cls d H') (defBody st_law) m_law :=
  have nd := (sc_law).nd
  (dss_cons (ds_set (i := 1) nd rfl (by first | exact Or.inl rfl | exact Or.inr rfl) (de_call (ok__law_tape T) (takes_of rfl rfl rfl rfl) (hr.mono (by decide)) T.mg__law_tape T.kp__law_tape T.bd__law_tape (da_cons (de_var (i := 0)) da_nil) (hlen := (len_cons len_nil))))
  (dss_cons (ds_par (i := 2) (j := 3) (by rfl) nd rfl rfl (by decide) (da_cons (de_op dop_add de_int (de_call (ok__law_take T) (takes_of rfl rfl rfl rfl) (hr.mono (by decide)) T.mg__law_take T.kp__law_take T.bd__law_take (da_cons (de_var (i := 1)) (da_cons de_int da_nil)) (hlen := (len_cons (len_cons len_nil))))) (da_cons (de_op dop_add de_int (de_call (ok__law_take T) (takes_of rfl rfl rfl rfl) (hr.mono (by decide)) T.mg__law_take T.kp__law_take T.bd__law_take (da_cons (de_var (i := 1)) (da_cons de_int da_nil)) (hlen := (len_cons (len_cons len_nil))))) da_nil)))
  (dss_cons (ds_set (i := 4) nd rfl (by first | exact Or.inl rfl | exact Or.inr rfl) (de_fresh (df_list da_nil)))
  (dss_cons (ds_for (passes_of rfl) (by rfl) (di_range1 (by rfl) T.m_range (da_cons (de_var (i := 2)) da_nil)) (dg_name nd rfl (by first | exact Or.inl rfl | exact Or.inr rfl)) (dss_one (ds_set (i := 4) nd rfl (by first | exact Or.inl rfl | exact Or.inr rfl) (de_op dop_add (de_var (i := 4)) (de_fresh (df_lc (own := [("y", 6)]) (by rfl) nd (di_range1 (by rfl) T.m_range (da_cons (de_var (i := 3)) da_nil)) (blkOk_by (by rfl)) (fun _ _ _ _ _ => (dv_name nd rfl (by first | exact Or.inl rfl | exact Or.inr rfl) (by decide) (by first | exact Or.inl rfl | exact Or.inr rfl))) (fun _ _ _ _ _ => (dts_one (dt_cmp (dop_eq (u64 hr)) (de_call (ok__law_take T) takes0 (hr.mono (by decide)) T.mg__law_take T.kp__law_take T.bd__law_take (da_cons (de_var (i := 1)) (da_cons de_int da_nil)) (hlen := (len_cons (len_cons len_nil)))) de_int (by rfl)))) (fun _ _ _ _ _ => (de_tuple (da_cons (de_var (i := 5)) (da_cons (de_var (i := 6)) da_nil))))))))))
  (dss_cons (ds_set (i := 4) nd rfl (by first | exact Or.inl rfl | exact Or.inr rfl) (de_callTy (dcall_tuple) (by rfl) T.m_tuple (da_cons (de_var (i := 4)) da_nil) bt_tuple))
  (dss_cons (ds_set (i := 7) nd rfl (by first | exact Or.inl rfl | exact Or.inr rfl) (de_call (ok__law_text T) (takes_of rfl rfl rfl rfl) (hr.mono (by decide)) T.mg__law_text T.kp__law_text T.bd__law_text (da_cons (de_var (i := 4)) da_nil) (hlen := (len_cons len_nil))))
  (dss_cons (ds_set (i := 8) nd rfl (by first | exact Or.inl rfl | exact Or.inr rfl) (de_and (de_cmp (dop_gt) (de_callB (dcall_lenA) (by rfl) T.m_len (da_cons (de_var (i := 4)) da_nil) bt_len) de_int (by rfl)) (de_and (de_cmp (dop_eq (u64 hr)) (de_callB (dcall_min (by rfl)) (by rfl) T.m_min (da_cons (de_fresh (df_lc (own := [("x", 5), ("y", 6)]) (by rfl) nd (di_any (de_var (i := 4))) (blkOk_by (by rfl)) (fun _ _ _ _ _ => (dv_tup (by rfl) (dvs_cons (dv_name nd rfl (by first | exact Or.inl rfl | exact Or.inr rfl) (by decide) (by first | exact Or.inl rfl | exact Or.inr rfl)) (dvs_cons (dv_name nd rfl (by first | exact Or.inl rfl | exact Or.inr rfl) (by decide) (by first | exact Or.inl rfl | exact Or.inr rfl)) dvs_nil)))) (fun _ _ _ _ _ => dts_nil) (fun _ _ _ _ _ => (de_var (i := 5))))) da_nil) bt_min) de_int (by rfl)) (de_one (de_cmp (dop_eq (u64 hr)) (de_callB (dcall_min (by rfl)) (by rfl) T.m_min (da_cons (de_fresh (df_lc (own := [("x", 5), ("y", 6)]) (by rfl) nd (di_any (de_var (i := 4))) (blkOk_by (by rfl)) (fun _ _ _ _ _ => (dv_tup (by rfl) (dvs_cons (dv_name nd rfl (by first | exact Or.inl rfl | exact Or.inr rfl) (by decide) (by first | exact Or.inl rfl | exact Or.inr rfl)) (dvs_cons (dv_name nd rfl (by first | exact Or.inl rfl | exact Or.inr rfl) (by decide) (by first | exact Or.inl rfl | exact Or.inr rfl)) dvs_nil)))) (fun _ _ _ _ _ => dts_nil) (fun _ _ _ _ _ => (de_var (i := 6))))) da_nil) bt_min) de_int (by rfl))))))
  (dss_cons (ds_if (dt_w (dw_or (dt_cmp (dop_ne (u64 hr)) (de_call (ok_shape_text T) (takes_of rfl rfl rfl rfl) (hr.mono (by decide)) T.mg_shape_text T.kp_shape_text T.bd_shape_text (da_cons (de_var (i := 4)) da_nil) (hlen := (len_cons len_nil))) (de_var (i := 7)) (by rfl)) (dw_or1 (dt_cmp (dop_ne (u64 hr)) (de_call (ok__law_read T) (takes_of rfl rfl rfl rfl) (hr.mono (by decide)) T.mg__law_read T.kp__law_read T.bd__law_read (da_cons (de_var (i := 7)) da_nil) (hlen := (len_cons len_nil))) (de_ifExp (dt_valN (i := 8)) (de_tuple (da_cons (de_var (i := 4)) da_nil)) de_non) (by rfl))))) (dss_one (ds_ret de_bl)) dss_nil)
  (dss_cons (ds_for (passes_of rfl) (by rfl) (di_range1 (by rfl) T.m_range (da_cons de_int da_nil)) (dg_name nd rfl (by first | exact Or.inl rfl | exact Or.inr rfl)) (dss_cons (ds_set (i := 10) nd rfl (by first | exact Or.inl rfl | exact Or.inr rfl) (de_call (ok__law_take T) (takes_of rfl rfl rfl rfl) (hr.mono (by decide)) T.mg__law_take T.kp__law_take T.bd__law_take (da_cons (de_var (i := 1)) (da_cons (de_op dop_add (de_callB (dcall_lenA) (by rfl) T.m_len (da_cons (de_var (i := 7)) da_nil) bt_len) de_int) da_nil)) (hlen := (len_cons (len_cons len_nil)))))
  (dss_cons (ds_set (i := 11) nd rfl (by first | exact Or.inl rfl | exact Or.inr rfl) (de_ix (dixA (u1 hr) T.noT) de_str (de_call (ok__law_take T) (takes_of rfl rfl rfl rfl) (hr.mono (by decide)) T.mg__law_take T.kp__law_take T.bd__law_take (da_cons (de_var (i := 1)) (da_cons de_int da_nil)) (hlen := (len_cons (len_cons len_nil))))))
  (dss_cons (ds_set (i := 12) nd rfl (by first | exact Or.inl rfl | exact Or.inr rfl) (de_ix (dixA (u1 hr) T.noT) (de_fresh (df_list (da_cons (de_op dop_add (de_sl dsl (de_var (i := 7)) do_none (do_some (de_var (i := 10)))) (de_sl dsl (de_var (i := 7)) (do_some (de_op dop_add (de_var (i := 10)) de_int)) do_none)) (da_cons (de_op dop_add (de_op dop_add (de_sl dsl (de_var (i := 7)) do_none (do_some (de_var (i := 10)))) (de_var (i := 11))) (de_sl dsl (de_var (i := 7)) (do_some (de_var (i := 10))) do_none)) (da_cons (de_op dop_add (de_op dop_add (de_sl dsl (de_var (i := 7)) do_none (do_some (de_var (i := 10)))) (de_var (i := 11))) (de_sl dsl (de_var (i := 7)) (do_some (de_op dop_add (de_var (i := 10)) de_int)) do_none)) (da_cons (de_op dop_add (de_var (i := 7)) (de_sl dsl (de_var (i := 7)) do_none (do_some (de_var (i := 10))))) da_nil)))))) (de_call (ok__law_take T) (takes_of rfl rfl rfl rfl) (hr.mono (by decide)) T.mg__law_take T.kp__law_take T.bd__law_take (da_cons (de_var (i := 1)) (da_cons de_int da_nil)) (hlen := (len_cons (len_cons len_nil))))))
  (dss_cons (ds_set (i := 13) nd rfl (by first | exact Or.inl rfl | exact Or.inr rfl) (de_call (ok__law_read T) (takes_of rfl rfl rfl rfl) (hr.mono (by decide)) T.mg__law_read T.kp__law_read T.bd__law_read (da_cons (de_var (i := 12)) da_nil) (hlen := (len_cons len_nil))))
  (dss_cons (ds_if (dt_w (dw_and (dt_cmp (dop_notN) (de_var (i := 13)) de_non (by rfl)) (dw_and1 (dt_cmp (dop_ne (u64 hr)) (de_call (ok__law_text T) (takes_of rfl rfl rfl rfl) (hr.mono (by decide)) T.mg__law_text T.kp__law_text T.bd__law_text (da_cons (de_ix (dixA (u1 hr) T.noT) (de_var (i := 13)) de_int) da_nil) (hlen := (len_cons len_nil))) (de_var (i := 12)) (by rfl))))) (dss_one (ds_ret de_bl)) dss_nil)
  (dss_cons (ds_set (i := 14) nd rfl (by first | exact Or.inl rfl | exact Or.inr rfl) (de_sm1 PySem.F.slot_str_split dmt_split (de_sl dsl (de_var (i := 12)) do_none (do_some (de_un dop_neg de_int))) de_str))
  (dss_cons (ds_set (i := 15) nd rfl (by first | exact Or.inl rfl | exact Or.inr rfl) (de_and (de_cmp (dop_eq (u64 hr)) (de_sl dsl (de_var (i := 12)) (do_some (de_un dop_neg de_int)) do_none) de_str (by rfl)) (de_and (de_cmp (dop_lt) (de_callB (dcall_lenA) (by rfl) T.m_len (da_cons (de_var (i := 14)) da_nil) bt_len) de_int (by rfl)) (de_one (de_callB (dcall_all (by rfl)) (by rfl) T.m_all (da_cons (de_fresh (df_lc (own := [("row", 17)]) (by rfl) nd (di_any (de_var (i := 14))) (blkOk_by (by rfl)) (fun _ _ _ _ _ => (dv_name nd rfl (by first | exact Or.inl rfl | exact Or.inr rfl) (by decide) (by first | exact Or.inl rfl | exact Or.inr rfl))) (fun _ _ _ _ _ => dts_nil) (fun _ _ _ _ _ => (de_and (de_cmp (dop_eq (u64 hr)) (de_callB (dcall_lenA) (by rfl) T.m_len (da_cons (de_var (i := 17)) da_nil) bt_len) (de_callB (dcall_lenA) (by rfl) T.m_len (da_cons (de_ix (dixA (u1 hr) T.noT) (de_var (i := 14)) de_int) da_nil) bt_len) (by rfl)) (de_one (de_callB (dcall_all (by rfl)) (by rfl) T.m_all (da_cons (de_fresh (df_lc (own := [("s", 16)]) (by rfl) nd (di_any (de_var (i := 17))) (blkOk_by (by rfl)) (fun _ _ _ _ _ => (dv_name nd rfl (by first | exact Or.inl rfl | exact Or.inr rfl) (by decide) (by first | exact Or.inl rfl | exact Or.inr rfl))) (fun _ _ _ _ _ => dts_nil) (fun _ _ _ _ _ => (de_cmp (dop_inA (u65 hr) T.noT) (de_var (i := 16)) de_str (by rfl))))) da_nil) bt_all)))))) da_nil) bt_all)))))
  (dss_cons (ds_set (i := 15) nd rfl (by first | exact Or.inl rfl | exact Or.inr rfl) (de_and (de_var (i := 15)) (de_and (de_chain (dop_lt) (dop_lt) de_int (de_callB (dcall_lenA) (by rfl) T.m_len (da_cons (de_ix (dixA (u1 hr) T.noT) (de_var (i := 14)) de_int) da_nil) bt_len) de_int) (de_and (de_cmp (dop_inA (u65 hr) T.noT) de_str (de_ix (dixA (u1 hr) T.noT) (de_var (i := 14)) de_int) (by rfl)) (de_and (de_cmp (dop_inA (u65 hr) T.noT) de_str (de_ix (dixA (u1 hr) T.noT) (de_var (i := 14)) (de_un dop_neg de_int)) (by rfl)) (de_and (de_callB (dcall_any (by rfl)) (by rfl) T.m_any (da_cons (de_fresh (df_lc (own := [("row", 17)]) (by rfl) nd (di_any (de_var (i := 14))) (blkOk_by (by rfl)) (fun _ _ _ _ _ => (dv_name nd rfl (by first | exact Or.inl rfl | exact Or.inr rfl) (by decide) (by first | exact Or.inl rfl | exact Or.inr rfl))) (fun _ _ _ _ _ => dts_nil) (fun _ _ _ _ _ => (de_cmp (dop_eq (u64 hr)) (de_ix (dixA (u1 hr) T.noT) (de_var (i := 17)) de_int) de_str (by rfl))))) da_nil) bt_any) (de_one (de_callB (dcall_any (by rfl)) (by rfl) T.m_any (da_cons (de_fresh (df_lc (own := [("row", 17)]) (by rfl) nd (di_any (de_var (i := 14))) (blkOk_by (by rfl)) (fun _ _ _ _ _ => (dv_name nd rfl (by first | exact Or.inl rfl | exact Or.inr rfl) (by decide) (by first | exact Or.inl rfl | exact Or.inr rfl))) (fun _ _ _ _ _ => dts_nil) (fun _ _ _ _ _ => (de_cmp (dop_eq (u64 hr)) (de_ix (dixA (u1 hr) T.noT) (de_var (i := 17)) (de_un dop_neg de_int)) de_str (by rfl))))) da_nil) bt_any))))))))
  (dss_one (ds_if (dt_cmp (dop_ne (u64 hr)) (de_cmp (dop_notN) (de_var (i := 13)) de_non (by rfl)) (de_var (i := 15)) (by rfl)) (dss_one (ds_ret de_bl)) dss_nil)))))))))))
  (dss_cons (ds_set (i := 17) nd rfl (by first | exact Or.inl rfl | exact Or.inr rfl) (de_callTy (dcall_tuple) (by rfl) T.m_tuple (da_cons (de_fresh (df_lc (own := [("k", 18)]) (by rfl) nd (di_range1 (by rfl) T.m_range (da_cons (de_call (ok__law_take T) (takes_of rfl rfl rfl rfl) (hr.mono (by decide)) T.mg__law_take T.kp__law_take T.bd__law_take (da_cons (de_var (i := 1)) (da_cons de_int da_nil)) (hlen := (len_cons (len_cons len_nil)))) da_nil)) (blkOk_by (by rfl)) (fun _ _ _ _ _ => (dv_name nd rfl (by first | exact Or.inl rfl | exact Or.inr rfl) (by decide) (by first | exact Or.inl rfl | exact Or.inr rfl))) (fun _ _ _ _ _ => dts_nil) (fun _ _ _ _ _ => (de_op dop_sub (de_call (ok__law_take T) takes0 (hr.mono (by decide)) T.mg__law_take T.kp__law_take T.bd__law_take (da_cons (de_var (i := 1)) (da_cons de_int da_nil)) (hlen := (len_cons (len_cons len_nil)))) de_int)))) da_nil) bt_tuple))
  (dss_cons (ds_if (dt_cmp (dop_ne (u64 hr)) (de_call (ok_numbers_text T) (takes_of rfl rfl rfl rfl) (hr.mono (by decide)) T.mg_numbers_text T.kp_numbers_text T.bd_numbers_text (da_cons (de_var (i := 17)) da_nil) (hlen := (len_cons len_nil))) (de_ifExp (dt_cmp (dop_gt) (de_callB (dcall_lenA) (by rfl) T.m_len (da_cons (de_var (i := 17)) da_nil) bt_len) de_int (by rfl)) (de_sm1 PySem.F.slot_str_join dmt_join de_str (de_fresh (df_lc (own := [("a", 19)]) (by rfl) nd (di_any (de_var (i := 17))) (blkOk_by (by rfl)) (fun _ _ _ _ _ => (dv_name nd rfl (by first | exact Or.inl rfl | exact Or.inr rfl) (by decide) (by first | exact Or.inl rfl | exact Or.inr rfl))) (fun _ _ _ _ _ => dts_nil) (fun _ _ _ _ _ => (de_callTy (dcall_str) (by rfl) T.m_str (da_cons (de_var (i := 19)) da_nil) bt_str))))) de_str) (by rfl)) (dss_one (ds_ret de_bl)) dss_nil)
  (dss_cons (ds_if (dt_cmp (dop_gt) (de_callB (dcall_lenA) (by rfl) T.m_len (da_cons (de_var (i := 4)) da_nil) bt_len) de_int (by rfl)) (dss_cons (ds_set (i := 20) nd rfl (by first | exact Or.inl rfl | exact Or.inr rfl) (de_callTy (dcall_tuple) (by rfl) T.m_tuple (da_cons (de_fresh (df_lc (own := [("cell", 21)]) (by rfl) nd (di_any (de_var (i := 4))) (blkOk_by (by rfl)) (fun _ _ _ _ _ => (dv_name nd rfl (by first | exact Or.inl rfl | exact Or.inr rfl) (by decide) (by first | exact Or.inl rfl | exact Or.inr rfl))) (fun _ _ _ _ _ => dts_nil) (fun _ _ _ _ _ => (de_tuple (da_cons de_int (da_cons (de_tuple (da_cons (de_var (i := 21)) da_nil)) da_nil)))))) da_nil) bt_tuple))
  (dss_cons (ds_set (i := 22) nd rfl (by first | exact Or.inl rfl | exact Or.inr rfl) (de_callTy (dcall_tuple) (by rfl) T.m_tuple (da_cons (de_fresh (df_lc (own := [("k", 18)]) (by rfl) nd (di_range1 (by rfl) T.m_range (da_cons (de_callB (dcall_lenA) (by rfl) T.m_len (da_cons (de_var (i := 4)) da_nil) bt_len) da_nil)) (blkOk_by (by rfl)) (fun _ _ _ _ _ => (dv_name nd rfl (by first | exact Or.inl rfl | exact Or.inr rfl) (by decide) (by first | exact Or.inl rfl | exact Or.inr rfl))) (fun _ _ _ _ _ => (dts_one (dt_cmp (dop_gt) (de_call (ok__law_take T) takes0 (hr.mono (by decide)) T.mg__law_take T.kp__law_take T.bd__law_take (da_cons (de_var (i := 1)) (da_cons de_int da_nil)) (hlen := (len_cons (len_cons len_nil)))) de_int (by rfl)))) (fun _ _ _ _ _ => (de_var (i := 18))))) da_nil) bt_tuple))
  (dss_cons (ds_set (i := 13) nd rfl (by first | exact Or.inl rfl | exact Or.inr rfl) (de_call (ok_tiling_text T) (takes_of rfl rfl rfl rfl) (hr.mono (by decide)) T.mg_tiling_text T.kp_tiling_text T.bd_tiling_text (da_cons (de_var (i := 4)) (da_cons (de_var (i := 20)) (da_cons (de_var (i := 22)) da_nil))) (hlen := (len_cons (len_cons (len_cons len_nil))))))
  (dss_cons (ds_set (i := 23) nd rfl (by first | exact Or.inl rfl | exact Or.inr rfl) (de_callB (dcall_sorted (u66 hr)) (by rfl) T.m_sorted (da_cons (de_fresh (df_lc (own := [("k", 18)]) (by rfl) nd (di_any (de_var (i := 22))) (blkOk_by (by rfl)) (fun _ _ _ _ _ => (dv_name nd rfl (by first | exact Or.inl rfl | exact Or.inr rfl) (by decide) (by first | exact Or.inl rfl | exact Or.inr rfl))) (fun _ _ _ _ _ => dts_nil) (fun _ _ _ _ _ => (de_tuple (da_cons (de_ix (dixA (u1 hr) T.noT) (de_ix (dixA (u1 hr) T.noT) (de_var (i := 4)) (de_var (i := 18))) de_int) (da_cons (de_ix (dixA (u1 hr) T.noT) (de_ix (dixA (u1 hr) T.noT) (de_var (i := 4)) (de_var (i := 18))) de_int) da_nil)))))) da_nil) bt_sorted))
  (dss_cons (ds_set (i := 24) nd rfl (by first | exact Or.inl rfl | exact Or.inr rfl) (de_callTy (dcall_dictT (by rfl) (u2 hr) T.noT) (by rfl) T.m_dict (da_cons (de_fresh (df_lc (own := [("k", 18)]) (by rfl) nd (di_range1 (by rfl) T.m_range (da_cons (de_callB (dcall_lenA) (by rfl) T.m_len (da_cons (de_var (i := 23)) da_nil) bt_len) da_nil)) (blkOk_by (by rfl)) (fun _ _ _ _ _ => (dv_name nd rfl (by first | exact Or.inl rfl | exact Or.inr rfl) (by decide) (by first | exact Or.inl rfl | exact Or.inr rfl))) (fun _ _ _ _ _ => dts_nil) (fun _ _ _ _ _ => (de_tuple (da_cons (de_ix (dixA (u1 hr) T.noT) (de_var (i := 23)) (de_var (i := 18))) (da_cons (de_ix (dixA (u1 hr) T.noT) de_str (de_var (i := 18))) da_nil)))))) da_nil) bt_dict))
  (dss_cons (ds_set (i := 25) nd rfl (by first | exact Or.inl rfl | exact Or.inr rfl) (de_sm1 PySem.F.slot_str_split dmt_split (de_var (i := 13)) de_str))
  (dss_cons (ds_for (passes_of rfl) (by rfl) (di_range1 (by rfl) T.m_range (da_cons (de_op dop_sub (de_callB (dcall_lenA) (by rfl) T.m_len (da_cons (de_var (i := 25)) da_nil) bt_len) de_int) da_nil)) (dg_name nd rfl (by first | exact Or.inl rfl | exact Or.inr rfl)) (dss_one (ds_if (dt_cmp (dop_ne (u64 hr)) (de_ix (dixA (u1 hr) T.noT) (de_var (i := 25)) (de_var (i := 6))) (de_sm1 PySem.F.slot_str_join dmt_join de_str (de_fresh (df_lc (own := [("x", 5)]) (by rfl) nd (di_range1 (by rfl) T.m_range (da_cons (de_op dop_add (de_callB (dcall_max (by rfl)) (by rfl) T.m_max (da_cons (de_fresh (df_lc (own := [("a", 19), ("b", 26)]) (by rfl) nd (di_any (de_var (i := 4))) (blkOk_by (by rfl)) (fun _ _ _ _ _ => (dv_tup (by rfl) (dvs_cons (dv_name nd rfl (by first | exact Or.inl rfl | exact Or.inr rfl) (by decide) (by first | exact Or.inl rfl | exact Or.inr rfl)) (dvs_cons (dv_name nd rfl (by first | exact Or.inl rfl | exact Or.inr rfl) (by decide) (by first | exact Or.inl rfl | exact Or.inr rfl)) dvs_nil)))) (fun _ _ _ _ _ => dts_nil) (fun _ _ _ _ _ => (de_var (i := 19))))) da_nil) bt_max) de_int) da_nil)) (blkOk_by (by rfl)) (fun _ _ _ _ _ => (dv_name nd rfl (by first | exact Or.inl rfl | exact Or.inr rfl) (by decide) (by first | exact Or.inl rfl | exact Or.inr rfl))) (fun _ _ _ _ _ => dts_nil) (fun _ _ _ _ _ => (de_get2 (i := 24) (u1 hr) T.noT (de_tuple (da_cons (de_var (i := 6)) (da_cons (de_var (i := 5)) da_nil))) de_str ⟨by rfl, by rfl, by rfl, by rfl⟩))))) (by rfl)) (dss_one (ds_ret de_bl)) dss_nil)))
  (dss_one (ds_if (dt_cmp (dop_ne (u64 hr)) (de_callB (dcall_lenA) (by rfl) T.m_len (da_cons (de_var (i := 25)) da_nil) bt_len) (de_op dop_add (de_callB (dcall_max (by rfl)) (by rfl) T.m_max (da_cons (de_fresh (df_lc (own := [("a", 19), ("b", 26)]) (by rfl) nd (di_any (de_var (i := 4))) (blkOk_by (by rfl)) (fun _ _ _ _ _ => (dv_tup (by rfl) (dvs_cons (dv_name nd rfl (by first | exact Or.inl rfl | exact Or.inr rfl) (by decide) (by first | exact Or.inl rfl | exact Or.inr rfl)) (dvs_cons (dv_name nd rfl (by first | exact Or.inl rfl | exact Or.inr rfl) (by decide) (by first | exact Or.inl rfl | exact Or.inr rfl)) dvs_nil)))) (fun _ _ _ _ _ => dts_nil) (fun _ _ _ _ _ => (de_var (i := 26))))) da_nil) bt_max) de_int) (by rfl)) (dss_one (ds_ret de_bl)) dss_nil))))))))) dss_nil)
  (dss_one (ds_try (by rfl) (by rfl) ⟨by rfl, by decide, .inl T.xm_GapError⟩ (takes_of rfl rfl rfl rfl) (xt_GapError T) (fun _ _ _ tk po => (dss_cons (ds_expr (de_call (ok_tiling_text T) tk (hr.mono (by decide)) T.mg_tiling_text T.kp_tiling_text T.bd_tiling_text (da_cons (de_tuple da_nil) (da_cons (de_tuple da_nil) (da_cons (de_tuple da_nil) da_nil))) (hlen := (len_cons (len_cons (len_cons len_nil))))))
  (dss_one (ds_ret de_bl)))) (fun _ _ => (dss_one (ds_ret de_bl)))))))))))))))))
theorem ok_law (T : Tx K mg) : FnOk P w K mg base (L2.CX P w) 4 T.a_law T.fd_law ["script"] (spD P w K mg 1 f_law) := fnD_ok T.F_law sc_law (dv_law T)
end
end DL
set_option Elab.async false
set_option linter.all false
set_option maxRecDepth 100000
set_option autoImplicit false
set_option maxHeartbeats 1000000
namespace DL
open PySem L2 TL
/-! ### texts -/
theorem joinL_nil : ∀ ps : List (List Nat), joinL [] ps = ps.flatten
  | [] => rfl
  | [p] => by simp [joinL]
  | p :: q :: r => by
    show p ++ ([] ++ joinL [] (q :: r)) = _
    rw [joinL_nil (q :: r)]; rfl
theorem tl_join0 (ys : List Str) : tl (Txt.join "" ys) = (ys.map tl).flatten := by
  rw [join_eq, tl_join]
  exact joinL_nil _
theorem sum_le {ys : List Str} {n : Nat} (h : ∀ y ∈ ys, y.length ≤ n) : (ys.map (·.length)).sum ≤ ys.length * n := by
  induction ys with
  | nil => simp
  | cons y r ih =>
    have h1 := h y List.mem_cons_self
    have h2 := ih fun z hz => h z (List.mem_cons_of_mem _ hz)
    rw [List.map_cons, List.sum_cons, List.length_cons, Nat.succ_mul]
    omega
theorem dJoin_strs {a : Str} {ys : List Str} (h : (ys.map (·.length)).sum + ys.length * a.length ≤ 16777216) : dJoin a (.lst (ys.map D.str)) = some (.str (Txt.join a ys)) := by
  simp only [dJoin, toS_map]
  exact if_pos h
theorem mSM1_eq {g : Str → D → Option D} {f h : MD} {e e1 e2 : Env} {x : Str} {y z : D} (hf : f e = .ret (.str x, e1)) (hh : h e1 = .ret (y, e2)) (hg : g x y = some z) : mSM1 g f h e = .ret (z, e2) := by
  show (f e).bind _ = _
  rw [hf]
  show (h e1).bind _ = _
  rw [hh]
  show (T.of (g x y)).bind _ = _
  rw [hg]
  rfl
theorem sRet_eq' {f : MD} {e e1 : Env} {x : D} (hf : f e = .ret (x, e1)) : sRet f e = .ret (.rt x, e1) := by
  show (f e).bind _ = _
  rw [hf]
  rfl
theorem mCmpB_eq {g : D → D → Option D} {f : MD} {e : Env} {i : Nat} {x d z : D} {own : Bool} (hf : f e = .ret (x, e)) (hp : peekE e i = some (d, own)) (hg : g x d = some z) (ho : okB own z = true) : mCmpB g f i e = .ret (z, e) := by
  show (f e).bind _ = _
  rw [hf]
  show (match peekE e i with | none => _ | some (d, own) => _) = _
  rw [hp]
  show (T.of (g x d)).bind _ = _
  rw [hg]
  exact if_pos ho
theorem rng1_ok {j : Nat} (h : j < 2 ^ 62) : rng1 [.int (j : Int)] = some ((List.range j).map fun (i : Nat) => D.int (i : Int)) := by
  unfold rng1
  have : in62 (j : Int) = true := by
    unfold in62
    rw [Bool.and_eq_true]
    exact ⟨decide_eq_true (by omega), decide_eq_true (by omega)⟩
  simp only [this, if_true]
  unfold ups
  simp
theorem iOf_eq {g : List D → Option (List D)} {fl : ML} {e : Env} {ds out : List D} (hf : fl e = .ret (ds, e)) (hg : g ds = some out) : iOf g fl e = .ret (out, e) := by
  show (fl e).bind _ = _
  rw [hf]
  show (T.of (g ds)).bind _ = _
  rw [hg]
  rfl
theorem mIf_eq {c : MB} {f g : MD} {e : Env} {b : Bool} {x y : D} (hc : c e = .ret (b, e)) (hf : f e = .ret (x, e)) (hg : g e = .ret (y, e)) : mIf c f g e = .ret (if b = true then x else y, e) := by
  show (c e).bind _ = _
  rw [hc]
  cases b
  · exact hg
  · exact hf
def sg (cs : List (Int × Int)) (x y : Int) : Nat := if (x, y) ∈ cs then 35 else 46
def rowL (cs : List (Int × Int)) (w : Nat) (y : Int) : List Nat := (List.range w).map fun (i : Nat) => sg cs (i : Int) y
def rowS (cs : List (Int × Int)) (w : Nat) (y : Int) : Str := ⟨(rowL cs w y).toArray⟩
def shL (cs : List (Int × Int)) (w t : Nat) : List Nat := (List.range t).flatMap fun (j : Nat) => rowL cs w (j : Int) ++ [10]
def shS (cs : List (Int × Int)) (w t : Nat) : Str := ⟨(shL cs w t).toArray⟩
def wOf (cs : List (Int × Int)) : Nat := ((maxI (cs.map (·.1))).getD 0 + 1).toNat
def tOf (cs : List (Int × Int)) : Nat := ((maxI (cs.map (·.2))).getD 0 + 1).toNat
structure Fits (cs : List (Int × Int)) : Prop where
  x0 : ∀ p ∈ cs, 0 ≤ p.1 ∧ p.1 < 200
  y0 : ∀ p ∈ cs, 0 ≤ p.2 ∧ p.2 < 200
  len : cs.length ≤ 100000
theorem max_fst {cs : List (Int × Int)} (hc : cs ≠ []) (h : Fits cs) : dMax [.lst (cs.map fun p => D.int p.1)] = some (.int ((wOf cs : Nat) - 1 : Int)) ∧ 1 ≤ wOf cs ∧ wOf cs ≤ 200 ∧ (∀ p ∈ cs, p.1 < (wOf cs : Int)) ∧ ∃ p ∈ cs, p.1 = (wOf cs : Int) - 1 := by
  have hne : cs.map (·.1) ≠ [] := by simpa using hc
  obtain ⟨m, hm⟩ := maxI_some hne
  obtain ⟨h1, h2⟩ := maxI_ok hm
  obtain ⟨p, hp, rfl⟩ := List.mem_map.mp h1
  have hw : wOf cs = (p.1 + 1).toNat := by unfold wOf; rw [hm]; rfl
  have hx := h.x0 p hp
  have hw' : ((wOf cs : Nat) : Int) = p.1 + 1 := by rw [hw]; omega
  refine ⟨?_, by omega, by omega, fun q hq => ?_, p, hp, by omega⟩
  · rw [show (cs.map fun p => D.int p.1) = (cs.map (·.1)).map D.int by rw [List.map_map]; rfl]
    show ((toI ((cs.map (·.1)).map D.int)).bind maxI).map D.int = _
    rw [toI_map]
    show (maxI _).map D.int = _
    rw [hm, hw']
    show some (D.int p.1) = some (D.int (p.1 + 1 - 1))
    rw [show p.1 + 1 - 1 = p.1 by omega]
  · have := h2 q.1 (List.mem_map.mpr ⟨q, hq, rfl⟩)
    omega
theorem max_snd {cs : List (Int × Int)} (hc : cs ≠ []) (h : Fits cs) : dMax [.lst (cs.map fun p => D.int p.2)] = some (.int ((tOf cs : Nat) - 1 : Int)) ∧ 1 ≤ tOf cs ∧ tOf cs ≤ 200 ∧ (∀ p ∈ cs, p.2 < (tOf cs : Int)) ∧ ∃ p ∈ cs, p.2 = (tOf cs : Int) - 1 := by
  have hne : cs.map (·.2) ≠ [] := by simpa using hc
  obtain ⟨m, hm⟩ := maxI_some hne
  obtain ⟨h1, h2⟩ := maxI_ok hm
  obtain ⟨p, hp, rfl⟩ := List.mem_map.mp h1
  have hw : tOf cs = (p.2 + 1).toNat := by unfold tOf; rw [hm]; rfl
  have hx := h.y0 p hp
  have hw' : ((tOf cs : Nat) : Int) = p.2 + 1 := by rw [hw]; omega
  refine ⟨?_, by omega, by omega, fun q hq => ?_, p, hp, by omega⟩
  · rw [show (cs.map fun p => D.int p.2) = (cs.map (·.2)).map D.int by rw [List.map_map]; rfl]
    show ((toI ((cs.map (·.2)).map D.int)).bind maxI).map D.int = _
    rw [toI_map]
    show (maxI _).map D.int = _
    rw [hm, hw']
    show some (D.int p.2) = some (D.int (p.2 + 1 - 1))
    rw [show p.2 + 1 - 1 = p.2 by omega]
  · have := h2 q.2 (List.mem_map.mpr ⟨q, hq, rfl⟩)
    omega
/-! ### the dict of the cells -/
def toldK (cs : List (Int × Int)) : List (D × D) := cs.foldl (fun a p => fPut tk a (pD p) (pK p) (.bl true)) []
theorem told_fold : ∀ (cs : List (Int × Int)) (acc : List (D × D)), cs.foldl (fun o x => o.bind fun a => dPut true a (pD x) (.bl true)) (some acc) = some (cs.foldl (fun a p => fPut tk a (pD p) (pK p) (.bl true)) acc)
  | [], _ => rfl
  | c :: r, acc => told_fold r _
theorem told_find (q : Int × Int) : ∀ (cs : List (Int × Int)) (acc : List (D × D)), fFind tk (cs.foldl (fun a p => fPut tk a (pD p) (pK p) (.bl true)) acc) (pK q) = if q ∈ cs then some (.bl true) else fFind tk acc (pK q)
  | [], acc => by simp
  | c :: r, acc => by
    rw [List.foldl_cons, told_find q r, fFind_put (tk_pD c)]
    by_cases h1 : q ∈ r
    · rw [if_pos h1, if_pos (List.mem_cons_of_mem _ h1)]
    · rw [if_neg h1]
      by_cases h2 : q = c
      · subst h2
        rw [if_pos rfl, if_pos List.mem_cons_self]
      · rw [if_neg (fun z => h2 (pK_inj z)), if_neg (fun z => (List.mem_cons.mp z).elim h2 h1)]
theorem told_in {cs : List (Int × Int)} {x y : Int} : dInA (.tup [.int x, .int y]) (.dct true (toldK cs)) = some (.bl (decide ((x, y) ∈ cs))) := by
  show (dFind true (toldK cs) (pD (x, y))).map (fun o => D.bl o.isSome) = _
  show some (D.bl (fFind tk (toldK cs) (pK (x, y))).isSome) = _
  unfold toldK
  rw [told_find]
  by_cases h : (x, y) ∈ cs
  · rw [if_pos h, decide_eq_true h]; rfl
  · rw [if_neg h, decide_eq_false h]; rfl
/-- '#' or '.' -/
def sgS (cs : List (Int × Int)) (x y : Int) : Str := if (x, y) ∈ cs then "#" else "."
theorem sgS_if {cs : List (Int × Int)} {x y : Int} : (if decide ((x, y) ∈ cs) = true then D.str "#" else D.str ".") = D.str (sgS cs x y) := by
  unfold sgS
  by_cases h : (x, y) ∈ cs
  · rw [if_pos (decide_eq_true h), if_pos h]
  · rw [if_neg (by simpa using h), if_neg h]
theorem tl_sgS {cs : List (Int × Int)} {x y : Int} : tl (sgS cs x y) = [sg cs x y] := by
  unfold sgS sg
  split <;> rfl
theorem len_sgS {cs : List (Int × Int)} {x y : Int} : (sgS cs x y).length = 1 := by rw [len_tl, tl_sgS]; rfl
theorem row_join {cs : List (Int × Int)} {w : Nat} {y : Int} (hw : w ≤ 200) : dJoin "" (.lst ((List.range w).map fun (i : Nat) => D.str (sgS cs (i : Int) y))) = some (.str (rowS cs w y)) := by
  have e : ((List.range w).map fun (i : Nat) => D.str (sgS cs (i : Int) y)) = ((List.range w).map fun (i : Nat) => sgS cs (i : Int) y).map D.str := by rw [List.map_map]; rfl
  rw [e, dJoin_strs]
  · congr 2
    refine ext_tl ?_
    rw [tl_join0, List.map_map]
    show _ = rowL cs w y
    unfold rowL
    induction List.range w with
    | nil => rfl
    | cons i r ih =>
      rw [List.map_cons, List.map_cons, List.flatten_cons, ih]
      show tl (sgS cs (i : Int) y) ++ _ = _
      rw [tl_sgS]; rfl
  · have := sum_le (ys := (List.range w).map fun (i : Nat) => sgS cs (i : Int) y) (n := 1) (fun z hz => by obtain ⟨i, _, rfl⟩ := List.mem_map.mp hz; exact Nat.le_of_eq len_sgS)
    rw [List.length_map, List.length_range] at this
    have h0 : (("" : Str)).length = 0 := rfl
    rw [h0]
    omega
theorem rowS_len {cs : List (Int × Int)} {w : Nat} {y : Int} : (rowS cs w y).length = w := by
  rw [len_tl]
  show (rowL cs w y).length = w
  simp [rowL]
theorem nl_tl : tl ("\n" : Str) = [10] := rfl
theorem sh_join {cs : List (Int × Int)} {w t : Nat} (hw : w ≤ 200) (ht : t ≤ 200) : dJoin "" (.lst ((List.range t).map fun (j : Nat) => D.str (rowS cs w (j : Int) ++ "\n"))) = some (.str (shS cs w t)) := by
  have e : ((List.range t).map fun (j : Nat) => D.str (rowS cs w (j : Int) ++ "\n")) = ((List.range t).map fun (j : Nat) => rowS cs w (j : Int) ++ "\n").map D.str := by rw [List.map_map]; rfl
  rw [e, dJoin_strs]
  · congr 2
    refine ext_tl ?_
    rw [tl_join0, List.map_map]
    show _ = shL cs w t
    unfold shL
    induction List.range t with
    | nil => rfl
    | cons i r ih =>
      rw [List.map_cons, List.flatten_cons, ih, List.flatMap_cons]
      congr 1
      show tl (rowS cs w (i : Int) ++ "\n") = _
      rw [tl_append, nl_tl]; rfl
  · have := sum_le (ys := (List.range t).map fun (j : Nat) => rowS cs w (j : Int) ++ "\n") (n := w + 1) (fun z hz => by
      obtain ⟨i, _, rfl⟩ := List.mem_map.mp hz
      rw [len_tl, tl_append, List.length_append, nl_tl, ← len_tl, rowS_len]
      exact Nat.le_refl _)
    rw [List.length_map, List.length_range] at this
    have h0 : (("" : Str)).length = 0 := rfl
    rw [h0]
    have h1 : t * (w + 1) ≤ 200 * 201 := Nat.mul_le_mul ht (by omega)
    omega
theorem size_big {n : Nat} (h : n ≤ 100000) : n ≤ sizeLine := by rw [sizeLine_eq]; omega
theorem mCons_eq {f : MD} {h : ML} {e : Env} {x : D} {xs : List D} (hf : f e = .ret (x, e)) (hh : h e = .ret (xs, e)) : mCons f h e = .ret (x :: xs, e) := by
  show (f e).bind _ = _
  rw [hf]
  show (h e).bind _ = _
  rw [hh]
  rfl
theorem mTuple_eq {h : ML} {e : Env} {xs : List D} (hh : h e = .ret (xs, e)) (hl : xs.length ≤ sizeLine) : mTuple h e = .ret (.tup xs, e) := by
  show T.bind (T.bind (h e) _) _ = _
  rw [hh]
  show T.bind (if xs.length ≤ sizeLine then _ else _) _ = _
  rw [if_pos hl]
  rfl
theorem size_small {n : Nat} (h : n ≤ 100) : n ≤ sizeLine := by rw [sizeLine_eq]; omega
theorem sPairs_eq {i j : Nat} {f g : MD} {e : Env} {x y : D} (hf : f e = .ret (x, e)) (hg : g e = .ret (y, e)) : sAsg (mTuple (mCons f (mCons g mNil))) (gTupD 2 (gsCons (gSet i) (gsCons (gSet j) gsNil))) e = .ret (.nx, (e.set i (.val x)).set j (.val y)) := by
  show ((mTuple (mCons f (mCons g mNil)) e).bind _) = _
  rw [mTuple_eq (mCons_eq hf (mCons_eq hg rfl)) (size_small (by simp))]
  rfl
theorem sSetM_eq {i : Nat} {f : MD} {e : Env} {x : D} (hf : f e = .ret (x, e)) : sSetM i f e = .ret (.nx, e.set i (.mut x)) := by
  show (f e).bind _ = _
  rw [hf]; rfl
theorem mFn_eq {N n : Nat} {m : MS} {ds : List D} {d : D} {e' : Env} (hn : ds.length = n) (h : m (ds.map Sl.val ++ List.replicate (N - n) .un) = .ret (.rt d, e')) : mFn N n m ds = .ret d := by
  unfold mFn
  rw [if_pos hn, h]
  rfl
theorem shape_eval {cs : List (Int × Int)} (hc : cs ≠ []) (h : Fits cs) : f_shape_text [.tup (cs.map pD)] = .ret (.str (shS cs (wOf cs) (tOf cs))) := by
  obtain ⟨a1, a2, a3, _, _⟩ := max_fst hc h
  obtain ⟨b1, b2, b3, _, _⟩ := max_snd hc h
  have hz := size_big h.len
  refine mFn_eq (e' := [.val (.tup (cs.map pD)), .val (.int (wOf cs : Nat)), .val (.int (tOf cs : Nat)), .un, .un, .un, .val (.dct true (toldK cs)), .un, .val (.lst ((List.range (tOf cs)).map fun (j : Nat) => D.str (rowS cs (wOf cs) (j : Int)))), .un]) rfl ?_
  show m_shape_text [.val (.tup (cs.map pD)), .un, .un, .un, .un, .un, .un, .un, .un, .un] = _
  unfold m_shape_text
  rw [seq_eq (e' := [.val (.tup (cs.map pD)), .un, .un, .un, .un, .un, .un, .un, .un, .un]) (by
    have : mNot (mTruN 0) [.val (.tup (cs.map pD)), .un, .un, .un, .un, .un, .un, .un, .un, .un] = .ret ((cs.map pD).isEmpty, [.val (.tup (cs.map pD)), .un, .un, .un, .un, .un, .un, .un, .un, .un]) := by
      show T.ret (!!(cs.map pD).isEmpty, _) = _
      rw [Bool.not_not]
    rw [sIf_eq this, if_neg (by cases cs with
      | nil => exact absurd rfl hc
      | cons => simp)]
    rfl)]
  rw [seq_eq (sPairs_eq (i := 1) (j := 2) (x := .int (wOf cs : Nat)) (y := .int (tOf cs : Nat))
    (m2_eq (mS1_eq (mLc_map (ι := Int × Int) (f := pD) (φ := fun p => D.int p.1) (xs := cs) rfl rfl (fun p _ => ⟨_, _, rfl, rfl, (by rfl)⟩) hz) a1) rfl (show some (D.int ((wOf cs : Nat) - 1 + 1 : Int)) = _ by rw [Int.sub_add_cancel]))
    (m2_eq (mS1_eq (mLc_map (ι := Int × Int) (f := pD) (φ := fun p => D.int p.2) (xs := cs) rfl rfl (fun p _ => ⟨_, _, rfl, rfl, (by rfl)⟩) hz) b1) rfl (show some (D.int ((tOf cs : Nat) - 1 + 1 : Int)) = _ by rw [Int.sub_add_cancel])))]
  show sSeq _ _ [.val (.tup (cs.map pD)), .val (.int (wOf cs : Nat)), .val (.int (tOf cs : Nat)), .un, .un, .un, .un, .un, .un, .un] = _
  rw [seq_eq (sAsg_eq (mDc_eval (ι := Int × Int) (f := pD) (φ := pD) (ψ := fun _ => .bl true) (xs := cs) (out := toldK cs) rfl rfl (fun p _ => ⟨_, _, _, rfl, rfl, rfl, (by rfl)⟩) hz (told_fold cs [])))]
  show sSeq _ _ [.val (.tup (cs.map pD)), .val (.int (wOf cs : Nat)), .val (.int (tOf cs : Nat)), .un, .un, .un, .val (.dct true (toldK cs)), .un, .un, .un] = _
  rw [seq_eq (sSetM_eq (i := 8) (x := .lst ((List.range (tOf cs)).map fun (j : Nat) => D.str (rowS cs (wOf cs) (j : Int)))) (mLc_map (ι := Nat) (f := fun i => D.int (i : Int)) (φ := fun j => D.str (rowS cs (wOf cs) (j : Int))) (xs := List.range (tOf cs))
    (iOf_eq rfl (rng1_ok (by omega))) rfl (fun j _ => ?_) (by rw [List.length_range]; exact size_big (by omega))))]
  · show sRet _ [.val (.tup (cs.map pD)), .val (.int (wOf cs : Nat)), .val (.int (tOf cs : Nat)), .un, .un, .un, .val (.dct true (toldK cs)), .un, .mut (.lst ((List.range (tOf cs)).map fun (j : Nat) => D.str (rowS cs (wOf cs) (j : Int)))), .un] = _
    exact sRet_eq' (mSM1_eq rfl (mLc_map (ι := Nat) (f := fun j => D.str (rowS cs (wOf cs) (j : Int))) (φ := fun j => D.str (rowS cs (wOf cs) (j : Int) ++ "\n")) (xs := List.range (tOf cs)) (by rfl) (by rfl) (fun j _ => ⟨_, _, rfl, m2_eq rfl rfl (by
      show (if (rowS cs (wOf cs) (j : Int)).length + (Str.ofString "\n").length ≤ sizeLine then _ else _) = _
      rw [if_pos (by rw [rowS_len, sizeLine_eq]; show wOf cs + 1 ≤ _; omega)]), (by rfl)⟩) (by rw [List.length_range]; exact size_big (by omega))) (sh_join a3 b3))
  · -- a row
    refine ⟨_, _, rfl, mSM1_eq rfl (mLc_map (ι := Nat) (f := fun i => D.int (i : Int)) (φ := fun i => D.str (sgS cs (i : Int) (j : Int))) (xs := List.range (wOf cs)) (iOf_eq rfl (rng1_ok (by omega))) (by rfl) (fun i _ => ?_) (by rw [List.length_range]; exact size_big (by omega))) (row_join a3), (by rfl)⟩
    refine ⟨_, _, rfl, Eq.trans (mIf_eq (b := decide (((i : Int), (j : Int)) ∈ cs)) (x := .str "#") (y := .str ".") (test_eq (mCmpB_eq (mTuple_eq (mCons_eq rfl (mCons_eq rfl rfl)) (size_small (by simp))) rfl told_in rfl) rfl) rfl rfl) (by rw [sgS_if]), (by rfl)⟩
theorem pys_pD : ∀ cs : List (Int × Int), pys (cs.map pD) = cs.map fun p => py (pD p)
  | [] => rfl
  | c :: r => by
    show py (pD c) :: pys (r.map pD) = _
    rw [pys_pD r]; rfl
theorem lays_pD : ∀ cs : List (Int × Int), PyData.canLayAll0 (cs.map fun p => py (pD p)) = true
  | [] => rfl
  | c :: r => by
    show (PyData.canLay0 (py (pD c)) && PyData.canLayAll0 (r.map fun p => py (pD p))) = true
    rw [lays_pD r]; rfl
theorem depths_pD : ∀ cs : List (Int × Int), PyData.depthAll (cs.map fun p => py (pD p)) ≤ 1
  | [] => Nat.zero_le _
  | c :: r => by
    show max (PyData.depth (py (pD c))) (PyData.depthAll (r.map fun p => py (pD p))) ≤ 1
    exact Nat.max_le.mpr ⟨Nat.le_refl 1, depths_pD r⟩
theorem eqOk_pD (p : Int × Int) : eqOk (pD p) = true := rfl
theorem eqOk_cells (cs : List (Int × Int)) : eqOk (.tup (cs.map pD)) = true := by
  unfold eqOk SeqAt.shaped
  rw [Bool.and_eq_true, Bool.and_eq_true]
  refine ⟨plains_pD cs, ?_, decide_eq_true ?_⟩
  · show PyData.canLayAll0 (pys (cs.map pD)) = true
    rw [pys_pD]; exact lays_pD cs
  · show PyData.depthAll (pys (cs.map pD)) + 1 ≤ 64
    rw [pys_pD]
    have := depths_pD cs
    omega
theorem cells_in {cs : List (Int × Int)} {x y : Int} : dInA (.tup [.int x, .int y]) (.tup (cs.map pD)) = some (.bl (decide ((x, y) ∈ cs))) := by
  show (if eqOk (pD (x, y)) && eqOk (.tup (cs.map pD)) then some ((pys (cs.map pD)).any fun z => PyData.eqv z (py (pD (x, y)))) else none).map D.bl = _
  rw [eqOk_pD, eqOk_cells]
  show some (D.bl ((pys (cs.map pD)).any fun z => PyData.eqv z (py (pD (x, y))))) = _
  rw [pys_pD, List.any_map]
  congr 2
  rw [Bool.eq_iff_iff, List.any_eq_true, decide_eq_true_eq]
  constructor
  · rintro ⟨p, hp, h⟩
    have h' : PyData.eqv (py (pD p)) (py (pD (x, y))) = true := h
    rw [eqv_pD, decide_eq_true_eq] at h'
    exact h' ▸ hp
  · intro h
    exact ⟨(x, y), h, by show PyData.eqv (py (pD (x, y))) (py (pD (x, y))) = true; rw [eqv_pD]; exact decide_eq_true rfl⟩
theorem joinL_last (S : List Nat) : ∀ ps : List (List Nat), ps ≠ [] → joinL S ps ++ S = ps.flatMap fun p => p ++ S
  | [p], _ => by simp [joinL]
  | p :: q :: r, _ => by
    show (p ++ (S ++ joinL S (q :: r))) ++ S = _
    rw [List.flatMap_cons, ← joinL_last S (q :: r) (by simp)]
    simp
theorem lines_join {cs : List (Int × Int)} {w t : Nat} (hw : w ≤ 200) (ht : t ≤ 200) (h1 : 1 ≤ t) : ∃ z : Str, dJoin "\n" (.lst ((List.range t).map fun (j : Nat) => D.str (rowS cs w (j : Int)))) = some (.str z) ∧ z ++ "\n" = shS cs w t ∧ z.length ≤ 100000 := by
  have e : ((List.range t).map fun (j : Nat) => D.str (rowS cs w (j : Int))) = ((List.range t).map fun (j : Nat) => rowS cs w (j : Int)).map D.str := by rw [List.map_map]; rfl
  have hsum := sum_le (ys := (List.range t).map fun (j : Nat) => rowS cs w (j : Int)) (n := w) (fun z hz => by
      obtain ⟨i, _, rfl⟩ := List.mem_map.mp hz
      exact Nat.le_of_eq rowS_len)
  rw [List.length_map, List.length_range] at hsum
  have hq : t * w ≤ 200 * 200 := Nat.mul_le_mul ht hw
  have h0 : (("\n" : Str)).length = 1 := rfl
  refine ⟨Txt.join "\n" ((List.range t).map fun (j : Nat) => rowS cs w (j : Int)), ?_, ?_, ?_⟩
  · rw [e, dJoin_strs]
    rw [List.length_map, List.length_range, h0]
    omega
  · refine ext_tl ?_
    rw [tl_append, join_eq, tl_join, nl_tl, joinL_last]
    · rw [List.map_map, List.flatMap_map]
      rfl
    · intro z
      have := congrArg List.length z
      simp at this
      omega
  · have hl : (Txt.join "\n" ((List.range t).map fun (j : Nat) => rowS cs w (j : Int)) ++ "\n").length = (shS cs w t).length := by
      congr 1
      refine ext_tl ?_
      rw [tl_append, join_eq, tl_join, nl_tl, joinL_last]
      · rw [List.map_map, List.flatMap_map]
        rfl
      · intro z
        have := congrArg List.length z
        simp at this
        omega
    rw [len_tl, tl_append, List.length_append, ← len_tl] at hl
    have h2 : (shS cs w t).length = t * (w + 1) := by
      rw [len_tl]
      show (shL cs w t).length = _
      unfold shL
      rw [List.length_flatMap]
      have : ∀ l : List Nat, (l.map fun (j : Nat) => (rowL cs w (j : Int) ++ [10]).length).sum = l.length * (w + 1) := by
        intro l
        induction l with
        | nil => simp
        | cons a r ih =>
          have hw' : (rowL cs w (a : Int)).length = w := by simp [rowL]
          rw [List.map_cons, List.sum_cons, ih, List.length_append, hw', List.length_cons (as := r), Nat.succ_mul, List.length_singleton]
          omega
      rw [this, List.length_range]
    have h3 : t * (w + 1) ≤ 200 * 201 := Nat.mul_le_mul ht (by omega)
    omega
theorem text_eval {cs : List (Int × Int)} (hc : cs ≠ []) (h : Fits cs) : f__law_text [.tup (cs.map pD)] = .ret (.str (shS cs (wOf cs) (tOf cs))) := by
  obtain ⟨a1, a2, a3, _, _⟩ := max_fst hc h
  obtain ⟨b1, b2, b3, _, _⟩ := max_snd hc h
  have hz := size_big h.len
  obtain ⟨z, j1, j2, j3⟩ := lines_join (cs := cs) a3 b3 b2
  refine mFn_eq (e' := [.val (.tup (cs.map pD)), .val (.int (wOf cs : Nat)), .val (.int (tOf cs : Nat)), .un, .un, .val (.lst ((List.range (tOf cs)).map fun (j : Nat) => D.str (rowS cs (wOf cs) (j : Int))))]) rfl ?_
  show m__law_text [.val (.tup (cs.map pD)), .un, .un, .un, .un, .un] = _
  unfold m__law_text
  rw [seq_eq (e' := [.val (.tup (cs.map pD)), .un, .un, .un, .un, .un]) (by
    rw [sIf_eq (b := false) (test_eq (x := .bl false) (m2_eq (x := .int (cs.map pD).length) (y := .int 0) (mS1_eq rfl rfl) rfl (by
      show some (D.bl (decide (((cs.map pD).length : Int) = 0))) = _
      rw [decide_eq_false]
      cases cs with
      | nil => exact absurd rfl hc
      | cons => simp; omega)) rfl)]
    rfl)]
  rw [seq_eq (sPairs_eq (i := 1) (j := 2) (x := .int (wOf cs : Nat)) (y := .int (tOf cs : Nat))
    (m2_eq (mS1_eq (mLc_map (ι := Int × Int) (f := pD) (φ := fun p => D.int p.1) (xs := cs) rfl rfl (fun p _ => ⟨_, _, rfl, rfl, (by rfl)⟩) hz) a1) rfl (show some (D.int ((wOf cs : Nat) - 1 + 1 : Int)) = _ by rw [Int.sub_add_cancel]))
    (m2_eq (mS1_eq (mLc_map (ι := Int × Int) (f := pD) (φ := fun p => D.int p.2) (xs := cs) rfl rfl (fun p _ => ⟨_, _, rfl, rfl, (by rfl)⟩) hz) b1) rfl (show some (D.int ((tOf cs : Nat) - 1 + 1 : Int)) = _ by rw [Int.sub_add_cancel])))]
  show sSeq _ _ [.val (.tup (cs.map pD)), .val (.int (wOf cs : Nat)), .val (.int (tOf cs : Nat)), .un, .un, .un] = _
  rw [seq_eq (sSetM_eq (i := 5) (x := .lst ((List.range (tOf cs)).map fun (j : Nat) => D.str (rowS cs (wOf cs) (j : Int)))) (mLc_map (ι := Nat) (f := fun i => D.int (i : Int)) (φ := fun j => D.str (rowS cs (wOf cs) (j : Int))) (xs := List.range (tOf cs))
    (iOf_eq rfl (rng1_ok (by omega))) rfl (fun j _ => ?_) (by rw [List.length_range]; exact size_big (by omega))))]
  · show sRet _ [.val (.tup (cs.map pD)), .val (.int (wOf cs : Nat)), .val (.int (tOf cs : Nat)), .un, .un, .mut (.lst ((List.range (tOf cs)).map fun (j : Nat) => D.str (rowS cs (wOf cs) (j : Int))))] = _
    refine sRet_eq' ?_
    show T.bind (mSM1 dJoin _ _ _) _ = _
    rw [mSM1_eq (e2 := [.val (.tup (cs.map pD)), .val (.int (wOf cs : Nat)), .val (.int (tOf cs : Nat)), .un, .un, .val (.lst ((List.range (tOf cs)).map fun (j : Nat) => D.str (rowS cs (wOf cs) (j : Int))))]) rfl rfl j1]
    show T.bind (T.of (if z.length + (Str.ofString "\n").length ≤ sizeLine then some (D.str (z ++ "\n")) else none)) _ = _
    rw [if_pos (by rw [sizeLine_eq]; show z.length + 1 ≤ _; omega), j2]
    rfl
  · -- a row
    refine ⟨_, _, rfl, mSM1_eq rfl (mLc_map (ι := Nat) (f := fun i => D.int (i : Int)) (φ := fun i => D.str (sgS cs (i : Int) (j : Int))) (xs := List.range (wOf cs)) (iOf_eq rfl (rng1_ok (by omega))) (by rfl) (fun i _ => ?_) (by rw [List.length_range]; exact size_big (by omega))) (row_join a3), (by rfl)⟩
    refine ⟨_, _, rfl, Eq.trans (mIf_eq (b := decide (((i : Int), (j : Int)) ∈ cs)) (x := .str "#") (y := .str ".") (test_eq (mCmpB_eq (mTuple_eq (mCons_eq rfl (mCons_eq rfl rfl)) (size_small (by simp))) rfl cells_in rfl) rfl) rfl rfl) (by rw [sgS_if]), (by rfl)⟩
theorem text_nil : f__law_text [.tup []] = .ret (.str "") := rfl
theorem shape_nil : f_shape_text [.tup []] = .ret (.str "") := rfl
end DL
set_option Elab.async false
set_option linter.all false
set_option maxRecDepth 100000
set_option autoImplicit false
set_option maxHeartbeats 1000000
namespace DL
open PySem L2 TL
/-! ### sorted pairs -/
def ltP (p q : Int × Int) : Bool := decide (p.1 < q.1 ∨ (p.1 = q.1 ∧ p.2 < q.2))
def leP (p q : Int × Int) : Bool := !ltP q p
theorem toks_pD (p : Int × Int) : PySem.W.keyToks (py (pD p)) = [.inl 1, .inl p.1, .inl 1, .inl p.2, .inl 0] := rfl
theorem lt_toks (p q : Int × Int) : PyProof.Rows.lexLt PyProof.Rows.itemOrd (PySem.W.keyToks (py (pD p))) (PySem.W.keyToks (py (pD q))) = ltP p q := by
  rw [toks_pD, toks_pD, PyProof.Rows.lex_self]
  unfold ltP
  by_cases h1 : p.1 = q.1
  · rw [h1, PyProof.Rows.lex_self, PyProof.Rows.lex_self]
    by_cases h2 : p.2 = q.2
    · rw [h2, PyProof.Rows.lex_self, PyProof.Rows.lex_self]
      rw [decide_eq_false (by omega)]
      rfl
    · rw [PyProof.Rows.lex_diff (fun z => h2 (by injection z))]
      show decide (p.2 < q.2) = _
      rw [decide_eq_decide]
      omega
  · rw [PyProof.Rows.lex_diff (fun z => h1 (by injection z))]
    show decide (p.1 < q.1) = _
    rw [decide_eq_decide]
    omega
theorem le_pD (p q : Int × Int) : PySem.W.dataLe false py (pD p) (pD q) = leP p q := by
  show (!PyProof.Rows.lexLt PyProof.Rows.itemOrd (PySem.W.keyToks (py (pD q))) (PySem.W.keyToks (py (pD p)))) = _
  rw [lt_toks]; rfl
theorem leP_iff {p q : Int × Int} : leP p q = true ↔ p.1 < q.1 ∨ (p.1 = q.1 ∧ p.2 ≤ q.2) := by
  unfold leP ltP
  rw [Bool.not_eq_true', decide_eq_false_iff_not]
  omega
theorem leP_trans (a b c : Int × Int) (h1 : leP a b = true) (h2 : leP b c = true) : leP a c = true := by
  rw [leP_iff] at *
  omega
theorem leP_total (a b : Int × Int) : (leP a b || leP b a) = true := by
  rw [Bool.or_eq_true, leP_iff, leP_iff]
  omega
theorem leP_anti {a b : Int × Int} (h1 : leP a b = true) (h2 : leP b a = true) : a = b := by
  rw [leP_iff] at *
  exact Prod.ext (by omega) (by omega)
theorem sorted_unique : ∀ {l m : List (Int × Int)}, l.Pairwise (fun a b => leP a b = true) → m.Pairwise (fun a b => leP a b = true) → l.Perm m → l = m
  | [], m, _, _, h => by rw [List.nil_perm.mp h]
  | a :: l, [], _, _, h => by have := h.length_eq; simp at this
  | a :: l, b :: m, h1, h2, h => by
    have ha : a ∈ b :: m := h.mem_iff.mp List.mem_cons_self
    have hb : b ∈ a :: l := h.mem_iff.mpr List.mem_cons_self
    have e : a = b := by
      rcases List.mem_cons.mp ha with e | ha
      · exact e
      · rcases List.mem_cons.mp hb with e | hb
        · exact e.symm
        · exact leP_anti (List.rel_of_pairwise_cons h1 hb) (List.rel_of_pairwise_cons h2 ha)
    subst e
    rw [sorted_unique (List.Pairwise.of_cons h1) (List.Pairwise.of_cons h2) (List.Perm.cons_inv h)]
def srt (l : List (Int × Int)) : List (Int × Int) := l.mergeSort leP
theorem srt_perm (l : List (Int × Int)) : (srt l).Perm l := List.mergeSort_perm l leP
theorem srt_sorted (l : List (Int × Int)) : (srt l).Pairwise (fun a b => leP a b = true) := List.pairwise_mergeSort (le := leP) leP_trans leP_total l
theorem srt_mem {l : List (Int × Int)} {p : Int × Int} : p ∈ srt l ↔ p ∈ l := (srt_perm l).mem_iff
theorem sortOk_pD (l : List (Int × Int)) : sortOk (l.map pD) := by
  refine ⟨plains_pD l, ?_, ?_, ?_⟩
  · rw [pys_pD]
    intro d hd d' hd'
    obtain ⟨p, _, rfl⟩ := List.mem_map.mp hd
    obtain ⟨q, _, rfl⟩ := List.mem_map.mp hd'
    rfl
  · rw [pys_pD]
    refine .inl fun d hd => ?_
    obtain ⟨p, _, rfl⟩ := List.mem_map.mp hd
    exact ⟨_, _, rfl⟩
  · rw [pys_pD]
    intro d hd
    obtain ⟨p, _, rfl⟩ := List.mem_map.mp hd
    show 1 ≤ 64
    decide
theorem dSorted_pD (l : List (Int × Int)) : dSorted [.lst (l.map pD)] = some (.lst ((srt l).map pD)) := by
  simp only [dSorted]
  rw [if_pos (sortOk_pD l)]
  congr 2
  unfold srt
  rw [List.map_mergeSort (fun a _ b _ => (le_pD a b).symm)]
/-! ### lines -/
def lns : List Nat → List (List Nat)
  | [] => [[]]
  | c :: r => if c = 10 then [] :: lns r else match lns r with
    | [] => [[c]]
    | p :: ps => (c :: p) :: ps
theorem lns_ne (l : List Nat) : ∃ p ps, lns l = p :: ps := by
  cases l with
  | nil => exact ⟨[], [], rfl⟩
  | cons c r =>
    unfold lns
    split
    · exact ⟨_, _, rfl⟩
    · split
      · exact ⟨_, _, rfl⟩
      · exact ⟨_, _, rfl⟩
theorem spl_lns : ∀ (l acc : List Nat), spl [10] 0 acc l = match lns l with
    | [] => [acc]
    | p :: ps => (acc ++ p) :: ps
  | [], acc => by simp [spl, lns]
  | c :: r, acc => by
    obtain ⟨p, ps, hp⟩ := lns_ne r
    unfold spl lns
    have hpre : pre [10] (c :: r) = decide (c = 10) := by
      unfold pre
      show ([c] == [10]) = _
      by_cases h : c = 10
      · subst h; rfl
      · rw [decide_eq_false h]; simp [h]
    rw [hpre]
    by_cases h : c = 10
    · subst h
      rw [if_pos (decide_eq_true rfl), if_pos rfl]
      show acc :: spl [10] 0 [] r = (acc ++ []) :: lns r
      rw [spl_lns r [], hp, List.append_nil]
      rfl
    · rw [if_neg (by simpa using h), if_neg h, spl_lns r (acc ++ [c]), hp]
      simp
theorem lns_flat : ∀ l : List Nat, ((lns l).flatMap fun p => p ++ [10]) = l ++ [10]
  | [] => rfl
  | c :: r => by
    obtain ⟨p, ps, hp⟩ := lns_ne r
    have ih := lns_flat r
    unfold lns
    split
    · rename_i h
      subst h
      rw [List.flatMap_cons, ih]; rfl
    · rw [hp] at ih ⊢
      show ((c :: p) ++ [10]) ++ ps.flatMap (fun p => p ++ [10]) = c :: (r ++ [10])
      rw [← ih]; rfl
theorem lns_no : ∀ l : List Nat, ∀ p ∈ lns l, 10 ∉ p
  | [], p, hp => by
    have : p = [] := by simpa [lns] using hp
    rw [this]; simp
  | c :: r, p, hp => by
    obtain ⟨q, qs, hq⟩ := lns_ne r
    have ih := lns_no r
    unfold lns at hp
    split at hp
    · rcases List.mem_cons.mp hp with rfl | hp
      · simp
      · exact ih p hp
    · rename_i h
      rw [hq] at hp ih
      rcases List.mem_cons.mp hp with rfl | hp
      · intro hm
        rcases List.mem_cons.mp hm with z | z
        · exact h z.symm
        · exact ih q List.mem_cons_self z
      · exact ih p (List.mem_cons_of_mem _ hp)
theorem head_cut : ∀ {p q a b : List Nat}, 10 ∉ p → 10 ∉ q → p ++ 10 :: a = q ++ 10 :: b → p = q ∧ a = b
  | [], [], _, _, _, _, h => by injection h with _ h; exact ⟨rfl, h⟩
  | [], c :: q, _, _, _, h2, h => by injection h with h _; exact absurd (h ▸ List.mem_cons_self) h2
  | c :: p, [], _, _, h1, _, h => by injection h with h _; exact absurd (h.symm ▸ List.mem_cons_self) h1
  | c :: p, d :: q, a, b, h1, h2, h => by
    have h' : c :: (p ++ 10 :: a) = d :: (q ++ 10 :: b) := h
    injection h' with e h'
    obtain ⟨e1, e2⟩ := head_cut (fun z => h1 (List.mem_cons_of_mem _ z)) (fun z => h2 (List.mem_cons_of_mem _ z)) h'
    exact ⟨by rw [e, e1], e2⟩
theorem flat_inj : ∀ {ps qs : List (List Nat)}, (∀ p ∈ ps, 10 ∉ p) → (∀ q ∈ qs, 10 ∉ q) → (ps.flatMap fun p => p ++ [10]) = (qs.flatMap fun q => q ++ [10]) → ps = qs
  | [], [], _, _, _ => rfl
  | [], q :: qs, _, _, h => by simp at h
  | p :: ps, [], _, _, h => by simp at h
  | p :: ps, q :: qs, h1, h2, h => by
    rw [List.flatMap_cons, List.flatMap_cons, List.append_assoc, List.append_assoc] at h
    obtain ⟨e1, e2⟩ := head_cut (h1 p List.mem_cons_self) (h2 q List.mem_cons_self) h
    rw [e1, flat_inj (fun z hz => h1 z (List.mem_cons_of_mem _ hz)) (fun z hz => h2 z (List.mem_cons_of_mem _ hz)) e2]
end DL
set_option Elab.async false
set_option linter.all false
set_option maxRecDepth 100000
set_option autoImplicit false
set_option maxHeartbeats 1000000
namespace DL
open PySem L2 TL
/-! ### the text read -/
def SS (p : List Nat) : Str := ⟨p.toArray⟩
theorem tl_SS (p : List Nat) : tl (SS p) = p := rfl
theorem len_SS (p : List Nat) : (SS p).length = p.length := by rw [len_tl, tl_SS]
theorem SS_tl (x : Str) : SS (tl x) = x := ext_tl rfl
theorem split_nl (a : Str) : Txt.split a "\n" = (lns (tl a)).map SS := by
  refine map_tl_inj ?_
  rw [split_spl a "\n" (by decide) (by
    intro h
    have h1 : PySem.Builtin.Str.strKind ("\n" : Str) = 1 := by decide +kernel
    have h2 : 1 ≤ PySem.Builtin.Str.strKind a := by
      unfold PySem.Builtin.Str.strKind
      split
      · exact Nat.le_refl 1
      · split <;> omega
    omega)]
  show spl [10] 0 [] (tl a) = _
  obtain ⟨p, ps, hp⟩ := lns_ne (tl a)
  rw [spl_lns, hp, List.map_map]
  have : (tl ∘ SS) = id := funext fun p => tl_SS p
  rw [this, List.map_id]
  rfl
theorem mOr_eq {f g : MB} {e : Env} {a b : Bool} (hf : f e = .ret (a, e)) (hg : a = false → g e = .ret (b, e)) : mOr f g e = .ret (a || b, e) := by
  show (f e).bind _ = _
  rw [hf]
  cases a with
  | true => rfl
  | false => exact hg rfl
theorem mNot_eq {f : MB} {e : Env} {a : Bool} (hf : f e = .ret (a, e)) : mNot f e = .ret (!a, e) := by
  show (f e).bind _ = _
  rw [hf]; rfl
theorem m1_eq {g : D → Option D} {f : MD} {e : Env} {x z : D} (hf : f e = .ret (x, e)) (hg : g x = some z) : m1 g f e = .ret (z, e) := by
  show (f e).bind _ = _
  rw [hf]
  show (T.of (g x)).bind _ = _
  rw [hg]; rfl
theorem mChain_eq {g1 g2 : D → D → Option D} {f1 f2 f3 : MD} {e : Env} {x y z : D} {a b : Bool} (h1 : f1 e = .ret (x, e)) (h2 : f2 e = .ret (y, e)) (h3 : f3 e = .ret (z, e)) (hg1 : g1 x y = some (.bl a)) (hg2 : g2 y z = some (.bl b)) : mChain g1 g2 f1 f2 f3 e = .ret (.bl (a && b), e) := by
  show (f1 e).bind _ = _
  rw [h1]
  show (f2 e).bind _ = _
  rw [h2]
  show (T.of (g1 x y)).bind _ = _
  rw [hg1]
  cases a with
  | true =>
    show (f3 e).bind _ = _
    rw [h3]
    show (T.of (g2 y z)).bind _ = _
    rw [hg2]; rfl
  | false => rfl
theorem mSl_eq {g : D → Option Int → Option Int → Option D} {f : MD} {lo hi : MO} {e : Env} {x z : D} {l u : Option Int} (hf : f e = .ret (x, e)) (hl : lo e = .ret (l, e)) (hu : hi e = .ret (u, e)) (hg : g x l u = some z) : mSl g f lo hi e = .ret (z, e) := by
  show (f e).bind _ = _
  rw [hf]
  show (lo e).bind _ = _
  rw [hl]
  show (hi e).bind _ = _
  rw [hu]
  show (T.of (g x l u)).bind _ = _
  rw [hg]; rfl
theorem enumD_map {α : Type} (g : α → D) : ∀ (k : Nat) (l : List α), enumD k (l.map g) = (l.zipIdx k).map fun p => D.tup [.int (p.2 : Nat), g p.1]
  | _, [] => rfl
  | k, a :: r => by
    show D.tup [.int (k : Nat), g a] :: enumD (k + 1) (r.map g) = _
    rw [enumD_map g (k + 1) r, List.zipIdx_cons]; rfl
def sgn (c : Nat) : D := .str ⟨#[c]⟩
theorem sgn_eq (c : Nat) : dEq (sgn c) (.str "#") = some (.bl (decide (c = 35))) := by
  show some (D.bl (decide ((⟨#[c]⟩ : Str) = "#"))) = _
  congr 2
  rw [decide_eq_decide]
  constructor
  · intro h
    have := congrArg tl h
    have h2 : [c] = [35] := this
    injection h2
  · rintro rfl; rfl
theorem sgn_in (c : Nat) : dInA (sgn c) (.str "#.") = some (.bl (decide (c ∈ [35, 46]))) := rfl
def okRow (p : List Nat) : Bool := p.all fun c => decide (c ∈ [35, 46])
/-- the marks of a row -/
def fRow (p : List Nat) (y : Nat) : List (Int × Int) := (p.zipIdx.filter fun q => decide (q.1 = 35)).map fun q => ((q.2 : Int), (y : Int))
def fnd : Nat → List (List Nat) → List (Int × Int)
  | _, [] => []
  | k, p :: ps => fRow p k ++ fnd (k + 1) ps
theorem fRow_len (p : List Nat) (y : Nat) : (fRow p y).length ≤ p.length := by
  unfold fRow
  rw [List.length_map]
  exact Nat.le_trans (List.length_filter_le _ _) (by rw [List.length_zipIdx]; exact Nat.le_refl _)
theorem fnd_len : ∀ (ps : List (List Nat)) (k : Nat), (fnd k ps).length ≤ (ps.map List.length).sum
  | [], _ => Nat.le_refl _
  | p :: ps, k => by
    unfold fnd
    rw [List.length_append, List.map_cons, List.sum_cons]
    have h1 := fRow_len p k
    have h2 := fnd_len ps (k + 1)
    omega
def rowsD (rows : List (List Nat)) : D := .lst (rows.map fun p => D.str (SS p))
theorem items_SS (p : List Nat) : items (.str (SS p)) = some (p.map sgn) := rfl
theorem enum_SS (p : List Nat) : enumItems [.str (SS p)] = some (p.zipIdx.map fun q => D.tup [.int (q.2 : Nat), sgn q.1]) := by
  show some (enumD 0 (p.map sgn)) = _
  rw [enumD_map]
theorem found_go : ∀ (rows : List (List Nat)) (k : Nat) (acc : List (Int × Int)) (s0 s1 s3 s5 : Sl), acc.length + (rows.map List.length).sum ≤ 1000 → isMut s5 = false →
    ∃ s3' s5', isMut s5' = false ∧ forGo (gTupD 2 (gsCons (gSet 5) (gsCons (gSet 3) gsNil))) (sExpr (mMutL 4 gExtend (mCons (mLc [6, 2] (iOf enumItems (mCons (mVar 3) mNil)) (gTupD 2 (gsCons (gSet 6) (gsCons (gSet 2) gsNil))) (mTest isBl (m2 dEq (mVar 2) (mC (.str "#")))) (mTuple (mCons (mVar 6) (mCons (mVar 5) mNil)))) mNil)))
      (enumD k (rows.map fun p => D.str (SS p))) [s0, s1, .un, s3, .mut (.lst (acc.map pD)), s5, .un, .un] = .ret (.nx, [s0, s1, .un, s3', .mut (.lst ((acc ++ fnd k rows).map pD)), s5', .un, .un])
  | [], k, acc, s0, s1, s3, s5, _, h5 => ⟨s3, s5, h5, by simp [fnd, enumD, forGo]⟩
  | p :: ps, k, acc, s0, s1, s3, s5, h, h5 => by
    rw [List.map_cons, List.sum_cons] at h
    have hl := fRow_len p k
    obtain ⟨s3', s5', h5', ih⟩ := found_go ps (k + 1) (acc ++ fRow p k) s0 s1 (.val (.str (SS p))) (.val (.int (k : Nat))) (by rw [List.length_append]; omega) rfl
    refine ⟨s3', s5', h5', ?_⟩
    have hc : mLc [6, 2] (iOf enumItems (mCons (mVar 3) mNil)) (gTupD 2 (gsCons (gSet 6) (gsCons (gSet 2) gsNil))) (mTest isBl (m2 dEq (mVar 2) (mC (.str "#")))) (mTuple (mCons (mVar 6) (mCons (mVar 5) mNil))) [s0, s1, .un, .val (.str (SS p)), .mut (.lst (acc.map pD)), .val (.int (k : Nat)), .un, .un] =
        .ret (.lst ((fRow p k).map pD), [s0, s1, .un, .val (.str (SS p)), .mut (.lst (acc.map pD)), .val (.int (k : Nat)), .un, .un]) := by
      rw [mLc_eval (ι := Nat × Nat) (f := fun q => D.tup [.int (q.2 : Nat), sgn q.1]) (β := fun q => decide (q.1 = 35)) (φ := fun q => pD ((q.2 : Int), (k : Int))) (xs := p.zipIdx) (iOf_eq rfl (enum_SS p)) (by rfl) (fun q _ => ?_) (by rw [List.length_zipIdx]; exact size_big (by omega))]
      · unfold fRow
        rw [List.map_map]; rfl
      · refine ⟨_, _, rfl, test_eq (m2_eq rfl rfl (sgn_eq q.1)) rfl, fun _ => (by rfl), fun _ => ⟨_, mTuple_eq (mCons_eq rfl (mCons_eq rfl rfl)) (size_small (by simp)), (by rfl)⟩⟩
    show T.bind (T.bind (mMutL 4 gExtend _ [s0, s1, .un, .val (.str (SS p)), .mut (.lst (acc.map pD)), .val (.int (k : Nat)), .un, .un]) _) _ = _
    have hm : mMutL 4 gExtend (mCons (mLc [6, 2] (iOf enumItems (mCons (mVar 3) mNil)) (gTupD 2 (gsCons (gSet 6) (gsCons (gSet 2) gsNil))) (mTest isBl (m2 dEq (mVar 2) (mC (.str "#")))) (mTuple (mCons (mVar 6) (mCons (mVar 5) mNil)))) mNil) [s0, s1, .un, .val (.str (SS p)), .mut (.lst (acc.map pD)), .val (.int (k : Nat)), .un, .un] =
        .ret (.non, [s0, s1, .un, .val (.str (SS p)), .mut (.lst ((acc ++ fRow p k).map pD)), .val (.int (k : Nat)), .un, .un]) := by
      show T.bind (mCons _ mNil _) _ = _
      rw [mCons_eq hc rfl]
      show T.bind (T.of (if (acc.map pD).length + ((fRow p k).map pD).length ≤ sizeLine then some (D.lst (acc.map pD ++ (fRow p k).map pD), D.non) else none)) _ = _
      rw [if_pos (by rw [List.length_map, List.length_map]; exact size_big (by omega)), ← List.map_append]
      rfl
    rw [hm]
    show forGo _ _ (enumD (k + 1) (ps.map fun p => D.str (SS p))) _ = _
    rw [ih, show fnd k (p :: ps) = fRow p k ++ fnd (k + 1) ps from rfl, List.append_assoc]
theorem atI_neg {α : Type} {xs : List α} {v : α} : L2.atI (xs ++ [v]) (-1) = some v := L2.atI_last xs v
theorem cutS_init {z : Str} {M : List Nat} {c : Nat} (h : tl z = M ++ [c]) : cutS z none (some (-1)) = SS M := by
  refine ext_tl ?_
  unfold cutS
  have hl : z.length = M.length + 1 := by rw [len_tl, h]; simp
  have e : HT.sIx z.length z.length (some (-1)) = M.length := by
    show (if (-1 : Int) < 0 then ((-1 : Int) + (z.length : Int)).toNat else min (-1 : Int).toNat z.length) = _
    rw [if_pos (by decide), hl]
    omega
  have h' : z.cps.toList = M ++ [c] := h
  show (z.cps.toList.drop (HT.sIx z.length 0 none)).take _ = M
  rw [e, h']
  show ((M ++ [c]).drop 0).take (M.length - 0) = M
  simp
theorem cutS_init0 {z : Str} (h : tl z = []) : cutS z none (some (-1)) = SS [] := by
  refine ext_tl ?_
  unfold cutS
  have h' : z.cps.toList = [] := h
  show (z.cps.toList.drop _).take _ = []
  rw [h']
  simp
/-- the reading takes this text, whose rows are these -/
structure Takes (rows : List (List Nat)) (t : Str) : Prop where
  few : rows.length ≤ 10
  w1 : 1 ≤ (rows.headD []).length
  w2 : (rows.headD []).length ≤ 10
  sgns : rows.all okRow = true
  ne : fnd 0 rows ≠ []
  sh : shS (srt (fnd 0 rows)) (wOf (srt (fnd 0 rows))) (tOf (srt (fnd 0 rows))) = t
  x0 : ∃ p ∈ fnd 0 rows, p.1 = 0
  y0 : ∃ p ∈ fnd 0 rows, p.2 = 0
theorem fnd_fits {rows : List (List Nat)} (h : (rows.map List.length).sum ≤ 150) (h2 : rows.length ≤ 150) : Fits (fnd 0 rows) := by
  have key : ∀ (rows : List (List Nat)) (k : Nat), (rows.map List.length).sum ≤ 150 → ∀ p ∈ fnd k rows, 0 ≤ p.1 ∧ p.1 < 200 ∧ (k : Int) ≤ p.2 ∧ p.2 < (k + rows.length : Int) := by
    intro rows
    induction rows with
    | nil => intro k _ p hp; cases hp
    | cons r rs ih =>
      intro k hs p hp
      rw [List.map_cons, List.sum_cons] at hs
      rcases List.mem_append.mp (show p ∈ fRow r k ++ fnd (k + 1) rs from hp) with hp | hp
      · unfold fRow at hp
        obtain ⟨q, hq, rfl⟩ := List.mem_map.mp hp
        have hq1 := (List.mem_filter.mp hq).1
        obtain ⟨i, hi, e⟩ := List.mem_iff_getElem.mp hq1
        rw [List.getElem_zipIdx] at e
        have hq2 : q.2 = i := by rw [← e]; simp
        rw [List.length_zipIdx] at hi
        rw [List.length_cons]
        refine ⟨by simp, ?_, by simp, ?_⟩
        · show ((q.2 : Nat) : Int) < 200
          omega
        · show (k : Int) < _
          omega
      · have := ih (k + 1) (by omega) p hp
        rw [List.length_cons]
        omega
  have hl := fnd_len rows 0
  refine ⟨fun p hp => ⟨(key rows 0 h p hp).1, (key rows 0 h p hp).2.1⟩, fun p hp => ?_, by omega⟩
  have := key rows 0 h p hp
  omega
theorem Fits.srt {cs : List (Int × Int)} (h : Fits cs) : Fits (srt cs) := ⟨fun p hp => h.x0 p (srt_mem.mp hp), fun p hp => h.y0 p (srt_mem.mp hp), by rw [(srt_perm cs).length_eq]; exact h.len⟩
theorem min_fst {cs : List (Int × Int)} (hc : cs ≠ []) (h : Fits cs) : ∃ m : Int, dMin [.lst (cs.map fun p => D.int p.1)] = some (.int m) ∧ (m = 0 ↔ ∃ p ∈ cs, p.1 = 0) ∧ 0 ≤ m := by
  have hne : cs.map (·.1) ≠ [] := by simpa using hc
  obtain ⟨m, h1, h2, h3⟩ := dMin_ints hne
  obtain ⟨p, hp, rfl⟩ := List.mem_map.mp h2
  refine ⟨p.1, ?_, ⟨fun z => ⟨p, hp, z⟩, fun ⟨q, hq, e⟩ => ?_⟩, (h.x0 p hp).1⟩
  · rw [← h1, List.map_map]; rfl
  · have a := h3 q.1 (List.mem_map.mpr ⟨q, hq, rfl⟩)
    have b := (h.x0 p hp).1
    omega
theorem min_snd {cs : List (Int × Int)} (hc : cs ≠ []) (h : Fits cs) : ∃ m : Int, dMin [.lst (cs.map fun p => D.int p.2)] = some (.int m) ∧ (m = 0 ↔ ∃ p ∈ cs, p.2 = 0) ∧ 0 ≤ m := by
  have hne : cs.map (·.2) ≠ [] := by simpa using hc
  obtain ⟨m, h1, h2, h3⟩ := dMin_ints hne
  obtain ⟨p, hp, rfl⟩ := List.mem_map.mp h2
  refine ⟨p.2, ?_, ⟨fun z => ⟨p, hp, z⟩, fun ⟨q, hq, e⟩ => ?_⟩, (h.y0 p hp).1⟩
  · rw [← h1, List.map_map]; rfl
  · have a := h3 q.2 (List.mem_map.mpr ⟨q, hq, rfl⟩)
    have b := (h.y0 p hp).1
    omega
/-- what a read text gives -/
inductive ReadIs (o : Option (List (Int × Int))) : T D → Prop
  | yes {cs} : o = some cs → ReadIs o (.ret (.tup (cs.map pD)))
  | no {e} : o = none → ReadIs o (.exc "InvalidForm" e)
theorem seq_exc {m n : MS} {e e' : Env} {c : Str} (hm : m e = .exc c e') : sSeq m n e = .exc c e' := by
  show (m e).bind _ = _
  rw [hm]; rfl
theorem mFn_exc {N n : Nat} {m : MS} {ds : List D} {c : Str} {e' : Env} (hn : ds.length = n) (h : m (ds.map Sl.val ++ List.replicate (N - n) .un) = .exc c e') : mFn N n m ds = .exc c e' := by
  unfold mFn
  rw [if_pos hn, h]
  rfl
theorem rows_sum {M : List Nat} : ((lns M).map List.length).sum + (lns M).length = M.length + 1 := by
  have h := congrArg List.length (lns_flat M)
  rw [List.length_flatMap, List.length_append, List.length_singleton] at h
  rw [← h]
  have : ∀ l : List (List Nat), (l.map List.length).sum + l.length = (l.map fun p => (p ++ [10]).length).sum := by
    intro l
    induction l with
    | nil => rfl
    | cons a r ih =>
      rw [List.map_cons, List.sum_cons, List.map_cons, List.sum_cons, ← ih, List.length_append, List.length_singleton, List.length_cons]
      omega
  exact this _
theorem mCall_eq {g : MF} {fl : ML} {e e1 : Env} {ds : List D} {d : D} (hf : fl e = .ret (ds, e1)) (hg : g ds = .ret d) : mCall g fl e = .ret (d, e1) := by
  show (fl e).bind _ = _
  rw [hf]
  show ((g ds).inEnv e1).bind _ = _
  rw [hg]; rfl
theorem dNe_str {x y : Str} : dNe (.str x) (.str y) = some (.bl (!decide (x = y))) := rfl
theorem dEq_str {x y : Str} : dEq (.str x) (.str y) = some (.bl (decide (x = y))) := rfl
theorem ix_last {z : Str} {M : List Nat} {c : Nat} (h : tl z = M ++ [c]) (hl : z.length ≤ 150) : dIxA (.str z) (.int (-1)) = some (.str ⟨#[c]⟩) := by
  have h' : z.cps.toList = M ++ [c] := h
  show (if z.length ≤ sizeLine then (L2.atI z.cps.toList (-1)).map fun c => D.str ⟨#[c]⟩ else none) = _
  rw [if_pos (size_big (by omega)), h', L2.atI_last]
  rfl
theorem ix_first {rows : List (List Nat)} (h : rows ≠ []) : dIxA (rowsD rows) (.int 0) = some (.str (SS (rows.headD []))) := by
  cases rows with
  | nil => exact absurd rfl h
  | cons p ps => exact L2.atI_nat (j := 0) rfl
theorem nl_one : (⟨#[10]⟩ : Str) = "\n" := ext_tl rfl
theorem split_rows {M : List Nat} (h : M.length ≤ 150) : dSplit (SS M) (.str "\n") = some (rowsD (lns M)) := by
  show (if (("\n" : Str).length == 0) = false ∧ (SS M).length + 2 ≤ sizeLine then some (D.lst ((Txt.split (SS M) "\n").map D.str)) else none) = _
  rw [if_pos ⟨rfl, by rw [len_SS, sizeLine_eq]; omega⟩, split_nl, List.map_map]
  rfl
/-- all rows of '#' and '.' -/
theorem all_rows {rows : List (List Nat)} {e : Env} {f : MD} (hf : f e = .ret (rowsD rows, e)) (h1 : rows.length ≤ 1000) (h2 : (rows.map List.length).sum ≤ 1000) {i j : Nat} (ho : ownOk e [i] = true) (ho2 : ownOk ((wipeE e [i]).set i (.val (.str (SS [])))) [j] = true → True)
    (hstep : ∀ p ∈ rows, mS dAll (mCons (mLc [j] (iAny (mVar i)) (gSet j) mYes (m2 dInA (mVar j) (mC (.str "#.")))) mNil) ((wipeE e [i]).set i (.val (.str (SS p)))) = .ret (.bl (okRow p), (wipeE e [i]).set i (.val (.str (SS p)))))
    (hback : ∀ p : List Nat, wipeE ((wipeE e [i]).set i (.val (.str (SS p)))) [i] = wipeE e [i]) :
    mS dAll (mCons (mLc [i] (iAny f) (gSet i) mYes (mS dAll (mCons (mLc [j] (iAny (mVar i)) (gSet j) mYes (m2 dInA (mVar j) (mC (.str "#.")))) mNil))) mNil) e = .ret (.bl (rows.all okRow), e) := by
  refine mS1_eq (mLc_map (ι := List Nat) (f := fun p => D.str (SS p)) (φ := fun p => D.bl (okRow p)) (xs := rows) ?_ ho (fun p hp => ⟨_, _, rfl, hstep p hp, hback p⟩) (size_big (by omega))) ?_
  · show (f e).bind _ = _
    rw [hf]; rfl
  · rw [show (rows.map fun p => D.bl (okRow p)) = (rows.map okRow).map D.bl by rw [List.map_map]; rfl]
    show (toB ((rows.map okRow).map D.bl)).map _ = _
    rw [toB_map]
    show some (D.bl ((rows.map okRow).all id)) = _
    rw [List.all_map]; rfl
theorem ok_row {p : List Nat} {e : Env} {i j : Nat} (hp : p.length ≤ 1000) (hf : iAny (mVar i) e = .ret (p.map sgn, e)) (ho : ownOk e [j] = true) (hs : ∀ c : Nat, mVar j ((wipeE e [j]).set j (.val (sgn c))) = .ret (sgn c, (wipeE e [j]).set j (.val (sgn c)))) (hb : ∀ c : Nat, wipeE ((wipeE e [j]).set j (.val (sgn c))) [j] = wipeE e [j]) :
    mS dAll (mCons (mLc [j] (iAny (mVar i)) (gSet j) mYes (m2 dInA (mVar j) (mC (.str "#.")))) mNil) e = .ret (.bl (okRow p), e) := by
  refine mS1_eq (mLc_map (ι := Nat) (f := sgn) (φ := fun c => D.bl (decide (c ∈ [35, 46]))) (xs := p) hf ho (fun c _ => ⟨_, _, rfl, m2_eq (hs c) rfl (sgn_in c), hb c⟩) (size_big (by omega))) ?_
  rw [show (p.map fun c => D.bl (decide (c ∈ [35, 46]))) = (p.map fun c => decide (c ∈ [35, 46])).map D.bl by rw [List.map_map]; rfl]
  show (toB _).map _ = _
  rw [toB_map]
  show some (D.bl ((p.map fun c => decide (c ∈ [35, 46])).all id)) = _
  rw [List.all_map]; rfl
theorem mS1_eq' {g : List D → Option D} {f : MD} {e e1 : Env} {x z : D} (hf : f e = .ret (x, e1)) (hg : g [x] = some z) : mS g (mCons f mNil) e = .ret (z, e1) := by
  show (T.bind (T.bind (f e) _) _) = _
  rw [hf]
  show (T.of (g [x])).bind _ = _
  rw [hg]
  rfl
theorem sAsg_eq' {f : MD} {i : Nat} {e e1 : Env} {x : D} (hf : f e = .ret (x, e1)) : sAsg f (gSet i) e = .ret (.nx, e1.set i (.val x)) := by
  show (f e).bind _ = _
  rw [hf]
  rfl
theorem sIf_exc {c : MB} {k : Str} {n : MS} {e : Env} {b : Bool} (hc : c e = .ret (b, e)) (hb : b = true) : sIf c (sRaise k) n e = .exc k e := by
  rw [sIf_eq hc, if_pos hb]; rfl
theorem sIf_nx {c : MB} {m : MS} {e : Env} {b : Bool} (hc : c e = .ret (b, e)) (hb : b = false) : sIf c m sNext e = .ret (.nx, e) := by
  rw [sIf_eq hc, if_neg (by rw [hb]; exact Bool.false_ne_true)]; rfl
theorem mLst_nil {e : Env} : mLst mNil e = .ret (.lst [], e) := by
  show (if ([] : List D).length ≤ sizeLine then T.ret (D.lst [], e) else T.stuck) = _
  exact if_pos (Nat.zero_le _)
theorem rows_in {rows : List (List Nat)} {p : List Nat} (h : p ∈ rows) : p.length ≤ (rows.map List.length).sum := by
  induction rows with
  | nil => cases h
  | cons q r ih =>
    rw [List.map_cons, List.sum_cons]
    rcases List.mem_cons.mp h with rfl | h
    · omega
    · have := ih h; omega
/-- a text that ends with a line's end -/
theorem parse_nl {t : Str} {M : List Nat} (ht : tl t = M ++ [10]) (hl : t.length ≤ 150) : (Takes (lns M) t → f_parse_shape [.str t] = .ret (.tup ((srt (fnd 0 (lns M))).map pD))) ∧ (¬ Takes (lns M) t → ∃ e, f_parse_shape [.str t] = .exc "InvalidForm" e) := by
  have hML : M.length + 1 ≤ 150 := by
    have := hl
    rw [len_tl, ht, List.length_append, List.length_singleton] at this
    exact this
  have hrs := rows_sum (M := M)
  obtain ⟨r0, rr, hr⟩ := lns_ne M
  have hrne : lns M ≠ [] := by rw [hr]; simp
  generalize hR : lns M = rows at *
  have hneq : ¬ t = "" := fun z => by
    have h1 := congrArg tl z
    rw [ht] at h1
    have h2 : M ++ [10] = [] := h1
    simp at h2
  -- the first test fails, the rows are made
  have s1 : ∀ m : MS, sSeq (sIf (mOr (mTest isBl (m2 dEq (mVar 0) (mC (.str "")))) (mTest isBl (m2 dNe (m2 dIxA (mVar 0) (m1 dNeg (mC (.int 1)))) (mC (.str "\n"))))) (sRaise "InvalidForm") sNext)
      (sSeq (sAsg (mSM1 dSplit (mSl dSl (mVar 0) moNone (moSome (m1 dNeg (mC (.int 1))))) (mC (.str "\n"))) (gSet 1)) m) [.val (.str t), .un, .un, .un, .un, .un, .un, .un] = m [.val (.str t), .val (rowsD rows), .un, .un, .un, .un, .un, .un] := by
    intro m
    have c1 : mOr (mTest isBl (m2 dEq (mVar 0) (mC (.str "")))) (mTest isBl (m2 dNe (m2 dIxA (mVar 0) (m1 dNeg (mC (.int 1)))) (mC (.str "\n")))) [.val (.str t), .un, .un, .un, .un, .un, .un, .un] = .ret (false || false, [.val (.str t), .un, .un, .un, .un, .un, .un, .un]) :=
      mOr_eq (test_eq (x := .bl false) (m2_eq rfl rfl (by rw [dEq_str, decide_eq_false hneq])) rfl) fun _ => test_eq (x := .bl false) (m2_eq (m2_eq rfl (m1_eq (z := .int (-1)) rfl rfl) (ix_last ht hl)) rfl (by rw [dNe_str, nl_one, decide_eq_true rfl]; rfl)) rfl
    rw [seq_eq (e' := [.val (.str t), .un, .un, .un, .un, .un, .un, .un]) (by rw [sIf_eq c1]; rfl)]
    have c3 : mSM1 dSplit (mSl dSl (mVar 0) moNone (moSome (m1 dNeg (mC (.int 1))))) (mC (.str "\n")) [.val (.str t), .un, .un, .un, .un, .un, .un, .un] = .ret (rowsD rows, [.val (.str t), .un, .un, .un, .un, .un, .un, .un]) :=
      mSM1_eq (mSl_eq (u := some (-1)) rfl rfl rfl (by
        show (if t.length ≤ sizeLine then some (D.str (cutS t none (some (-1)))) else none) = _
        rw [if_pos (size_big (by omega)), cutS_init ht])) rfl (by rw [split_rows (by omega), hR])
    rw [seq_eq (sAsg_eq c3)]
    rfl
  -- the second test
  have c2 : mOr (mTest isBl (m2 dGt (mS dLenA (mCons (mVar 1) mNil)) (mC (.int 10)))) (mOr (mNot (mTest isBl (mChain dLe dLe (mC (.int 1)) (mS dLenA (mCons (m2 dIxA (mVar 1) (mC (.int 0))) mNil)) (mC (.int 10))))) (mNot (mTest gTru (mS dAll (mCons (mLc [3] (iAny (mVar 1)) (gSet 3) mYes (mS dAll (mCons (mLc [2] (iAny (mVar 3)) (gSet 2) mYes (m2 dInA (mVar 2) (mC (.str "#.")))) mNil))) mNil))))) [.val (.str t), .val (rowsD rows), .un, .un, .un, .un, .un, .un]
      = .ret (decide ((10 : Int) < (rows.length : Int)) || (!(decide ((1 : Int) ≤ ((rows.headD []).length : Int)) && decide (((rows.headD []).length : Int) ≤ 10)) || !rows.all okRow), [.val (.str t), .val (rowsD rows), .un, .un, .un, .un, .un, .un]) := by
    refine mOr_eq (test_eq (m2_eq (mS1_eq rfl (z := .int (rows.length : Int)) (by show some (D.int ((rows.map fun p => D.str (SS p)).length : Int)) = _; rw [List.length_map])) rfl rfl) rfl) fun _ => mOr_eq (mNot_eq (test_eq (mChain_eq (y := .int ((rows.headD []).length : Int)) rfl (mS1_eq (m2_eq rfl rfl (ix_first hrne)) (by
      show (if (SS (rows.headD [])).length ≤ sizeLine then some (D.int ((SS (rows.headD [])).length : Int)) else none) = _
      have : (rows.headD []).length ≤ 150 := by rw [hr]; have := rows_in (rows := rows) (p := r0) (by rw [hr]; exact List.mem_cons_self); simp; omega
      rw [if_pos (by rw [len_SS]; exact size_big (by omega)), len_SS])) rfl rfl rfl) rfl)) fun _ => mNot_eq (test_eq (all_rows rfl (by omega) (by omega) (by rfl) (fun _ => trivial) (fun p hp => ok_row (by have := rows_in hp; omega) (by rfl) (by rfl) (fun _ => by rfl) (fun _ => by rfl)) (fun _ => by rfl)) rfl)
  generalize hb2 : (decide ((10 : Int) < (rows.length : Int)) || (!(decide ((1 : Int) ≤ ((rows.headD []).length : Int)) && decide (((rows.headD []).length : Int) ≤ 10)) || !rows.all okRow)) = b2 at c2
  cases b2 with
  | true =>
    refine ⟨fun T => ?_, fun _ => ⟨_, mFn_exc (e' := [.val (.str t), .val (rowsD rows), .un, .un, .un, .un, .un, .un]) rfl ?_⟩⟩
    · have h1 := T.few
      have h2 := T.w1
      have h3 := T.w2
      have h4 := T.sgns
      rw [h4, decide_eq_false (by omega), decide_eq_true (by omega), decide_eq_true (by omega)] at hb2
      exact absurd hb2 (by decide)
    · show m_parse_shape [.val (.str t), .un, .un, .un, .un, .un, .un, .un] = _
      unfold m_parse_shape
      rw [s1]
      exact seq_exc (sIf_exc c2 rfl)
  | false =>
    obtain ⟨v3, v5, hv5, hgo⟩ := found_go rows 0 [] (.val (.str t)) (.val (rowsD rows)) .un .un (by simp; omega) rfl
    generalize hcs : srt (fnd 0 rows) = cs at *
    have hfit : Fits cs := by rw [← hcs]; exact (fnd_fits (by omega) (by omega)).srt
    have hmem : ∀ p, p ∈ cs ↔ p ∈ fnd 0 rows := fun p => by rw [← hcs]; exact srt_mem
    have hlen : cs.length ≤ 150 := by
      rw [← hcs, (srt_perm _).length_eq]
      have := fnd_len rows 0
      omega
    -- up to the last test
    have s2 : ∀ m : MS, sSeq (sIf (mOr (mTest isBl (m2 dGt (mS dLenA (mCons (mVar 1) mNil)) (mC (.int 10)))) (mOr (mNot (mTest isBl (mChain dLe dLe (mC (.int 1)) (mS dLenA (mCons (m2 dIxA (mVar 1) (mC (.int 0))) mNil)) (mC (.int 10))))) (mNot (mTest gTru (mS dAll (mCons (mLc [3] (iAny (mVar 1)) (gSet 3) mYes (mS dAll (mCons (mLc [2] (iAny (mVar 3)) (gSet 2) mYes (m2 dInA (mVar 2) (mC (.str "#.")))) mNil))) mNil)))))) (sRaise "InvalidForm") sNext)
        (sSeq (sSetM 4 (mLst mNil))
        (sSeq (sFor (iOf enumItems (mCons (mVar 1) mNil)) (gTupD 2 (gsCons (gSet 5) (gsCons (gSet 3) gsNil))) (sExpr (mMutL 4 gExtend (mCons (mLc [6, 2] (iOf enumItems (mCons (mVar 3) mNil)) (gTupD 2 (gsCons (gSet 6) (gsCons (gSet 2) gsNil))) (mTest isBl (m2 dEq (mVar 2) (mC (.str "#")))) (mTuple (mCons (mVar 6) (mCons (mVar 5) mNil)))) mNil))))
        (sSeq (sAsg (mS dTuple (mCons (mS dSorted (mCons (mVar 4) mNil)) mNil)) (gSet 4)) m))) [.val (.str t), .val (rowsD rows), .un, .un, .un, .un, .un, .un] = m [.val (.str t), .val (rowsD rows), .un, v3, .val (.tup (cs.map pD)), v5, .un, .un] := by
      intro m
      rw [seq_eq (sIf_nx c2 rfl)]
      rw [seq_eq (sSetM_eq (i := 4) (x := .lst []) mLst_nil)]
      show sSeq _ _ [.val (.str t), .val (rowsD rows), .un, .un, .mut (.lst []), .un, .un, .un] = _
      rw [seq_eq (e' := [.val (.str t), .val (rowsD rows), .un, v3, .mut (.lst ((fnd 0 rows).map pD)), v5, .un, .un]) (by
        have : iOf enumItems (mCons (mVar 1) mNil) [.val (.str t), .val (rowsD rows), .un, .un, .mut (.lst []), .un, .un, .un] = .ret (enumD 0 (rows.map fun p => D.str (SS p)), [.val (.str t), .val (rowsD rows), .un, .un, .mut (.lst []), .un, .un, .un]) := rfl
        show T.bind (iOf enumItems _ _) _ = _
        rw [this]
        exact hgo)]
      rw [seq_eq (sAsg_eq' (mS1_eq' (mS1_eq' (e1 := [.val (.str t), .val (rowsD rows), .un, v3, .val (.lst ((fnd 0 rows).map pD)), v5, .un, .un]) rfl (dSorted_pD _)) (by rw [hcs]; rfl)))]
      rfl
    have hrun : ∀ r, (sSeq (sIf (mOr (mTest isBl (m2 dNe (mCall f_shape_text (mCons (mVar 4) mNil)) (mVar 0))) (mOr (mTest isBl (m2 dGt (mS dMin (mCons (mLc [6, 7] (iAny (mVar 4)) (gTupD 2 (gsCons (gSet 6) (gsCons (gSet 7) gsNil))) mYes (mVar 6)) mNil)) (mC (.int 0)))) (mTest isBl (m2 dGt (mS dMin (mCons (mLc [7, 5] (iAny (mVar 4)) (gTupD 2 (gsCons (gSet 7) (gsCons (gSet 5) gsNil))) mYes (mVar 5)) mNil)) (mC (.int 0)))))) (sRaise "InvalidForm") sNext) (sRet (mVar 4))) [.val (.str t), .val (rowsD rows), .un, v3, .val (.tup (cs.map pD)), v5, .un, .un] = r → m_parse_shape [.val (.str t), .un, .un, .un, .un, .un, .un, .un] = r := by
      intro r h
      unfold m_parse_shape
      rw [s1, s2, h]
    have hshape : ∃ z : Str, f_shape_text [.tup (cs.map pD)] = .ret (.str z) ∧ (cs = [] → z = "") ∧ (cs ≠ [] → z = shS cs (wOf cs) (tOf cs)) := by
      by_cases hc : cs = []
      · subst hc
        exact ⟨"", shape_nil, fun _ => rfl, fun z => absurd rfl z⟩
      · exact ⟨_, shape_eval hc hfit, fun z => absurd z hc, fun _ => rfl⟩
    obtain ⟨z, hz1, hz2, hz3⟩ := hshape
    have t1 : mTest isBl (m2 dNe (mCall f_shape_text (mCons (mVar 4) mNil)) (mVar 0)) [.val (.str t), .val (rowsD rows), .un, v3, .val (.tup (cs.map pD)), v5, .un, .un] = .ret (!decide (z = t), [.val (.str t), .val (rowsD rows), .un, v3, .val (.tup (cs.map pD)), v5, .un, .un]) :=
      test_eq (m2_eq (mCall_eq rfl hz1) rfl dNe_str) rfl
    by_cases hzt : z = t
    · -- the shape's text is this text
      have hcne : cs ≠ [] := fun e => hneq (hzt ▸ hz2 e)
      obtain ⟨mx, x1, x2, x3⟩ := min_fst hcne hfit
      obtain ⟨my, y1, y2, y3⟩ := min_snd hcne hfit
      have t2 : mOr (mTest isBl (m2 dNe (mCall f_shape_text (mCons (mVar 4) mNil)) (mVar 0))) (mOr (mTest isBl (m2 dGt (mS dMin (mCons (mLc [6, 7] (iAny (mVar 4)) (gTupD 2 (gsCons (gSet 6) (gsCons (gSet 7) gsNil))) mYes (mVar 6)) mNil)) (mC (.int 0)))) (mTest isBl (m2 dGt (mS dMin (mCons (mLc [7, 5] (iAny (mVar 4)) (gTupD 2 (gsCons (gSet 7) (gsCons (gSet 5) gsNil))) mYes (mVar 5)) mNil)) (mC (.int 0))))) [.val (.str t), .val (rowsD rows), .un, v3, .val (.tup (cs.map pD)), v5, .un, .un] = .ret (!decide (z = t) || (decide (0 < mx) || decide (0 < my)), [.val (.str t), .val (rowsD rows), .un, v3, .val (.tup (cs.map pD)), v5, .un, .un]) := by
        refine mOr_eq t1 fun _ => mOr_eq (test_eq (m2_eq (mS1_eq (mLc_map (ι := Int × Int) (f := pD) (φ := fun p => D.int p.1) (xs := cs) (by rfl) (by rfl) (fun p _ => ⟨_, _, rfl, rfl, (by rfl)⟩) (size_big (by omega))) x1) rfl rfl) rfl) fun _ => ?_
        exact test_eq (m2_eq (mS1_eq (mLc_map (ι := Int × Int) (f := pD) (φ := fun p => D.int p.2) (xs := cs) (by rfl) (by show (true && ((!isMut v5) && true)) = true; rw [hv5]; rfl) (fun p _ => ⟨_, _, rfl, rfl, (by rfl)⟩) (size_big (by omega))) y1) rfl rfl) rfl
      by_cases hxy : mx = 0 ∧ my = 0
      · have hT : Takes rows t := by
          rw [Bool.or_eq_false_iff, Bool.or_eq_false_iff] at hb2
          obtain ⟨g1, g2, g3⟩ := hb2
          rw [Bool.not_eq_false', Bool.and_eq_true] at g2
          have g1 := of_decide_eq_false g1
          have g21 := of_decide_eq_true g2.1
          have g22 := of_decide_eq_true g2.2
          refine ⟨by omega, by omega, by omega, by simpa using g3, fun e => hcne ?_, ?_, ?_, ?_⟩
          · rw [← hcs, e]; simp [srt]
          · rw [hcs, ← hz3 hcne]; exact hzt
          · obtain ⟨p, hp, e⟩ := x2.mp hxy.1
            exact ⟨p, (hmem p).mp hp, e⟩
          · obtain ⟨p, hp, e⟩ := y2.mp hxy.2
            exact ⟨p, (hmem p).mp hp, e⟩
        refine ⟨fun _ => mFn_eq (e' := [.val (.str t), .val (rowsD rows), .un, v3, .val (.tup (cs.map pD)), v5, .un, .un]) rfl (hrun _ ?_), fun h => absurd hT h⟩
        rw [seq_eq (sIf_nx t2 (by rw [hzt, hxy.1, hxy.2, decide_eq_true rfl]; rfl))]
        rfl
      · refine ⟨fun T => absurd ?_ hxy, fun _ => ⟨_, mFn_exc (e' := [.val (.str t), .val (rowsD rows), .un, v3, .val (.tup (cs.map pD)), v5, .un, .un]) rfl (hrun _ (seq_exc (sIf_exc t2 ?_)))⟩⟩
        · obtain ⟨p, hp, e⟩ := T.x0
          obtain ⟨q, hq, e'⟩ := T.y0
          exact ⟨x2.mpr ⟨p, (hmem p).mpr hp, e⟩, y2.mpr ⟨q, (hmem q).mpr hq, e'⟩⟩
        · rw [hzt, decide_eq_true rfl]
          by_cases h1 : mx = 0
          · have h2 : ¬ my = 0 := fun e => hxy ⟨h1, e⟩
            rw [decide_eq_true (show 0 < my by omega)]
            simp
          · rw [decide_eq_true (show 0 < mx by omega)]
            rfl
    · -- another text
      refine ⟨fun T => absurd ?_ hzt, fun _ => ⟨_, mFn_exc (e' := [.val (.str t), .val (rowsD rows), .un, v3, .val (.tup (cs.map pD)), v5, .un, .un]) rfl (hrun _ (seq_exc ?_))⟩⟩
      · have hcne : cs ≠ [] := fun e => T.ne (by
          have := (srt_perm (fnd 0 rows)).length_eq
          rw [hcs, e] at this
          exact List.length_eq_zero_iff.mp this.symm)
        rw [hz3 hcne, ← T.sh, hcs]
      · refine sIf_exc (b := true) ?_ rfl
        show T.bind (mTest isBl _ _) _ = _
        rw [t1, decide_eq_false hzt]
        rfl
end DL
set_option Elab.async false
set_option linter.all false
set_option maxRecDepth 100000
set_option autoImplicit false
set_option maxHeartbeats 1000000
namespace DL
open PySem L2 TL
/-! ### which texts are read -/
theorem mem_fRow {r : List Nat} {k : Nat} {p : Int × Int} : p ∈ fRow r k ↔ ∃ i : Nat, r[i]? = some 35 ∧ p = ((i : Int), (k : Int)) := by
  unfold fRow
  rw [List.mem_map]
  constructor
  · rintro ⟨q, hq, rfl⟩
    obtain ⟨h1, h2⟩ := List.mem_filter.mp hq
    have h3 := List.mem_zipIdx_iff_getElem?.mp h1
    refine ⟨q.2, ?_, rfl⟩
    rw [h3, of_decide_eq_true h2]
  · rintro ⟨i, h, rfl⟩
    exact ⟨(35, i), List.mem_filter.mpr ⟨List.mem_zipIdx_iff_getElem?.mpr h, rfl⟩, rfl⟩
theorem mem_fnd {p : Int × Int} : ∀ {rows : List (List Nat)} {k : Nat}, p ∈ fnd k rows ↔ ∃ (j i : Nat) (r : List Nat), rows[j]? = some r ∧ r[i]? = some 35 ∧ p = ((i : Int), ((k + j : Nat) : Int))
  | [], k => by simp [fnd]
  | r :: rs, k => by
    show p ∈ fRow r k ++ fnd (k + 1) rs ↔ _
    rw [List.mem_append, mem_fRow, mem_fnd (rows := rs) (k := k + 1)]
    constructor
    · rintro (⟨i, h1, h2⟩ | ⟨j, i, r', h1, h2, h3⟩)
      · exact ⟨0, i, r, rfl, h1, h2⟩
      · exact ⟨j + 1, i, r', h1, h2, by rw [h3, show k + 1 + j = k + (j + 1) by omega]⟩
    · rintro ⟨j, i, r', h1, h2, h3⟩
      cases j with
      | zero =>
        have : r = r' := by simpa using h1
        exact .inl ⟨i, this ▸ h2, h3⟩
      | succ j => exact .inr ⟨j, i, r', h1, h2, by rw [h3, show k + 1 + j = k + (j + 1) by omega]⟩
theorem nodup_fRow (r : List Nat) (k : Nat) : (fRow r k).Nodup := by
  unfold fRow
  have h1 : (r.zipIdx.filter fun q => decide (q.1 = 35)).Pairwise (fun a b => a.2 ≠ b.2) := by
    refine List.Pairwise.filter _ ?_
    rw [List.pairwise_iff_getElem]
    intro i j hi hj hij
    rw [List.getElem_zipIdx, List.getElem_zipIdx]
    simp
    omega
  rw [List.nodup_iff_pairwise_ne, List.pairwise_map]
  refine h1.imp fun {a b} h e => h ?_
  have := congrArg Prod.fst e
  have h2 : ((a.2 : Nat) : Int) = (b.2 : Nat) := this
  omega
theorem nodup_fnd : ∀ (rows : List (List Nat)) (k : Nat), (fnd k rows).Nodup
  | [], _ => List.nodup_nil
  | r :: rs, k => by
    show (fRow r k ++ fnd (k + 1) rs).Nodup
    refine List.nodup_append.mpr ⟨nodup_fRow r k, nodup_fnd rs (k + 1), fun a ha b hb e => ?_⟩
    obtain ⟨i, _, h1⟩ := mem_fRow.mp ha
    obtain ⟨j, i', r', _, _, h2⟩ := mem_fnd.mp hb
    rw [e, h2] at h1
    have := congrArg Prod.snd h1
    have h3 : ((k + 1 + j : Nat) : Int) = (k : Int) := this
    omega
theorem rowL_get {cs : List (Int × Int)} {w i : Nat} {y : Int} (h : i < w) : (rowL cs w y)[i]? = some (sg cs (i : Int) y) := by
  unfold rowL
  rw [List.getElem?_map, List.getElem?_range h]
  rfl
theorem rowL_no {cs : List (Int × Int)} {w : Nat} {y : Int} : 10 ∉ rowL cs w y := by
  unfold rowL
  intro h
  obtain ⟨i, _, e⟩ := List.mem_map.mp h
  unfold sg at e
  split at e <;> cases e
theorem sg_35 {cs : List (Int × Int)} {x y : Int} : sg cs x y = 35 ↔ (x, y) ∈ cs := by
  unfold sg
  split
  · rename_i h; simp [h]
  · rename_i h; simp [h]
def shRows (cs : List (Int × Int)) (w t : Nat) : List (List Nat) := (List.range t).map fun (j : Nat) => rowL cs w (j : Int)
theorem shL_rows (cs : List (Int × Int)) (w t : Nat) : shL cs w t = (shRows cs w t).flatMap fun p => p ++ [10] := by
  unfold shL shRows
  rw [List.flatMap_map]
theorem shRows_no {cs : List (Int × Int)} {w t : Nat} : ∀ p ∈ shRows cs w t, 10 ∉ p := by
  intro p hp
  obtain ⟨j, _, rfl⟩ := List.mem_map.mp hp
  exact rowL_no
theorem shRows_get {cs : List (Int × Int)} {w t j : Nat} (h : j < t) : (shRows cs w t)[j]? = some (rowL cs w (j : Int)) := by
  unfold shRows
  rw [List.getElem?_map, List.getElem?_range h]
  rfl
theorem shRows_len {cs : List (Int × Int)} {w t : Nat} : (shRows cs w t).length = t := by simp [shRows]
structure Good (rows : List (List Nat)) : Prop where
  few : rows.length ≤ 10
  lens : ∀ p ∈ rows, p.length = (rows.headD []).length
  sgns : rows.all okRow = true
  w1 : 1 ≤ (rows.headD []).length
  w2 : (rows.headD []).length ≤ 10
  top : 35 ∈ rows.headD []
  bot : 35 ∈ rows.getLastD []
  lf : ∃ p ∈ rows, p[0]? = some 35
  rt : ∃ p ∈ rows, p.getLast? = some 35
theorem takes_good {t : Str} {M : List Nat} (ht : tl t = M ++ [10]) (hl : t.length ≤ 150) : Takes (lns M) t ↔ Good (lns M) := by
  have hML : M.length + 1 ≤ 150 := by
    have := hl
    rw [len_tl, ht, List.length_append, List.length_singleton] at this
    exact this
  have hrs := rows_sum (M := M)
  have hno := lns_no M
  have hflat := lns_flat M
  obtain ⟨r0, rr, hr⟩ := lns_ne M
  generalize hR : lns M = rows at *
  have hfit : Fits (srt (fnd 0 rows)) := (fnd_fits (by omega) (by omega)).srt
  have hmem : ∀ p, p ∈ srt (fnd 0 rows) ↔ ∃ (j i : Nat) (r : List Nat), rows[j]? = some r ∧ r[i]? = some 35 ∧ p = ((i : Int), (j : Int)) := fun p => by
    rw [srt_mem, mem_fnd]
    simp
  have hh : rows.headD [] = r0 := by rw [hr]; rfl
  have h0 : rows[0]? = some r0 := by rw [hr]; rfl
  have hlastE : rows[rows.length - 1]? = some (rows.getLastD []) := by
    rw [hr]
    simp [List.getLastD, List.getElem?_eq_getElem]
    rw [List.getLast_eq_getElem]
    simp
  generalize hcs : srt (fnd 0 rows) = cs at *
  have hne' : cs ≠ [] ↔ fnd 0 rows ≠ [] := by
    have := (srt_perm (fnd 0 rows)).length_eq
    rw [hcs] at this
    rw [← List.length_pos_iff, ← List.length_pos_iff, this]
  -- the text is the shape's iff the rows are
  have hsh : cs ≠ [] → (shS cs (wOf cs) (tOf cs) = t ↔ shRows cs (wOf cs) (tOf cs) = rows) := fun _ => by
    constructor
    · intro h
      have h1 := congrArg tl h
      have h2 : shL cs (wOf cs) (tOf cs) = M ++ [10] := h1.trans ht
      rw [shL_rows, ← hflat] at h2
      exact flat_inj shRows_no hno h2
    · intro h
      refine ext_tl ?_
      show shL cs (wOf cs) (tOf cs) = tl t
      rw [shL_rows, h, hflat, ht]
  constructor
  · intro T
    have hcne := hne'.mpr T.ne
    obtain ⟨_, a2, a3, a4, a5⟩ := max_fst hcne hfit
    obtain ⟨_, b2, b3, b4, b5⟩ := max_snd hcne hfit
    have hrows := (hsh hcne).mp (by have := T.sh; rw [hcs] at this; exact this)
    have hlenr : ∀ p ∈ rows, p.length = wOf cs := fun p hp => by
      rw [← hrows] at hp
      obtain ⟨j, _, rfl⟩ := List.mem_map.mp hp
      simp [rowL]
    have hw : r0.length = wOf cs := hlenr r0 (List.mem_of_getElem? h0)
    have hT : rows.length = tOf cs := by rw [← hrows, shRows_len]
    refine ⟨T.few, fun p hp => by rw [hh, hw]; exact hlenr p hp, T.sgns, T.w1, T.w2, ?_, ?_, ?_, ?_⟩
    · obtain ⟨p, hp, e⟩ := T.y0
      rw [← srt_mem, hcs, hmem] at hp
      obtain ⟨j, i, r, g1, g2, rfl⟩ := hp
      have hj : j = 0 := by
        have : ((j : Nat) : Int) = 0 := e
        omega
      subst hj
      rw [h0] at g1
      cases g1
      rw [hh]
      exact List.mem_of_getElem? g2
    · obtain ⟨p, hp, e⟩ := b5
      obtain ⟨j, i, r, g1, g2, rfl⟩ := (hmem p).mp hp
      have hj : j = rows.length - 1 := by
        have : ((j : Nat) : Int) = (tOf cs : Int) - 1 := e
        omega
      rw [hj, hlastE] at g1
      cases g1
      exact List.mem_of_getElem? g2
    · obtain ⟨p, hp, e⟩ := T.x0
      rw [← srt_mem, hcs, hmem] at hp
      obtain ⟨j, i, r, g1, g2, rfl⟩ := hp
      have hi : i = 0 := by
        have : ((i : Nat) : Int) = 0 := e
        omega
      subst hi
      exact ⟨r, List.mem_of_getElem? g1, g2⟩
    · obtain ⟨p, hp, e⟩ := a5
      obtain ⟨j, i, r, g1, g2, rfl⟩ := (hmem p).mp hp
      have hrm := List.mem_of_getElem? g1
      have hi : i = r.length - 1 := by
        have : ((i : Nat) : Int) = (wOf cs : Int) - 1 := e
        have h2 := hlenr r hrm
        omega
      refine ⟨r, hrm, ?_⟩
      rw [List.getLast?_eq_getElem?, ← hi]
      exact g2
  · intro G
    have hw1 := G.w1
    obtain ⟨pr, hpr, hpe⟩ := G.rt
    obtain ⟨pl, hpl, hple⟩ := G.lf
    obtain ⟨jr, hjr⟩ := List.mem_iff_getElem?.mp hpr
    obtain ⟨jl, hjl⟩ := List.mem_iff_getElem?.mp hpl
    obtain ⟨it, hit⟩ := List.mem_iff_getElem?.mp G.top
    obtain ⟨ib, hib⟩ := List.mem_iff_getElem?.mp G.bot
    rw [List.getLast?_eq_getElem?] at hpe
    rw [hh] at hit hw1
    have c1 : ((it : Int), (0 : Int)) ∈ cs := (hmem _).mpr ⟨0, it, r0, h0, hit, rfl⟩
    have c2 : ((ib : Int), ((rows.length - 1 : Nat) : Int)) ∈ cs := (hmem _).mpr ⟨_, ib, _, hlastE, hib, rfl⟩
    have c3 : ((0 : Int), (jl : Int)) ∈ cs := (hmem _).mpr ⟨jl, 0, pl, hjl, hple, rfl⟩
    have c4 : (((pr.length - 1 : Nat) : Int), (jr : Int)) ∈ cs := (hmem _).mpr ⟨jr, _, pr, hjr, hpe, rfl⟩
    have hcne : cs ≠ [] := fun e => by rw [e] at c1; cases c1
    obtain ⟨_, a2, a3, a4, a5⟩ := max_fst hcne hfit
    obtain ⟨_, b2, b3, b4, b5⟩ := max_snd hcne hfit
    have hpl' : pr.length = r0.length := by rw [G.lens pr hpr, hh]
    have hW : wOf cs = r0.length := by
      have k1 := a4 _ c4
      obtain ⟨p, hp, e⟩ := a5
      obtain ⟨j, i, r, g1, g2, rfl⟩ := (hmem p).mp hp
      have k2 : i < r.length := (List.getElem?_eq_some_iff.mp g2).1
      have k3 := G.lens r (List.mem_of_getElem? g1)
      rw [hh] at k3
      have k4 : ((i : Nat) : Int) = (wOf cs : Int) - 1 := e
      have k5 : ((pr.length - 1 : Nat) : Int) < (wOf cs : Int) := k1
      omega
    have hTl : tOf cs = rows.length := by
      have k1 := b4 _ c2
      obtain ⟨p, hp, e⟩ := b5
      obtain ⟨j, i, r, g1, g2, rfl⟩ := (hmem p).mp hp
      have k2 : j < rows.length := (List.getElem?_eq_some_iff.mp g1).1
      have k4 : ((j : Nat) : Int) = (tOf cs : Int) - 1 := e
      have k5 : ((rows.length - 1 : Nat) : Int) < (tOf cs : Int) := k1
      omega
    have hrows : shRows cs (wOf cs) (tOf cs) = rows := by
      refine List.ext_getElem? fun j => ?_
      by_cases hj : j < rows.length
      · rw [shRows_get (by omega), List.getElem?_eq_getElem hj]
        congr 1
        have hjm := List.getElem_mem hj
        have hjl' : (rows[j]).length = r0.length := by rw [G.lens _ hjm, hh]
        refine List.ext_getElem? fun i => ?_
        by_cases hi : i < r0.length
        · rw [rowL_get (by omega), List.getElem?_eq_getElem (by omega)]
          congr 1
          have hok := List.all_eq_true.mp G.sgns _ hjm
          have hsi := of_decide_eq_true (List.all_eq_true.mp hok _ (List.getElem_mem (show i < (rows[j]).length by omega)))
          have hiff : sg cs (i : Int) (j : Int) = 35 ↔ (rows[j])[i]'(by omega) = 35 := by
            rw [sg_35, hmem]
            constructor
            · rintro ⟨j', i', r, g1, g2, e⟩
              have e1 : i = i' := by have := congrArg Prod.fst e; have h2 : ((i : Nat) : Int) = (i' : Nat) := this; omega
              have e2 : j = j' := by have := congrArg Prod.snd e; have h2 : ((j : Nat) : Int) = (j' : Nat) := this; omega
              subst e1 e2
              rw [List.getElem?_eq_getElem hj] at g1
              cases g1
              exact (List.getElem?_eq_some_iff.mp g2).2
            · intro h
              exact ⟨j, i, rows[j], List.getElem?_eq_getElem hj, by rw [List.getElem?_eq_getElem (show i < (rows[j]).length by omega), h], rfl⟩
          rcases List.mem_cons.mp hsi with h | h
          · rw [h]; exact hiff.mpr h
          · have h46 : (rows[j])[i]'(by omega) = 46 := by simpa using h
            rw [h46]
            have hn : ¬ sg cs (i : Int) (j : Int) = 35 := fun z => by
              have := hiff.mp z
              rw [h46] at this
              cases this
            rw [sg_35] at hn
            unfold sg
            rw [if_neg hn]
        · rw [List.getElem?_eq_none (by simp [rowL]; omega), List.getElem?_eq_none (by omega)]
      · rw [List.getElem?_eq_none (by rw [shRows_len]; omega), List.getElem?_eq_none (by omega)]
    refine ⟨G.few, G.w1, G.w2, G.sgns, hne'.mp hcne, by rw [hcs]; exact (hsh hcne).mpr hrows, ⟨((0 : Int), (jl : Int)), ?_, rfl⟩, ⟨((it : Int), (0 : Int)), ?_, rfl⟩⟩
    · first | exact srt_mem.mp (hcs ▸ c3) | exact srt_mem.mp (by rw [← hcs]; exact c3) | exact c3
    · first | exact srt_mem.mp (hcs ▸ c1) | exact srt_mem.mp (by rw [← hcs]; exact c1) | exact c1
/-! ### a shape's own text -/
theorem srt_of {cs : List (Int × Int)} {l : List (Int × Int)} (h1 : cs.Pairwise (fun a b => leP a b = true)) (h2 : cs.Nodup) (h3 : l.Nodup) (h : ∀ p, p ∈ l ↔ p ∈ cs) : srt l = cs :=
  sorted_unique (srt_sorted l) h1 ((srt_perm l).trans ((List.perm_ext_iff_of_nodup h3 h2).mpr h))
end DL
set_option Elab.async false
set_option linter.all false
set_option maxRecDepth 100000
set_option autoImplicit false
set_option maxHeartbeats 1000000
namespace DL
open PySem L2 TL
/-! ### the reading, of any text -/
theorem parse_other {t : Str} (hl : t.length ≤ 150) (h : ∀ M, tl t ≠ M ++ [10]) : ∃ e, f_parse_shape [.str t] = .exc "InvalidForm" e := by
  refine ⟨_, mFn_exc (e' := [.val (.str t), .un, .un, .un, .un, .un, .un, .un]) rfl ?_⟩
  show m_parse_shape [.val (.str t), .un, .un, .un, .un, .un, .un, .un] = _
  unfold m_parse_shape
  refine seq_exc ?_
  by_cases h0 : t = ""
  · have c1 : mOr (mTest isBl (m2 dEq (mVar 0) (mC (.str "")))) (mTest isBl (m2 dNe (m2 dIxA (mVar 0) (m1 dNeg (mC (.int 1)))) (mC (.str "\n")))) [.val (.str t), .un, .un, .un, .un, .un, .un, .un] = .ret (true || true, [.val (.str t), .un, .un, .un, .un, .un, .un, .un]) :=
      mOr_eq (test_eq (x := .bl true) (m2_eq rfl rfl (by rw [dEq_str, decide_eq_true h0])) rfl) fun z => Bool.noConfusion z
    exact sIf_exc c1 rfl
  · have hne : tl t ≠ [] := fun e => h0 (ext_tl e)
    obtain ⟨M, c, hM⟩ : ∃ M c, tl t = M ++ [c] := ⟨_, _, (List.dropLast_concat_getLast hne).symm⟩
    have hc : c ≠ 10 := fun e => h M (e ▸ hM)
    have c1 : mOr (mTest isBl (m2 dEq (mVar 0) (mC (.str "")))) (mTest isBl (m2 dNe (m2 dIxA (mVar 0) (m1 dNeg (mC (.int 1)))) (mC (.str "\n")))) [.val (.str t), .un, .un, .un, .un, .un, .un, .un] = .ret (false || true, [.val (.str t), .un, .un, .un, .un, .un, .un, .un]) :=
      mOr_eq (test_eq (x := .bl false) (m2_eq rfl rfl (by rw [dEq_str, decide_eq_false h0])) rfl) fun _ => test_eq (x := .bl true) (m2_eq (m2_eq rfl (m1_eq (z := .int (-1)) rfl rfl) (ix_last hM hl)) rfl (by
        rw [dNe_str, decide_eq_false (fun e => hc (by
          have := congrArg tl e
          have h2 : [c] = [10] := this
          injection h2))]; rfl)) rfl
    exact sIf_exc c1 rfl
/-- what reading a text gives -/
def readD (t : Str) (o : Option (List (Int × Int))) : Prop := f__law_read [.str t] = .ret (match o with | some cs => .tup [.tup (cs.map pD)] | none => .non)
theorem read_exc {t : Str} {e : Env} (h : f_parse_shape [.str t] = .exc "InvalidForm" e) : readD t none := by
  refine mFn_eq (e' := [.val (.str t)]) rfl ?_
  show m__law_read [.val (.str t)] = _
  have h1 : mCall f_parse_shape (mCons (mVar 0) mNil) [.val (.str t)] = .exc "InvalidForm" [.val (.str t)] := by
    show T.bind (T.inEnv [.val (.str t)] (f_parse_shape [.str t])) _ = _
    rw [h]
    rfl
  have h2 : sRet (mTuple (mCons (mCall f_parse_shape (mCons (mVar 0) mNil)) mNil)) [.val (.str t)] = .exc "InvalidForm" [.val (.str t)] := by
    show T.bind (T.bind (T.bind (T.bind (mCall f_parse_shape (mCons (mVar 0) mNil) [.val (.str t)]) _) _) _) _ = _
    rw [h1]
    rfl
  unfold m__law_read sTry
  rw [h2]
  rfl
theorem read_ret {t : Str} {cs : List (Int × Int)} (h : f_parse_shape [.str t] = .ret (.tup (cs.map pD))) : readD t (some cs) := by
  refine mFn_eq (e' := [.val (.str t)]) rfl ?_
  show m__law_read [.val (.str t)] = _
  have : sRet (mTuple (mCons (mCall f_parse_shape (mCons (mVar 0) mNil)) mNil)) [.val (.str t)] = .ret (.rt (.tup [.tup (cs.map pD)]), [.val (.str t)]) :=
    sRet_eq (mTuple_eq (mCons_eq (mCall_eq rfl h) rfl) (size_small (by simp)))
  unfold m__law_read sTry
  rw [this]
  rfl
/-- the text of these rows -/
theorem good_text {t : Str} {M : List Nat} (ht : tl t = M ++ [10]) (hl : t.length ≤ 150) : (Good (lns M) → readD t (some (srt (fnd 0 (lns M)))) ∧ f__law_text [.tup ((srt (fnd 0 (lns M))).map pD)] = .ret (.str t)) ∧ (¬ Good (lns M) → readD t none) := by
  obtain ⟨p1, p2⟩ := parse_nl ht hl
  refine ⟨fun g => ?_, fun g => ?_⟩
  · have hT := (takes_good ht hl).mpr g
    refine ⟨read_ret (p1 hT), ?_⟩
    have hML : M.length + 1 ≤ 150 := by
      have := hl
      rw [len_tl, ht, List.length_append, List.length_singleton] at this
      exact this
    have hrs := rows_sum (M := M)
    have hne : srt (fnd 0 (lns M)) ≠ [] := fun e => hT.ne (List.eq_nil_iff_forall_not_mem.mpr fun p hp => by
      have := srt_mem.mpr hp
      rw [e] at this
      cases this)
    rw [text_eval hne ((fnd_fits (by omega) (by omega)).srt), hT.sh]
  · obtain ⟨e, he⟩ := p2 fun T => g ((takes_good ht hl).mp T)
    exact read_exc he
theorem other_text {t : Str} (hl : t.length ≤ 150) (h : ∀ M, tl t ≠ M ++ [10]) : readD t none := by
  obtain ⟨e, he⟩ := parse_other hl h
  exact read_exc he
/-! ### comprehensions that draw -/
inductive Pick {ι : Type} (R : ι → D → Prop) : List ι → List D → Prop
  | nil : Pick R [] []
  | skip {x xs ds} : Pick R xs ds → Pick R (x :: xs) ds
  | take {x xs d ds} : R x d → Pick R xs ds → Pick R (x :: xs) (d :: ds)
theorem Pick.fn {ι : Type} {φ : ι → D} {xs : List ι} {ds : List D} (h : Pick (fun x d => d = φ x) xs ds) : ∃ ys : List ι, ys.Sublist xs ∧ ds = ys.map φ := by
  induction h with
  | nil => exact ⟨[], .slnil, rfl⟩
  | skip _ ih => obtain ⟨ys, h1, h2⟩ := ih; exact ⟨ys, h1.cons _, h2⟩
  | take e _ ih => obtain ⟨ys, h1, h2⟩ := ih; exact ⟨_ :: ys, h1.cons₂ _, by rw [List.map_cons, e, h2]⟩
theorem Pick.all {ι : Type} {R : ι → D → Prop} {xs : List ι} {ds : List D} (h : Pick R xs ds) : ds.length ≤ xs.length ∧ ∀ d ∈ ds, ∃ x ∈ xs, R x d := by
  induction h with
  | nil => exact ⟨Nat.le_refl _, fun _ h => nomatch h⟩
  | skip _ ih => exact ⟨by rw [List.length_cons]; omega, fun d hd => by obtain ⟨x, h1, h2⟩ := ih.2 d hd; exact ⟨x, List.mem_cons_of_mem _ h1, h2⟩⟩
  | take e _ ih =>
    refine ⟨by rw [List.length_cons, List.length_cons]; omega, fun d hd => ?_⟩
    rcases List.mem_cons.mp hd with rfl | hd
    · exact ⟨_, List.mem_cons_self, e⟩
    · obtain ⟨x, h1, h2⟩ := ih.2 d hd
      exact ⟨x, List.mem_cons_of_mem _ h1, h2⟩
abbrev noE : Str → Env → Prop := fun _ _ => False
theorem wpT_nox' {α : Type} {Q : α → Prop} {E : Str → Env → Prop} : ∀ {t : T α}, wpT t Q noE → wpT t.nox Q E
  | .ret _, h => h
  | .exc _ _, h => h.elim
  | .stuck, h => h
  | .draw _ k, h => fun r hr => wpT_nox' (h r hr)
section
variable {ι : Type} {vs : List Nat} {g : MG} {tt : MB} {fe : MD} {fl : ML} {f : ι → D} {R : ι → D → Prop} {e0 e : Env}
/-- one turn of a comprehension that draws -/
def StepW (vs : List Nat) (g : MG) (tt : MB) (fe : MD) (e0 : Env) (d : D) (R : D → Prop) : Prop :=
  wpT (g d e0) (fun e1 => wpT (tt e1) (fun p => (p.1 = false → wipeE p.2 vs = e0) ∧ (p.1 = true → wpT (fe p.2) (fun q => R q.1 ∧ wipeE q.2 vs = e0) noE)) noE) noE
theorem lcGo_wp : ∀ (xs : List ι) (acc : List D), (∀ x ∈ xs, StepW vs g tt fe e0 (f x) (R x)) → acc.length + xs.length ≤ sizeLine → wpT (lcGo vs g tt fe (xs.map f) acc e0) (fun p => p.2 = e0 ∧ ∃ ds, Pick R xs ds ∧ p.1 = acc ++ ds) noE
  | [], acc, _, _ => ⟨rfl, [], .nil, by simp⟩
  | x :: r, acc, h, hl => by
    rw [List.length_cons] at hl
    have hr := fun y hy => h y (List.mem_cons_of_mem _ hy)
    refine wpT_bind.mpr (wpT_mono (fun e1 h1 => ?_) (fun _ _ z => z) (h x List.mem_cons_self))
    refine wpT_bind.mpr (wpT_mono (fun p h2 => ?_) (fun _ _ z => z) h1)
    obtain ⟨b, e2⟩ := p
    obtain ⟨k1, k2⟩ := h2
    cases b with
    | false =>
      show wpT (lcGo vs g tt fe (r.map f) acc (wipeE e2 vs)) _ _
      rw [k1 rfl]
      exact wpT_mono (fun p ⟨a, ds, b, c⟩ => ⟨a, ds, b.skip, c⟩) (fun _ _ z => z) (lcGo_wp r acc hr (by omega))
    | true =>
      refine wpT_bind.mpr (wpT_mono (fun q h3 => ?_) (fun _ _ z => z) (k2 rfl))
      obtain ⟨y, e3⟩ := q
      obtain ⟨h4, h5⟩ := h3
      show wpT (if acc.length < sizeLine then lcGo vs g tt fe (r.map f) (acc ++ [y]) (wipeE e3 vs) else .stuck) _ _
      rw [if_pos (by omega), show wipeE e3 vs = e0 from h5]
      exact wpT_mono (fun p ⟨a, ds, b, c⟩ => ⟨a, y :: ds, b.take h4, by rw [c]; simp⟩) (fun _ _ z => z) (lcGo_wp r (acc ++ [y]) hr (by rw [List.length_append, List.length_singleton]; omega))
theorem mLc_wp {xs : List ι} {env : Env} {E : Str → Env → Prop} (hf : wpT (fl env) (fun p => p = (xs.map f, e)) E) (ho : ownOk e vs = true) (h : ∀ x ∈ xs, StepW vs g tt fe (wipeE e vs) (f x) (R x)) (hl : xs.length ≤ sizeLine) : wpT (mLc vs fl g tt fe env) (fun p => p.2 = e ∧ ∃ ds, Pick R xs ds ∧ p.1 = .lst ds) E := by
  refine wpT_bind.mpr (wpT_mono (fun p hp => ?_) (fun _ _ z => z) hf)
  subst hp
  show wpT (if ownOk e vs = true then _ else _) _ _
  rw [if_pos ho]
  refine wpT_bind.mpr (wpT_nox' (wpT_mono (fun p ⟨a, ds, b, c⟩ => ?_) (fun _ _ z => z) (lcGo_wp xs [] h (by simpa using hl))))
  obtain ⟨out, e2⟩ := p
  subst a
  show backE e (wipeE e vs) vs = e ∧ _
  exact ⟨backE_wipe _ _, ds, b, by show D.lst out = _; rw [show out = [] ++ ds from c, List.nil_append]⟩
end
theorem wp_ret {α : Type} {t : T α} {a : α} {Q : α → Prop} {E : Str → Env → Prop} (h : t = .ret a) (q : Q a) : wpT t Q E := by rw [h]; exact q
/-- a draw -/
theorem take_wp {fl : ML} {e : Env} {n : Nat} {E : Str → Env → Prop} (hf : fl e = .ret ([.tape, .int (n : Int)], e)) (h0 : 0 < n) (h1 : n < 1073741824) : wpT (mCall f__law_take fl e) (fun p => p.2 = e ∧ ∃ r : Nat, r < n ∧ p.1 = D.int (r : Int)) E := by
  refine wpT_bind.mpr ?_
  rw [hf]
  show wpT (T.bind (T.inEnv e (if (0 : Int) < (n : Int) ∧ (n : Int) < 1073741824 then T.draw ((n : Int).toNat - 1) fun r => .ret (D.int (r : Int)) else .stuck)) _) _ _
  rw [if_pos ⟨by omega, by omega⟩]
  intro r hr
  exact ⟨rfl, r, by omega, rfl⟩
end DL
set_option Elab.async false
set_option linter.all false
set_option maxRecDepth 100000
set_option autoImplicit false
set_option maxHeartbeats 1000000
namespace DL
open PySem L2 TL
theorem mAndV_eq {f g : MD} {e : Env} {a b : Bool} (hf : f e = .ret (.bl a, e)) (hg : a = true → g e = .ret (.bl b, e)) : mAndV f g e = .ret (.bl (a && b), e) := by
  show (f e).bind _ = _
  rw [hf]
  cases a with
  | true => exact hg rfl
  | false => rfl
/-! ### the law's own word for a good text -/
theorem cutS_tail {z : Str} {M : List Nat} {c : Nat} (h : tl z = M ++ [c]) : cutS z (some (-1)) none = SS [c] := by
  refine ext_tl ?_
  unfold cutS
  have hl : z.length = M.length + 1 := by rw [len_tl, h]; simp
  have e : HT.sIx z.length 0 (some (-1)) = M.length := by
    show (if (-1 : Int) < 0 then ((-1 : Int) + (z.length : Int)).toNat else min (-1 : Int).toNat z.length) = _
    rw [if_pos (by decide), hl]
    omega
  have e2 : HT.sIx z.length z.length none = z.length := rfl
  have h' : z.cps.toList = M ++ [c] := h
  show (z.cps.toList.drop (HT.sIx z.length 0 (some (-1)))).take (HT.sIx z.length z.length none - HT.sIx z.length 0 (some (-1))) = [c]
  rw [e, e2, h', hl]
  simp
theorem cutS_tail0 {z : Str} (h : tl z = []) : cutS z (some (-1)) none = SS [] := by
  refine ext_tl ?_
  unfold cutS
  have h' : z.cps.toList = [] := h
  show (z.cps.toList.drop _).take _ = []
  rw [h']
  simp
theorem cutS_len {z : Str} {lo hi : Option Int} : (cutS z lo hi).length ≤ z.length := by
  rw [len_tl, len_tl]
  show ((tl z |>.drop _).take _).length ≤ _
  rw [List.length_take, List.length_drop]
  omega
def nlB (t : Str) : Bool := decide ((tl t).getLast? = some 10)
def rowsOf (t : Str) : List (List Nat) := lns (tl t).dropLast
theorem tl_cases (t : Str) : (tl t = [] ∧ nlB t = false) ∨ ∃ M c, tl t = M ++ [c] ∧ nlB t = decide (c = 10) ∧ rowsOf t = lns M := by
  by_cases h : tl t = []
  · exact .inl ⟨h, by unfold nlB; rw [h]; rfl⟩
  · refine .inr ⟨_, _, (List.dropLast_concat_getLast h).symm, ?_, rfl⟩
    unfold nlB
    rw [List.getLast?_eq_some_getLast h, decide_eq_decide]
    exact Option.some_inj
def rA (rows : List (List Nat)) : Bool := decide ((rows.length : Int) < 11) && rows.all fun p => decide ((p.length : Int) = ((rows.headD []).length : Int)) && okRow p
def rB (rows : List (List Nat)) : Bool := (decide ((0 : Int) < ((rows.headD []).length : Int)) && decide (((rows.headD []).length : Int) < 11)) && (decide (35 ∈ rows.headD []) && (decide (35 ∈ rows.getLastD []) && ((rows.any fun p => decide (p.headD 0 = 35)) && (rows.any fun p => decide (p.getLastD 0 = 35)))))
theorem good_iff {rows : List (List Nat)} (hne : rows ≠ []) : (rA rows && rB rows) = true ↔ Good rows := by
  unfold rA rB
  constructor
  · intro h
    simp only [Bool.and_eq_true, decide_eq_true_eq, List.all_eq_true, List.any_eq_true] at h
    obtain ⟨⟨h1, h2⟩, ⟨h3, h4⟩, h5, h6, ⟨p, hp, h7⟩, ⟨q, hq, h8⟩⟩ := h
    refine ⟨by omega, fun p hp => by have := (h2 p hp).1; omega, List.all_eq_true.mpr fun p hp => (h2 p hp).2, by omega, by omega, h5, h6, ⟨p, hp, ?_⟩, ⟨q, hq, ?_⟩⟩
    · cases p with
      | nil => cases h7
      | cons a r => exact congrArg some h7
    · cases q with
      | nil => cases h8
      | cons a r =>
        rw [List.getLastD_eq_getLast?] at h8
        rw [List.getLast?_eq_some_getLast (by simp)] at h8 ⊢
        exact congrArg some h8
  · intro g
    simp only [Bool.and_eq_true, decide_eq_true_eq, List.all_eq_true, List.any_eq_true]
    obtain ⟨p, hp, h7⟩ := g.lf
    obtain ⟨q, hq, h8⟩ := g.rt
    have g1 := g.few
    have g2 := g.w1
    have g3 := g.w2
    refine ⟨⟨by omega, fun p hp => ⟨by rw [g.lens p hp], List.all_eq_true.mp g.sgns p hp⟩⟩, ⟨by omega, by omega⟩, g.top, g.bot, ⟨p, hp, ?_⟩, ⟨q, hq, ?_⟩⟩
    · cases p with
      | nil => cases h7
      | cons a r => exact Option.some.inj h7
    · rw [List.getLastD_eq_getLast?, h8]; rfl
theorem in_hash {p : List Nat} : dInA (.str "#") (.str (SS p)) = some (.bl (decide (35 ∈ p))) := rfl
theorem len_row {p : List Nat} (h : p.length ≤ 1000) : dLenA [.str (SS p)] = some (.int (p.length : Int)) := by
  show (if (SS p).length ≤ sizeLine then some (D.int ((SS p).length : Int)) else none) = _
  rw [if_pos (by rw [len_SS]; exact size_big (by omega)), len_SS]
theorem ix_head {p : List Nat} (h : p.length ≤ 1000) (hne : p ≠ []) : dIxA (.str (SS p)) (.int 0) = some (sgn (p.headD 0)) := by
  cases p with
  | nil => exact absurd rfl hne
  | cons a r =>
    show (if (SS (a :: r)).length ≤ sizeLine then (L2.atI (a :: r) 0).map fun c => D.str ⟨#[c]⟩ else none) = _
    rw [if_pos (by rw [len_SS]; exact size_big (by omega))]
    have : L2.atI (a :: r) (0 : Int) = some a := L2.atI_nat (j := 0) rfl
    rw [this]; rfl
theorem ix_end {p : List Nat} (h : p.length ≤ 1000) (hne : p ≠ []) : dIxA (.str (SS p)) (.int (-1)) = some (sgn (p.getLastD 0)) := by
  show (if (SS p).length ≤ sizeLine then (L2.atI p (-1)).map fun c => D.str ⟨#[c]⟩ else none) = _
  rw [if_pos (by rw [len_SS]; exact size_big (by omega)), ← List.dropLast_concat_getLast hne, L2.atI_last]
  rw [List.getLastD_eq_getLast?, List.dropLast_concat_getLast, List.getLast?_eq_some_getLast hne]
  rfl
theorem ix_endrow {rows : List (List Nat)} (h : rows ≠ []) : dIxA (rowsD rows) (.int (-1)) = some (.str (SS (rows.getLastD []))) := by
  show L2.atI (rows.map fun p => D.str (SS p)) (-1) = _
  obtain ⟨rs, r, rfl⟩ : ∃ rs r, rows = rs ++ [r] := ⟨_, _, (List.dropLast_concat_getLast h).symm⟩
  rw [List.map_append, List.map_singleton, L2.atI_last]
  simp [List.getLastD_eq_getLast?]
noncomputable abbrev gA : MD := (mAndV (m2 dEq (mSl dSl (mVar 12) (moSome (m1 dNeg (mC (.int 1)))) moNone) (mC (.str "\n"))) (mAndV (m2 dLt (mS dLenA (mCons (mVar 14) mNil)) (mC (.int 11))) (mS dAll (mCons (mLc [17] (iAny (mVar 14)) (gSet 17) mYes (mAndV (m2 dEq (mS dLenA (mCons (mVar 17) mNil)) (mS dLenA (mCons (m2 dIxA (mVar 14) (mC (.int 0))) mNil))) (mS dAll (mCons (mLc [16] (iAny (mVar 17)) (gSet 16) mYes (m2 dInA (mVar 16) (mC (.str "#.")))) mNil)))) mNil))))
noncomputable abbrev gB : MD := (mAndV (mVar 15) (mAndV (mChain dLt dLt (mC (.int 0)) (mS dLenA (mCons (m2 dIxA (mVar 14) (mC (.int 0))) mNil)) (mC (.int 11))) (mAndV (m2 dInA (mC (.str "#")) (m2 dIxA (mVar 14) (mC (.int 0)))) (mAndV (m2 dInA (mC (.str "#")) (m2 dIxA (mVar 14) (m1 dNeg (mC (.int 1))))) (mAndV (mS dAny (mCons (mLc [17] (iAny (mVar 14)) (gSet 17) mYes (m2 dEq (m2 dIxA (mVar 17) (mC (.int 0))) (mC (.str "#")))) mNil)) (mS dAny (mCons (mLc [17] (iAny (mVar 14)) (gSet 17) mYes (m2 dEq (m2 dIxA (mVar 17) (m1 dNeg (mC (.int 1)))) (mC (.str "#")))) mNil)))))))
theorem any_map {α : Type} {l : List α} {q : α → Bool} : dAny [.lst (l.map fun x => D.bl (q x))] = some (.bl (l.any q)) := by
  rw [show (l.map fun x => D.bl (q x)) = (l.map q).map D.bl by rw [List.map_map]; rfl]
  show (toB _).map _ = _
  rw [toB_map]
  show some (D.bl ((l.map q).any id)) = _
  rw [List.any_map]; rfl
theorem all_map' {α : Type} {l : List α} {q : α → Bool} : dAll [.lst (l.map fun x => D.bl (q x))] = some (.bl (l.all q)) := by
  rw [show (l.map fun x => D.bl (q x)) = (l.map q).map D.bl by rw [List.map_map]; rfl]
  show (toB _).map _ = _
  rw [toB_map]
  show some (D.bl ((l.map q).all id)) = _
  rw [List.all_map]; rfl
section
variable {v0 v1 v2 v3 v4 v5 v6 v7 v8 v9 v10 v11 v13 v15 : Sl} {R : List Sl} {t : Str}
theorem rows_small (hl : t.length ≤ 150) : rowsOf t ≠ [] ∧ (rowsOf t).length ≤ 200 ∧ ((rowsOf t).map List.length).sum ≤ 200 := by
  have hrs := rows_sum (M := (tl t).dropLast)
  have hd : (tl t).dropLast.length ≤ 150 := by
    rw [List.length_dropLast, ← len_tl]
    omega
  obtain ⟨r0, rr, hr⟩ := lns_ne (tl t).dropLast
  unfold rowsOf
  exact ⟨by rw [hr]; simp, by omega, by omega⟩
theorem split_eval (hl : t.length ≤ 150) : mSM1 dSplit (mSl dSl (mVar 12) moNone (moSome (m1 dNeg (mC (.int 1))))) (mC (.str "\n")) (v0 :: v1 :: v2 :: v3 :: v4 :: v5 :: v6 :: v7 :: v8 :: v9 :: v10 :: v11 :: .val (.str t) :: R) = .ret (rowsD (rowsOf t), (v0 :: v1 :: v2 :: v3 :: v4 :: v5 :: v6 :: v7 :: v8 :: v9 :: v10 :: v11 :: .val (.str t) :: R)) := by
  have hd : (tl t).dropLast.length ≤ 150 := by
    rw [List.length_dropLast, ← len_tl]
    omega
  refine mSM1_eq (x := SS (tl t).dropLast) (mSl_eq (u := some (-1)) rfl rfl rfl ?_) rfl (split_rows hd)
  show (if t.length ≤ sizeLine then some (D.str (cutS t none (some (-1)))) else none) = _
  rw [if_pos (size_big (by omega))]
  rcases tl_cases t with ⟨h, _⟩ | ⟨M, c, h, _, _⟩
  · rw [cutS_init0 h, h]; rfl
  · rw [cutS_init h, h, List.dropLast_concat]
theorem gA_eval (hl : t.length ≤ 150) : gA (v0 :: v1 :: v2 :: v3 :: v4 :: v5 :: v6 :: v7 :: v8 :: v9 :: v10 :: v11 :: .val (.str t) :: v13 :: .val (rowsD (rowsOf t)) :: v15 :: .un :: .un :: R) = .ret (.bl (nlB t && rA (rowsOf t)), (v0 :: v1 :: v2 :: v3 :: v4 :: v5 :: v6 :: v7 :: v8 :: v9 :: v10 :: v11 :: .val (.str t) :: v13 :: .val (rowsD (rowsOf t)) :: v15 :: .un :: .un :: R)) := by
  obtain ⟨hne, hz1, hz2⟩ := rows_small hl
  refine mAndV_eq (m2_eq (y := .str "\n") (mSl_eq (x := .str t) (l := some (-1)) (u := none) rfl rfl rfl (show (if t.length ≤ sizeLine then some (D.str (cutS t (some (-1)) none)) else none) = _ from if_pos (size_big (by omega)))) rfl ?_) fun _ => ?_
  · rw [dEq_str]
    congr 2
    rcases tl_cases t with ⟨h, e⟩ | ⟨M, c, h, e, _⟩
    · rw [cutS_tail0 h, e]; rfl
    · rw [cutS_tail h, e, decide_eq_decide]
      constructor
      · intro z
        have := congrArg tl z
        have h2 : [c] = [10] := this
        injection h2
      · rintro rfl; rfl
  · generalize rowsOf t = rows at *
    have hhd : (rows.headD []).length ≤ 200 := by
      cases rows with
      | nil => exact absurd rfl hne
      | cons a r => exact Nat.le_trans (rows_in (rows := a :: r) (p := a) List.mem_cons_self) hz2
    refine mAndV_eq (m2_eq (x := .int (rows.length : Int)) (mS1_eq (x := rowsD rows) rfl (by show some (D.int ((rows.map fun p => D.str (SS p)).length : Int)) = _; rw [List.length_map])) rfl rfl) fun _ => ?_
    refine mS1_eq (mLc_map (ι := List Nat) (f := fun p => D.str (SS p)) (φ := fun p => D.bl (decide ((p.length : Int) = ((rows.headD []).length : Int)) && okRow p)) (xs := rows) (by rfl) (by rfl) (fun p hp => ⟨_, _, rfl, mAndV_eq (m2_eq (mS1_eq rfl (len_row (by have := rows_in hp; omega))) (mS1_eq (m2_eq rfl rfl (ix_first hne)) (len_row (by omega))) rfl) fun _ => ok_row (by have := rows_in hp; omega) (by rfl) (by rfl) (fun _ => by rfl) (fun _ => by rfl), by rfl⟩) (size_big (by omega))) all_map'
theorem gB_eval (hl : t.length ≤ 150) : gB (v0 :: v1 :: v2 :: v3 :: v4 :: v5 :: v6 :: v7 :: v8 :: v9 :: v10 :: v11 :: .val (.str t) :: v13 :: .val (rowsD (rowsOf t)) :: .val (.bl (nlB t && rA (rowsOf t))) :: .un :: .un :: R) = .ret (.bl ((nlB t && rA (rowsOf t)) && rB (rowsOf t)), (v0 :: v1 :: v2 :: v3 :: v4 :: v5 :: v6 :: v7 :: v8 :: v9 :: v10 :: v11 :: .val (.str t) :: v13 :: .val (rowsD (rowsOf t)) :: .val (.bl (nlB t && rA (rowsOf t))) :: .un :: .un :: R)) := by
  obtain ⟨hne, hz1, hz2⟩ := rows_small hl
  refine mAndV_eq rfl fun hA => ?_
  rw [Bool.and_eq_true] at hA
  obtain ⟨_, hA⟩ := hA
  generalize (nlB t && rA (rowsOf t)) = bA at *
  generalize rowsOf t = rows at *
  have hhd : (rows.headD []).length ≤ 200 := by
    cases rows with
    | nil => exact absurd rfl hne
    | cons a r => exact Nat.le_trans (rows_in (rows := a :: r) (p := a) List.mem_cons_self) hz2
  unfold rB
  refine mAndV_eq (mChain_eq (x := .int 0) rfl (mS1_eq (m2_eq rfl rfl (ix_first hne)) (len_row (by omega))) rfl rfl rfl) fun hw => ?_
  rw [Bool.and_eq_true, decide_eq_true_eq] at hw
  have hp0 : ∀ p ∈ rows, p ≠ [] ∧ p.length ≤ 1000 := by
    intro p hp
    unfold rA at hA
    rw [Bool.and_eq_true, List.all_eq_true] at hA
    have := hA.2 p hp
    rw [Bool.and_eq_true, decide_eq_true_eq] at this
    refine ⟨fun e => ?_, by have := rows_in hp; omega⟩
    rw [e] at this
    have h1 := this.1
    have h2 := hw.1
    rw [← h1] at h2
    cases h2
  refine mAndV_eq (m2_eq rfl (m2_eq rfl rfl (ix_first hne)) in_hash) fun _ => mAndV_eq (m2_eq rfl (m2_eq rfl (m1_eq (z := .int (-1)) rfl rfl) (ix_endrow hne)) in_hash) fun _ => mAndV_eq ?_ fun _ => ?_
  · exact mS1_eq (mLc_map (ι := List Nat) (f := fun p => D.str (SS p)) (φ := fun p => D.bl (decide (p.headD 0 = 35))) (xs := rows) (by rfl) (by rfl) (fun p hp => ⟨_, _, rfl, m2_eq (m2_eq rfl rfl (ix_head (hp0 p hp).2 (hp0 p hp).1)) rfl (sgn_eq _), by rfl⟩) (size_big (by omega))) any_map
  · exact mS1_eq (mLc_map (ι := List Nat) (f := fun p => D.str (SS p)) (φ := fun p => D.bl (decide (p.getLastD 0 = 35))) (xs := rows) (by rfl) (by rfl) (fun p hp => ⟨_, _, rfl, m2_eq (m2_eq rfl (m1_eq (z := .int (-1)) rfl rfl) (ix_end (hp0 p hp).2 (hp0 p hp).1)) rfl (sgn_eq _), by rfl⟩) (size_big (by omega))) any_map
end
/-- a read text and the law's word -/
theorem read_good {t : Str} (hl : t.length ≤ 150) : (((nlB t && rA (rowsOf t)) && rB (rowsOf t)) = true ∧ ∃ cs, readD t (some cs) ∧ f__law_text [.tup (cs.map pD)] = .ret (.str t)) ∨ (((nlB t && rA (rowsOf t)) && rB (rowsOf t)) = false ∧ readD t none) := by
  have hne := (rows_small hl).1
  rcases tl_cases t with ⟨h, e⟩ | ⟨M, c, h, e, er⟩
  · exact .inr ⟨by rw [e]; rfl, other_text hl fun M z => by rw [h] at z; simp at z⟩
  · by_cases hc : c = 10
    · subst hc
      have e' : nlB t = true := by rw [e]; rfl
      rw [e', Bool.true_and]
      obtain ⟨g1, g2⟩ := good_text h hl
      by_cases hg : Good (rowsOf t)
      · exact .inl ⟨(good_iff hne).mpr hg, _, g1 (er ▸ hg)⟩
      · refine .inr ⟨?_, g2 (er ▸ hg)⟩
        cases hb : rA (rowsOf t) && rB (rowsOf t) with
        | false => rfl
        | true => exact absurd ((good_iff hne).mp hb) hg
    · refine .inr ⟨by rw [e, decide_eq_false hc]; rfl, other_text hl fun N z => ?_⟩
      rw [h] at z
      have := congrArg List.getLast? z
      simp at this
      exact hc this
end DL
set_option Elab.async false
set_option linter.all false
set_option maxRecDepth 100000
set_option autoImplicit false
set_option maxHeartbeats 400000
namespace DL
open PySem L2 TL
/-! ### one turn of the law's loop -/
/-- wpT, closed to the eyes of whnf -/
structure WP {α : Type} (t : T α) (Q : α → Prop) (E : Str → Env → Prop) : Prop where
  h : wpT t Q E
theorem WP.mono {α : Type} {Q Q' : α → Prop} {E : Str → Env → Prop} {t : T α} (h : WP t Q E) (hQ : ∀ a, Q a → Q' a) : WP t Q' E := ⟨wpT_mono hQ (fun _ _ z => z) h.h⟩
theorem WP.bind {α β : Type} {f : α → T β} {Q : β → Prop} {E : Str → Env → Prop} {t : T α} (h : WP t (fun a => WP (f a) Q E) E) : WP (t.bind f) Q E := ⟨wpT_bind.mpr (wpT_mono (fun a z => z.h) (fun _ _ z => z) h.h)⟩
theorem WP.ret {α : Type} {t : T α} {a : α} {Q : α → Prop} {E : Str → Env → Prop} (h : t = .ret a) (q : Q a) : WP t Q E := ⟨wp_ret h q⟩
theorem wseq {m n : MS} {e e' : Env} {Q : Fl × Env → Prop} {E : Str → Env → Prop} (h : m e = .ret (.nx, e')) (h2 : WP (n e') Q E) : WP (sSeq m n e) Q E := by
  rw [seq_eq h]; exact h2
theorem wseqw {m n : MS} {e : Env} {P : Env → Prop} {Q : Fl × Env → Prop} {E : Str → Env → Prop} (h : WP (m e) (fun r => r.1 = .nx ∧ P r.2) E) (h2 : ∀ e', P e' → WP (n e') Q E) : WP (sSeq m n e) Q E := ⟨seq_nx h.h fun e' hp => (h2 e' hp).h⟩
theorem wasg {f : MD} {i : Nat} {e : Env} {P : D → Prop} {E : Str → Env → Prop} (h : WP (f e) (fun p => p.2 = e ∧ P p.1) E) : WP (sAsg f (gSet i) e) (fun r => r.1 = .nx ∧ ∃ d, P d ∧ r.2 = e.set i (.val d)) E := by
  refine WP.bind (h.mono fun p hp => ?_)
  obtain ⟨d, e1⟩ := p
  obtain ⟨h1, hp⟩ := hp
  cases h1
  exact ⟨⟨rfl, d, hp, rfl⟩⟩
theorem wm2 {g : D → D → Option D} {f h : MD} {e : Env} {x : D} {P Q : D → Prop} {E : Str → Env → Prop} (hf : f e = .ret (x, e)) (hh : WP (h e) (fun p => p.2 = e ∧ P p.1) E) (hg : ∀ y, P y → ∃ z, g x y = some z ∧ Q z) : WP (m2 g f h e) (fun p => p.2 = e ∧ Q p.1) E := by
  refine WP.bind (WP.ret hf (WP.bind (hh.mono fun p hp => ?_)))
  obtain ⟨y, e1⟩ := p
  obtain ⟨h1, hp⟩ := hp
  cases h1
  obtain ⟨z, e1, hz⟩ := hg y hp
  show WP (T.bind (T.of (g x y)) _) _ _
  rw [e1]
  exact ⟨⟨rfl, hz⟩⟩
theorem wm2l {g : D → D → Option D} {f h : MD} {e : Env} {y : D} {P Q : D → Prop} {E : Str → Env → Prop} (hf : WP (f e) (fun p => p.2 = e ∧ P p.1) E) (hh : h e = .ret (y, e)) (hg : ∀ x, P x → ∃ z, g x y = some z ∧ Q z) : WP (m2 g f h e) (fun p => p.2 = e ∧ Q p.1) E := by
  refine WP.bind (hf.mono fun p hp => ?_)
  obtain ⟨x, e1⟩ := p
  obtain ⟨h1, hp⟩ := hp
  cases h1
  refine WP.bind (WP.ret hh ?_)
  obtain ⟨z, e1, hz⟩ := hg x hp
  show WP (T.bind (T.of (g x y)) _) _ _
  rw [e1]
  exact ⟨⟨rfl, hz⟩⟩
theorem takeW {fl : ML} {e : Env} {n : Nat} {E : Str → Env → Prop} (hf : fl e = .ret ([.tape, .int (n : Int)], e)) (h0 : 0 < n) (h1 : n < 1073741824) : WP (mCall f__law_take fl e) (fun p => p.2 = e ∧ ∃ r : Nat, r < n ∧ p.1 = D.int (r : Int)) E := ⟨take_wp hf h0 h1⟩
theorem WP.mono' {α : Type} {Q Q' : α → Prop} {E : Str → Env → Prop} {t : T α} (hQ : ∀ a, Q a → Q' a) (h : WP t Q E) : WP t Q' E := h.mono hQ
theorem mLst_eq {fl : ML} {e : Env} {ds : List D} (h : fl e = .ret (ds, e)) (hl : ds.length ≤ 100) : mLst fl e = .ret (.lst ds, e) := by
  show (fl e).bind _ = _
  rw [h]
  exact if_pos (size_big (by omega))
theorem add_str {x y : Str} (h : x.length + y.length ≤ 1000) : dAdd (.str x) (.str y) = some (.str (x ++ y)) := if_pos (size_big (by omega))
theorem len_app {x y : Str} : (x ++ y).length = x.length + y.length := by rw [len_tl, tl_append, List.length_append, ← len_tl, ← len_tl]
theorem sl_str {x : Str} {l u : Option Int} (h : x.length ≤ 1000) : dSl (.str x) l u = some (.str (cutS x l u)) := if_pos (size_big (by omega))
theorem ix_one {d : D} : dIxA (.tup [d]) (.int 0) = some d := by
  show L2.atI [d] ((0 : Nat) : Int) = some d
  exact L2.atI_nat rfl
theorem ix_lst {ds : List D} {j : Nat} {d : D} (h : ds[j]? = some d) : dIxA (.lst ds) (.int (j : Int)) = some d := by
  show L2.atI ds (j : Int) = some d
  exact L2.atI_nat h
noncomputable abbrev turnB : MS := (sSeq (sAsg (mCall f__law_take (mCons (mVar 1) (mCons (m2 dAdd (mS dLenA (mCons (mVar 7) mNil)) (mC (.int 1))) mNil))) (gSet 10))
  (sSeq (sAsg (m2 dIxA (mC (.str "#.\n a")) (mCall f__law_take (mCons (mVar 1) (mCons (mC (.int 5)) mNil)))) (gSet 11))
  (sSeq (sAsg (m2 dIxA (mLst (mCons (m2 dAdd (mSl dSl (mVar 7) moNone (moSome (mVar 10))) (mSl dSl (mVar 7) (moSome (m2 dAdd (mVar 10) (mC (.int 1)))) moNone)) (mCons (m2 dAdd (m2 dAdd (mSl dSl (mVar 7) moNone (moSome (mVar 10))) (mVar 11)) (mSl dSl (mVar 7) (moSome (mVar 10)) moNone)) (mCons (m2 dAdd (m2 dAdd (mSl dSl (mVar 7) moNone (moSome (mVar 10))) (mVar 11)) (mSl dSl (mVar 7) (moSome (m2 dAdd (mVar 10) (mC (.int 1)))) moNone)) (mCons (m2 dAdd (mVar 7) (mSl dSl (mVar 7) moNone (moSome (mVar 10)))) mNil))))) (mCall f__law_take (mCons (mVar 1) (mCons (mC (.int 4)) mNil)))) (gSet 12))
  (sSeq (sAsg (mCall f__law_read (mCons (mVar 12) mNil)) (gSet 13))
  (sSeq (sIf (mAnd (mTest isBl (m2 dNotN (mVar 13) (mC .non))) (mTest isBl (m2 dNe (mCall f__law_text (mCons (m2 dIxA (mVar 13) (mC (.int 0))) mNil)) (mVar 12)))) (sRet (mC (.bl false))) sNext)
  (sSeq (sAsg (mSM1 dSplit (mSl dSl (mVar 12) moNone (moSome (m1 dNeg (mC (.int 1))))) (mC (.str "\n"))) (gSet 14))
  (sSeq (sAsg gA (gSet 15))
  (sSeq (sAsg gB (gSet 15))
  (sIf (mTest isBl (m2 dNe (m2 dNotN (mVar 13) (mC .non)) (mVar 15))) (sRet (mC (.bl false))) sNext)))))))))
def Val (s : Sl) : Prop := ∃ d, s = .val d
section
variable {v0 v2 v3 v4 v5 v6 v8 : Sl} {R : List Sl} {x : Str}
theorem turn_fin {v9 v10 v11 v14 v15 : Sl} {t : Str} (hl : t.length ≤ 150) {Q : Fl × Env → Prop} {E : Str → Env → Prop}
    (k : ∀ v13 v14 v15, Q (.nx, v0 :: .val .tape :: v2 :: v3 :: v4 :: v5 :: v6 :: .val (.str x) :: v8 :: v9 :: v10 :: v11 :: .val (.str t) :: .val v13 :: .val v14 :: .val v15 :: .un :: .un :: R)) : ∀ (told : D) (b : Bool), dNotN told .non = some (.bl b) → b = ((nlB t && rA (rowsOf t)) && rB (rowsOf t)) → WP (sSeq (sAsg (mSM1 dSplit (mSl dSl (mVar 12) moNone (moSome (m1 dNeg (mC (.int 1))))) (mC (.str "\n"))) (gSet 14))
      (sSeq (sAsg gA (gSet 15))
      (sSeq (sAsg gB (gSet 15))
      (sIf (mTest isBl (m2 dNe (m2 dNotN (mVar 13) (mC .non)) (mVar 15))) (sRet (mC (.bl false))) sNext))) (v0 :: .val .tape :: v2 :: v3 :: v4 :: v5 :: v6 :: .val (.str x) :: v8 :: v9 :: v10 :: v11 :: .val (.str t) :: .val told :: v14 :: v15 :: .un :: .un :: R)) Q E := by
  intro told b h1 h2
  refine wseq (sAsg_eq (split_eval hl)) ?_
  show WP (sSeq _ _ (v0 :: .val .tape :: v2 :: v3 :: v4 :: v5 :: v6 :: .val (.str x) :: v8 :: v9 :: v10 :: v11 :: .val (.str t) :: .val told :: .val (rowsD (rowsOf t)) :: v15 :: .un :: .un :: R)) _ _
  refine wseq (sAsg_eq (gA_eval hl)) ?_
  show WP (sSeq _ _ (v0 :: .val .tape :: v2 :: v3 :: v4 :: v5 :: v6 :: .val (.str x) :: v8 :: v9 :: v10 :: v11 :: .val (.str t) :: .val told :: .val (rowsD (rowsOf t)) :: .val (.bl (nlB t && rA (rowsOf t))) :: .un :: .un :: R)) _ _
  refine wseq (sAsg_eq (gB_eval hl)) ?_
  show WP (sIf _ _ _ (v0 :: .val .tape :: v2 :: v3 :: v4 :: v5 :: v6 :: .val (.str x) :: v8 :: v9 :: v10 :: v11 :: .val (.str t) :: .val told :: .val (rowsD (rowsOf t)) :: .val (.bl ((nlB t && rA (rowsOf t)) && rB (rowsOf t))) :: .un :: .un :: R)) _ _
  rw [← h2]
  refine WP.ret (sIf_nx (b := false) (test_eq (x := .bl false) (m2_eq (m2_eq rfl rfl h1) rfl (by
    show some (D.bl (!decide (b = b))) = _
    rw [decide_eq_true rfl]; rfl)) rfl) rfl) (k _ _ _)
theorem call12' {v1 v7 v9 v10 v11 : Sl} {g : MF} {t : Str} {d : D} (h : g [.str t] = .ret d) : mCall g (mCons (mVar 12) mNil) (v0 :: v1 :: v2 :: v3 :: v4 :: v5 :: v6 :: v7 :: v8 :: v9 :: v10 :: v11 :: .val (.str t) :: R) = .ret (d, (v0 :: v1 :: v2 :: v3 :: v4 :: v5 :: v6 :: v7 :: v8 :: v9 :: v10 :: v11 :: .val (.str t) :: R)) := mCall_eq (ds := [.str t]) rfl h
theorem call13 {v1 v7 v9 v10 v11 v12 : Sl} {g : MF} {t d : D} (h : g [t] = .ret d) : mCall g (mCons (m2 dIxA (mVar 13) (mC (.int 0))) mNil) (v0 :: v1 :: v2 :: v3 :: v4 :: v5 :: v6 :: v7 :: v8 :: v9 :: v10 :: v11 :: v12 :: .val (.tup [t]) :: R) = .ret (d, (v0 :: v1 :: v2 :: v3 :: v4 :: v5 :: v6 :: v7 :: v8 :: v9 :: v10 :: v11 :: v12 :: .val (.tup [t]) :: R)) := mCall_eq (ds := [t]) (mCons_eq (m2_eq (x := .tup [t]) (y := .int 0) rfl rfl ix_one) rfl) h
/-- behind the bent text -/
theorem turn_end {v9 v10 v11 v13 v14 v15 : Sl} {t : Str} (hl : t.length ≤ 150) {Q : Fl × Env → Prop} {E : Str → Env → Prop}
    (k : ∀ v13 v14 v15, Q (.nx, v0 :: .val .tape :: v2 :: v3 :: v4 :: v5 :: v6 :: .val (.str x) :: v8 :: v9 :: v10 :: v11 :: .val (.str t) :: .val v13 :: .val v14 :: .val v15 :: .un :: .un :: R)) :
    WP (sSeq (sAsg (mCall f__law_read (mCons (mVar 12) mNil)) (gSet 13))
  (sSeq (sIf (mAnd (mTest isBl (m2 dNotN (mVar 13) (mC .non))) (mTest isBl (m2 dNe (mCall f__law_text (mCons (m2 dIxA (mVar 13) (mC (.int 0))) mNil)) (mVar 12)))) (sRet (mC (.bl false))) sNext)
  (sSeq (sAsg (mSM1 dSplit (mSl dSl (mVar 12) moNone (moSome (m1 dNeg (mC (.int 1))))) (mC (.str "\n"))) (gSet 14))
  (sSeq (sAsg gA (gSet 15))
  (sSeq (sAsg gB (gSet 15))
  (sIf (mTest isBl (m2 dNe (m2 dNotN (mVar 13) (mC .non)) (mVar 15))) (sRet (mC (.bl false))) sNext))))) (v0 :: .val .tape :: v2 :: v3 :: v4 :: v5 :: v6 :: .val (.str x) :: v8 :: v9 :: v10 :: v11 :: .val (.str t) :: v13 :: v14 :: v15 :: .un :: .un :: R)) Q E := by
  refine (read_good hl).elim (fun h => ?_) (fun h => ?_)
  · have hb := h.1
    refine h.2.elim fun cs hcs => ?_
    have h1 := hcs.1
    have h2 := hcs.2
    have h1' : f__law_read [.str t] = .ret (.tup [.tup (cs.map pD)]) := h1
    refine wseq (sAsg_eq (call12' h1')) ?_
    show WP (sSeq _ _ (v0 :: .val .tape :: v2 :: v3 :: v4 :: v5 :: v6 :: .val (.str x) :: v8 :: v9 :: v10 :: v11 :: .val (.str t) :: .val (.tup [.tup (cs.map pD)]) :: v14 :: v15 :: .un :: .un :: R)) _ _
    refine wseq (sIf_nx (b := true && false) (and_eq (test_eq (x := .bl true) rfl rfl) fun _ => test_eq (x := .bl false) (m2_eq (call13 h2) rfl (by rw [dNe_str, decide_eq_true rfl]; rfl)) rfl) rfl) ?_
    exact turn_fin hl k _ true rfl hb.symm
  · have hb := h.1
    have h1 := h.2
    have h1' : f__law_read [.str t] = .ret .non := h1
    refine wseq (sAsg_eq (call12' h1')) ?_
    show WP (sSeq _ _ (v0 :: .val .tape :: v2 :: v3 :: v4 :: v5 :: v6 :: .val (.str x) :: v8 :: v9 :: v10 :: v11 :: .val (.str t) :: .val .non :: v14 :: v15 :: .un :: .un :: R)) _ _
    refine wseq (sIf_nx (b := false && false) (and_eq (test_eq (x := .bl false) rfl rfl) fun z => Bool.noConfusion z) rfl) ?_
    exact turn_fin hl k _ false rfl hb.symm
theorem turn_ok {v9 v10 v11 v12 v13 v14 v15 : Sl} (hx : x.length ≤ 60) {E : Str → Env → Prop} :
    WP (turnB (v0 :: .val .tape :: v2 :: v3 :: v4 :: v5 :: v6 :: .val (.str x) :: v8 :: v9 :: v10 :: v11 :: v12 :: v13 :: v14 :: v15 :: .un :: .un :: R))
      (fun r => r.1 = .nx ∧ ∃ d10 d11 d12 d13 d14 d15, r.2 = v0 :: .val .tape :: v2 :: v3 :: v4 :: v5 :: v6 :: .val (.str x) :: v8 :: v9 :: .val d10 :: .val d11 :: .val d12 :: .val d13 :: .val d14 :: .val d15 :: .un :: .un :: R) E := by
  unfold turnB
  refine wseqw (P := fun e => ∃ at_ : Nat, e = v0 :: .val .tape :: v2 :: v3 :: v4 :: v5 :: v6 :: .val (.str x) :: v8 :: v9 :: .val (.int (at_ : Int)) :: v11 :: v12 :: v13 :: v14 :: v15 :: .un :: .un :: R) (WP.mono' (fun r hr => ?_) (wasg (P := fun d => ∃ r : Nat, r < x.length + 1 ∧ d = .int (r : Int)) (takeW (n := x.length + 1) (mCons_eq rfl (mCons_eq (m2_eq (mS1_eq rfl (show (if x.length ≤ sizeLine then some (D.int (x.length : Int)) else none) = _ from if_pos (size_big (by omega)))) rfl rfl) rfl)) (by omega) (by omega)))) ?_
  · obtain ⟨h1, d, ⟨at_, _, rfl⟩, h2⟩ := hr
    exact ⟨h1, at_, h2⟩
  rintro _ ⟨at_, rfl⟩
  refine wseqw (P := fun e => ∃ c : Nat, e = v0 :: .val .tape :: v2 :: v3 :: v4 :: v5 :: v6 :: .val (.str x) :: v8 :: v9 :: .val (.int (at_ : Int)) :: .val (sgn c) :: v12 :: v13 :: v14 :: v15 :: .un :: .un :: R) (WP.mono' (fun r hr => ?_) (wasg (P := fun d => ∃ c : Nat, d = sgn c) (wm2 (x := .str "#.\n a") (P := fun d => ∃ r : Nat, r < 5 ∧ d = .int (r : Int)) (Q := fun d => ∃ c : Nat, d = sgn c) rfl (takeW (n := 5) rfl (by omega) (by omega)) ?_))) ?_
  · obtain ⟨h1, d, ⟨c, rfl⟩, h2⟩ := hr
    exact ⟨h1, c, h2⟩
  · rintro y ⟨r, hr, rfl⟩
    obtain ⟨c, hc⟩ : ∃ c, ([35, 46, 10, 32, 97] : List Nat)[r]? = some c := ⟨_, List.getElem?_eq_getElem (by simpa using hr)⟩
    refine ⟨sgn c, ?_, c, rfl⟩
    show (if (5 : Nat) ≤ sizeLine then (L2.atI ([35, 46, 10, 32, 97] : List Nat) (r : Int)).map fun c => D.str ⟨#[c]⟩ else none) = _
    rw [if_pos (size_big (by omega)), L2.atI_nat hc]
    rfl
  rintro _ ⟨c, rfl⟩
  have cl : ∀ (l u : Option Int), (cutS x l u).length ≤ 60 := fun l u => Nat.le_trans cutS_len hx
  have one : (⟨#[c]⟩ : Str).length = 1 := rfl
  refine wseqw (P := fun e => ∃ t : Str, t.length ≤ 150 ∧ e = v0 :: .val .tape :: v2 :: v3 :: v4 :: v5 :: v6 :: .val (.str x) :: v8 :: v9 :: .val (.int (at_ : Int)) :: .val (sgn c) :: .val (.str t) :: v13 :: v14 :: v15 :: .un :: .un :: R) (WP.mono' (fun r hr => ?_) (wasg (P := fun d => ∃ t : Str, t.length ≤ 150 ∧ d = .str t) (wm2 (x := .lst [.str (cutS x none (some (at_ : Int)) ++ cutS x (some ((at_ : Int) + 1)) none), .str ((cutS x none (some (at_ : Int)) ++ ⟨#[c]⟩) ++ cutS x (some (at_ : Int)) none), .str ((cutS x none (some (at_ : Int)) ++ ⟨#[c]⟩) ++ cutS x (some ((at_ : Int) + 1)) none), .str (x ++ cutS x none (some (at_ : Int)))]) (P := fun d => ∃ r : Nat, r < 4 ∧ d = .int (r : Int)) (Q := fun d => ∃ t : Str, t.length ≤ 150 ∧ d = .str t) (mLst_eq ?_ (by simp)) (takeW (n := 4) rfl (by omega) (by omega)) ?_))) ?_
  · obtain ⟨h1, d, ⟨t, ht, rfl⟩, h2⟩ := hr
    exact ⟨h1, t, ht, h2⟩
  · have a1 : ∀ (l u : Option Int) (lo hi : MO), lo (v0 :: .val .tape :: v2 :: v3 :: v4 :: v5 :: v6 :: .val (.str x) :: v8 :: v9 :: .val (.int (at_ : Int)) :: .val (sgn c) :: v12 :: v13 :: v14 :: v15 :: .un :: .un :: R) = .ret (l, v0 :: .val .tape :: v2 :: v3 :: v4 :: v5 :: v6 :: .val (.str x) :: v8 :: v9 :: .val (.int (at_ : Int)) :: .val (sgn c) :: v12 :: v13 :: v14 :: v15 :: .un :: .un :: R) →
        hi (v0 :: .val .tape :: v2 :: v3 :: v4 :: v5 :: v6 :: .val (.str x) :: v8 :: v9 :: .val (.int (at_ : Int)) :: .val (sgn c) :: v12 :: v13 :: v14 :: v15 :: .un :: .un :: R) = .ret (u, v0 :: .val .tape :: v2 :: v3 :: v4 :: v5 :: v6 :: .val (.str x) :: v8 :: v9 :: .val (.int (at_ : Int)) :: .val (sgn c) :: v12 :: v13 :: v14 :: v15 :: .un :: .un :: R) →
        mSl dSl (mVar 7) lo hi (v0 :: .val .tape :: v2 :: v3 :: v4 :: v5 :: v6 :: .val (.str x) :: v8 :: v9 :: .val (.int (at_ : Int)) :: .val (sgn c) :: v12 :: v13 :: v14 :: v15 :: .un :: .un :: R) = .ret (.str (cutS x l u), v0 :: .val .tape :: v2 :: v3 :: v4 :: v5 :: v6 :: .val (.str x) :: v8 :: v9 :: .val (.int (at_ : Int)) :: .val (sgn c) :: v12 :: v13 :: v14 :: v15 :: .un :: .un :: R) :=
      fun l u lo hi h1 h2 => mSl_eq rfl h1 h2 (sl_str (by omega))
    have c1 := cl none (some (at_ : Int))
    have c2 := cl (some ((at_ : Int) + 1)) none
    have c3 := cl (some (at_ : Int)) none
    refine mCons_eq (m2_eq (a1 _ _ _ _ rfl rfl) (a1 _ _ _ _ rfl rfl) (add_str (by omega))) (mCons_eq (m2_eq (m2_eq (a1 _ _ _ _ rfl rfl) rfl (add_str (by omega))) (a1 _ _ _ _ rfl rfl) (add_str (by rw [len_app]; omega))) (mCons_eq (m2_eq (m2_eq (a1 _ _ _ _ rfl rfl) rfl (add_str (by omega))) (a1 _ _ _ _ rfl rfl) (add_str (by rw [len_app]; omega))) (mCons_eq (m2_eq rfl (a1 _ _ _ _ rfl rfl) (add_str (by omega))) rfl)))
  · rintro y ⟨r, hr, rfl⟩
    have c1 := cl none (some (at_ : Int))
    have c2 := cl (some ((at_ : Int) + 1)) none
    have c3 := cl (some (at_ : Int)) none
    have hr' : r = 0 ∨ r = 1 ∨ r = 2 ∨ r = 3 := by omega
    rcases hr' with rfl | rfl | rfl | rfl
    · exact ⟨_, ix_lst (j := 0) rfl, _, by rw [len_app]; omega, rfl⟩
    · exact ⟨_, ix_lst (j := 1) rfl, _, by rw [len_app, len_app]; omega, rfl⟩
    · exact ⟨_, ix_lst (j := 2) rfl, _, by rw [len_app, len_app]; omega, rfl⟩
    · exact ⟨_, ix_lst (j := 3) rfl, _, by rw [len_app]; omega, rfl⟩
  rintro _ ⟨t, ht, rfl⟩
  exact turn_end ht fun d13 d14 d15 => ⟨rfl, _, _, _, d13, d14, d15, rfl⟩
/-- all turns -/
theorem turns_ok (hx : x.length ≤ 60) {E : Str → Env → Prop} : ∀ (ds : List D) (v9 v10 v11 v12 v13 v14 v15 : Sl),
    WP (forGo (gSet 9) turnB ds (v0 :: .val .tape :: v2 :: v3 :: v4 :: v5 :: v6 :: .val (.str x) :: v8 :: v9 :: v10 :: v11 :: v12 :: v13 :: v14 :: v15 :: .un :: .un :: R))
      (fun r => r.1 = .nx ∧ ∃ v9 v10 v11 v12 v13 v14 v15, r.2 = v0 :: .val .tape :: v2 :: v3 :: v4 :: v5 :: v6 :: .val (.str x) :: v8 :: v9 :: v10 :: v11 :: v12 :: v13 :: v14 :: v15 :: .un :: .un :: R) E
  | [], v9, v10, v11, v12, v13, v14, v15 => ⟨⟨rfl, v9, v10, v11, v12, v13, v14, v15, rfl⟩⟩
  | d :: r, v9, v10, v11, v12, v13, v14, v15 => by
    show WP ((turnB (v0 :: .val .tape :: v2 :: v3 :: v4 :: v5 :: v6 :: .val (.str x) :: v8 :: .val d :: v10 :: v11 :: v12 :: v13 :: v14 :: v15 :: .un :: .un :: R)).bind _) _ _
    refine WP.bind (WP.mono' (fun p hp => ?_) (turn_ok (v0 := v0) (v2 := v2) (v3 := v3) (v4 := v4) (v5 := v5) (v6 := v6) (v8 := v8) (R := R) (v9 := .val d) (v10 := v10) (v11 := v11) (v12 := v12) (v13 := v13) (v14 := v14) (v15 := v15) hx))
    obtain ⟨f, e⟩ := p
    obtain ⟨rfl, d10, d11, d12, d13, d14, d15, rfl⟩ := hp
    exact turns_ok hx r _ _ _ _ _ _ _
end
end DL
set_option Elab.async false
set_option linter.all false
set_option maxRecDepth 100000
set_option autoImplicit false
set_option maxHeartbeats 400000
namespace DL
open PySem L2 TL
/-! ### the cells drawn -/
structure Inv (k : Nat) (cs : List (Int × Int)) : Prop where
  ord : cs.Pairwise (fun a b => ltP a b = true)
  bd : ∀ p ∈ cs, 0 ≤ p.1 ∧ p.1 < (k : Int) ∧ 0 ≤ p.2 ∧ p.2 < 5
  len : cs.length ≤ 5 * k
theorem ltP_iff {p q : Int × Int} : ltP p q = true ↔ p.1 < q.1 ∨ (p.1 = q.1 ∧ p.2 < q.2) := by
  unfold ltP
  rw [decide_eq_true_eq]
theorem Inv.nodup {k : Nat} {cs : List (Int × Int)} (h : Inv k cs) : cs.Nodup := by
  rw [List.nodup_iff_pairwise_ne]
  refine h.ord.imp fun {a b} h e => ?_
  rw [e, ltP_iff] at h
  omega
theorem Inv.sorted {k : Nat} {cs : List (Int × Int)} (h : Inv k cs) : cs.Pairwise (fun a b => leP a b = true) := h.ord.imp fun {a b} h => by
  rw [ltP_iff] at h
  rw [leP_iff]
  omega
theorem Inv.fits {k : Nat} {cs : List (Int × Int)} (h : Inv k cs) (hk : k ≤ 5) : Fits cs := ⟨fun p hp => by have := h.bd p hp; omega, fun p hp => by have := h.bd p hp; omega, by have := h.len; omega⟩
theorem Inv.step {k tall : Nat} {cs : List (Int × Int)} (h : Inv k cs) (ht : tall ≤ 5) {ys : List Nat} (hy : ys.Sublist (List.range tall)) : Inv (k + 1) (cs ++ ys.map fun (y : Nat) => ((k : Int), (y : Int))) := by
  have hm : ∀ y ∈ ys, y < tall := fun y hy' => List.mem_range.mp (hy.subset hy')
  refine ⟨List.pairwise_append.mpr ⟨h.ord, ?_, fun a ha b hb => ?_⟩, fun p hp => ?_, ?_⟩
  · rw [List.pairwise_map]
    refine (List.pairwise_lt_range.sublist hy).imp fun {a b} hab => ?_
    rw [ltP_iff]
    exact .inr ⟨rfl, by show (a : Int) < b; omega⟩
  · obtain ⟨y, _, rfl⟩ := List.mem_map.mp hb
    have := h.bd a ha
    rw [ltP_iff]
    exact .inl (by show a.1 < (k : Int); omega)
  · rcases List.mem_append.mp hp with hp | hp
    · have := h.bd p hp
      omega
    · obtain ⟨y, hy', rfl⟩ := List.mem_map.mp hp
      have := hm y hy'
      show (0 : Int) ≤ (k : Int) ∧ (k : Int) < ((k + 1 : Nat) : Int) ∧ (0 : Int) ≤ (y : Int) ∧ (y : Int) < 5
      omega
  · have h1 := h.len
    have h2 := hy.length_le
    rw [List.length_range] at h2
    rw [List.length_append, List.length_map]
    omega
theorem mLcW {ι : Type} {vs : List Nat} {g : MG} {tt : MB} {fe : MD} {fl : ML} {f : ι → D} {R : ι → D → Prop} {e env : Env} {xs : List ι} {E : Str → Env → Prop} (hf : WP (fl env) (fun p => p = (xs.map f, e)) E) (ho : ownOk e vs = true) (h : ∀ x ∈ xs, StepW vs g tt fe (wipeE e vs) (f x) (R x)) (hl : xs.length ≤ sizeLine) : WP (mLc vs fl g tt fe env) (fun p => p.2 = e ∧ ∃ ds, Pick R xs ds ∧ p.1 = .lst ds) E := ⟨mLc_wp hf.h ho h hl⟩
theorem mLcE {ι : Type} {vs : List Nat} {g : MG} {tt : MB} {fe : MD} {fl : ML} {f : ι → D} {R : ι → D → Prop} {e : Env} {xs : List ι} {E : Str → Env → Prop} (hf : fl e = .ret (xs.map f, e)) (ho : ownOk e vs = true) (h : ∀ x ∈ xs, StepW vs g tt fe (wipeE e vs) (f x) (R x)) (hl : xs.length ≤ sizeLine) : WP (mLc vs fl g tt fe e) (fun p => p.2 = e ∧ ∃ ds, Pick R xs ds ∧ p.1 = .lst ds) E := mLcW (WP.ret hf rfl) ho h hl
theorem forGo_set {i : Nat} {body : MS} {d : D} {r : List D} {e e1 : Env} {P : Env → Prop} {Q : Fl × Env → Prop} {E : Str → Env → Prop} (he : e.set i (.val d) = e1) (h : WP (body e1) (fun p => p.1 = .nx ∧ P p.2) E) (h2 : ∀ e2, P e2 → WP (forGo (gSet i) body r e2) Q E) : WP (forGo (gSet i) body (d :: r) e) Q E := by
  subst he
  show WP ((body (e.set i (.val d))).bind _) _ _
  refine WP.bind (h.mono fun p hp => ?_)
  obtain ⟨f, e2⟩ := p
  obtain ⟨h3, hp⟩ := hp
  have h3' : f = .nx := h3
  subst h3'
  exact h2 e2 hp
noncomputable abbrev cellB : MS := (sAsg (m2 dAdd (mVar 4) (mLc [6] (iOf rng1 (mCons (mVar 3) mNil)) (gSet 6) (mTest isBl (m2 dEq (mCall f__law_take (mCons (mVar 1) (mCons (mC (.int 2)) mNil))) (mC (.int 0)))) (mTuple (mCons (mVar 5) (mCons (mVar 6) mNil))))) (gSet 4))
section
variable {v0 v2 : Sl} {R : List Sl}
theorem cell_lc {k tall : Nat} (ht : tall ≤ 5) {v4 : Sl} {E : Str → Env → Prop} :
    WP (mLc [6] (iOf rng1 (mCons (mVar 3) mNil)) (gSet 6) (mTest isBl (m2 dEq (mCall f__law_take (mCons (mVar 1) (mCons (mC (.int 2)) mNil))) (mC (.int 0)))) (mTuple (mCons (mVar 5) (mCons (mVar 6) mNil))) (v0 :: .val .tape :: v2 :: .val (.int (tall : Int)) :: v4 :: .val (.int (k : Int)) :: .un :: R))
      (fun p => p.2 = v0 :: .val .tape :: v2 :: .val (.int (tall : Int)) :: v4 :: .val (.int (k : Int)) :: .un :: R ∧ ∃ ys : List Nat, ys.Sublist (List.range tall) ∧ p.1 = .lst (ys.map fun (y : Nat) => pD ((k : Int), (y : Int)))) E := by
  have key : ∀ y : Nat, StepW [6] (gSet 6) (mTest isBl (m2 dEq (mCall f__law_take (mCons (mVar 1) (mCons (mC (.int 2)) mNil))) (mC (.int 0)))) (mTuple (mCons (mVar 5) (mCons (mVar 6) mNil))) (v0 :: .val .tape :: v2 :: .val (.int (tall : Int)) :: v4 :: .val (.int (k : Int)) :: .un :: R) (D.int (y : Int)) (fun d => d = pD ((k : Int), (y : Int))) := by
    intro y
    unfold StepW
    refine wp_ret (a := v0 :: .val .tape :: v2 :: .val (.int (tall : Int)) :: v4 :: .val (.int (k : Int)) :: .val (.int (y : Int)) :: R) rfl ?_
    have hw : WP (mTest isBl (m2 dEq (mCall f__law_take (mCons (mVar 1) (mCons (mC (.int 2)) mNil))) (mC (.int 0))) (v0 :: .val .tape :: v2 :: .val (.int (tall : Int)) :: v4 :: .val (.int (k : Int)) :: .val (.int (y : Int)) :: R)) (fun p => p.2 = v0 :: .val .tape :: v2 :: .val (.int (tall : Int)) :: v4 :: .val (.int (k : Int)) :: .val (.int (y : Int)) :: R) noE := by
      refine WP.bind ?_
      refine WP.mono' (fun p hp => ?_) (wm2l (y := .int 0) (P := fun d => ∃ r : Nat, r < 2 ∧ d = .int (r : Int)) (Q := fun d => ∃ b, d = .bl b) (takeW (n := 2) rfl (by omega) (by omega)) rfl (fun d hd => ?_))
      · obtain ⟨d, e2⟩ := p
        obtain ⟨h1, b, h2⟩ := hp
        cases h1
        cases h2
        exact ⟨rfl⟩
      · obtain ⟨r, _, rfl⟩ := hd
        exact ⟨_, rfl, _, rfl⟩
    refine wpT_mono (fun p hp => ?_) (fun _ _ z => z) hw.h
    obtain ⟨b, e2⟩ := p
    cases hp
    exact ⟨fun _ => rfl, fun _ => wp_ret (mTuple_eq (mCons_eq rfl (mCons_eq rfl rfl)) (size_small (by simp))) ⟨rfl, rfl⟩⟩
  have hw : iOf rng1 (mCons (mVar 3) mNil) (v0 :: .val .tape :: v2 :: .val (.int (tall : Int)) :: v4 :: .val (.int (k : Int)) :: .un :: R) = .ret ((List.range tall).map fun (i : Nat) => D.int (i : Int), v0 :: .val .tape :: v2 :: .val (.int (tall : Int)) :: v4 :: .val (.int (k : Int)) :: .un :: R) := iOf_eq (ds := [.int (tall : Int)]) rfl (rng1_ok (by omega))
  have hz : (List.range tall).length ≤ sizeLine := by rw [List.length_range]; exact size_big (by omega)
  have ho : ownOk (v0 :: .val .tape :: v2 :: .val (.int (tall : Int)) :: v4 :: .val (.int (k : Int)) :: .un :: R) [6] = true := rfl
  have q := mLcE (E := E) hw ho (fun y _ => key y) hz
  refine WP.mono' (fun p hp => ?_) q
  obtain ⟨h1, ds, hpk, h2⟩ := hp
  obtain ⟨ys, hs, rfl⟩ := hpk.fn
  exact ⟨h1, ys, hs, h2⟩
theorem cell_turn {k tall : Nat} (ht : tall ≤ 5) (hk : k < 5) {cs : List (Int × Int)} (h : Inv k cs) {E : Str → Env → Prop} :
    WP (cellB (v0 :: .val .tape :: v2 :: .val (.int (tall : Int)) :: .val (.lst (cs.map pD)) :: .val (.int (k : Int)) :: .un :: R))
      (fun r => r.1 = .nx ∧ ∃ cs', Inv (k + 1) cs' ∧ r.2 = v0 :: .val .tape :: v2 :: .val (.int (tall : Int)) :: .val (.lst (cs'.map pD)) :: .val (.int (k : Int)) :: .un :: R) E := by
  unfold cellB
  have hl := h.len
  refine WP.mono' (fun r hr => ?_) (wasg (P := fun d => ∃ cs', Inv (k + 1) cs' ∧ d = .lst (cs'.map pD)) (wm2 (x := .lst (cs.map pD)) (P := fun d => ∃ ys : List Nat, ys.Sublist (List.range tall) ∧ d = .lst (ys.map fun (y : Nat) => pD ((k : Int), (y : Int)))) (Q := fun d => ∃ cs', Inv (k + 1) cs' ∧ d = .lst (cs'.map pD)) rfl (cell_lc ht) ?_))
  · obtain ⟨h1, d, ⟨cs', hi, rfl⟩, h2⟩ := hr
    exact ⟨h1, cs', hi, h2⟩
  · rintro d ⟨ys, hs, rfl⟩
    refine ⟨_, ?_, _, h.step ht hs, rfl⟩
    have h2 := hs.length_le
    rw [List.length_range] at h2
    show (if (cs.map pD).length + (ys.map fun (y : Nat) => pD ((k : Int), (y : Int))).length ≤ sizeLine then some (D.lst (cs.map pD ++ ys.map fun (y : Nat) => pD ((k : Int), (y : Int)))) else none) = _
    rw [if_pos (by rw [List.length_map, List.length_map]; exact size_big (by omega)), List.map_append, List.map_map]
    rfl
theorem cells_go {tall : Nat} (ht : tall ≤ 5) {E : Str → Env → Prop} : ∀ (n k : Nat) (cs : List (Int × Int)) (v5 : Sl), isMut v5 = false → Inv k cs → k + n ≤ 5 →
    WP (forGo (gSet 5) cellB ((List.range' k n).map fun (i : Nat) => D.int (i : Int)) (v0 :: .val .tape :: v2 :: .val (.int (tall : Int)) :: .val (.lst (cs.map pD)) :: v5 :: .un :: R))
      (fun r => r.1 = .nx ∧ ∃ cs' v5, isMut v5 = false ∧ Inv (k + n) cs' ∧ r.2 = v0 :: .val .tape :: v2 :: .val (.int (tall : Int)) :: .val (.lst (cs'.map pD)) :: v5 :: .un :: R) E
  | 0, k, cs, v5, h5, h, _ => ⟨⟨rfl, cs, v5, h5, h, rfl⟩⟩
  | n + 1, k, cs, v5, h5, h, hk => by
    rw [List.range'_succ, List.map_cons]
    refine forGo_set (P := fun e2 => ∃ cs', Inv (k + 1) cs' ∧ e2 = v0 :: .val .tape :: v2 :: .val (.int (tall : Int)) :: .val (.lst (cs'.map pD)) :: .val (.int (k : Int)) :: .un :: R) (e1 := v0 :: .val .tape :: v2 :: .val (.int (tall : Int)) :: .val (.lst (cs.map pD)) :: .val (.int (k : Int)) :: .un :: R) rfl (cell_turn ht (by omega) h) ?_
    rintro e2 ⟨cs', hi, rfl⟩
    have := cells_go ht (E := E) n (k + 1) cs' (.val (.int (k : Int))) rfl hi (by omega)
    refine WP.mono' (fun r hr => ?_) this
    obtain ⟨a1, cs2, v, b1, b2, b3⟩ := hr
    exact ⟨a1, cs2, v, b1, by rw [show k + (n + 1) = k + 1 + n by omega]; exact b2, b3⟩
end
/-! ### reading a shape's own text -/
theorem shL_end {cs : List (Int × Int)} {w t : Nat} (ht : 1 ≤ t) : ∃ M, shL cs w t = M ++ [10] ∧ lns M = shRows cs w t := by
  have h : ∃ M, shL cs w t = M ++ [10] := by
    obtain ⟨n, rfl⟩ : ∃ n, t = n + 1 := ⟨t - 1, by omega⟩
    unfold shL
    rw [List.range_succ, List.flatMap_append]
    exact ⟨(List.range n).flatMap (fun (j : Nat) => rowL cs w (j : Int) ++ [10]) ++ rowL cs w (n : Int), by simp⟩
  obtain ⟨M, hM⟩ := h
  exact ⟨M, hM, flat_inj (lns_no M) shRows_no (by rw [lns_flat, ← hM, shL_rows])⟩
theorem read_shape {cs : List (Int × Int)} (h : Inv 5 cs) (hne : cs ≠ []) : (shS cs (wOf cs) (tOf cs)).length ≤ 60 ∧ (((∃ p ∈ cs, p.1 = 0) ∧ (∃ p ∈ cs, p.2 = 0)) → readD (shS cs (wOf cs) (tOf cs)) (some cs)) ∧ (¬ ((∃ p ∈ cs, p.1 = 0) ∧ (∃ p ∈ cs, p.2 = 0)) → readD (shS cs (wOf cs) (tOf cs)) none) := by
  have hf := h.fits (Nat.le_refl 5)
  obtain ⟨_, a2, a3, a4, p, hp, a5⟩ := max_fst hne hf
  obtain ⟨_, b2, b3, b4, q, hq, b5⟩ := max_snd hne hf
  have hw : wOf cs ≤ 5 := by have := h.bd p hp; omega
  have ht : tOf cs ≤ 5 := by have := h.bd q hq; omega
  obtain ⟨M, hM, hr⟩ := shL_end (cs := cs) (w := wOf cs) b2
  have hlen : (shS cs (wOf cs) (tOf cs)).length ≤ 60 := by
    rw [len_tl]
    show (shL cs (wOf cs) (tOf cs)).length ≤ 60
    have hsum : ∀ l : List Nat, (l.flatMap fun (j : Nat) => rowL cs (wOf cs) (j : Int) ++ [10]).length = l.length * (wOf cs + 1) := by
      intro l
      induction l with
      | nil => simp
      | cons a r ih =>
        have hw' : (rowL cs (wOf cs) (a : Int)).length = wOf cs := by simp [rowL]
        rw [List.flatMap_cons, List.length_append, ih, List.length_append, hw', List.length_cons (as := r), Nat.succ_mul, List.length_singleton]
        omega
    unfold shL
    rw [hsum, List.length_range]
    have := Nat.mul_le_mul ht (show wOf cs + 1 ≤ 6 by omega)
    omega
  have ht' : tl (shS cs (wOf cs) (tOf cs)) = M ++ [10] := hM
  have hmem : ∀ p, p ∈ fnd 0 (shRows cs (wOf cs) (tOf cs)) ↔ p ∈ cs := by
    intro p
    rw [mem_fnd]
    constructor
    · rintro ⟨j, i, r, h1, h2, rfl⟩
      have hj : j < tOf cs := by
        have := (List.getElem?_eq_some_iff.mp h1).1
        rw [shRows_len] at this
        exact this
      rw [shRows_get hj] at h1
      cases h1
      have hi : i < wOf cs := by
        have := (List.getElem?_eq_some_iff.mp h2).1
        simp [rowL] at this
        exact this
      rw [rowL_get hi] at h2
      have := sg_35.mp (Option.some.inj h2)
      rw [Nat.zero_add]
      exact this
    · intro hp
      have h1 := h.bd p hp
      have h2 := a4 p hp
      have h3 := b4 p hp
      refine ⟨p.2.toNat, p.1.toNat, rowL cs (wOf cs) ((p.2.toNat : Nat) : Int), shRows_get (j := p.2.toNat) (by omega), (rowL_get (i := p.1.toNat) (by omega)).trans (congrArg some ?_), ?_⟩
      · rw [sg_35]
        rw [Int.toNat_of_nonneg h1.1, Int.toNat_of_nonneg h1.2.2.1]
        exact hp
      · exact Prod.ext (by show p.1 = ((p.1.toNat : Nat) : Int); omega) (by show p.2 = ((0 + p.2.toNat : Nat) : Int); omega)
  have hsrt : srt (fnd 0 (shRows cs (wOf cs) (tOf cs))) = cs := srt_of h.sorted h.nodup (nodup_fnd _ _) hmem
  obtain ⟨p1, p2⟩ := parse_nl ht' (by omega)
  rw [hr, hsrt] at p1
  rw [hr] at p2
  have hT : ((∃ p ∈ cs, p.1 = 0) ∧ (∃ p ∈ cs, p.2 = 0)) ↔ Takes (shRows cs (wOf cs) (tOf cs)) (shS cs (wOf cs) (tOf cs)) := by
    have hhd : (shRows cs (wOf cs) (tOf cs)).headD [] = rowL cs (wOf cs) 0 := by
      have := shRows_get (cs := cs) (w := wOf cs) (t := tOf cs) (j := 0) (by omega)
      cases hh : shRows cs (wOf cs) (tOf cs) with
      | nil => rw [hh] at this; cases this
      | cons a r => rw [hh] at this; exact Option.some.inj this
    have hrl : (rowL cs (wOf cs) 0).length = wOf cs := by simp [rowL]
    constructor
    · rintro ⟨⟨p, hp, h1⟩, ⟨q, hq, h2⟩⟩
      refine ⟨by rw [shRows_len]; omega, by rw [hhd, hrl]; omega, by rw [hhd, hrl]; omega, ?_, fun e => ?_, by rw [hsrt], ⟨p, (hmem p).mpr hp, h1⟩, ⟨q, (hmem q).mpr hq, h2⟩⟩
      · rw [List.all_eq_true]
        intro r hr
        obtain ⟨j, _, rfl⟩ := List.mem_map.mp hr
        unfold okRow
        rw [List.all_eq_true]
        intro c hc
        obtain ⟨i, _, rfl⟩ := List.mem_map.mp hc
        unfold sg
        split <;> rfl
      · have := (hmem p).mpr hp
        rw [e] at this
        cases this
    · intro T
      obtain ⟨p, hp, h1⟩ := T.x0
      obtain ⟨q, hq, h2⟩ := T.y0
      exact ⟨⟨p, (hmem p).mp hp, h1⟩, ⟨q, (hmem q).mp hq, h2⟩⟩
  refine ⟨hlen, fun s => read_ret (p1 (hT.mp s)), fun s => ?_⟩
  obtain ⟨e, he⟩ := p2 fun T => s (hT.mpr T)
  exact read_exc he
end DL
set_option Elab.async false
set_option linter.all false
set_option maxRecDepth 100000
set_option autoImplicit false
set_option maxHeartbeats 400000
namespace DL
open PySem L2 TL
/-! ### the head of the law: cells, text, turns -/
noncomputable abbrev setB : MD := (mAndV (m2 dGt (mS dLenA (mCons (mVar 4) mNil)) (mC (.int 0))) (mAndV (m2 dEq (mS dMin (mCons (mLc [5, 6] (iAny (mVar 4)) (gTupD 2 (gsCons (gSet 5) (gsCons (gSet 6) gsNil))) mYes (mVar 5)) mNil)) (mC (.int 0))) (m2 dEq (mS dMin (mCons (mLc [5, 6] (iAny (mVar 4)) (gTupD 2 (gsCons (gSet 5) (gsCons (gSet 6) gsNil))) mYes (mVar 6)) mNil)) (mC (.int 0)))))
noncomputable abbrev testB : MB := (mOr (mTest isBl (m2 dNe (mCall f_shape_text (mCons (mVar 4) mNil)) (mVar 7))) (mTest isBl (m2 dNe (mCall f__law_read (mCons (mVar 7) mNil)) (mIf (mTruN 8) (mTuple (mCons (mVar 4) mNil)) (mC .non)))))
theorem eqvAll_pD : ∀ cs : List (Int × Int), PyData.eqvAll (pys (cs.map pD)) (pys (cs.map pD)) = true
  | [] => rfl
  | c :: r => by
    show (PyData.eqv (py (pD c)) (py (pD c)) && PyData.eqvAll (pys (r.map pD)) (pys (r.map pD))) = true
    rw [eqv_pD, decide_eq_true rfl, eqvAll_pD r]; rfl
theorem eqOk_one (cs : List (Int × Int)) : eqOk (.tup [.tup (cs.map pD)]) = true := by
  have h := eqOk_cells cs
  unfold eqOk SeqAt.shaped at h ⊢
  rw [Bool.and_eq_true, Bool.and_eq_true] at h ⊢
  obtain ⟨h1, h2, h3⟩ := h
  refine ⟨?_, ?_, decide_eq_true ?_⟩
  · show (plain (.tup (cs.map pD)) && true) = true
    rw [h1]; rfl
  · show (PyData.canLay0 (py (.tup (cs.map pD))) && true) = true
    rw [h2]; rfl
  · show max (PyData.depthAll (pys (cs.map pD)) + 1) 0 + 1 ≤ 64
    rw [pys_pD]
    have := depths_pD cs
    omega
theorem dNe_one (cs : List (Int × Int)) : dNe (.tup [.tup (cs.map pD)]) (.tup [.tup (cs.map pD)]) = some (.bl false) := by
  show (if eqOk (.tup [.tup (cs.map pD)]) && eqOk (.tup [.tup (cs.map pD)]) then some (PyData.eqv (py (.tup [.tup (cs.map pD)])) (py (.tup [.tup (cs.map pD)]))) else none).map (fun b => D.bl (!b)) = _
  rw [eqOk_one]
  show some (D.bl (!(PyData.eqvAll (pys (cs.map pD)) (pys (cs.map pD)) && true))) = _
  rw [eqvAll_pD]; rfl
/-- the text of the cells, and how it reads -/
structure Text (cs : List (Int × Int)) (z : Str) (s : Bool) : Prop where
  len : z.length ≤ 60
  sh : f_shape_text [.tup (cs.map pD)] = .ret (.str z)
  tx : f__law_text [.tup (cs.map pD)] = .ret (.str z)
  yes : s = true → readD z (some cs)
  no : s = false → readD z none
def settled (cs : List (Int × Int)) : Bool := decide (cs ≠ []) && (decide (∃ p ∈ cs, p.1 = 0) && decide (∃ p ∈ cs, p.2 = 0))
theorem text_of {cs : List (Int × Int)} (h : Inv 5 cs) : ∃ z, Text cs z (settled cs) := by
  by_cases hne : cs = []
  · subst hne
    exact ⟨"", by decide, shape_nil, text_nil, fun z => Bool.noConfusion z, fun _ => other_text (by decide) fun M z => by
      have h2 : ([] : List Nat) = M ++ [10] := z
      simp at h2⟩
  · obtain ⟨h1, h2, h3⟩ := read_shape h hne
    have hf := h.fits (Nat.le_refl 5)
    refine ⟨_, h1, shape_eval hne hf, text_eval hne hf, fun s => h2 ?_, fun s => h3 ?_⟩
    · unfold settled at s
      rw [Bool.and_eq_true, Bool.and_eq_true, decide_eq_true_eq, decide_eq_true_eq, decide_eq_true_eq] at s
      exact s.2
    · intro ⟨a, b⟩
      unfold settled at s
      rw [decide_eq_true hne, decide_eq_true a, decide_eq_true b] at s
      cases s
section
variable {v0 v2 v3 v5 : Sl} {R : List Sl}
theorem set_eval {cs : List (Int × Int)} (h : Inv 5 cs) (h5 : isMut v5 = false) : setB (v0 :: .val .tape :: v2 :: v3 :: .val (.tup (cs.map pD)) :: v5 :: .un :: R) = .ret (.bl (settled cs), v0 :: .val .tape :: v2 :: v3 :: .val (.tup (cs.map pD)) :: v5 :: .un :: R) := by
  have hl := h.len
  have hf := h.fits (Nat.le_refl 5)
  unfold settled
  have ho : ownOk (v0 :: .val .tape :: v2 :: v3 :: .val (.tup (cs.map pD)) :: v5 :: .un :: R) [5, 6] = true := by
    show ((!isMut v5) && (true && true)) = true
    rw [h5]; rfl
  refine mAndV_eq (m2_eq (x := .int (cs.length : Int)) (y := .int 0) (mS1_eq rfl (by show some (D.int ((cs.map pD).length : Int)) = _; rw [List.length_map])) rfl ?_) fun hne => ?_
  · show some (D.bl (decide ((0 : Int) < (cs.length : Int)))) = _
    congr 2
    rw [decide_eq_decide]
    cases cs with
    | nil => simp
    | cons a r => simp
  · have hne' := of_decide_eq_true hne
    obtain ⟨mx, x1, x2, x3⟩ := min_fst hne' hf
    obtain ⟨my, y1, y2, y3⟩ := min_snd hne' hf
    refine mAndV_eq (m2_eq (y := .int 0) (mS1_eq (mLc_map (ι := Int × Int) (f := pD) (φ := fun p => D.int p.1) (xs := cs) (by rfl) ho (fun p _ => ⟨_, _, rfl, rfl, (by rfl)⟩) (size_big (by omega))) x1) rfl ?_) fun _ => ?_
    · show some (D.bl (decide (mx = 0))) = _
      congr 2
      rw [decide_eq_decide]
      exact x2
    · refine m2_eq (y := .int 0) (mS1_eq (mLc_map (ι := Int × Int) (f := pD) (φ := fun p => D.int p.2) (xs := cs) (by rfl) ho (fun p _ => ⟨_, _, rfl, rfl, (by rfl)⟩) (size_big (by omega))) y1) rfl ?_
      show some (D.bl (decide (my = 0))) = _
      congr 2
      rw [decide_eq_decide]
      exact y2
theorem call7 {v1 v4 v6 v7' : Sl} {g : MF} {t d : D} (h : g [t] = .ret d) : mCall g (mCons (mVar 7) mNil) (v0 :: v1 :: v2 :: v3 :: v4 :: v5 :: v6 :: .val t :: R) = .ret (d, (v0 :: v1 :: v2 :: v3 :: v4 :: v5 :: v6 :: .val t :: R)) := mCall_eq (ds := [t]) rfl h
theorem call4 {v1 : Sl} {g : MF} {t d : D} (h : g [t] = .ret d) : mCall g (mCons (mVar 4) mNil) (v0 :: v1 :: v2 :: v3 :: .val t :: R) = .ret (d, (v0 :: v1 :: v2 :: v3 :: .val t :: R)) := mCall_eq (ds := [t]) rfl h
theorem test_eval {cs : List (Int × Int)} {z : Str} {s : Bool} (h : Text cs z s) : testB (v0 :: .val .tape :: v2 :: v3 :: .val (.tup (cs.map pD)) :: v5 :: .un :: .val (.str z) :: .val (.bl s) :: R) = .ret (false || false, v0 :: .val .tape :: v2 :: v3 :: .val (.tup (cs.map pD)) :: v5 :: .un :: .val (.str z) :: .val (.bl s) :: R) := by
  refine mOr_eq (test_eq (x := .bl false) (m2_eq (call4 h.sh) rfl (by rw [dNe_str, decide_eq_true rfl]; rfl)) rfl) fun _ => ?_
  cases s with
  | true =>
    have h1 : f__law_read [.str z] = .ret (.tup [.tup (cs.map pD)]) := h.yes rfl
    exact test_eq (x := .bl false) (m2_eq (call7 (v7' := .un) h1) (mIf_eq (b := true) (x := .tup [.tup (cs.map pD)]) (y := .non) rfl (mTuple_eq (mCons_eq rfl rfl) (size_small (by simp))) rfl) (dNe_one cs)) rfl
  | false =>
    have h1 : f__law_read [.str z] = .ret .non := h.no rfl
    exact test_eq (x := .bl false) (m2_eq (call7 (v7' := .un) h1) (mIf_eq (b := false) (x := .tup [.tup (cs.map pD)]) (y := .non) rfl (mTuple_eq (mCons_eq rfl rfl) (size_small (by simp))) rfl) rfl) rfl
end
end DL
set_option Elab.async false
set_option linter.all false
set_option maxRecDepth 100000
set_option autoImplicit false
set_option maxHeartbeats 400000
namespace DL
open PySem L2 TL
theorem wpar {i j : Nat} {f g : MD} {e : Env} {P Q : D → Prop} {E : Str → Env → Prop} (hf : WP (f e) (fun p => p.2 = e ∧ P p.1) E) (hg : WP (g e) (fun p => p.2 = e ∧ Q p.1) E) : WP (sPar i j (mCons f (mCons g mNil)) e) (fun r => r.1 = .nx ∧ ∃ a b, P a ∧ Q b ∧ r.2 = (e.set i (.val a)).set j (.val b)) E := by
  refine WP.bind (WP.bind (hf.mono fun p hp => ?_))
  obtain ⟨a, e1⟩ := p
  obtain ⟨h1, hp⟩ := hp
  have h1' : e1 = e := h1
  subst h1'
  refine WP.bind (WP.bind (hg.mono fun p hp2 => ?_))
  obtain ⟨b, e2⟩ := p
  obtain ⟨h1, hp2⟩ := hp2
  have h1' : e2 = e1 := h1
  subst h1'
  exact ⟨⟨rfl, a, b, hp, hp2, rfl⟩⟩
theorem wfor {fi : ML} {g : MG} {body : MS} {e e1 : Env} {ds : List D} {Q : Fl × Env → Prop} {E : Str → Env → Prop} (hf : fi e = .ret (ds, e1)) (h : WP (forGo g body ds e1) Q E) : WP (sFor fi g body e) Q E := by
  refine WP.bind (WP.ret hf h)
theorem plus_take {e : Env} {E : Str → Env → Prop} {fl : ML} (h : fl e = .ret ([.tape, .int ((5 : Nat) : Int)], e)) : WP (m2 dAdd (mC (.int 1)) (mCall f__law_take fl) e) (fun p => p.2 = e ∧ ∃ n : Nat, n ≤ 5 ∧ p.1 = .int (n : Int)) E :=
  wm2 (x := .int 1) (P := fun d => ∃ r : Nat, r < 5 ∧ d = .int (r : Int)) (Q := fun d => ∃ n : Nat, n ≤ 5 ∧ d = .int (n : Int)) rfl (takeW h (by omega) (by omega)) fun y ⟨r, hr, e⟩ => by
    subst e
    refine ⟨.int (1 + (r : Int)), rfl, r + 1, by omega, ?_⟩
    congr 1
    omega
theorem law_head {ns : List Int} (hns : ns.length ≤ 63) {n : MS} {Q : Fl × Env → Prop} {E : Str → Env → Prop}
    (k : ∀ (cs : List (Int × Int)) (v2 v3 v5 v7 v8 v9 v10 v11 v12 v13 v14 v15 : Sl), Inv 5 cs → isMut v5 = false → WP (n (.val (.scr ns) :: .val .tape :: v2 :: v3 :: .val (.tup (cs.map pD)) :: v5 :: .un :: v7 :: v8 :: v9 :: v10 :: v11 :: v12 :: v13 :: v14 :: v15 :: List.replicate 11 .un)) Q E) :
    WP (sSeq (sAsg (mCall f__law_tape (mCons (mVar 0) mNil)) (gSet 1))
  (sSeq (sPar 2 3 (mCons (m2 dAdd (mC (.int 1)) (mCall f__law_take (mCons (mVar 1) (mCons (mC (.int 5)) mNil)))) (mCons (m2 dAdd (mC (.int 1)) (mCall f__law_take (mCons (mVar 1) (mCons (mC (.int 5)) mNil)))) mNil)))
  (sSeq (sAsg (mLst mNil) (gSet 4))
  (sSeq (sFor (iOf rng1 (mCons (mVar 2) mNil)) (gSet 5) cellB)
  (sSeq (sAsg (mS dTuple (mCons (mVar 4) mNil)) (gSet 4))
  (sSeq (sAsg (mCall f__law_text (mCons (mVar 4) mNil)) (gSet 7))
  (sSeq (sAsg setB (gSet 8))
  (sSeq (sIf testB (sRet (mC (.bl false))) sNext)
  (sSeq (sFor (iOf rng1 (mCons (mC (.int 12)) mNil)) (gSet 9) turnB) n)))))))) (.val (.scr ns) :: List.replicate 26 .un)) Q E := by
  refine wseq (e' := .val (.scr ns) :: .val .tape :: List.replicate 25 .un) (sAsg_eq (mCall_eq (ds := [.scr ns]) (d := .tape) rfl (if_pos (by omega)))) ?_
  refine wseqw (P := fun e => ∃ a b : Nat, a ≤ 5 ∧ b ≤ 5 ∧ e = .val (.scr ns) :: .val .tape :: .val (.int (a : Int)) :: .val (.int (b : Int)) :: List.replicate 23 .un) (WP.mono' (fun r hr => ?_) (wpar (P := fun d => ∃ n : Nat, n ≤ 5 ∧ d = .int (n : Int)) (Q := fun d => ∃ n : Nat, n ≤ 5 ∧ d = .int (n : Int)) (plus_take rfl) (plus_take rfl))) ?_
  · obtain ⟨h1, _, _, ⟨a, ha, rfl⟩, ⟨b, hb, rfl⟩, h2⟩ := hr
    exact ⟨h1, a, b, ha, hb, h2⟩
  rintro _ ⟨a, b, ha, hb, rfl⟩
  refine wseq (e' := .val (.scr ns) :: .val .tape :: .val (.int (a : Int)) :: .val (.int (b : Int)) :: .val (.lst ([].map pD)) :: List.replicate 22 .un) (sAsg_eq mLst_nil) ?_
  refine wseqw (P := fun e => ∃ (cs : List (Int × Int)) (v5 : Sl), isMut v5 = false ∧ Inv a cs ∧ e = .val (.scr ns) :: .val .tape :: .val (.int (a : Int)) :: .val (.int (b : Int)) :: .val (.lst (cs.map pD)) :: v5 :: .un :: List.replicate 20 .un) (wfor (iOf_eq (ds := [.int (a : Int)]) rfl (rng1_ok (by omega))) (WP.mono' (fun r hr => ?_) (by
    rw [List.range_eq_range']
    exact cells_go (R := List.replicate 20 .un) hb a 0 [] .un rfl ⟨.nil, fun p hp => (nomatch hp), Nat.zero_le _⟩ (by omega)))) ?_
  · obtain ⟨h1, cs, v5, h2, h3, h4⟩ := hr
    rw [Nat.zero_add] at h3
    exact ⟨h1, cs, v5, h2, h3, h4⟩
  rintro _ ⟨cs, v5, h5, hi, rfl⟩
  have hI : Inv 5 cs := ⟨hi.ord, fun p hp => by have := hi.bd p hp; omega, by have := hi.len; omega⟩
  obtain ⟨z, hz⟩ := text_of hI
  refine wseq (e' := .val (.scr ns) :: .val .tape :: .val (.int (a : Int)) :: .val (.int (b : Int)) :: .val (.tup (cs.map pD)) :: v5 :: .un :: List.replicate 20 .un) (sAsg_eq (mS1_eq (x := .lst (cs.map pD)) rfl rfl)) ?_
  refine wseq (e' := .val (.scr ns) :: .val .tape :: .val (.int (a : Int)) :: .val (.int (b : Int)) :: .val (.tup (cs.map pD)) :: v5 :: .un :: .val (.str z) :: List.replicate 19 .un) (sAsg_eq (call4 hz.tx)) ?_
  refine wseq (e' := .val (.scr ns) :: .val .tape :: .val (.int (a : Int)) :: .val (.int (b : Int)) :: .val (.tup (cs.map pD)) :: v5 :: .un :: .val (.str z) :: .val (.bl (settled cs)) :: List.replicate 18 .un) (sAsg_eq (set_eval hI h5)) ?_
  refine wseq (sIf_nx (test_eval hz) rfl) ?_
  refine wseqw (P := fun e => ∃ v9 v10 v11 v12 v13 v14 v15, e = .val (.scr ns) :: .val .tape :: .val (.int (a : Int)) :: .val (.int (b : Int)) :: .val (.tup (cs.map pD)) :: v5 :: .un :: .val (.str z) :: .val (.bl (settled cs)) :: v9 :: v10 :: v11 :: v12 :: v13 :: v14 :: v15 :: .un :: .un :: List.replicate 9 .un) (wfor (iOf_eq (ds := [.int ((12 : Nat) : Int)]) rfl (rng1_ok (by omega))) (turns_ok (R := List.replicate 9 .un) hz.len _ .un .un .un .un .un .un .un)) ?_
  rintro _ ⟨v9, v10, v11, v12, v13, v14, v15, rfl⟩
  exact k cs _ _ v5 _ _ v9 v10 v11 v12 v13 v14 v15 hI h5
end DL
set_option Elab.async false
set_option linter.all false
set_option maxRecDepth 100000
set_option autoImplicit false
set_option maxHeartbeats 400000
namespace DL
open PySem L2 TL
/-! ### the numbers -/
def nOk (i : Int) : Prop := -9 ≤ i ∧ i < 21
def sI (i : Int) : Str := toString i
theorem nlen : ∀ r : Nat, r < 30 → (sI ((r : Int) - 9)).length ≤ 10 ∧ ((r : Int) - 9).natAbs.log2 < 1920 := by decide +kernel
theorem nlen' {i : Int} (h : nOk i) : (sI i).length ≤ 10 ∧ i.natAbs.log2 < 1920 := by
  have := nlen (i + 9).toNat (by unfold nOk at h; omega)
  rw [show (((i + 9).toNat : Nat) : Int) - 9 = i by unfold nOk at h; omega] at this
  exact this
theorem dStr_ok {i : Int} (h : nOk i) : dStr [.int i] = some (.str (sI i)) := if_pos (nlen' h).2
theorem join_nums {l : List Int} (h : ∀ i ∈ l, nOk i) (hl : l.length ≤ 4) : dJoin " " (.lst (l.map fun i => D.str (sI i))) = some (.str (Txt.join " " (l.map sI))) := by
  rw [show (l.map fun i => D.str (sI i)) = (l.map sI).map D.str by rw [List.map_map]; rfl, dJoin_strs]
  have := sum_le (ys := l.map sI) (n := 10) (fun y hy => by obtain ⟨i, hi, rfl⟩ := List.mem_map.mp hy; exact (nlen' (h i hi)).1)
  rw [List.length_map] at this ⊢
  have h1 : ((" " : Str)).length = 1 := rfl
  rw [h1]
  omega
def numS (l : List Int) : Str := if l.isEmpty = true then "-" else Txt.join " " (l.map sI)
theorem numbers_eval {l : List Int} (h : ∀ i ∈ l, nOk i) (hl : l.length ≤ 4) : f_numbers_text [.tup (l.map D.int)] = .ret (.str (numS l)) := by
  refine mFn_eq (e' := [.val (.tup (l.map D.int)), .un]) rfl ?_
  show m_numbers_text [.val (.tup (l.map D.int)), .un] = _
  unfold m_numbers_text numS
  refine sRet_eq ?_
  cases l with
  | nil => rfl
  | cons a r =>
    rw [mIf_eq (b := true) (x := .str (Txt.join " " ((a :: r).map sI))) (y := .str "-") rfl (mSM1_eq rfl (mLc_map (ι := Int) (f := D.int) (φ := fun i => D.str (sI i)) (xs := a :: r) rfl rfl (fun i hi => ⟨_, _, rfl, mS1_eq rfl (dStr_ok (h i hi)), by rfl⟩) (size_big (by omega))) (join_nums h hl)) rfl]
    rfl
noncomputable abbrev numC : MB := (mTest isBl (m2 dNe (mCall f_numbers_text (mCons (mVar 17) mNil)) (mIf (mTest isBl (m2 dGt (mS dLenA (mCons (mVar 17) mNil)) (mC (.int 0)))) (mSM1 dJoin (mC (.str " ")) (mLc [19] (iAny (mVar 17)) (gSet 19) mYes (mS dStr (mCons (mVar 19) mNil)))) (mC (.str "-")))))
noncomputable abbrev numR : MS := (sAsg (mS dTuple (mCons (mLc [18] (iOf rng1 (mCons (mCall f__law_take (mCons (mVar 1) (mCons (mC (.int 4)) mNil))) mNil)) (gSet 18) mYes (m2 dSub (mCall f__law_take (mCons (mVar 1) (mCons (mC (.int 30)) mNil))) (mC (.int 9)))) mNil)) (gSet 17))
section
variable {v0 v2 v3 v4 v5 v6 v7 v8 v9 v10 v11 v12 v13 v14 v15 : Sl} {R : List Sl}
theorem call17 {v1 v16 : Sl} {g : MF} {t d : D} (h : g [t] = .ret d) : mCall g (mCons (mVar 17) mNil) (v0 :: v1 :: v2 :: v3 :: v4 :: v5 :: v6 :: v7 :: v8 :: v9 :: v10 :: v11 :: v12 :: v13 :: v14 :: v15 :: v16 :: .val t :: R) = .ret (d, (v0 :: v1 :: v2 :: v3 :: v4 :: v5 :: v6 :: v7 :: v8 :: v9 :: v10 :: v11 :: v12 :: v13 :: v14 :: v15 :: v16 :: .val t :: R)) := mCall_eq (ds := [t]) rfl h
theorem num_test {l : List Int} (h : ∀ i ∈ l, nOk i) (hl : l.length ≤ 4) : numC (v0 :: .val .tape :: v2 :: v3 :: v4 :: v5 :: v6 :: v7 :: v8 :: v9 :: v10 :: v11 :: v12 :: v13 :: v14 :: v15 :: .un :: .val (.tup (l.map D.int)) :: .un :: .un :: R) = .ret (false, v0 :: .val .tape :: v2 :: v3 :: v4 :: v5 :: v6 :: v7 :: v8 :: v9 :: v10 :: v11 :: v12 :: v13 :: v14 :: v15 :: .un :: .val (.tup (l.map D.int)) :: .un :: .un :: R) := by
  refine test_eq (x := .bl false) (m2_eq (y := .str (numS l)) (call17 (numbers_eval h hl)) ?_ (by rw [dNe_str, decide_eq_true rfl]; rfl)) rfl
  unfold numS
  cases l with
  | nil => rfl
  | cons a r =>
    have hb : decide ((0 : Int) < ((a :: r).length : Int)) = true := decide_eq_true (by simp)
    rw [mIf_eq (b := true) (x := .str (Txt.join " " ((a :: r).map sI))) (y := .str "-") (test_eq (x := .bl true) (m2_eq (x := .int ((a :: r).length : Int)) (y := .int 0) (mS1_eq (x := .tup ((a :: r).map D.int)) rfl (by show some (D.int (((a :: r).map D.int).length : Int)) = _; rw [List.length_map])) rfl (by
      show some (D.bl (decide ((0 : Int) < ((a :: r).length : Int)))) = _
      rw [hb])) rfl) (mSM1_eq rfl (mLc_map (ι := Int) (f := D.int) (φ := fun i => D.str (sI i)) (xs := a :: r) (by rfl) (by rfl) (fun i hi => ⟨_, _, rfl, mS1_eq rfl (dStr_ok (h i hi)), by rfl⟩) (size_big (by omega))) (join_nums h hl)) rfl]
    rfl
theorem num_made {E : Str → Env → Prop} : WP (numR (v0 :: .val .tape :: v2 :: v3 :: v4 :: v5 :: v6 :: v7 :: v8 :: v9 :: v10 :: v11 :: v12 :: v13 :: v14 :: v15 :: .un :: .un :: .un :: .un :: R))
    (fun r => r.1 = .nx ∧ ∃ l : List Int, (∀ i ∈ l, nOk i) ∧ l.length ≤ 4 ∧ r.2 = v0 :: .val .tape :: v2 :: v3 :: v4 :: v5 :: v6 :: v7 :: v8 :: v9 :: v10 :: v11 :: v12 :: v13 :: v14 :: v15 :: .un :: .val (.tup (l.map D.int)) :: .un :: .un :: R) E := by
  generalize he : (v0 :: .val .tape :: v2 :: v3 :: v4 :: v5 :: v6 :: v7 :: v8 :: v9 :: v10 :: v11 :: v12 :: v13 :: v14 :: v15 :: .un :: .un :: .un :: .un :: R : Env) = e
  have key : ∀ j : Nat, StepW [18] (gSet 18) mYes (m2 dSub (mCall f__law_take (mCons (mVar 1) (mCons (mC (.int 30)) mNil))) (mC (.int 9))) (wipeE e [18]) (D.int (j : Int)) (fun d => ∃ i, nOk i ∧ d = .int i) := by
    intro j
    subst he
    refine wp_ret (a := v0 :: .val .tape :: v2 :: v3 :: v4 :: v5 :: v6 :: v7 :: v8 :: v9 :: v10 :: v11 :: v12 :: v13 :: v14 :: v15 :: .un :: .un :: .val (.int (j : Int)) :: .un :: R) rfl ?_
    refine wp_ret rfl ⟨fun z => Bool.noConfusion z, fun _ => ?_⟩
    have q := wm2l (E := noE) (g := dSub) (f := mCall f__law_take (mCons (mVar 1) (mCons (mC (.int 30)) mNil))) (h := mC (.int 9)) (e := v0 :: .val .tape :: v2 :: v3 :: v4 :: v5 :: v6 :: v7 :: v8 :: v9 :: v10 :: v11 :: v12 :: v13 :: v14 :: v15 :: .un :: .un :: .val (.int (j : Int)) :: .un :: R) (y := .int 9) (P := fun d => ∃ r : Nat, r < 30 ∧ d = .int (r : Int)) (Q := fun d => ∃ i, nOk i ∧ d = .int i) (takeW (n := 30) rfl (by omega) (by omega)) rfl (fun d hd => by
      obtain ⟨r, hr, rfl⟩ := hd
      exact ⟨_, rfl, (r : Int) - 9, by unfold nOk; omega, rfl⟩)
    refine (q.mono fun p hp => ?_).h
    obtain ⟨d, e2⟩ := p
    obtain ⟨h1, h2⟩ := hp
    have h1' : e2 = _ := h1
    subst h1'
    exact ⟨h2, rfl⟩
  have ho : ownOk e [18] = true := by subst he; rfl
  have hf : WP (iOf rng1 (mCons (mCall f__law_take (mCons (mVar 1) (mCons (mC (.int 4)) mNil))) mNil) e) (fun p => p.2 = e ∧ ∃ n : Nat, n < 4 ∧ p.1 = (List.range n).map fun (i : Nat) => D.int (i : Int)) E := by
    refine WP.bind (WP.bind (WP.mono' (fun p hp => ?_) (takeW (n := 4) (e := e) (by subst he; rfl) (by omega) (by omega))))
    obtain ⟨d, e2⟩ := p
    obtain ⟨h1, r, hr, h2⟩ := hp
    have h1' : e2 = e := h1
    have h2' : d = _ := h2
    subst h1' h2'
    refine WP.ret rfl ?_
    refine WP.ret (a := ((List.range r).map fun (i : Nat) => D.int (i : Int), e2)) ?_ ⟨rfl, r, hr, rfl⟩
    show T.bind (T.of (rng1 [.int (r : Int)])) _ = _
    rw [rng1_ok (by omega)]
    rfl
  have hc : WP (mLc [18] (iOf rng1 (mCons (mCall f__law_take (mCons (mVar 1) (mCons (mC (.int 4)) mNil))) mNil)) (gSet 18) mYes (m2 dSub (mCall f__law_take (mCons (mVar 1) (mCons (mC (.int 30)) mNil))) (mC (.int 9))) e) (fun p => p.2 = e ∧ ∃ l : List Int, (∀ i ∈ l, nOk i) ∧ l.length ≤ 4 ∧ p.1 = .lst (l.map D.int)) E := by
    refine WP.bind (hf.mono fun p hp => ?_)
    obtain ⟨ds, e2⟩ := p
    obtain ⟨h1, n, hn, h2⟩ := hp
    have h1' : e2 = e := h1
    have h2' : ds = _ := h2
    subst h1' h2'
    have q := mLcE (E := E) (fl := fun e => .ret ((List.range n).map fun (i : Nat) => D.int (i : Int), e)) (f := fun (i : Nat) => D.int (i : Int)) (xs := List.range n) rfl ho (fun y _ => key y) (by rw [List.length_range]; exact size_big (by omega))
    refine WP.mono' (fun p hp => ?_) q
    obtain ⟨h1, ds, hp, h2⟩ := hp
    obtain ⟨a1, a2⟩ := hp.all
    have : ∀ ds : List D, (∀ d ∈ ds, ∃ i, nOk i ∧ d = .int i) → ∃ l : List Int, (∀ i ∈ l, nOk i) ∧ ds = l.map D.int := by
      intro ds
      induction ds with
      | nil => exact fun _ => ⟨[], (fun _ z => by cases z), rfl⟩
      | cons d r ih =>
        intro h
        obtain ⟨i, hi, rfl⟩ := h d List.mem_cons_self
        obtain ⟨l, hl, rfl⟩ := ih fun d hd => h d (List.mem_cons_of_mem _ hd)
        exact ⟨i :: l, fun j hj => (List.mem_cons.mp hj).elim (fun z => z ▸ hi) (hl j), rfl⟩
    obtain ⟨l, hl, rfl⟩ := this ds fun d hd => by obtain ⟨_, _, z⟩ := a2 d hd; exact z
    rw [List.length_map, List.length_range] at a1
    exact ⟨h1, l, hl, by omega, h2⟩
  refine WP.mono' (fun r hr => ?_) (wasg (P := fun d => ∃ l : List Int, (∀ i ∈ l, nOk i) ∧ l.length ≤ 4 ∧ d = .tup (l.map D.int)) ?_)
  · obtain ⟨h1, d, ⟨l, a1, a2, rfl⟩, h2⟩ := hr
    refine ⟨h1, l, a1, a2, h2.trans ?_⟩
    subst he
    rfl
  · refine WP.bind (WP.bind (hc.mono fun p hp => ?_))
    obtain ⟨d, e2⟩ := p
    obtain ⟨h1, l, a1, a2, h2⟩ := hp
    have h1' : e2 = e := h1
    have h2' : d = _ := h2
    subst h1' h2'
    exact ⟨⟨rfl, l, a1, a2, rfl⟩⟩
end
/-! ### the end of the law -/
noncomputable abbrev endS : MS := (sTry cat_GapError (sSeq (sExpr (mCall f_tiling_text (mCons (mTuple mNil) (mCons (mTuple mNil) (mCons (mTuple mNil) mNil)))))
  (sRet (mC (.bl false)))) (sRet (mC (.bl true))))
theorem mCall_exc {g : MF} {fl : ML} {e e1 e2 : Env} {ds : List D} {c : Str} (hf : fl e = .ret (ds, e1)) (hg : g ds = .exc c e2) : mCall g fl e = .exc c e1 := by
  show (fl e).bind _ = _
  rw [hf]
  show ((g ds).inEnv e1).bind _ = _
  rw [hg]; rfl
theorem tiling_nil : f_tiling_text [.tup [], .tup [], .tup []] = .exc "InvalidForm" [.val (.tup []), .val (.tup []), .val (.tup []), .un, .un, .un, .un, .un, .un, .un, .un, .un, .un, .un, .un, .un] := by
  refine mFn_exc rfl ?_
  unfold m_tiling_text
  exact seq_exc (sIf_exc (b := true) (mOr_eq (a := false) (b := true) (test_eq (x := .bl false) rfl rfl) fun _ => rfl) rfl)
theorem end_ok {e : Env} {E : Str → Env → Prop} : WP (endS e) (fun r => r.1 = .rt (.bl true)) E := by
  have h1 : mCall f_tiling_text (mCons (mTuple mNil) (mCons (mTuple mNil) (mCons (mTuple mNil) mNil))) e = .exc "InvalidForm" e := by
    have hl : mCons (mTuple mNil) (mCons (mTuple mNil) (mCons (mTuple mNil) mNil)) e = .ret ([.tup [], .tup [], .tup []], e) := mCons_eq (mTuple_eq rfl (size_small (by simp))) (mCons_eq (mTuple_eq rfl (size_small (by simp))) (mCons_eq (mTuple_eq rfl (size_small (by simp))) rfl))
    exact mCall_exc hl tiling_nil
  have h2 : sSeq (sExpr (mCall f_tiling_text (mCons (mTuple mNil) (mCons (mTuple mNil) (mCons (mTuple mNil) mNil))))) (sRet (mC (.bl false))) e = .exc "InvalidForm" e := by
    refine seq_exc ?_
    show T.bind (mCall f_tiling_text (mCons (mTuple mNil) (mCons (mTuple mNil) (mCons (mTuple mNil) mNil))) e) _ = _
    rw [h1]
    rfl
  refine WP.ret (a := (.rt (.bl true), e)) ?_ rfl
  unfold endS sTry
  rw [h2]
  rfl
end DL
set_option Elab.async false
set_option linter.all false
set_option maxRecDepth 100000
set_option autoImplicit false
set_option maxHeartbeats 400000
namespace DL
open PySem L2 TL
/-! ### places and chosen -/
def plD (p : Int × Int) : D := .tup [.int 0, .tup [pD p]]
noncomputable abbrev choC : MD := (mLc [18] (iOf rng1 (mCons (mS dLenA (mCons (mVar 4) mNil)) mNil)) (gSet 18) (mTest isBl (m2 dGt (mCall f__law_take (mCons (mVar 1) (mCons (mC (.int 3)) mNil))) (mC (.int 0)))) (mVar 18))
section
variable {v0 v2 v3 v5 v6 v7 v8 v9 v10 v11 v12 v13 v14 v15 v17 v20 : Sl} {R : List Sl}
theorem places_eval {cs : List (Int × Int)} (hl : cs.length ≤ 25) : (mLc [21] (iAny (mVar 4)) (gSet 21) mYes (mTuple (mCons (mC (.int 0)) (mCons (mTuple (mCons (mVar 21) mNil)) mNil)))) (v0 :: .val .tape :: v2 :: v3 :: .val (.tup (cs.map pD)) :: v5 :: v6 :: v7 :: v8 :: v9 :: v10 :: v11 :: v12 :: v13 :: v14 :: v15 :: .un :: v17 :: .un :: .un :: v20 :: .un :: R) = .ret (.lst (cs.map plD), v0 :: .val .tape :: v2 :: v3 :: .val (.tup (cs.map pD)) :: v5 :: v6 :: v7 :: v8 :: v9 :: v10 :: v11 :: v12 :: v13 :: v14 :: v15 :: .un :: v17 :: .un :: .un :: v20 :: .un :: R) :=
  mLc_map (ι := Int × Int) (f := pD) (φ := plD) (xs := cs) rfl rfl (fun p _ => ⟨_, _, rfl, mTuple_eq (mCons_eq rfl (mCons_eq (mTuple_eq (mCons_eq rfl rfl) (size_small (by simp))) rfl)) (size_small (by simp)), by rfl⟩) (size_big (by omega))
theorem chosen_made {cs : List (Int × Int)} (hl : cs.length ≤ 25) {E : Str → Env → Prop} : WP (choC (v0 :: .val .tape :: v2 :: v3 :: .val (.tup (cs.map pD)) :: v5 :: v6 :: v7 :: v8 :: v9 :: v10 :: v11 :: v12 :: v13 :: v14 :: v15 :: .un :: v17 :: .un :: R))
    (fun p => p.2 = v0 :: .val .tape :: v2 :: v3 :: .val (.tup (cs.map pD)) :: v5 :: v6 :: v7 :: v8 :: v9 :: v10 :: v11 :: v12 :: v13 :: v14 :: v15 :: .un :: v17 :: .un :: R ∧ ∃ ks : List Nat, ks.Sublist (List.range cs.length) ∧ p.1 = .lst (ks.map fun (k : Nat) => D.int (k : Int))) E := by
  generalize he : (v0 :: .val .tape :: v2 :: v3 :: .val (.tup (cs.map pD)) :: v5 :: v6 :: v7 :: v8 :: v9 :: v10 :: v11 :: v12 :: v13 :: v14 :: v15 :: .un :: v17 :: .un :: R : Env) = e
  have key : ∀ j : Nat, StepW [18] (gSet 18) (mTest isBl (m2 dGt (mCall f__law_take (mCons (mVar 1) (mCons (mC (.int 3)) mNil))) (mC (.int 0)))) (mVar 18) (wipeE e [18]) (D.int (j : Int)) (fun d => d = .int (j : Int)) := by
    intro j
    subst he
    refine wp_ret (a := v0 :: .val .tape :: v2 :: v3 :: .val (.tup (cs.map pD)) :: v5 :: v6 :: v7 :: v8 :: v9 :: v10 :: v11 :: v12 :: v13 :: v14 :: v15 :: .un :: v17 :: .val (.int (j : Int)) :: R) rfl ?_
    generalize hs : (v0 :: .val .tape :: v2 :: v3 :: .val (.tup (cs.map pD)) :: v5 :: v6 :: v7 :: v8 :: v9 :: v10 :: v11 :: v12 :: v13 :: v14 :: v15 :: .un :: v17 :: .val (.int (j : Int)) :: R : Env) = s
    have q : WP (mTest isBl (m2 dGt (mCall f__law_take (mCons (mVar 1) (mCons (mC (.int 3)) mNil))) (mC (.int 0))) s) (fun p => p.2 = s) noE := by
      refine WP.bind ?_
      refine WP.mono' (fun p hp => ?_) (wm2l (y := .int 0) (P := fun d => ∃ r : Nat, r < 3 ∧ d = .int (r : Int)) (Q := fun d => ∃ b, d = .bl b) (takeW (n := 3) (by subst hs; rfl) (by omega) (by omega)) rfl (fun d hd => ?_))
      · obtain ⟨d, e2⟩ := p
        obtain ⟨h1, b, h2⟩ := hp
        have h1' : e2 = s := h1
        have h2' : d = .bl b := h2
        subst h1' h2'
        exact ⟨rfl⟩
      · obtain ⟨r, _, rfl⟩ := hd
        exact ⟨_, rfl, _, rfl⟩
    refine (q.mono fun p hp => ?_).h
    obtain ⟨b, e2⟩ := p
    have hp' : e2 = s := hp
    subst hp'
    subst hs
    exact ⟨fun _ => rfl, fun _ => wp_ret rfl ⟨rfl, rfl⟩⟩
  have ho : ownOk e [18] = true := by subst he; rfl
  have hw : iOf rng1 (mCons (mS dLenA (mCons (mVar 4) mNil)) mNil) e = .ret ((List.range cs.length).map fun (i : Nat) => D.int (i : Int), e) := by
    refine iOf_eq (ds := [.int (cs.length : Int)]) (mCons_eq (mS1_eq (x := .tup (cs.map pD)) (by subst he; rfl) (by show some (D.int ((cs.map pD).length : Int)) = _; rw [List.length_map])) rfl) (rng1_ok (by omega))
  have q := mLcE (E := E) hw ho (fun y _ => key y) (by rw [List.length_range]; exact size_big (by omega))
  refine WP.mono' (fun p hp => ?_) q
  obtain ⟨h1, ds, hpk, h2⟩ := hp
  obtain ⟨ys, hs, rfl⟩ := hpk.fn
  exact ⟨h1, ys, hs, h2⟩
end
end DL
set_option Elab.async false
set_option linter.all false
set_option maxRecDepth 100000
set_option autoImplicit false
set_option maxHeartbeats 400000
namespace DL
open PySem L2 TL
/-! ### the dict of the chosen places -/
def cAt (cs : List (Int × Int)) (k : Nat) : Int × Int := (cs[k]?).getD (0, 0)
def byK (cs : List (Int × Int)) (ks : List Nat) (acc : List (D × D)) : List (D × D) := ks.foldl (fun a k => fPut tk a (pD (cAt cs k)) (pK (cAt cs k)) (.int (k : Int))) acc
def kOf (cs : List (Int × Int)) (ks : List Nat) (q : Int × Int) : Option Nat := ks.find? fun k => decide (cAt cs k = q)
theorem cAt_inj {cs : List (Int × Int)} (hn : cs.Nodup) {j k : Nat} (hj : j < cs.length) (hk : k < cs.length) (h : cAt cs j = cAt cs k) : j = k := by
  unfold cAt at h
  rw [List.getElem?_eq_getElem hj, List.getElem?_eq_getElem hk] at h
  exact (List.getElem_inj hn).mp h
theorem by_find {cs : List (Int × Int)} (hn : cs.Nodup) (q : Int × Int) : ∀ (ks : List Nat) (acc : List (D × D)), ks.Nodup → (∀ k ∈ ks, k < cs.length) → fFind tk (byK cs ks acc) (pK q) = match kOf cs ks q with
    | some k => some (.int (k : Int))
    | none => fFind tk acc (pK q)
  | [], acc, _, _ => rfl
  | k :: r, acc, h1, h2 => by
    have h1' := List.nodup_cons.mp h1
    have ih := by_find hn q r (fPut tk acc (pD (cAt cs k)) (pK (cAt cs k)) (.int (k : Int))) h1'.2 (fun j hj => h2 j (List.mem_cons_of_mem _ hj))
    show fFind tk (byK cs r _) (pK q) = _
    rw [ih]
    unfold kOf
    rw [List.find?_cons]
    by_cases hq : cAt cs k = q
    · rw [decide_eq_true hq]
      cases hf : r.find? (fun k => decide (cAt cs k = q)) with
      | none =>
        show fFind tk (fPut tk acc _ _ _) (pK q) = some (.int (k : Int))
        rw [fFind_put (tk_pD _), if_pos (by rw [hq])]
      | some k' =>
        have e1 := List.find?_some hf
        have e2 := List.mem_of_find?_eq_some hf
        have e3 := of_decide_eq_true e1
        have := cAt_inj hn (h2 k List.mem_cons_self) (h2 k' (List.mem_cons_of_mem _ e2)) (hq.trans e3.symm)
        exact absurd (this ▸ e2) h1'.1
    · rw [decide_eq_false hq]
      cases hf : r.find? (fun k => decide (cAt cs k = q)) with
      | none =>
        show fFind tk (fPut tk acc _ _ _) (pK q) = fFind tk acc (pK q)
        rw [fFind_put (tk_pD _), if_neg (fun z => hq (pK_inj z).symm)]
      | some k' => rfl
theorem byK_len (cs : List (Int × Int)) : ∀ (ks : List Nat) (acc : List (D × D)), (byK cs ks acc).length ≤ acc.length + ks.length
  | [], acc => Nat.le_refl _
  | k :: r, acc => by
    have h1 := byK_len cs r (fPut tk acc (pD (cAt cs k)) (pK (cAt cs k)) (.int (k : Int)))
    have h2 := fPut_length (kf := tk) (kvs := acc) (dk := pD (cAt cs k)) (k := pK (cAt cs k)) (d := .int (k : Int))
    rw [List.length_cons]
    refine Nat.le_trans h1 ?_
    omega
noncomputable abbrev byB : MS := (sExpr (mMutD 10 gUpdate (mCons (mDc true [4] (iAny (m2 dIxA (m2 dIxA (mVar 1) (mVar 11)) (mC (.int 1)))) (gSet 4) mYes (mS dTuple (mCons (mVar 4) mNil)) (mVar 11)) mNil)))
section
variable {v0 v2 v3 v5 v6 : Sl} {R : List Sl}
theorem by_go {cs : List (Int × Int)} (hl : cs.length ≤ 25) : ∀ (ks : List Nat) (acc : List (D × D)) (v11 : Sl), (∀ k ∈ ks, k < cs.length) → acc.length + ks.length ≤ 100 →
    ∃ v11', forGo (gSet 11) byB (ks.map fun (k : Nat) => D.int (k : Int)) (v0 :: .val (.tup (cs.map plD)) :: v2 :: v3 :: .un :: v5 :: v6 :: .un :: .un :: .un :: .mut (.dct true acc) :: v11 :: R) = .ret (.nx, v0 :: .val (.tup (cs.map plD)) :: v2 :: v3 :: .un :: v5 :: v6 :: .un :: .un :: .un :: .mut (.dct true (byK cs ks acc)) :: v11' :: R)
  | [], acc, v11, _, _ => ⟨v11, rfl⟩
  | k :: r, acc, v11, h, ha => by
    rw [List.length_cons] at ha
    have hk := h k List.mem_cons_self
    have hp := fPut_length (kf := tk) (kvs := acc) (dk := pD (cAt cs k)) (k := pK (cAt cs k)) (d := .int (k : Int))
    obtain ⟨v11', ih⟩ := by_go hl r (fPut tk acc (pD (cAt cs k)) (pK (cAt cs k)) (.int (k : Int))) (.val (.int (k : Int))) (fun j hj => h j (List.mem_cons_of_mem _ hj)) (by omega)
    refine ⟨v11', ?_⟩
    have hc : cs[k]? = some (cAt cs k) := by unfold cAt; rw [List.getElem?_eq_getElem hk]; rfl
    have e1 : dIxA (.tup (cs.map plD)) (.int (k : Int)) = some (plD (cAt cs k)) := by
      show L2.atI (cs.map plD) (k : Int) = _
      exact L2.atI_nat (by rw [List.getElem?_map, hc]; rfl)
    have e2 : dIxA (plD (cAt cs k)) (.int 1) = some (.tup [pD (cAt cs k)]) := by
      show L2.atI [D.int 0, .tup [pD (cAt cs k)]] ((1 : Nat) : Int) = _
      exact L2.atI_nat rfl
    have hd : mDc true [4] (iAny (m2 dIxA (m2 dIxA (mVar 1) (mVar 11)) (mC (.int 1)))) (gSet 4) mYes (mS dTuple (mCons (mVar 4) mNil)) (mVar 11) (v0 :: .val (.tup (cs.map plD)) :: v2 :: v3 :: .un :: v5 :: v6 :: .un :: .un :: .un :: .mut (.dct true acc) :: .val (.int (k : Int)) :: R) = .ret (.dct true [(pD (cAt cs k), .int (k : Int))], v0 :: .val (.tup (cs.map plD)) :: v2 :: v3 :: .un :: v5 :: v6 :: .un :: .un :: .un :: .mut (.dct true acc) :: .val (.int (k : Int)) :: R) := by
      refine mDc_eval (ι := Int × Int) (f := pD) (φ := pD) (ψ := fun _ => .int (k : Int)) (xs := [cAt cs k]) ?_ (by rfl) (fun p _ => ⟨_, _, _, rfl, mS1_eq rfl rfl, rfl, (by rfl)⟩) (size_big (by simp)) rfl
      have : m2 dIxA (m2 dIxA (mVar 1) (mVar 11)) (mC (.int 1)) (v0 :: .val (.tup (cs.map plD)) :: v2 :: v3 :: .un :: v5 :: v6 :: .un :: .un :: .un :: .mut (.dct true acc) :: .val (.int (k : Int)) :: R) = .ret (.tup [pD (cAt cs k)], v0 :: .val (.tup (cs.map plD)) :: v2 :: v3 :: .un :: v5 :: v6 :: .un :: .un :: .un :: .mut (.dct true acc) :: .val (.int (k : Int)) :: R) := m2_eq (m2_eq rfl rfl e1) rfl e2
      show T.bind (m2 dIxA _ _ _) _ = _
      rw [this]
      rfl
    have hm : byB (v0 :: .val (.tup (cs.map plD)) :: v2 :: v3 :: .un :: v5 :: v6 :: .un :: .un :: .un :: .mut (.dct true acc) :: .val (.int (k : Int)) :: R) = .ret (.nx, v0 :: .val (.tup (cs.map plD)) :: v2 :: v3 :: .un :: v5 :: v6 :: .un :: .un :: .un :: .mut (.dct true (fPut tk acc (pD (cAt cs k)) (pK (cAt cs k)) (.int (k : Int)))) :: .val (.int (k : Int)) :: R) := by
      show T.bind (T.bind (mCons _ mNil _) _) _ = _
      rw [mCons_eq hd rfl]
      show T.bind (T.bind (T.of (if acc.length + 1 ≤ sizeLine ∧ (acc ≠ [] ∨ 1 ≤ 1) then (dMerge true acc [(pD (cAt cs k), .int (k : Int))]).map fun m => (D.dct true m, D.non) else none)) _) _ = _
      rw [if_pos ⟨size_big (by omega), .inr (Nat.le_refl 1)⟩]
      rfl
    show T.bind (byB (v0 :: .val (.tup (cs.map plD)) :: v2 :: v3 :: .un :: v5 :: v6 :: .un :: .un :: .un :: .mut (.dct true acc) :: .val (.int (k : Int)) :: R)) _ = _
    rw [hm]
    exact ih
end
end DL
set_option Elab.async false
set_option linter.all false
set_option maxRecDepth 100000
set_option autoImplicit false
set_option maxHeartbeats 400000
namespace DL
open PySem L2 TL
/-! ### the number of a chosen cell, in reading order -/
def sw (p : Int × Int) : Int × Int := (p.2, p.1)
theorem sw_inj {p q : Int × Int} (h : sw p = sw q) : p = q := by
  have h1 := congrArg Prod.fst h
  have h2 := congrArg Prod.snd h
  exact Prod.ext h2 h1
def cnt (cs : List (Int × Int)) (ks : List Nat) (z : Int × Int) : Nat := (ks.filter fun k => ltP (sw (cAt cs k)) z).length
theorem cnt_none {cs : List (Int × Int)} {q : Int × Int} : ∀ {ks : List Nat}, kOf cs ks q = none ↔ ∀ k ∈ ks, cAt cs k ≠ q := by
  intro ks
  unfold kOf
  rw [List.find?_eq_none]
  constructor
  · intro h k hk e
    exact h k hk (decide_eq_true e)
  · intro h k hk e
    exact h k hk (of_decide_eq_true e)
theorem ltP_next {p : Int × Int} {y x : Int} : ltP p (y, x + 1) = (ltP p (y, x) || decide (p = (y, x))) := by
  rw [Bool.eq_iff_iff, Bool.or_eq_true, ltP_iff, ltP_iff, decide_eq_true_eq]
  constructor
  · intro h
    by_cases e : p = (y, x)
    · exact .inr e
    · refine .inl ?_
      rcases h with h | ⟨h1, h2⟩
      · exact .inl h
      · refine .inr ⟨h1, ?_⟩
        show p.2 < x
        have h3 : p.2 < x + 1 := h2
        have : p.2 ≠ x := fun z => e (Prod.ext h1 z)
        omega
  · rintro ((h | ⟨h1, h2⟩) | h)
    · exact .inl h
    · exact .inr ⟨h1, by show p.2 < x + 1; have : p.2 < x := h2; omega⟩
    · subst h
      exact .inr ⟨rfl, by show x < x + 1; omega⟩
theorem cnt_step {cs : List (Int × Int)} (hn : cs.Nodup) {x y : Int} : ∀ {ks : List Nat}, ks.Nodup → (∀ k ∈ ks, k < cs.length) → cnt cs ks (y, x + 1) = cnt cs ks (y, x) + if (kOf cs ks (x, y)).isSome = true then 1 else 0
  | [], _, _ => rfl
  | k :: r, h1, h2 => by
    have h1' := List.nodup_cons.mp h1
    have ih := cnt_step hn (x := x) (y := y) h1'.2 (fun j hj => h2 j (List.mem_cons_of_mem _ hj))
    unfold cnt at ih ⊢
    rw [List.filter_cons, List.filter_cons, ltP_next]
    by_cases hq : cAt cs k = (x, y)
    · have e1 : ltP (sw (cAt cs k)) (y, x) = false := by
        rw [hq]
        unfold ltP sw
        rw [decide_eq_false]
        show ¬ (y < y ∨ (y = y ∧ x < x))
        omega
      have e2 : sw (cAt cs k) = (y, x) := by rw [hq]; rfl
      have hnone : kOf cs r (x, y) = none := cnt_none.mpr fun j hj e => by
        have := cAt_inj hn (h2 k List.mem_cons_self) (h2 j (List.mem_cons_of_mem _ hj)) (hq.trans e.symm)
        exact h1'.1 (this ▸ hj)
      rw [hnone] at ih
      have e3 : kOf cs (k :: r) (x, y) = some k := by
        unfold kOf
        rw [List.find?_cons, decide_eq_true hq]
      rw [e1, e3, decide_eq_true e2]
      simp only [Bool.or_true, if_true, List.length_cons, Option.isSome_some]
      rw [ih]
      simp
    · have e2 : sw (cAt cs k) ≠ (y, x) := fun e => hq (sw_inj e)
      have e3 : kOf cs (k :: r) (x, y) = kOf cs r (x, y) := by
        unfold kOf
        rw [List.find?_cons, decide_eq_false hq]
      rw [e3, decide_eq_false e2, Bool.or_false]
      split
      · rw [List.length_cons, List.length_cons, ih]; omega
      · exact ih
theorem cnt_row {cs : List (Int × Int)} {ks : List Nat} {w : Int} {y : Int} (h : ∀ k ∈ ks, 0 ≤ (cAt cs k).1 ∧ (cAt cs k).1 < w) : cnt cs ks (y + 1, 0) = cnt cs ks (y, w) := by
  unfold cnt
  congr 1
  refine List.filter_congr fun k hk => ?_
  have := h k hk
  rw [Bool.eq_iff_iff, ltP_iff, ltP_iff]
  show ((cAt cs k).2 < y + 1 ∨ ((cAt cs k).2 = y + 1 ∧ (cAt cs k).1 < 0)) ↔ ((cAt cs k).2 < y ∨ ((cAt cs k).2 = y ∧ (cAt cs k).1 < w))
  omega
theorem cnt_zero {cs : List (Int × Int)} {ks : List Nat} (h : ∀ k ∈ ks, 0 ≤ (cAt cs k).1 ∧ 0 ≤ (cAt cs k).2) : cnt cs ks (0, 0) = 0 := by
  unfold cnt
  rw [List.length_eq_zero_iff, List.filter_eq_nil_iff]
  intro k hk
  have := h k hk
  rw [ltP_iff]
  show ¬ ((cAt cs k).2 < 0 ∨ ((cAt cs k).2 = 0 ∧ (cAt cs k).1 < 0))
  omega
/-- in a strictly sorted list a member's place is the number of those below it -/
theorem place_cnt : ∀ {L : List (Int × Int)}, L.Pairwise (fun a b => ltP a b = true) → ∀ {i : Nat} {z : Int × Int}, L[i]? = some z → (L.filter fun p => ltP p z).length = i
  | [], _, i, z, h => by cases h
  | a :: L, hs, 0, z, h => by
    cases h
    rw [List.length_eq_zero_iff, List.filter_eq_nil_iff]
    intro p hp
    rw [ltP_iff]
    rcases List.mem_cons.mp hp with rfl | hp
    · omega
    · have := List.rel_of_pairwise_cons hs hp
      rw [ltP_iff] at this
      omega
  | a :: L, hs, i + 1, z, h => by
    have h' : L[i]? = some z := h
    have hz := List.mem_of_getElem? h'
    rw [List.filter_cons, if_pos (List.rel_of_pairwise_cons hs hz), List.length_cons, place_cnt (List.Pairwise.of_cons hs) h']
def ordL (cs : List (Int × Int)) (ks : List Nat) : List (Int × Int) := srt (ks.map fun k => sw (cAt cs k))
theorem ordL_strict {cs : List (Int × Int)} (hn : cs.Nodup) {ks : List Nat} (h1 : ks.Nodup) (h2 : ∀ k ∈ ks, k < cs.length) : (ordL cs ks).Pairwise (fun a b => ltP a b = true) := by
  have hnd : (ordL cs ks).Nodup := by
    refine (srt_perm _).nodup_iff.mpr ?_
    rw [List.nodup_iff_pairwise_ne, List.pairwise_map]
    refine (List.Pairwise.and_mem.mp h1).imp ?_
    rintro a b ⟨ha, hb, hab⟩ e
    exact hab (cAt_inj hn (h2 a ha) (h2 b hb) (sw_inj e))
  have hs : (ordL cs ks).Pairwise (fun a b => leP a b = true) := srt_sorted _
  refine (hs.and (List.nodup_iff_pairwise_ne.mp hnd)).imp ?_
  rintro a b ⟨h, hne⟩
  rw [leP_iff] at h
  rw [ltP_iff]
  rcases h with h | ⟨h, h'⟩
  · exact .inl h
  · refine .inr ⟨h, ?_⟩
    have : a.2 ≠ b.2 := fun e => hne (Prod.ext h e)
    omega
theorem ordL_place {cs : List (Int × Int)} (hn : cs.Nodup) {ks : List Nat} (h1 : ks.Nodup) (h2 : ∀ k ∈ ks, k < cs.length) {i : Nat} {z : Int × Int} (h : (ordL cs ks)[i]? = some z) : cnt cs ks z = i := by
  have e := place_cnt (ordL_strict hn h1 h2) h
  rw [← e]
  have hp := ((srt_perm (ks.map fun k => sw (cAt cs k))).filter (fun p => ltP p z)).length_eq
  show cnt cs ks z = ((srt (ks.map fun k => sw (cAt cs k))).filter fun p => ltP p z).length
  rw [hp, List.filter_map, List.length_map]
  rfl
end DL
set_option Elab.async false
set_option linter.all false
set_option maxRecDepth 100000
set_option autoImplicit false
set_option maxHeartbeats 400000
namespace DL
open PySem L2 TL
/-! ### the signs of the tiling's text -/
def ltr (i : Nat) : Nat := 97 + i
theorem letters_ix {i : Nat} (h : i < 26) : dIxA (.str "abcdefghijklmnopqrstuvwxyz") (.int (i : Int)) = some (sgn (ltr i)) := by
  have hs : (("abcdefghijklmnopqrstuvwxyz" : Str)).cps.toList = (List.range 26).map fun i => 97 + i := by decide +kernel
  show (if (("abcdefghijklmnopqrstuvwxyz" : Str)).length ≤ sizeLine then (L2.atI (("abcdefghijklmnopqrstuvwxyz" : Str)).cps.toList (i : Int)).map fun c => D.str ⟨#[c]⟩ else none) = _
  have hl : (("abcdefghijklmnopqrstuvwxyz" : Str)).length = 26 := by decide +kernel
  rw [if_pos (by rw [hl]; exact size_big (by omega)), hs]
  have : ((List.range 26).map fun i => 97 + i)[i]? = some (97 + i) := by
    rw [List.getElem?_map, List.getElem?_range h]; rfl
  rw [L2.atI_nat this]
  rfl
def tS (cs : List (Int × Int)) (ks : List Nat) (q : Int × Int) : Nat := match kOf cs ks q with
  | some _ => ltr (cnt cs ks (sw q))
  | none => 46
def tRow (cs : List (Int × Int)) (ks : List Nat) (n : Nat) (y : Int) : List Nat := (List.range n).map fun (i : Nat) => tS cs ks ((i : Int), y)
theorem tRow_succ {cs : List (Int × Int)} {ks : List Nat} {n : Nat} {y : Int} : tRow cs ks (n + 1) y = tRow cs ks n y ++ [tS cs ks ((n : Int), y)] := by
  unfold tRow
  rw [List.range_succ, List.map_append]; rfl
structure NI (cs : List (Int × Int)) (ks : List Nat) (nm : List (D × D)) (z : Int × Int) : Prop where
  len : nm.length = cnt cs ks z
  old : ∀ k ∈ ks, (fFind fk nm (.inl (k : Int))).isSome = true → ltP (sw (cAt cs k)) z = true
theorem ltP_mono {p : Int × Int} {y x : Int} (h : ltP p (y, x) = true) : ltP p (y, x + 1) = true := by
  rw [ltP_next, h]; rfl
/-- a cell that is not chosen -/
theorem NI.skip {cs : List (Int × Int)} {ks : List Nat} {nm : List (D × D)} {y x : Int} (hn : cs.Nodup) (h1 : ks.Nodup) (h2 : ∀ k ∈ ks, k < cs.length) (h : NI cs ks nm (y, x)) (hk : kOf cs ks (x, y) = none) : NI cs ks nm (y, x + 1) := by
  refine ⟨?_, fun k hk h3 => ltP_mono (h.old k hk h3)⟩
  rw [cnt_step hn h1 h2, hk, h.len]; rfl
/-- a chosen cell: its number was not met -/
theorem NI.new {cs : List (Int × Int)} {ks : List Nat} {nm : List (D × D)} {y x : Int} {k : Nat} (h : NI cs ks nm (y, x)) (hk : kOf cs ks (x, y) = some k) : k ∈ ks ∧ cAt cs k = (x, y) ∧ fFind fk nm (.inl (k : Int)) = none := by
  have e1 := List.mem_of_find?_eq_some hk
  have e0 : decide (cAt cs k = (x, y)) = true := List.find?_some (p := fun k => decide (cAt cs k = (x, y))) hk
  have e2 := of_decide_eq_true e0
  refine ⟨e1, e2, ?_⟩
  cases hf : fFind fk nm (.inl (k : Int)) with
  | none => rfl
  | some d =>
    have := h.old k e1 (by rw [hf]; rfl)
    rw [e2, ltP_iff] at this
    have h3 : y < y ∨ (y = y ∧ x < x) := this
    omega
theorem NI.put {cs : List (Int × Int)} {ks : List Nat} {nm : List (D × D)} {y x : Int} {k : Nat} {d : D} (hn : cs.Nodup) (h1 : ks.Nodup) (h2 : ∀ k ∈ ks, k < cs.length) (h : NI cs ks nm (y, x)) (hk : kOf cs ks (x, y) = some k) : NI cs ks (fPut fk nm (.int (k : Int)) (.inl (k : Int)) d) (y, x + 1) := by
  obtain ⟨e1, e2, e3⟩ := h.new hk
  constructor
  · rw [cnt_step hn h1 h2, hk]
    unfold fPut
    rw [if_neg]
    · rw [List.length_append, h.len]; rfl
    · intro ha
      rw [List.any_eq_true] at ha
      obtain ⟨p, hp, hq⟩ := ha
      unfold fFind at e3
      rw [Option.map_eq_none_iff, List.find?_eq_none] at e3
      exact e3 p hp hq
  · intro j hj h3
    rw [fFind_put (show fk (.int (k : Int)) = some (.inl (k : Int)) from rfl)] at h3
    by_cases hjk : j = k
    · subst hjk
      rw [e2, ltP_iff]
      exact .inr ⟨rfl, by show x < x + 1; omega⟩
    · rw [if_neg (fun z => hjk (by injection z with z; omega))] at h3
      exact ltP_mono (h.old j hj h3)
end DL
set_option Elab.async false
set_option linter.all false
set_option maxRecDepth 100000
set_option autoImplicit false
set_option maxHeartbeats 400000
namespace DL
open PySem L2 TL
/-! ### the rows of the tiling's text -/
noncomputable abbrev inB : MS := (sSeq (sAsg (mGet1 10 (mTuple (mCons (mVar 7) (mCons (mVar 9) mNil)))) (gSet 15))
  (sSeq (sIf (mAnd (mTest isBl (m2 dNotN (mVar 15) (mC .non))) (mTest isBl (mCmpB dNotInA (mVar 15) 12))) (sStore 12 (mVar 15) (m2 dIxA (mC (.str "abcdefghijklmnopqrstuvwxyz")) (mSB dLenA 12))) sNext)
  (sAug dIAdd 14 (mIf (mTest isBl (m2 dIsN (mVar 15) (mC .non))) (mC (.str ".")) (mIxB 12 (mVar 15))))))
theorem mIf_t {c : MB} {f g : MD} {e : Env} {x : D} (hc : c e = .ret (true, e)) (hf : f e = .ret (x, e)) : mIf c f g e = .ret (x, e) := by
  show (c e).bind _ = _
  rw [hc]
  exact hf
theorem mIf_f {c : MB} {f g : MD} {e : Env} {x : D} (hc : c e = .ret (false, e)) (hf : g e = .ret (x, e)) : mIf c f g e = .ret (x, e) := by
  show (c e).bind _ = _
  rw [hc]
  exact hf
theorem sStore_eq {i : Nat} {fk fv : MD} {e : Env} {v k d d' : D} (hv : fv e = .ret (v, e)) (hm : e[i]? = some (.mut d)) (hk : fk e = .ret (k, e)) (hg : gStore d k v = some d') : sStore i fk fv e = .ret (.nx, e.set i (.mut d')) := by
  unfold sStore
  rw [hv]
  show (match e[i]? with | some (.mut _) => _ | _ => _) = _
  rw [hm]
  show (fk e).bind _ = _
  rw [hk]
  show (match e[i]? with | some (.mut d) => _ | _ => _) = _
  rw [hm]
  show (T.of (gStore d k v)).bind _ = _
  rw [hg]; rfl
theorem sAug_eq {g : D → D → Option D} {i : Nat} {f : MD} {e : Env} {x y z : D} (h : e[i]? = some (.val x)) (hf : f e = .ret (y, e)) (hg : g x y = some z) : sAug g i f e = .ret (.nx, e.set i (.val z)) := by
  unfold sAug
  rw [h]
  show (f e).bind _ = _
  rw [hf]
  show (T.of (g x y)).bind _ = _
  rw [hg]; rfl
theorem mGet1_eq {i : Nat} {f : MD} {e : Env} {t : Bool} {ds : List (D × D)} {own : Bool} {k : D} {o : Option D} (hp : peekE e i = some (.dct t ds, own)) (hf : f e = .ret (k, e)) (ho : dFind t ds k = some o) : mGet1 i f e = .ret (o.getD .non, e) := by
  unfold mGet1
  rw [hp]
  show (f e).bind _ = _
  rw [hf]
  show (match peekE e i with | some (.dct t ds, _) => _ | _ => _) = _
  rw [hp]
  show (T.of (dFind t ds k)).bind _ = _
  rw [ho]; rfl
theorem mSB_eq {gs : List D → Option D} {i : Nat} {e : Env} {d r : D} {own : Bool} (hp : peekE e i = some (d, own)) (hg : gs [d] = some r) (ho : okB own r = true) : mSB gs i e = .ret (r, e) := by
  unfold mSB
  rw [hp]
  show (T.of (gs [d])).bind _ = _
  rw [hg]
  exact if_pos ho
section
variable {v0 v1 v2 v3 v4 v5 v6 v8 v11 v13 v15 : Sl} {R : List Sl}
abbrev eI (v0 v1 v2 v3 v4 v5 v6 v7 v8 v11 v13 v15 : Sl) (y : Int) (by_ nm : List (D × D)) (row : Str) : Env := v0 :: v1 :: v2 :: v3 :: v4 :: v5 :: v6 :: v7 :: v8 :: .val (.int y) :: .mut (.dct true by_) :: v11 :: .mut (.dct false nm) :: v13 :: .val (.str row) :: v15 :: []
theorem in_step {cs : List (Int × Int)} {ks : List Nat} {nm : List (D × D)} {y x : Int} {row : Str} (hn : cs.Nodup) (h1 : ks.Nodup) (h2 : ∀ k ∈ ks, k < cs.length) (hl : cs.length ≤ 25) (hc : cnt cs ks (y, x) < 26) (h : NI cs ks nm (y, x)) (hr : row.length ≤ 900) :
    ∃ nm' v15', NI cs ks nm' (y, x + 1) ∧ inB (eI v0 v1 v2 v3 v4 v5 v6 (.val (.int x)) v8 v11 v13 v15 y (byK cs ks []) nm row) = .ret (.nx, eI v0 v1 v2 v3 v4 v5 v6 (.val (.int x)) v8 v11 v13 v15' y (byK cs ks []) nm' (row ++ SS [tS cs ks (x, y)])) := by
  have hfind : dFind true (byK cs ks []) (pD (x, y)) = some ((kOf cs ks (x, y)).map fun (k : Nat) => D.int (k : Int)) := by
    show some (fFind tk (byK cs ks []) (pK (x, y))) = _
    rw [by_find hn (x, y) ks [] h1 h2]
    cases kOf cs ks (x, y) <;> rfl
  have g1 : mGet1 10 (mTuple (mCons (mVar 7) (mCons (mVar 9) mNil))) (eI v0 v1 v2 v3 v4 v5 v6 (.val (.int x)) v8 v11 v13 v15 y (byK cs ks []) nm row) = .ret (((kOf cs ks (x, y)).map fun (k : Nat) => D.int (k : Int)).getD .non, eI v0 v1 v2 v3 v4 v5 v6 (.val (.int x)) v8 v11 v13 v15 y (byK cs ks []) nm row) :=
    mGet1_eq (k := pD (x, y)) rfl (mTuple_eq (mCons_eq rfl (mCons_eq rfl rfl)) (size_small (by simp))) hfind
  unfold inB
  rw [seq_eq (sAsg_eq g1)]
  show ∃ nm' v15', _ ∧ sSeq _ _ (eI v0 v1 v2 v3 v4 v5 v6 (.val (.int x)) v8 v11 v13 (.val (((kOf cs ks (x, y)).map fun (k : Nat) => D.int (k : Int)).getD .non)) y (byK cs ks []) nm row) = _
  cases hk : kOf cs ks (x, y) with
  | none =>
    refine ⟨nm, .val .non, h.skip hn h1 h2 hk, ?_⟩
    rw [seq_eq (sIf_nx (b := false && false) (and_eq (test_eq (x := .bl false) rfl rfl) fun z => Bool.noConfusion z) rfl)]
    rw [sAug_eq (x := .str row) (y := .str ".") (z := .str (row ++ ".")) rfl (mIf_t (test_eq (x := .bl true) rfl rfl) rfl) (if_pos (size_big (show row.length + 1 ≤ 100000 by omega)))]
    unfold tS
    rw [hk]
    rfl
  | some k =>
    obtain ⟨e1, e2, e3⟩ := h.new hk
    refine ⟨_, .val (.int (k : Int)), h.put (d := sgn (ltr (cnt cs ks (y, x)))) hn h1 h2 hk, ?_⟩
    have hnm : nm.length ≤ 100 := by rw [h.len]; omega
    have hno : dNotInA (.int (k : Int)) (.dct false nm) = some (.bl true) := by
      show (some (fFind fk nm (.inl (k : Int)))).map (fun o => D.bl (!o.isSome)) = _
      rw [e3]; rfl
    have hlen : dLenA [.dct false nm] = some (.int ((cnt cs ks (y, x) : Nat) : Int)) := by
      show some (D.int (nm.length : Int)) = _
      rw [h.len]
    rw [seq_eq (e' := eI v0 v1 v2 v3 v4 v5 v6 (.val (.int x)) v8 v11 v13 (.val (.int (k : Int))) y (byK cs ks []) (fPut fk nm (.int (k : Int)) (.inl (k : Int)) (sgn (ltr (cnt cs ks (y, x))))) row) (by
      rw [sIf_eq (b := true && true) (and_eq (test_eq (x := .bl true) rfl rfl) fun _ => test_eq (x := .bl true) (mCmpB_eq (x := .int (k : Int)) (d := .dct false nm) rfl rfl hno rfl) rfl), if_pos (show (true && true) = true from rfl)]
      exact sStore_eq (d := .dct false nm) (m2_eq rfl (mSB_eq rfl hlen rfl) (letters_ix hc)) rfl rfl (by
        show (if nm.length < sizeLine then (dPut false nm (.int (k : Int)) _).map fun es => D.dct false es else none) = _
        rw [if_pos (by rw [sizeLine_eq]; omega)]
        rfl))]
    have hgot : dIxA (.dct false (fPut fk nm (.int (k : Int)) (.inl (k : Int)) (sgn (ltr (cnt cs ks (y, x)))))) (.int (k : Int)) = some (sgn (ltr (cnt cs ks (y, x)))) := by
      show (some (fFind fk _ (.inl (k : Int)))).join = _
      rw [fFind_put (show fk (.int (k : Int)) = some (.inl (k : Int)) from rfl), if_pos rfl]
      rfl
    have hix : mIxB 12 (mVar 15) (eI v0 v1 v2 v3 v4 v5 v6 (.val (.int x)) v8 v11 v13 (.val (.int (k : Int))) y (byK cs ks []) (fPut fk nm (.int (k : Int)) (.inl (k : Int)) (sgn (ltr (cnt cs ks (y, x))))) row) = .ret (sgn (ltr (cnt cs ks (y, x))), eI v0 v1 v2 v3 v4 v5 v6 (.val (.int x)) v8 v11 v13 (.val (.int (k : Int))) y (byK cs ks []) (fPut fk nm (.int (k : Int)) (.inl (k : Int)) (sgn (ltr (cnt cs ks (y, x))))) row) := by
      show (T.of (dIxA (.dct false (fPut fk nm (.int (k : Int)) (.inl (k : Int)) (sgn (ltr (cnt cs ks (y, x)))))) (.int (k : Int)))).bind _ = _
      rw [hgot]; rfl
    rw [sAug_eq (x := .str row) (y := sgn (ltr (cnt cs ks (y, x)))) (z := .str (row ++ ⟨#[ltr (cnt cs ks (y, x))]⟩)) rfl (mIf_f (test_eq (x := .bl false) rfl rfl) hix) (if_pos (size_big (show row.length + 1 ≤ 100000 by omega)))]
    unfold tS
    rw [hk]
    rfl
end
end DL
set_option Elab.async false
set_option linter.all false
set_option maxRecDepth 100000
set_option autoImplicit false
set_option maxHeartbeats 400000
namespace DL
open PySem L2 TL
theorem cnt_le {cs : List (Int × Int)} {ks : List Nat} {z : Int × Int} : cnt cs ks z ≤ ks.length := List.length_filter_le _ _
section
variable {v0 v1 v2 v3 v4 v5 v6 v8 v11 v13 : Sl}
theorem in_go {cs : List (Int × Int)} {ks : List Nat} {y : Int} (hn : cs.Nodup) (h1 : ks.Nodup) (h2 : ∀ k ∈ ks, k < cs.length) (hl : cs.length ≤ 25) (hk : ks.length ≤ 25) : ∀ (n x : Nat) (nm : List (D × D)) (v7 v15 : Sl), x + n ≤ 100 → NI cs ks nm (y, (x : Int)) →
    ∃ nm' v7' v15', NI cs ks nm' (y, ((x + n : Nat) : Int)) ∧ forGo (gSet 7) inB ((List.range' x n).map fun (i : Nat) => D.int (i : Int)) (eI v0 v1 v2 v3 v4 v5 v6 v7 v8 v11 v13 v15 y (byK cs ks []) nm (SS (tRow cs ks x y))) = .ret (.nx, eI v0 v1 v2 v3 v4 v5 v6 v7' v8 v11 v13 v15' y (byK cs ks []) nm' (SS (tRow cs ks (x + n) y)))
  | 0, x, nm, v7, v15, _, h => ⟨nm, v7, v15, h, rfl⟩
  | n + 1, x, nm, v7, v15, hx, h => by
    have hc : cnt cs ks (y, (x : Int)) < 26 := by have := cnt_le (cs := cs) (ks := ks) (z := (y, (x : Int))); omega
    obtain ⟨nm1, w15, i1, i2⟩ := in_step (v0 := v0) (v1 := v1) (v2 := v2) (v3 := v3) (v4 := v4) (v5 := v5) (v6 := v6) (v8 := v8) (v11 := v11) (v13 := v13) (v15 := v15) (row := SS (tRow cs ks x y)) hn h1 h2 hl hc h (by rw [len_SS]; simp [tRow]; omega)
    obtain ⟨nm2, w7, z15, j1, j2⟩ := in_go hn h1 h2 hl hk n (x + 1) nm1 (.val (.int (x : Int))) w15 (by omega) (by exact i1)
    refine ⟨nm2, w7, z15, by rw [show x + (n + 1) = x + 1 + n by omega]; exact j1, ?_⟩
    rw [List.range'_succ, List.map_cons]
    show T.bind (inB (eI v0 v1 v2 v3 v4 v5 v6 (.val (.int (x : Int))) v8 v11 v13 v15 y (byK cs ks []) nm (SS (tRow cs ks x y)))) _ = _
    rw [i2]
    have e : SS (tRow cs ks x y) ++ SS [tS cs ks ((x : Int), y)] = SS (tRow cs ks (x + 1) y) := ext_tl (by rw [tl_append, tl_SS, tl_SS, tl_SS, tRow_succ])
    rw [e, show x + (n + 1) = x + 1 + n by omega]
    exact j2
end
end DL
set_option Elab.async false
set_option linter.all false
set_option maxRecDepth 100000
set_option autoImplicit false
set_option maxHeartbeats 400000
namespace DL
open PySem L2 TL
noncomputable abbrev outB : MS := (sSeq (sAsg (mC (.str "")) (gSet 14))
  (sSeq (sFor (iOf rng1 (mCons (mVar 5) mNil)) (gSet 7) inB)
  (sExpr (mMutL 13 gAppend (mCons (mVar 14) mNil)))))
def tRows (cs : List (Int × Int)) (ks : List Nat) (w j : Nat) : List D := (List.range j).map fun (i : Nat) => D.str (SS (tRow cs ks w (i : Int)))
section
variable {v0 v1 v2 v3 v4 v6 v8 v11 : Sl}
abbrev eO (v0 v1 v2 v3 v4 v5 v6 v7 v8 v9 v11 v14 v15 : Sl) (by_ nm : List (D × D)) (rows : List D) : Env := v0 :: v1 :: v2 :: v3 :: v4 :: v5 :: v6 :: v7 :: v8 :: v9 :: .mut (.dct true by_) :: v11 :: .mut (.dct false nm) :: .mut (.lst rows) :: v14 :: v15 :: []
theorem out_step {cs : List (Int × Int)} {ks : List Nat} {w j : Nat} {nm : List (D × D)} {v7 v14 v15 : Sl} (hn : cs.Nodup) (h1 : ks.Nodup) (h2 : ∀ k ∈ ks, k < cs.length) (hl : cs.length ≤ 25) (hk : ks.length ≤ 25) (hw : w ≤ 100) (hj : j ≤ 100) (h : NI cs ks nm ((j : Int), 0)) :
    ∃ nm' v7' v14' v15', NI cs ks nm' ((j : Int), (w : Int)) ∧ isMut v14' = false ∧ outB (eO v0 v1 v2 v3 v4 (.val (.int (w : Int))) v6 v7 v8 (.val (.int (j : Int))) v11 v14 v15 (byK cs ks []) nm (tRows cs ks w j)) = .ret (.nx, eO v0 v1 v2 v3 v4 (.val (.int (w : Int))) v6 v7' v8 (.val (.int (j : Int))) v11 v14' v15' (byK cs ks []) nm' (tRows cs ks w (j + 1))) := by
  obtain ⟨nm', v7', v15', i1, i2⟩ := in_go (v0 := v0) (v1 := v1) (v2 := v2) (v3 := v3) (v4 := v4) (v5 := .val (.int (w : Int))) (v6 := v6) (v8 := v8) (v11 := v11) (v13 := .mut (.lst (tRows cs ks w j))) (y := (j : Int)) hn h1 h2 hl hk w 0 nm v7 v15 (by omega) h
  rw [Nat.zero_add] at i1 i2
  refine ⟨nm', v7', .val (.str (SS (tRow cs ks w (j : Int)))), v15', i1, rfl, ?_⟩
  unfold outB
  rw [seq_eq (sAsg_eq rfl)]
  show sSeq _ _ (eI v0 v1 v2 v3 v4 (.val (.int (w : Int))) v6 v7 v8 v11 (.mut (.lst (tRows cs ks w j))) v15 (j : Int) (byK cs ks []) nm "") = _
  have hf : sFor (iOf rng1 (mCons (mVar 5) mNil)) (gSet 7) inB (eI v0 v1 v2 v3 v4 (.val (.int (w : Int))) v6 v7 v8 v11 (.mut (.lst (tRows cs ks w j))) v15 (j : Int) (byK cs ks []) nm "") = .ret (.nx, eI v0 v1 v2 v3 v4 (.val (.int (w : Int))) v6 v7' v8 v11 (.mut (.lst (tRows cs ks w j))) v15' (j : Int) (byK cs ks []) nm' (SS (tRow cs ks w (j : Int)))) := by
    show T.bind (iOf rng1 (mCons (mVar 5) mNil) _) _ = _
    rw [iOf_eq (ds := [.int (w : Int)]) rfl (rng1_ok (by omega))]
    rw [List.range_eq_range']
    exact i2
  rw [seq_eq hf]
  have hlen : (tRows cs ks w j).length ≤ 100 := by simp [tRows]; omega
  show T.bind (T.bind (T.of (if (tRows cs ks w j).length < sizeLine then some (D.lst (tRows cs ks w j ++ [.str (SS (tRow cs ks w (j : Int)))]), D.non) else none)) _) _ = _
  rw [if_pos (by rw [sizeLine_eq]; omega)]
  unfold tRows
  rw [List.range_succ, List.map_append]
  rfl
end
end DL
set_option Elab.async false
set_option linter.all false
set_option maxRecDepth 100000
set_option autoImplicit false
set_option maxHeartbeats 400000
namespace DL
open PySem L2 TL
theorem forGo_eq {i : Nat} {body : MS} {d : D} {r : List D} {e e1 e2 : Env} (he : e.set i (.val d) = e1) (h : body e1 = .ret (.nx, e2)) : forGo (gSet i) body (d :: r) e = forGo (gSet i) body r e2 := by
  subst he
  show T.bind (body (e.set i (.val d))) _ = _
  rw [h]; rfl
section
variable {v0 v1 v2 v3 v4 v6 v8 v11 : Sl}
theorem out_go {cs : List (Int × Int)} {ks : List Nat} {w : Nat} (hn : cs.Nodup) (h1 : ks.Nodup) (h2 : ∀ k ∈ ks, k < cs.length) (hl : cs.length ≤ 25) (hk : ks.length ≤ 25) (hw : w ≤ 100) (hb : ∀ k ∈ ks, 0 ≤ (cAt cs k).1 ∧ (cAt cs k).1 < (w : Int)) : ∀ (n j : Nat) (nm : List (D × D)) (v7 v9 v14 v15 : Sl), j + n ≤ 100 → isMut v14 = false → NI cs ks nm ((j : Int), 0) →
    ∃ nm' v7' v9' v14' v15', isMut v14' = false ∧ forGo (gSet 9) outB ((List.range' j n).map fun (i : Nat) => D.int (i : Int)) (eO v0 v1 v2 v3 v4 (.val (.int (w : Int))) v6 v7 v8 v9 v11 v14 v15 (byK cs ks []) nm (tRows cs ks w j)) = .ret (.nx, eO v0 v1 v2 v3 v4 (.val (.int (w : Int))) v6 v7' v8 v9' v11 v14' v15' (byK cs ks []) nm' (tRows cs ks w (j + n)))
  | 0, j, nm, v7, v9, v14, v15, _, hm, h => ⟨nm, v7, v9, v14, v15, hm, rfl⟩
  | n + 1, j, nm, v7, v9, v14, v15, hj, hm, h => by
    obtain ⟨nm1, w7, w14, w15, i1, im, i2⟩ := out_step (v0 := v0) (v1 := v1) (v2 := v2) (v3 := v3) (v4 := v4) (v6 := v6) (v8 := v8) (v11 := v11) (v7 := v7) (v14 := v14) (v15 := v15) hn h1 h2 hl hk hw (by omega) h
    have hnext : NI cs ks nm1 (((j + 1 : Nat) : Int), 0) := by
      refine ⟨?_, fun k hk' h3 => ?_⟩
      · rw [i1.len, show ((j + 1 : Nat) : Int) = (j : Int) + 1 by omega, cnt_row hb]
      · have := i1.old k hk' h3
        rw [ltP_iff] at this ⊢
        have h4 : (cAt cs k).2 < (j : Int) ∨ ((cAt cs k).2 = (j : Int) ∧ (cAt cs k).1 < (w : Int)) := this
        exact .inl (by show (cAt cs k).2 < ((j + 1 : Nat) : Int); omega)
    obtain ⟨nm2, z7, z9, z14, z15, jm, j1⟩ := out_go hn h1 h2 hl hk hw hb n (j + 1) nm1 w7 (.val (.int (j : Int))) w14 w15 (by omega) im hnext
    refine ⟨nm2, z7, z9, z14, z15, jm, ?_⟩
    rw [List.range'_succ, List.map_cons]
    rw [forGo_eq (e1 := eO v0 v1 v2 v3 v4 (.val (.int (w : Int))) v6 v7 v8 (.val (.int (j : Int))) v11 v14 v15 (byK cs ks []) nm (tRows cs ks w j)) rfl i2, show j + (n + 1) = j + 1 + n by omega]
    exact j1
end
end DL
set_option Elab.async false
set_option linter.all false
set_option maxRecDepth 100000
set_option autoImplicit false
set_option maxHeartbeats 400000
namespace DL
open PySem L2 TL
/-! ### the tiling's text -/
def tlL (cs : List (Int × Int)) (ks : List Nat) (w t : Nat) : List Nat := (List.range t).flatMap fun (j : Nat) => tRow cs ks w (j : Int) ++ [10]
theorem tRow_len {cs : List (Int × Int)} {ks : List Nat} {w : Nat} {y : Int} : (SS (tRow cs ks w y)).length = w := by rw [len_SS]; simp [tRow]
theorem tl_join' {cs : List (Int × Int)} {ks : List Nat} {w t : Nat} (hw : w ≤ 200) (ht : t ≤ 200) : dJoin "" (.lst ((List.range t).map fun (j : Nat) => D.str (SS (tRow cs ks w (j : Int)) ++ "\n"))) = some (.str (SS (tlL cs ks w t))) := by
  have e : ((List.range t).map fun (j : Nat) => D.str (SS (tRow cs ks w (j : Int)) ++ "\n")) = ((List.range t).map fun (j : Nat) => SS (tRow cs ks w (j : Int)) ++ "\n").map D.str := by rw [List.map_map]; rfl
  rw [e, dJoin_strs]
  · congr 2
    refine ext_tl ?_
    rw [tl_join0, List.map_map]
    show _ = tlL cs ks w t
    unfold tlL
    induction List.range t with
    | nil => rfl
    | cons i r ih =>
      rw [List.map_cons, List.flatten_cons, ih, List.flatMap_cons]
      congr 1
      show tl (SS (tRow cs ks w (i : Int)) ++ "\n") = _
      rw [tl_append, nl_tl]; rfl
  · have := sum_le (ys := (List.range t).map fun (j : Nat) => SS (tRow cs ks w (j : Int)) ++ "\n") (n := w + 1) (fun z hz => by
      obtain ⟨i, _, rfl⟩ := List.mem_map.mp hz
      rw [len_tl, tl_append, List.length_append, nl_tl, ← len_tl, tRow_len]
      exact Nat.le_refl _)
    rw [List.length_map, List.length_range] at this
    have h0 : (("" : Str)).length = 0 := rfl
    rw [h0]
    have h1 : t * (w + 1) ≤ 200 * 201 := Nat.mul_le_mul ht (by omega)
    rw [List.length_map, List.length_range]
    omega
end DL
set_option Elab.async false
set_option linter.all false
set_option maxRecDepth 100000
set_option autoImplicit false
set_option maxHeartbeats 400000
namespace DL
open PySem L2 TL
theorem sPar_eq {i j : Nat} {f g : MD} {e e1 e2 : Env} {x y : D} (hf : f e = .ret (x, e1)) (hg : g e1 = .ret (y, e2)) : sPar i j (mCons f (mCons g mNil)) e = .ret (.nx, (e2.set i (.val x)).set j (.val y)) := by
  show T.bind (T.bind (f e) _) _ = _
  rw [hf]
  show T.bind (T.bind (T.bind (g e1) _) _) _ = _
  rw [hg]; rfl
theorem m2_eq' {g : D → D → Option D} {f h : MD} {e e1 e2 : Env} {x y z : D} (hf : f e = .ret (x, e1)) (hh : h e1 = .ret (y, e2)) (hg : g x y = some z) : m2 g f h e = .ret (z, e2) := by
  show T.bind (f e) _ = _
  rw [hf]
  show T.bind (h e1) _ = _
  rw [hh]
  show T.bind (T.of (g x y)) _ = _
  rw [hg]; rfl
theorem sFor_eq {fi : ML} {g : MG} {body : MS} {e e1 : Env} {ds : List D} {r : T (Fl × Env)} (hf : fi e = .ret (ds, e1)) (h : forGo g body ds e1 = r) : sFor fi g body e = r := by
  show T.bind (fi e) _ = _
  rw [hf]
  exact h
theorem sTwo_eq {i j : Nat} {f g : MD} {e e1 e2 : Env} {x y : D} (hf : f e = .ret (x, e1)) (hg : g e1 = .ret (y, e2)) : sTwo i j f g e = .ret (.nx, (e2.set i (.mut x)).set j (.mut y)) := by
  show T.bind (f e) _ = _
  rw [hf]
  show T.bind (g e1) _ = _
  rw [hg]; rfl
theorem tiling_eval {cs : List (Int × Int)} {ks : List Nat} (h : Inv 5 cs) (hne : cs ≠ []) (hs : ks.Sublist (List.range cs.length)) : f_tiling_text [.tup (cs.map pD), .tup (cs.map plD), .tup (ks.map fun (k : Nat) => D.int (k : Int))] = .ret (.str (SS (tlL cs ks (wOf cs) (tOf cs)))) := by
  have hf := h.fits (Nat.le_refl 5)
  obtain ⟨a1, a2, a3, a4, p, hp, a5⟩ := max_fst hne hf
  obtain ⟨b1, b2, b3, b4, q, hq, b5⟩ := max_snd hne hf
  have hw5 : wOf cs ≤ 5 := by have := h.bd p hp; omega
  have ht5 : tOf cs ≤ 5 := by have := h.bd q hq; omega
  have hl : cs.length ≤ 25 := h.len
  have hkl : ks.length ≤ 25 := by have := hs.length_le; rw [List.length_range] at this; omega
  have hkn : ks.Nodup := hs.nodup List.nodup_range
  have hk2 : ∀ k ∈ ks, k < cs.length := fun k hk => List.mem_range.mp (hs.subset hk)
  have hin : ∀ k ∈ ks, cAt cs k ∈ cs := fun k hk => by
    unfold cAt
    rw [List.getElem?_eq_getElem (hk2 k hk)]
    exact List.getElem_mem (hk2 k hk)
  have hz := size_big hf.len
  have ni : NI cs ks [] (((0 : Nat) : Int), 0) := ⟨(cnt_zero fun k hk => by have := h.bd _ (hin k hk); omega).symm, fun k _ z => by cases z⟩
  obtain ⟨v11, hby⟩ := by_go (v0 := .val (.tup (cs.map pD))) (v2 := .val (.tup (ks.map fun (k : Nat) => D.int (k : Int)))) (v3 := .val (.lst (cs.map pD))) (v5 := .val (.int (wOf cs : Nat))) (v6 := .val (.int (tOf cs : Nat))) (R := [.un, .un, .un, .un]) hl ks [] .un hk2 (by simp; omega)
  obtain ⟨nm, v7, v9, v14, v15, hm14, hgo⟩ := out_go (v0 := .val (.tup (cs.map pD))) (v1 := .val (.tup (cs.map plD))) (v2 := .val (.tup (ks.map fun (k : Nat) => D.int (k : Int)))) (v3 := .val (.lst (cs.map pD))) (v4 := .un) (v6 := .val (.int (tOf cs : Nat))) (v8 := .un) (v11 := v11) (w := wOf cs) h.nodup hkn hk2 hl hkl (by omega) (fun k hk => ⟨(h.bd _ (hin k hk)).1, a4 _ (hin k hk)⟩) (tOf cs) 0 [] .un .un .un .un (by omega) rfl ni
  refine mFn_eq (e' := [.val (.tup (cs.map pD)), .val (.tup (cs.map plD)), .val (.tup (ks.map fun (k : Nat) => D.int (k : Int))), .val (.lst (cs.map pD)), .un, .val (.int (wOf cs : Nat)), .val (.int (tOf cs : Nat)), v7, .un, v9, .mut (.dct true (byK cs ks [])), v11, .mut (.dct false nm), .val (.lst (tRows cs ks (wOf cs) (tOf cs))), v14, v15]) rfl ?_
  show m_tiling_text [.val (.tup (cs.map pD)), .val (.tup (cs.map plD)), .val (.tup (ks.map fun (k : Nat) => D.int (k : Int))), .un, .un, .un, .un, .un, .un, .un, .un, .un, .un, .un, .un, .un] = _
  unfold m_tiling_text
  have c1 : mOr (mTest isBl (m2 dGt (mS dLenA (mCons (mVar 2) mNil)) (mC (.int 26)))) (mNot (mTruN 0)) [.val (.tup (cs.map pD)), .val (.tup (cs.map plD)), .val (.tup (ks.map fun (k : Nat) => D.int (k : Int))), .un, .un, .un, .un, .un, .un, .un, .un, .un, .un, .un, .un, .un] = .ret (false || false, [.val (.tup (cs.map pD)), .val (.tup (cs.map plD)), .val (.tup (ks.map fun (k : Nat) => D.int (k : Int))), .un, .un, .un, .un, .un, .un, .un, .un, .un, .un, .un, .un, .un]) := by
    refine mOr_eq (test_eq (x := .bl false) (m2_eq (x := .int (ks.length : Int)) (y := .int 26) (mS1_eq (x := .tup (ks.map fun (k : Nat) => D.int (k : Int))) rfl (by show some (D.int ((ks.map fun (k : Nat) => D.int (k : Int)).length : Int)) = _; rw [List.length_map])) rfl (by
      show some (D.bl (decide ((26 : Int) < (ks.length : Int)))) = _
      rw [decide_eq_false (by omega)])) rfl) fun _ => ?_
    cases cs with
    | nil => exact absurd rfl hne
    | cons a r => rfl
  rw [seq_eq (sIf_nx c1 rfl)]
  rw [seq_eq (sSetM_eq (i := 3) (x := .lst (cs.map pD)) (mLc_map (ι := Int × Int) (f := pD) (φ := pD) (xs := cs) rfl rfl (fun p _ => ⟨_, _, rfl, mS1_eq rfl rfl, by rfl⟩) hz))]
  show sSeq _ _ [.val (.tup (cs.map pD)), .val (.tup (cs.map plD)), .val (.tup (ks.map fun (k : Nat) => D.int (k : Int))), .mut (.lst (cs.map pD)), .un, .un, .un, .un, .un, .un, .un, .un, .un, .un, .un, .un] = _
  rw [seq_eq (sPar_eq (x := .int (wOf cs : Nat)) (y := .int (tOf cs : Nat)) (e1 := [.val (.tup (cs.map pD)), .val (.tup (cs.map plD)), .val (.tup (ks.map fun (k : Nat) => D.int (k : Int))), .val (.lst (cs.map pD)), .un, .un, .un, .un, .un, .un, .un, .un, .un, .un, .un, .un]) (e2 := [.val (.tup (cs.map pD)), .val (.tup (cs.map plD)), .val (.tup (ks.map fun (k : Nat) => D.int (k : Int))), .val (.lst (cs.map pD)), .un, .un, .un, .un, .un, .un, .un, .un, .un, .un, .un, .un])
    (m2_eq' (mS1_eq' (mLc_map (ι := Int × Int) (f := pD) (φ := fun p => D.int p.1) (xs := cs) (e := [.val (.tup (cs.map pD)), .val (.tup (cs.map plD)), .val (.tup (ks.map fun (k : Nat) => D.int (k : Int))), .val (.lst (cs.map pD)), .un, .un, .un, .un, .un, .un, .un, .un, .un, .un, .un, .un]) rfl rfl (fun p _ => ⟨_, _, rfl, rfl, (by rfl)⟩) hz) a1) rfl (show some (D.int ((wOf cs : Nat) - 1 + 1 : Int)) = _ by rw [Int.sub_add_cancel]))
    (m2_eq' (mS1_eq' (mLc_map (ι := Int × Int) (f := pD) (φ := fun p => D.int p.2) (xs := cs) (e := [.val (.tup (cs.map pD)), .val (.tup (cs.map plD)), .val (.tup (ks.map fun (k : Nat) => D.int (k : Int))), .val (.lst (cs.map pD)), .un, .un, .un, .un, .un, .un, .un, .un, .un, .un, .un, .un]) rfl rfl (fun p _ => ⟨_, _, rfl, rfl, (by rfl)⟩) hz) b1) rfl (show some (D.int ((tOf cs : Nat) - 1 + 1 : Int)) = _ by rw [Int.sub_add_cancel])))]
  show sSeq _ _ [.val (.tup (cs.map pD)), .val (.tup (cs.map plD)), .val (.tup (ks.map fun (k : Nat) => D.int (k : Int))), .val (.lst (cs.map pD)), .un, .val (.int (wOf cs : Nat)), .val (.int (tOf cs : Nat)), .un, .un, .un, .un, .un, .un, .un, .un, .un] = _
  rw [seq_eq (sSetM_eq (i := 10) (x := .dct true []) rfl)]
  show sSeq _ _ [.val (.tup (cs.map pD)), .val (.tup (cs.map plD)), .val (.tup (ks.map fun (k : Nat) => D.int (k : Int))), .val (.lst (cs.map pD)), .un, .val (.int (wOf cs : Nat)), .val (.int (tOf cs : Nat)), .un, .un, .un, .mut (.dct true []), .un, .un, .un, .un, .un] = _
  rw [seq_eq (sFor_eq (ds := ks.map fun (k : Nat) => D.int (k : Int)) rfl hby)]
  rw [seq_eq (sTwo_eq (i := 12) (j := 13) (x := .dct false []) (y := .lst []) rfl mLst_nil)]
  show sSeq _ _ (eO (.val (.tup (cs.map pD))) (.val (.tup (cs.map plD))) (.val (.tup (ks.map fun (k : Nat) => D.int (k : Int)))) (.val (.lst (cs.map pD))) .un (.val (.int (wOf cs : Nat))) (.val (.int (tOf cs : Nat))) .un .un .un v11 .un .un (byK cs ks []) [] (tRows cs ks (wOf cs) 0)) = _
  rw [← List.range_eq_range'] at hgo
  rw [seq_eq (sFor_eq (iOf_eq (ds := [.int (tOf cs : Nat)]) rfl (rng1_ok (by omega))) hgo)]
  rw [Nat.zero_add]
  show sRet _ [.val (.tup (cs.map pD)), .val (.tup (cs.map plD)), .val (.tup (ks.map fun (k : Nat) => D.int (k : Int))), .val (.lst (cs.map pD)), .un, .val (.int (wOf cs : Nat)), .val (.int (tOf cs : Nat)), v7, .un, v9, .mut (.dct true (byK cs ks [])), v11, .mut (.dct false nm), .mut (.lst (tRows cs ks (wOf cs) (tOf cs))), v14, v15] = _
  exact sRet_eq' (mSM1_eq rfl (mLc_map (ι := Nat) (f := fun j => D.str (SS (tRow cs ks (wOf cs) (j : Int)))) (φ := fun j => D.str (SS (tRow cs ks (wOf cs) (j : Int)) ++ "\n")) (xs := List.range (tOf cs)) (e := [.val (.tup (cs.map pD)), .val (.tup (cs.map plD)), .val (.tup (ks.map fun (k : Nat) => D.int (k : Int))), .val (.lst (cs.map pD)), .un, .val (.int (wOf cs : Nat)), .val (.int (tOf cs : Nat)), v7, .un, v9, .mut (.dct true (byK cs ks [])), v11, .mut (.dct false nm), .val (.lst (tRows cs ks (wOf cs) (tOf cs))), v14, v15]) (by rfl) (show ((!isMut v14) && true) = true by rw [hm14]; rfl) (fun j _ => ⟨_, _, rfl, m2_eq rfl rfl (by
    show (if (SS (tRow cs ks (wOf cs) (j : Int))).length + (Str.ofString "\n").length ≤ sizeLine then _ else _) = _
    rw [if_pos (by rw [tRow_len, sizeLine_eq]; show wOf cs + 1 ≤ _; omega)]), (by rfl)⟩) (by rw [List.length_range]; exact size_big (by omega))) (tl_join' (by omega) (by omega)))
end DL
set_option Elab.async false
set_option linter.all false
set_option maxRecDepth 100000
set_option autoImplicit false
set_option maxHeartbeats 400000
namespace DL
open PySem L2 TL
/-! ### the law's names and lines -/
def nmK (O : List (Int × Int)) (n : Nat) : List (D × D) := (List.range n).foldl (fun a k => fPut tk a (pD (cAt O k)) (pK (cAt O k)) (sgn (ltr k))) []
theorem nmK_succ {O : List (Int × Int)} {n : Nat} : nmK O (n + 1) = fPut tk (nmK O n) (pD (cAt O n)) (pK (cAt O n)) (sgn (ltr n)) := by
  unfold nmK
  rw [List.range_succ, List.foldl_append]; rfl
theorem nmK_find {O : List (Int × Int)} (hn : O.Nodup) (z : Int × Int) : ∀ n : Nat, n ≤ O.length → (∀ i, i < n → cAt O i = z → fFind tk (nmK O n) (pK z) = some (sgn (ltr i))) ∧ ((∀ i, i < n → cAt O i ≠ z) → fFind tk (nmK O n) (pK z) = none)
  | 0, _ => ⟨fun i hi => absurd hi (Nat.not_lt_zero i), fun _ => rfl⟩
  | n + 1, hl => by
    obtain ⟨h1, h2⟩ := nmK_find hn z n (by omega)
    rw [nmK_succ]
    constructor
    · intro i hi e
      rw [fFind_put (tk_pD _)]
      by_cases hq : z = cAt O n
      · rw [if_pos (by rw [hq])]
        have := cAt_inj hn (show i < O.length by omega) (show n < O.length by omega) (e.trans hq)
        rw [this]
      · rw [if_neg (fun w => hq (pK_inj w))]
        refine h1 i ?_ e
        have : i ≠ n := fun w => hq (by rw [← e, w])
        omega
    · intro h
      rw [fFind_put (tk_pD _), if_neg (fun w => h n (by omega) (pK_inj w).symm)]
      exact h2 fun i hi => h i (by omega)
theorem cAt_get {O : List (Int × Int)} {i : Nat} (h : i < O.length) : O[i]? = some (cAt O i) := by
  unfold cAt
  rw [List.getElem?_eq_getElem h]; rfl
theorem mapM_pairs (O : List (Int × Int)) : ∀ l : List Nat, (l.map fun k => D.tup [pD (cAt O k), sgn (ltr k)]).mapM asPair = some (l.map fun k => (pD (cAt O k), sgn (ltr k)))
  | [] => rfl
  | k :: r => by
    rw [List.map_cons, List.mapM_cons, mapM_pairs O r]; rfl
theorem fold_names (O : List (Int × Int)) : ∀ (l : List Nat) (acc : List (D × D)), dMerge true acc (l.map fun k => (pD (cAt O k), sgn (ltr k))) = some (l.foldl (fun a k => fPut tk a (pD (cAt O k)) (pK (cAt O k)) (sgn (ltr k))) acc)
  | [], acc => rfl
  | k :: r, acc => fold_names O r _
theorem names_made (O : List (Int × Int)) : dDict true [.lst ((List.range O.length).map fun k => D.tup [pD (cAt O k), sgn (ltr k)])] = some (.dct true (nmK O O.length)) := by
  show ((((List.range O.length).map fun k => D.tup [pD (cAt O k), sgn (ltr k)]).mapM asPair).bind fun kvs => dMerge true [] kvs).map (fun m => D.dct true m) = _
  rw [mapM_pairs]
  show (dMerge true [] _).map _ = _
  rw [fold_names]; rfl
theorem ordL_len (cs : List (Int × Int)) (ks : List Nat) : (ordL cs ks).length = ks.length := by
  unfold ordL
  rw [(srt_perm _).length_eq, List.length_map]
theorem ordL_mem {cs : List (Int × Int)} {ks : List Nat} {z : Int × Int} : z ∈ ordL cs ks ↔ ∃ k ∈ ks, sw (cAt cs k) = z := by
  unfold ordL
  rw [srt_mem, List.mem_map]
/-- a sign of the law is a sign of the tiling's text -/
theorem sign_of {cs : List (Int × Int)} (hn : cs.Nodup) {ks : List Nat} (h1 : ks.Nodup) (h2 : ∀ k ∈ ks, k < cs.length) {x y : Int} : ((fFind tk (nmK (ordL cs ks) (ordL cs ks).length) (pK (y, x))).getD (.str ".")) = sgn (tS cs ks (x, y)) := by
  have hO : (ordL cs ks).Nodup := by
    rw [List.nodup_iff_pairwise_ne]
    refine (ordL_strict hn h1 h2).imp fun {a b} h e => ?_
    rw [e, ltP_iff] at h
    omega
  obtain ⟨f1, f2⟩ := nmK_find hO (y, x) _ (Nat.le_refl _)
  cases hk : kOf cs ks (x, y) with
  | none =>
    have hno := cnt_none.mp hk
    rw [f2 fun i hi e => ?_]
    · unfold tS
      rw [hk]; rfl
    · have hm : (y, x) ∈ ordL cs ks := by rw [← e]; exact List.mem_of_getElem? (cAt_get hi)
      obtain ⟨k, hk1, hk2⟩ := ordL_mem.mp hm
      exact hno k hk1 (sw_inj hk2)
  | some k =>
    have e1 := List.mem_of_find?_eq_some hk
    have e0 : decide (cAt cs k = (x, y)) = true := List.find?_some (p := fun k => decide (cAt cs k = (x, y))) hk
    have e2 := of_decide_eq_true e0
    have hm : (y, x) ∈ ordL cs ks := ordL_mem.mpr ⟨k, e1, by rw [e2]; rfl⟩
    obtain ⟨i, hi, he⟩ := List.mem_iff_getElem.mp hm
    have hg : (ordL cs ks)[i]? = some (y, x) := by rw [List.getElem?_eq_getElem hi, he]
    have hc := ordL_place hn h1 h2 hg
    have ha : cAt (ordL cs ks) i = (y, x) := by unfold cAt; rw [hg]; rfl
    rw [f1 i hi ha]
    unfold tS
    rw [hk, show sw (x, y) = (y, x) from rfl, hc]; rfl
/-- signs joined -/
theorem join_sgn {l : List Nat} (h : l.length ≤ 1000) : dJoin "" (.lst (l.map sgn)) = some (.str (SS l)) := by
  have e : l.map sgn = (l.map fun c => (⟨#[c]⟩ : Str)).map D.str := by rw [List.map_map]; rfl
  rw [e, dJoin_strs]
  · congr 2
    refine ext_tl ?_
    rw [tl_join0, List.map_map, tl_SS]
    clear e h
    induction l with
    | nil => rfl
    | cons a r ih =>
      rw [List.map_cons, List.flatten_cons, ih]; rfl
  · have := sum_le (ys := l.map fun c => (⟨#[c]⟩ : Str)) (n := 1) (fun z hz => by
      obtain ⟨c, _, rfl⟩ := List.mem_map.mp hz
      exact Nat.le_refl 1)
    rw [List.length_map] at this ⊢
    have h0 : (("" : Str)).length = 0 := rfl
    rw [h0]
    omega
def tlRows (cs : List (Int × Int)) (ks : List Nat) (w t : Nat) : List (List Nat) := (List.range t).map fun (j : Nat) => tRow cs ks w (j : Int)
theorem tlRows_no {cs : List (Int × Int)} {ks : List Nat} {w t : Nat} : ∀ p ∈ tlRows cs ks w t, 10 ∉ p := by
  intro p hp h
  obtain ⟨j, _, rfl⟩ := List.mem_map.mp hp
  obtain ⟨i, _, e⟩ := List.mem_map.mp h
  unfold tS ltr at e
  split at e <;> omega
theorem lines_of {cs : List (Int × Int)} {ks : List Nat} {w t : Nat} : lns (tlL cs ks w t) = tlRows cs ks w t ++ [[]] := by
  refine flat_inj (lns_no _) (fun p hp => ?_) ?_
  · rcases List.mem_append.mp hp with hp | hp
    · exact tlRows_no p hp
    · rw [List.mem_singleton.mp hp]; simp
  · rw [lns_flat, List.flatMap_append]
    unfold tlL tlRows
    rw [List.flatMap_map]; rfl
theorem tlL_len {cs : List (Int × Int)} {ks : List Nat} {w t : Nat} (hw : w ≤ 5) (ht : t ≤ 5) : (tlL cs ks w t).length ≤ 150 := by
  have hsum : ∀ l : List Nat, (l.flatMap fun (j : Nat) => tRow cs ks w (j : Int) ++ [10]).length = l.length * (w + 1) := by
    intro l
    induction l with
    | nil => simp
    | cons a r ih =>
      have hw' : (tRow cs ks w (a : Int)).length = w := by simp [tRow]
      rw [List.flatMap_cons, List.length_append, ih, List.length_append, hw', List.length_cons (as := r), Nat.succ_mul, List.length_singleton]
      omega
  unfold tlL
  rw [hsum, List.length_range]
  have := Nat.mul_le_mul ht (show w + 1 ≤ 6 by omega)
  omega
theorem told_split {cs : List (Int × Int)} {ks : List Nat} {w t : Nat} (hw : w ≤ 5) (ht : t ≤ 5) : dSplit (SS (tlL cs ks w t)) (.str "\n") = some (rowsD (tlRows cs ks w t ++ [[]])) := by
  rw [split_rows (tlL_len hw ht), lines_of]
theorem told_row {cs : List (Int × Int)} {ks : List Nat} {w t j : Nat} (hj : j < t) : dIxA (rowsD (tlRows cs ks w t ++ [[]])) (.int (j : Int)) = some (.str (SS (tRow cs ks w (j : Int)))) := by
  refine ix_lst ?_
  rw [List.getElem?_map, List.getElem?_append_left (by simpa [tlRows] using hj)]
  unfold tlRows
  rw [List.getElem?_map, List.getElem?_range hj]; rfl
theorem told_len {cs : List (Int × Int)} {ks : List Nat} {w t : Nat} : dLenA [rowsD (tlRows cs ks w t ++ [[]])] = some (.int ((t + 1 : Nat) : Int)) := by
  show some (D.int (((tlRows cs ks w t ++ [[]]).map fun p => D.str (SS p)).length : Int)) = _
  rw [List.length_map, List.length_append]
  unfold tlRows
  rw [List.length_map, List.length_range]; rfl
end DL
set_option Elab.async false
set_option linter.all false
set_option maxRecDepth 100000
set_option autoImplicit false
set_option maxHeartbeats 400000
namespace DL
open PySem L2 TL
/-! ### the law's look at the tiling's text -/
structure FX where
  (v0 v2 v3 v5 v7 v8 v9 v10 v11 v12 v14 v15 v17 : Sl)
abbrev eL (X : FX) (cs : List (Int × Int)) (v6 v13 v20 v22 v23 v24 v25 : Sl) : Env := X.v0 :: .val .tape :: X.v2 :: X.v3 :: .val (.tup (cs.map pD)) :: X.v5 :: v6 :: X.v7 :: X.v8 :: X.v9 :: X.v10 :: X.v11 :: X.v12 :: v13 :: X.v14 :: X.v15 :: .un :: X.v17 :: .un :: .un :: v20 :: .un :: v22 :: v23 :: v24 :: v25 :: .un :: []
theorem cell_ix {cs : List (Int × Int)} {k : Nat} (hk : k < cs.length) : dIxA (.tup (cs.map pD)) (.int (k : Int)) = some (pD (cAt cs k)) := by
  show L2.atI (cs.map pD) (k : Int) = _
  exact L2.atI_nat (by rw [List.getElem?_map, cAt_get hk]; rfl)
theorem pD_0 {p : Int × Int} : dIxA (pD p) (.int 0) = some (.int p.1) := by
  show L2.atI [D.int p.1, .int p.2] ((0 : Nat) : Int) = _
  exact L2.atI_nat rfl
theorem pD_1 {p : Int × Int} : dIxA (pD p) (.int 1) = some (.int p.2) := by
  show L2.atI [D.int p.1, .int p.2] ((1 : Nat) : Int) = _
  exact L2.atI_nat rfl
theorem mGet2_eq {i : Nat} {f g : MD} {e : Env} {t : Bool} {ds : List (D × D)} {own : Bool} {k z : D} {o : Option D} (hp : peekE e i = some (.dct t ds, own)) (hf : f e = .ret (k, e)) (hg : g e = .ret (z, e)) (ho : dFind t ds k = some o) : mGet2 i f g e = .ret (o.getD z, e) := by
  unfold mGet2
  rw [hp]
  show (f e).bind _ = _
  rw [hf]
  show (g e).bind _ = _
  rw [hg]
  show (match peekE e i with | some (.dct t ds, _) => _ | _ => _) = _
  rw [hp]
  show (T.of (dFind t ds k)).bind _ = _
  rw [ho]; rfl
noncomputable abbrev ordC : MD := (mS dSorted (mCons (mLc [18] (iAny (mVar 22)) (gSet 18) mYes (mTuple (mCons (m2 dIxA (m2 dIxA (mVar 4) (mVar 18)) (mC (.int 1))) (mCons (m2 dIxA (m2 dIxA (mVar 4) (mVar 18)) (mC (.int 0))) mNil)))) mNil))
noncomputable abbrev namC : MD := (mS (dDict true) (mCons (mLc [18] (iOf rng1 (mCons (mS dLenA (mCons (mVar 23) mNil)) mNil)) (gSet 18) mYes (mTuple (mCons (m2 dIxA (mVar 23) (mVar 18)) (mCons (m2 dIxA (mC (.str "abcdefghijklmnopqrstuvwxyz")) (mVar 18)) mNil)))) mNil))
noncomputable abbrev rowB : MS := (sIf (mTest isBl (m2 dNe (m2 dIxA (mVar 25) (mVar 6)) (mSM1 dJoin (mC (.str "")) (mLc [5] (iOf rng1 (mCons (m2 dAdd (mS dMax (mCons (mLc [19, 26] (iAny (mVar 4)) (gTupD 2 (gsCons (gSet 19) (gsCons (gSet 26) gsNil))) mYes (mVar 19)) mNil)) (mC (.int 1))) mNil)) (gSet 5) mYes (mGet2 24 (mTuple (mCons (mVar 6) (mCons (mVar 5) mNil))) (mC (.str "."))))))) (sRet (mC (.bl false))) sNext)
section
variable {X : FX} {cs : List (Int × Int)} {ks : List Nat} {v6 v13 v20 v22 v23 v24 v25 : Sl}
theorem ord_eval (hl : cs.length ≤ 25) (hkl : ks.length ≤ 25) (h2 : ∀ k ∈ ks, k < cs.length) : ordC (eL X cs v6 v13 v20 (.val (.tup (ks.map fun (k : Nat) => D.int (k : Int)))) v23 v24 v25) = .ret (.lst ((ordL cs ks).map pD), eL X cs v6 v13 v20 (.val (.tup (ks.map fun (k : Nat) => D.int (k : Int)))) v23 v24 v25) := by
  refine mS1_eq (mLc_map (ι := Nat) (f := fun (k : Nat) => D.int (k : Int)) (φ := fun k => pD (sw (cAt cs k))) (xs := ks) rfl rfl (fun k hk => ⟨_, _, rfl, mTuple_eq (mCons_eq (m2_eq (m2_eq rfl rfl (cell_ix (h2 k hk))) rfl pD_1) (mCons_eq (m2_eq (m2_eq rfl rfl (cell_ix (h2 k hk))) rfl pD_0) rfl)) (size_small (by simp)), by rfl⟩) (size_big (by omega))) ?_
  rw [show (ks.map fun k => pD (sw (cAt cs k))) = (ks.map fun k => sw (cAt cs k)).map pD by rw [List.map_map]; rfl]
  exact dSorted_pD _
theorem ix_ord {O : List (Int × Int)} {k : Nat} (hk : k < O.length) : dIxA (.lst (O.map pD)) (.int (k : Int)) = some (pD (cAt O k)) := ix_lst (by rw [List.getElem?_map, cAt_get hk]; rfl)
theorem nam_eval {O : List (Int × Int)} (hO : O.length ≤ 25) : namC (eL X cs v6 v13 v20 v22 (.val (.lst (O.map pD))) v24 v25) = .ret (.dct true (nmK O O.length), eL X cs v6 v13 v20 v22 (.val (.lst (O.map pD))) v24 v25) := by
  refine mS1_eq (mLc_map (ι := Nat) (f := fun (k : Nat) => D.int (k : Int)) (φ := fun k => D.tup [pD (cAt O k), sgn (ltr k)]) (xs := List.range O.length) (iOf_eq (ds := [.int (O.length : Int)]) (mCons_eq (mS1_eq (x := .lst (O.map pD)) rfl (by show some (D.int ((O.map pD).length : Int)) = _; rw [List.length_map])) rfl) (rng1_ok (by omega))) rfl (fun k hk => ?_) (by rw [List.length_range]; exact size_big (by omega))) (names_made O)
  have hk' := List.mem_range.mp hk
  exact ⟨_, _, rfl, mTuple_eq (mCons_eq (m2_eq rfl rfl (ix_ord hk')) (mCons_eq (m2_eq rfl rfl (letters_ix (by omega))) rfl)) (size_small (by simp)), by rfl⟩
theorem get_sign (h : Inv 5 cs) (h1 : ks.Nodup) (h2 : ∀ k ∈ ks, k < cs.length) {i j : Nat} (h6 : v6 = .val (.int (j : Int))) (h5 : X.v5 = .val (.int (i : Int))) (h24 : v24 = .val (.dct true (nmK (ordL cs ks) (ordL cs ks).length))) : mGet2 24 (mTuple (mCons (mVar 6) (mCons (mVar 5) mNil))) (mC (.str ".")) (eL X cs v6 v13 v20 v22 v23 v24 v25) = .ret (sgn (tS cs ks ((i : Int), (j : Int))), eL X cs v6 v13 v20 v22 v23 v24 v25) := by
  obtain ⟨x0, x2, x3, x5, x7, x8, x9, x10, x11, x12, x14, x15, x17⟩ := X
  have h5' : x5 = .val (.int (i : Int)) := h5
  subst h6 h5' h24
  rw [← sign_of h.nodup h1 h2]
  exact mGet2_eq (t := true) (ds := nmK (ordL cs ks) (ordL cs ks).length) (k := pD ((j : Int), (i : Int))) (z := .str ".") (o := fFind tk (nmK (ordL cs ks) (ordL cs ks).length) (pK ((j : Int), (i : Int)))) (e := eL ⟨x0, x2, x3, .val (.int (i : Int)), x7, x8, x9, x10, x11, x12, x14, x15, x17⟩ cs (.val (.int (j : Int))) v13 v20 v22 v23 (.val (.dct true (nmK (ordL cs ks) (ordL cs ks).length))) v25) (own := false) rfl (mTuple_eq (xs := [.int (j : Int), .int (i : Int)]) (mCons_eq rfl (mCons_eq rfl rfl)) (size_small (by simp))) rfl rfl
theorem row_ok (h : Inv 5 cs) (hne : cs ≠ []) (h5 : isMut X.v5 = false) (h1 : ks.Nodup) (h2 : ∀ k ∈ ks, k < cs.length) {j : Nat} (hj : j < tOf cs) (hw5 : wOf cs ≤ 5) : rowB (eL X cs (.val (.int (j : Int))) v13 v20 v22 v23 (.val (.dct true (nmK (ordL cs ks) (ordL cs ks).length))) (.val (rowsD (tlRows cs ks (wOf cs) (tOf cs) ++ [[]])))) = .ret (.nx, eL X cs (.val (.int (j : Int))) v13 v20 v22 v23 (.val (.dct true (nmK (ordL cs ks) (ordL cs ks).length))) (.val (rowsD (tlRows cs ks (wOf cs) (tOf cs) ++ [[]])))) := by
  have hf := h.fits (Nat.le_refl 5)
  obtain ⟨a1, _, _, _, _⟩ := max_fst hne hf
  have hl : cs.length ≤ 25 := h.len
  generalize hy : D.int (j : Int) = dj
  refine sIf_nx (b := false) (test_eq (x := .bl false) (m2_eq (x := .str (SS (tRow cs ks (wOf cs) (j : Int)))) (y := .str (SS (tRow cs ks (wOf cs) (j : Int)))) (m2_eq rfl rfl (by subst hy; exact told_row hj)) (mSM1_eq rfl (mLc_map (ι := Nat) (f := fun (i : Nat) => D.int (i : Int)) (φ := fun i => sgn (tS cs ks ((i : Int), (j : Int)))) (xs := List.range (wOf cs))
    (iOf_eq (ds := [.int (wOf cs : Nat)]) (mCons_eq (m2_eq (mS1_eq (mLc_map (ι := Int × Int) (f := pD) (φ := fun p => D.int p.1) (xs := cs) rfl rfl (fun p _ => ⟨_, _, rfl, rfl, (by rfl)⟩) (size_big (by omega))) a1) rfl (show some (D.int ((wOf cs : Nat) - 1 + 1 : Int)) = _ by rw [Int.sub_add_cancel])) rfl) (rng1_ok (by omega)))
    (show ((!isMut X.v5) && true) = true by rw [h5]; rfl) (fun i _ => ⟨_, eL ⟨X.v0, X.v2, X.v3, .val (.int (i : Int)), X.v7, X.v8, X.v9, X.v10, X.v11, X.v12, X.v14, X.v15, X.v17⟩ cs (.val dj) v13 v20 v22 v23 (.val (.dct true (nmK (ordL cs ks) (ordL cs ks).length))) (.val (rowsD (tlRows cs ks (wOf cs) (tOf cs) ++ [[]]))), rfl, get_sign (X := ⟨X.v0, X.v2, X.v3, .val (.int (i : Int)), X.v7, X.v8, X.v9, X.v10, X.v11, X.v12, X.v14, X.v15, X.v17⟩) h h1 h2 (by rw [hy]) rfl rfl, by rfl⟩) (by rw [List.length_range]; exact size_big (by omega))) ?_) (by rw [dNe_str, decide_eq_true rfl]; rfl)) rfl) rfl
  rw [show ((List.range (wOf cs)).map fun (i : Nat) => sgn (tS cs ks ((i : Int), (j : Int)))) = (tRow cs ks (wOf cs) (j : Int)).map sgn by unfold tRow; rw [List.map_map]; rfl]
  exact join_sgn (by simp [tRow]; omega)
theorem rows_go (h : Inv 5 cs) (hne : cs ≠ []) (h5 : isMut X.v5 = false) (h1 : ks.Nodup) (h2 : ∀ k ∈ ks, k < cs.length) (hw5 : wOf cs ≤ 5) : ∀ (n j : Nat) (v6 : Sl), j + n ≤ tOf cs →
    ∃ v6', forGo (gSet 6) rowB ((List.range' j n).map fun (i : Nat) => D.int (i : Int)) (eL X cs v6 v13 v20 v22 v23 (.val (.dct true (nmK (ordL cs ks) (ordL cs ks).length))) (.val (rowsD (tlRows cs ks (wOf cs) (tOf cs) ++ [[]])))) = .ret (.nx, eL X cs v6' v13 v20 v22 v23 (.val (.dct true (nmK (ordL cs ks) (ordL cs ks).length))) (.val (rowsD (tlRows cs ks (wOf cs) (tOf cs) ++ [[]]))))
  | 0, j, v6, _ => ⟨v6, rfl⟩
  | n + 1, j, v6, hj => by
    obtain ⟨w, hw⟩ := rows_go h hne h5 h1 h2 hw5 n (j + 1) (.val (.int (j : Int))) (by omega)
    refine ⟨w, ?_⟩
    rw [List.range'_succ, List.map_cons]
    rw [forGo_eq (e1 := eL X cs (.val (.int (j : Int))) v13 v20 v22 v23 (.val (.dct true (nmK (ordL cs ks) (ordL cs ks).length))) (.val (rowsD (tlRows cs ks (wOf cs) (tOf cs) ++ [[]])))) rfl (row_ok h hne h5 h1 h2 (by omega) hw5)]
    exact hw
noncomputable abbrev lastB : MS := (sIf (mTest isBl (m2 dNe (mS dLenA (mCons (mVar 25) mNil)) (m2 dAdd (mS dMax (mCons (mLc [19, 26] (iAny (mVar 4)) (gTupD 2 (gsCons (gSet 19) (gsCons (gSet 26) gsNil))) mYes (mVar 26)) mNil)) (mC (.int 2))))) (sRet (mC (.bl false))) sNext)
theorem last_ok (h : Inv 5 cs) (hne : cs ≠ []) : lastB (eL X cs v6 v13 v20 v22 v23 v24 (.val (rowsD (tlRows cs ks (wOf cs) (tOf cs) ++ [[]])))) = .ret (.nx, eL X cs v6 v13 v20 v22 v23 v24 (.val (rowsD (tlRows cs ks (wOf cs) (tOf cs) ++ [[]])))) := by
  have hf := h.fits (Nat.le_refl 5)
  obtain ⟨b1, _, _, _, _⟩ := max_snd hne hf
  have hl : cs.length ≤ 25 := h.len
  refine sIf_nx (b := false) (test_eq (x := .bl false) (m2_eq (x := .int ((tOf cs + 1 : Nat) : Int)) (y := .int ((tOf cs + 1 : Nat) : Int)) (mS1_eq rfl told_len) (m2_eq (mS1_eq (mLc_map (ι := Int × Int) (f := pD) (φ := fun p => D.int p.2) (xs := cs) rfl rfl (fun p _ => ⟨_, _, rfl, rfl, (by rfl)⟩) (size_big (by omega))) b1) rfl (show some (D.int ((tOf cs : Nat) - 1 + 2 : Int)) = _ by congr 2; omega)) ?_) rfl) rfl
  show some (D.bl (!decide (((tOf cs + 1 : Nat) : Int) = ((tOf cs + 1 : Nat) : Int)))) = _
  rw [decide_eq_true rfl]; rfl
end
end DL
set_option Elab.async false
set_option linter.all false
set_option maxRecDepth 100000
set_option autoImplicit false
set_option maxHeartbeats 400000
namespace DL
open PySem L2 TL
section
variable {X : FX} {cs : List (Int × Int)} {ks : List Nat} {v6 v13 v20 v22 v23 v24 v25 : Sl}
theorem call3 {g : MF} {b c d : D} (h : g [.tup (cs.map pD), b, c] = .ret d) : mCall g (mCons (mVar 4) (mCons (mVar 20) (mCons (mVar 22) mNil))) (eL X cs v6 v13 (.val b) (.val c) v23 v24 v25) = .ret (d, eL X cs v6 v13 (.val b) (.val c) v23 v24 v25) := mCall_eq (ds := [.tup (cs.map pD), b, c]) rfl h
noncomputable abbrev restS : MS := (sSeq (sAsg (mCall f_tiling_text (mCons (mVar 4) (mCons (mVar 20) (mCons (mVar 22) mNil)))) (gSet 13))
  (sSeq (sAsg ordC (gSet 23))
  (sSeq (sAsg namC (gSet 24))
  (sSeq (sAsg (mSM1 dSplit (mVar 13) (mC (.str "\n"))) (gSet 25))
  (sSeq (sFor (iOf rng1 (mCons (m2 dSub (mS dLenA (mCons (mVar 25) mNil)) (mC (.int 1))) mNil)) (gSet 6) rowB)
  lastB)))))
theorem tile_rest (h : Inv 5 cs) (hne : cs ≠ []) (h5 : isMut X.v5 = false) (hs : ks.Sublist (List.range cs.length)) {E : Str → Env → Prop} :
    WP (restS (eL X cs v6 v13 (.val (.tup (cs.map plD))) (.val (.tup (ks.map fun (k : Nat) => D.int (k : Int)))) v23 v24 v25)) (fun r => r.1 = .nx) E := by
  have hf := h.fits (Nat.le_refl 5)
  obtain ⟨a1, a2, a3, a4, p, hp, a5⟩ := max_fst hne hf
  obtain ⟨b1, b2, b3, b4, q, hq, b5⟩ := max_snd hne hf
  have hw5 : wOf cs ≤ 5 := by have := h.bd p hp; omega
  have ht5 : tOf cs ≤ 5 := by have := h.bd q hq; omega
  have hl : cs.length ≤ 25 := h.len
  have hkl : ks.length ≤ 25 := by have := hs.length_le; rw [List.length_range] at this; omega
  have hkn : ks.Nodup := hs.nodup List.nodup_range
  have hk2 : ∀ k ∈ ks, k < cs.length := fun k hk => List.mem_range.mp (hs.subset hk)
  unfold restS
  refine wseq (e' := eL X cs v6 (.val (.str (SS (tlL cs ks (wOf cs) (tOf cs))))) (.val (.tup (cs.map plD))) (.val (.tup (ks.map fun (k : Nat) => D.int (k : Int)))) v23 v24 v25) (sAsg_eq (call3 (tiling_eval h hne hs))) ?_
  refine wseq (e' := eL X cs v6 (.val (.str (SS (tlL cs ks (wOf cs) (tOf cs))))) (.val (.tup (cs.map plD))) (.val (.tup (ks.map fun (k : Nat) => D.int (k : Int)))) (.val (.lst ((ordL cs ks).map pD))) v24 v25) (sAsg_eq (ord_eval hl hkl hk2)) ?_
  refine wseq (e' := eL X cs v6 (.val (.str (SS (tlL cs ks (wOf cs) (tOf cs))))) (.val (.tup (cs.map plD))) (.val (.tup (ks.map fun (k : Nat) => D.int (k : Int)))) (.val (.lst ((ordL cs ks).map pD))) (.val (.dct true (nmK (ordL cs ks) (ordL cs ks).length))) v25) (sAsg_eq (nam_eval (by rw [ordL_len]; exact hkl))) ?_
  refine wseq (e' := eL X cs v6 (.val (.str (SS (tlL cs ks (wOf cs) (tOf cs))))) (.val (.tup (cs.map plD))) (.val (.tup (ks.map fun (k : Nat) => D.int (k : Int)))) (.val (.lst ((ordL cs ks).map pD))) (.val (.dct true (nmK (ordL cs ks) (ordL cs ks).length))) (.val (rowsD (tlRows cs ks (wOf cs) (tOf cs) ++ [[]])))) (sAsg_eq (mSM1_eq rfl rfl (told_split hw5 ht5))) ?_
  obtain ⟨w6, hgo⟩ := rows_go (X := X) (v13 := .val (.str (SS (tlL cs ks (wOf cs) (tOf cs))))) (v20 := .val (.tup (cs.map plD))) (v22 := .val (.tup (ks.map fun (k : Nat) => D.int (k : Int)))) (v23 := .val (.lst ((ordL cs ks).map pD))) h hne h5 hkn hk2 hw5 (tOf cs) 0 v6 (by omega)
  rw [← List.range_eq_range'] at hgo
  refine wseq (e' := eL X cs w6 (.val (.str (SS (tlL cs ks (wOf cs) (tOf cs))))) (.val (.tup (cs.map plD))) (.val (.tup (ks.map fun (k : Nat) => D.int (k : Int)))) (.val (.lst ((ordL cs ks).map pD))) (.val (.dct true (nmK (ordL cs ks) (ordL cs ks).length))) (.val (rowsD (tlRows cs ks (wOf cs) (tOf cs) ++ [[]])))) (sFor_eq (iOf_eq (ds := [.int (tOf cs : Nat)]) (mCons_eq (m2_eq (x := .int ((tOf cs + 1 : Nat) : Int)) (y := .int 1) (mS1_eq rfl told_len) rfl (by
    show some (D.int (((tOf cs + 1 : Nat) : Int) - 1)) = _
    congr 2
    omega)) rfl) (rng1_ok (by omega))) hgo) ?_
  exact WP.ret (last_ok h hne) rfl
end
end DL
set_option Elab.async false
set_option linter.all false
set_option maxRecDepth 100000
set_option autoImplicit false
set_option maxHeartbeats 400000
namespace DL
open PySem L2 TL
noncomputable abbrev tileS : MS := (sSeq (sAsg (mS dTuple (mCons (mLc [21] (iAny (mVar 4)) (gSet 21) mYes (mTuple (mCons (mC (.int 0)) (mCons (mTuple (mCons (mVar 21) mNil)) mNil)))) mNil)) (gSet 20))
  (sSeq (sAsg (mS dTuple (mCons (mLc [18] (iOf rng1 (mCons (mS dLenA (mCons (mVar 4) mNil)) mNil)) (gSet 18) (mTest isBl (m2 dGt (mCall f__law_take (mCons (mVar 1) (mCons (mC (.int 3)) mNil))) (mC (.int 0)))) (mVar 18)) mNil)) (gSet 22))
  (sSeq (sAsg (mCall f_tiling_text (mCons (mVar 4) (mCons (mVar 20) (mCons (mVar 22) mNil)))) (gSet 13))
  (sSeq (sAsg (mS dSorted (mCons (mLc [18] (iAny (mVar 22)) (gSet 18) mYes (mTuple (mCons (m2 dIxA (m2 dIxA (mVar 4) (mVar 18)) (mC (.int 1))) (mCons (m2 dIxA (m2 dIxA (mVar 4) (mVar 18)) (mC (.int 0))) mNil)))) mNil)) (gSet 23))
  (sSeq (sAsg (mS (dDict true) (mCons (mLc [18] (iOf rng1 (mCons (mS dLenA (mCons (mVar 23) mNil)) mNil)) (gSet 18) mYes (mTuple (mCons (m2 dIxA (mVar 23) (mVar 18)) (mCons (m2 dIxA (mC (.str "abcdefghijklmnopqrstuvwxyz")) (mVar 18)) mNil)))) mNil)) (gSet 24))
  (sSeq (sAsg (mSM1 dSplit (mVar 13) (mC (.str "\n"))) (gSet 25))
  (sSeq (sFor (iOf rng1 (mCons (m2 dSub (mS dLenA (mCons (mVar 25) mNil)) (mC (.int 1))) mNil)) (gSet 6) (sIf (mTest isBl (m2 dNe (m2 dIxA (mVar 25) (mVar 6)) (mSM1 dJoin (mC (.str "")) (mLc [5] (iOf rng1 (mCons (m2 dAdd (mS dMax (mCons (mLc [19, 26] (iAny (mVar 4)) (gTupD 2 (gsCons (gSet 19) (gsCons (gSet 26) gsNil))) mYes (mVar 19)) mNil)) (mC (.int 1))) mNil)) (gSet 5) mYes (mGet2 24 (mTuple (mCons (mVar 6) (mCons (mVar 5) mNil))) (mC (.str "."))))))) (sRet (mC (.bl false))) sNext))
  (sIf (mTest isBl (m2 dNe (mS dLenA (mCons (mVar 25) mNil)) (m2 dAdd (mS dMax (mCons (mLc [19, 26] (iAny (mVar 4)) (gTupD 2 (gsCons (gSet 19) (gsCons (gSet 26) gsNil))) mYes (mVar 26)) mNil)) (mC (.int 2))))) (sRet (mC (.bl false))) sNext))))))))
theorem tile_ok {v0 v2 v3 v5 v7 v8 v9 v10 v11 v12 v13 v14 v15 v17 : Sl} {cs : List (Int × Int)} (h : Inv 5 cs) (hne : cs ≠ []) (h5 : isMut v5 = false) {E : Str → Env → Prop} :
    WP (tileS (v0 :: .val .tape :: v2 :: v3 :: .val (.tup (cs.map pD)) :: v5 :: .un :: v7 :: v8 :: v9 :: v10 :: v11 :: v12 :: v13 :: v14 :: v15 :: .un :: v17 :: List.replicate 9 .un)) (fun r => r.1 = .nx) E := by
  have hl : cs.length ≤ 25 := h.len
  unfold tileS
  refine wseq (e' := eL ⟨v0, v2, v3, v5, v7, v8, v9, v10, v11, v12, v14, v15, v17⟩ cs .un v13 (.val (.tup (cs.map plD))) .un .un .un .un) (sAsg_eq (mS1_eq (x := .lst (cs.map plD)) (places_eval hl) rfl)) ?_
  refine wseqw (P := fun e => ∃ ks : List Nat, ks.Sublist (List.range cs.length) ∧ e = eL ⟨v0, v2, v3, v5, v7, v8, v9, v10, v11, v12, v14, v15, v17⟩ cs .un v13 (.val (.tup (cs.map plD))) (.val (.tup (ks.map fun (k : Nat) => D.int (k : Int)))) .un .un .un) (WP.mono' (fun r hr => ?_) (wasg (P := fun d => ∃ ks : List Nat, ks.Sublist (List.range cs.length) ∧ d = .tup (ks.map fun (k : Nat) => D.int (k : Int))) (WP.bind (WP.bind ((chosen_made hl (R := [.un, .val (.tup (cs.map plD)), .un, .un, .un, .un, .un, .un])).mono fun p hp => ?_))))) ?_
  · obtain ⟨h1, d, ⟨ks, a1, rfl⟩, h2⟩ := hr
    exact ⟨h1, ks, a1, h2⟩
  · obtain ⟨d, e2⟩ := p
    obtain ⟨h1, ks, a1, h2⟩ := hp
    have h1' : e2 = _ := h1
    have h2' : d = _ := h2
    subst h1' h2'
    exact ⟨⟨rfl, ks, a1, rfl⟩⟩
  rintro _ ⟨ks, hs, rfl⟩
  exact tile_rest h hne h5 hs
theorem law_plain (ns : List Int) (hns : ns.length ≤ 63) : wpT (f_law [.scr ns]) (fun d => d = .bl true) (fun _ _ => False) := by
  have main : WP (m_law (.val (.scr ns) :: List.replicate 26 .un)) (fun r => r.1 = .rt (.bl true)) (fun _ _ => False) := by
    unfold m_law
    refine law_head hns fun cs v2 v3 v5 v7 v8 v9 v10 v11 v12 v13 v14 v15 hI h5 => ?_
    refine wseqw (P := fun e => ∃ l : List Int, (∀ i ∈ l, nOk i) ∧ l.length ≤ 4 ∧ e = .val (.scr ns) :: .val .tape :: v2 :: v3 :: .val (.tup (cs.map pD)) :: v5 :: .un :: v7 :: v8 :: v9 :: v10 :: v11 :: v12 :: v13 :: v14 :: v15 :: .un :: .val (.tup (l.map D.int)) :: .un :: .un :: List.replicate 7 .un) (num_made (R := List.replicate 7 .un)) ?_
    rintro _ ⟨l, h1, h2, rfl⟩
    refine wseq (sIf_nx (num_test h1 h2) rfl) ?_
    have hb : mTest isBl (m2 dGt (mS dLenA (mCons (mVar 4) mNil)) (mC (.int 0))) (.val (.scr ns) :: .val .tape :: v2 :: v3 :: .val (.tup (cs.map pD)) :: v5 :: .un :: v7 :: v8 :: v9 :: v10 :: v11 :: v12 :: v13 :: v14 :: v15 :: .un :: .val (.tup (l.map D.int)) :: .un :: .un :: List.replicate 7 .un) = .ret (decide ((0 : Int) < (cs.length : Int)), .val (.scr ns) :: .val .tape :: v2 :: v3 :: .val (.tup (cs.map pD)) :: v5 :: .un :: v7 :: v8 :: v9 :: v10 :: v11 :: v12 :: v13 :: v14 :: v15 :: .un :: .val (.tup (l.map D.int)) :: .un :: .un :: List.replicate 7 .un) :=
      test_eq (m2_eq (x := .int (cs.length : Int)) (y := .int 0) (mS1_eq (x := .tup (cs.map pD)) rfl (by show some (D.int ((cs.map pD).length : Int)) = _; rw [List.length_map])) rfl rfl) rfl
    by_cases hne : cs = []
    · have hf : decide ((0 : Int) < (cs.length : Int)) = false := by rw [hne]; rfl
      rw [hf] at hb
      refine wseq (sIf_nx hb rfl) end_ok
    · have ht : decide ((0 : Int) < (cs.length : Int)) = true := decide_eq_true (by cases cs with
        | nil => exact absurd rfl hne
        | cons a r => simp)
      rw [ht] at hb
      refine wseqw (P := fun _ => True) ?_ fun e _ => end_ok
      rw [sIf_eq hb, if_pos rfl]
      exact (tile_ok hI hne h5).mono fun r hr => ⟨hr, trivial⟩
  unfold f_law mFn
  rw [if_pos (show [D.scr ns].length = 1 from rfl)]
  refine wpT_bind.mpr (wpT_mono (fun r hr => ?_) (fun _ _ z => z) main.h)
  obtain ⟨f, e⟩ := r
  have hr' : f = .rt (.bl true) := hr
  subst hr'
  rfl
end DL
set_option Elab.async false
set_option linter.all false
set_option maxRecDepth 100000
set_option autoImplicit false
set_option maxHeartbeats 4000000
namespace DL
open PySem PySem.Spec PyProof.Rows L2
theorem all_mk {l : PySem.W.OpenLaw} {w : World} {K : PySem.W.Frag} {h : Heap} {mg : Str → Option Value} {fa : Addr} (X : K.In h) (G : h.Ns mainGlobals mg) (hfa : mg "law" = some (.ref fa))
    {t_LETTERS : Tok} {c_GapError : Addr} {c_InvalidForm : Addr} {a_shape_text : Addr} {od_shape_text an_shape_text : Option Addr} {sl_shape_text : Array (Option Value)} {oc_shape_text kV_shape_text dc_shape_text pm_shape_text cd_shape_text ct_shape_text : Value} {a_parse_shape : Addr} {od_parse_shape an_parse_shape : Option Addr} {sl_parse_shape : Array (Option Value)} {oc_parse_shape kV_parse_shape dc_parse_shape pm_parse_shape cd_parse_shape ct_parse_shape : Value} {a_tiling_text : Addr} {od_tiling_text an_tiling_text : Option Addr} {sl_tiling_text : Array (Option Value)} {oc_tiling_text kV_tiling_text dc_tiling_text pm_tiling_text cd_tiling_text ct_tiling_text : Value} {a_numbers_text : Addr} {od_numbers_text an_numbers_text : Option Addr} {sl_numbers_text : Array (Option Value)} {oc_numbers_text kV_numbers_text dc_numbers_text pm_numbers_text cd_numbers_text ct_numbers_text : Value} {a__law_tape : Addr} {od__law_tape an__law_tape : Option Addr} {sl__law_tape : Array (Option Value)} {oc__law_tape kV__law_tape dc__law_tape pm__law_tape cd__law_tape ct__law_tape : Value} {a__law_take : Addr} {od__law_take an__law_take : Option Addr} {sl__law_take : Array (Option Value)} {oc__law_take kV__law_take dc__law_take pm__law_take cd__law_take ct__law_take : Value} {a__law_text : Addr} {od__law_text an__law_text : Option Addr} {sl__law_text : Array (Option Value)} {oc__law_text kV__law_text dc__law_text pm__law_text cd__law_text ct__law_text : Value} {a__law_read : Addr} {od__law_read an__law_read : Option Addr} {sl__law_read : Array (Option Value)} {oc__law_read kV__law_read dc__law_read pm__law_read cd__law_read ct__law_read : Value} {a_law : Addr} {od_law an_law : Option Addr} {sl_law : Array (Option Value)} {oc_law kV_law dc_law pm_law cd_law ct_law : Value}
    (h_abs : PySem.W.nsIn K mainGlobals "abs" = some none) (h_all : PySem.W.nsIn K mainGlobals "all" = some none) (h_any : PySem.W.nsIn K mainGlobals "any" = some none) (h_dict : PySem.W.nsIn K mainGlobals "dict" = some none) (h_enumerate : PySem.W.nsIn K mainGlobals "enumerate" = some none) (h_int : PySem.W.nsIn K mainGlobals "int" = some none) (h_len : PySem.W.nsIn K mainGlobals "len" = some none) (h_max : PySem.W.nsIn K mainGlobals "max" = some none) (h_min : PySem.W.nsIn K mainGlobals "min" = some none) (h_range : PySem.W.nsIn K mainGlobals "range" = some none) (h_sorted : PySem.W.nsIn K mainGlobals "sorted" = some none) (h_str : PySem.W.nsIn K mainGlobals "str" = some none) (h_tuple : PySem.W.nsIn K mainGlobals "tuple" = some none) (h_LETTERS : PySem.W.nsIn K mainGlobals "LETTERS" = some (some (.str "abcdefghijklmnopqrstuvwxyz" t_LETTERS))) (h_GapError : PySem.W.nsIn K mainGlobals "GapError" = some (some (.ref c_GapError))) (hc_GapError : PySem.W.excIn K c_GapError [.type "ValueError", .type "Exception", .type "BaseException", .type "object"] "ValueError.__new__" = true) (hk_GapError : PySem.W.keepIn K (.ref c_GapError) = true) (hb_GapError : PySem.W.subIn K (.ref c_GapError) (.type "BaseException") = some true) (hy_GapError : PySem.W.typeIn K (.ref c_GapError) = some (.type "type")) (h_InvalidForm : PySem.W.nsIn K mainGlobals "InvalidForm" = some (some (.ref c_InvalidForm))) (hc_InvalidForm : PySem.W.excIn K c_InvalidForm [.type "ValueError", .type "Exception", .type "BaseException", .type "object"] "ValueError.__new__" = true) (hk_InvalidForm : PySem.W.keepIn K (.ref c_InvalidForm) = true) (hb_InvalidForm : PySem.W.subIn K (.ref c_InvalidForm) (.type "BaseException") = some true) (hy_InvalidForm : PySem.W.typeIn K (.ref c_InvalidForm) = some (.type "type")) (hd_GapError : PySem.W.hasDictIn K c_GapError = true) (hs_GapError_GapError : PySem.W.subIn K (.ref c_GapError) (.ref c_GapError) = some true) (hs_InvalidForm_GapError : PySem.W.subIn K (.ref c_InvalidForm) (.ref c_GapError) = some true) (h_shape_text : PySem.W.nsIn K mainGlobals "shape_text" = some (some (.ref a_shape_text))) (hl_shape_text : K.lookup a_shape_text = some ⟨oc_shape_text, od_shape_text, .func (PySem.W.fnOf "shape_text" "shape_text" (defArgs st_shape_text) (defBody st_shape_text) (defScope st_shape_text) .none kV_shape_text dc_shape_text pm_shape_text an_shape_text cd_shape_text ct_shape_text), sl_shape_text⟩) (hc_shape_text : PySem.W.codeIn K cd_shape_text "shape_text" = true) (hk_shape_text : PySem.W.keepIn K (.ref a_shape_text) = true) (h_parse_shape : PySem.W.nsIn K mainGlobals "parse_shape" = some (some (.ref a_parse_shape))) (hl_parse_shape : K.lookup a_parse_shape = some ⟨oc_parse_shape, od_parse_shape, .func (PySem.W.fnOf "parse_shape" "parse_shape" (defArgs st_parse_shape) (defBody st_parse_shape) (defScope st_parse_shape) .none kV_parse_shape dc_parse_shape pm_parse_shape an_parse_shape cd_parse_shape ct_parse_shape), sl_parse_shape⟩) (hc_parse_shape : PySem.W.codeIn K cd_parse_shape "parse_shape" = true) (hk_parse_shape : PySem.W.keepIn K (.ref a_parse_shape) = true) (h_tiling_text : PySem.W.nsIn K mainGlobals "tiling_text" = some (some (.ref a_tiling_text))) (hl_tiling_text : K.lookup a_tiling_text = some ⟨oc_tiling_text, od_tiling_text, .func (PySem.W.fnOf "tiling_text" "tiling_text" (defArgs st_tiling_text) (defBody st_tiling_text) (defScope st_tiling_text) .none kV_tiling_text dc_tiling_text pm_tiling_text an_tiling_text cd_tiling_text ct_tiling_text), sl_tiling_text⟩) (hc_tiling_text : PySem.W.codeIn K cd_tiling_text "tiling_text" = true) (hk_tiling_text : PySem.W.keepIn K (.ref a_tiling_text) = true) (h_numbers_text : PySem.W.nsIn K mainGlobals "numbers_text" = some (some (.ref a_numbers_text))) (hl_numbers_text : K.lookup a_numbers_text = some ⟨oc_numbers_text, od_numbers_text, .func (PySem.W.fnOf "numbers_text" "numbers_text" (defArgs st_numbers_text) (defBody st_numbers_text) (defScope st_numbers_text) .none kV_numbers_text dc_numbers_text pm_numbers_text an_numbers_text cd_numbers_text ct_numbers_text), sl_numbers_text⟩) (hc_numbers_text : PySem.W.codeIn K cd_numbers_text "numbers_text" = true) (hk_numbers_text : PySem.W.keepIn K (.ref a_numbers_text) = true) (h__law_tape : PySem.W.nsIn K mainGlobals "_law_tape" = some (some (.ref a__law_tape))) (hl__law_tape : K.lookup a__law_tape = some ⟨oc__law_tape, od__law_tape, .func (PySem.W.fnOf "_law_tape" "_law_tape" (defArgs st__law_tape) (defBody st__law_tape) (defScope st__law_tape) .none kV__law_tape dc__law_tape pm__law_tape an__law_tape cd__law_tape ct__law_tape), sl__law_tape⟩) (hc__law_tape : PySem.W.codeIn K cd__law_tape "_law_tape" = true) (hk__law_tape : PySem.W.keepIn K (.ref a__law_tape) = true) (h__law_take : PySem.W.nsIn K mainGlobals "_law_take" = some (some (.ref a__law_take))) (hl__law_take : K.lookup a__law_take = some ⟨oc__law_take, od__law_take, .func (PySem.W.fnOf "_law_take" "_law_take" (defArgs st__law_take) (defBody st__law_take) (defScope st__law_take) .none kV__law_take dc__law_take pm__law_take an__law_take cd__law_take ct__law_take), sl__law_take⟩) (hc__law_take : PySem.W.codeIn K cd__law_take "_law_take" = true) (hk__law_take : PySem.W.keepIn K (.ref a__law_take) = true) (h__law_text : PySem.W.nsIn K mainGlobals "_law_text" = some (some (.ref a__law_text))) (hl__law_text : K.lookup a__law_text = some ⟨oc__law_text, od__law_text, .func (PySem.W.fnOf "_law_text" "_law_text" (defArgs st__law_text) (defBody st__law_text) (defScope st__law_text) .none kV__law_text dc__law_text pm__law_text an__law_text cd__law_text ct__law_text), sl__law_text⟩) (hc__law_text : PySem.W.codeIn K cd__law_text "_law_text" = true) (hk__law_text : PySem.W.keepIn K (.ref a__law_text) = true) (h__law_read : PySem.W.nsIn K mainGlobals "_law_read" = some (some (.ref a__law_read))) (hl__law_read : K.lookup a__law_read = some ⟨oc__law_read, od__law_read, .func (PySem.W.fnOf "_law_read" "_law_read" (defArgs st__law_read) (defBody st__law_read) (defScope st__law_read) .none kV__law_read dc__law_read pm__law_read an__law_read cd__law_read ct__law_read), sl__law_read⟩) (hc__law_read : PySem.W.codeIn K cd__law_read "_law_read" = true) (hk__law_read : PySem.W.keepIn K (.ref a__law_read) = true) (h_law : PySem.W.nsIn K mainGlobals "law" = some (some (.ref a_law))) (hl_law : K.lookup a_law = some ⟨oc_law, od_law, .func (PySem.W.fnOf "law" "law" (defArgs st_law) (defBody st_law) (defScope st_law) .none kV_law dc_law pm_law an_law cd_law ct_law), sl_law⟩) (hc_law : PySem.W.codeIn K cd_law "law" = true) (hk_law : PySem.W.keepIn K (.ref a_law) = true) :
    ∃ fd : FuncData, (∀ (s : Shared) (u : Value), BindsTo s fd ⟨[u], []⟩ [("script", u)]) ∧ ∀ base : Heap, K.In base → base.Ns mainGlobals mg → FnOk l.prog w K mg base (L2.CX l.prog w) 4 fa fd ["script"] (spLaw K) := by
  have T : Tx K mg := { noT := trivial, m_abs := PySem.W.mg_none_of X G h_abs, m_all := PySem.W.mg_none_of X G h_all, m_any := PySem.W.mg_none_of X G h_any, m_dict := PySem.W.mg_none_of X G h_dict, m_enumerate := PySem.W.mg_none_of X G h_enumerate, m_int := PySem.W.mg_none_of X G h_int, m_len := PySem.W.mg_none_of X G h_len, m_max := PySem.W.mg_none_of X G h_max, m_min := PySem.W.mg_none_of X G h_min, m_range := PySem.W.mg_none_of X G h_range, m_sorted := PySem.W.mg_none_of X G h_sorted, m_str := PySem.W.mg_none_of X G h_str, m_tuple := PySem.W.mg_none_of X G h_tuple, t_LETTERS := t_LETTERS, g_LETTERS := PySem.W.mg_of X G h_LETTERS, c_GapError := c_GapError, xm_GapError := PySem.W.mg_of X G h_GapError, xc_GapError := hc_GapError, xk_GapError := hk_GapError, xb_GapError := hb_GapError, xy_GapError := hy_GapError, c_InvalidForm := c_InvalidForm, xm_InvalidForm := PySem.W.mg_of X G h_InvalidForm, xc_InvalidForm := hc_InvalidForm, xk_InvalidForm := hk_InvalidForm, xb_InvalidForm := hb_InvalidForm, xy_InvalidForm := hy_InvalidForm, xe_GapError_GapError := PySem.W.exm_ref hb_GapError hd_GapError hy_GapError hs_GapError_GapError, xe_InvalidForm_GapError := PySem.W.exm_ref hb_GapError hd_GapError hy_GapError hs_InvalidForm_GapError, a_shape_text := a_shape_text, fd_shape_text := (PySem.W.fnOf "shape_text" "shape_text" (defArgs st_shape_text) (defBody st_shape_text) (defScope st_shape_text) .none kV_shape_text dc_shape_text pm_shape_text an_shape_text cd_shape_text ct_shape_text), F_shape_text := fun_mk (st := st_shape_text) hl_shape_text hc_shape_text hk_shape_text, mg_shape_text := PySem.W.mg_of X G h_shape_text, a_parse_shape := a_parse_shape, fd_parse_shape := (PySem.W.fnOf "parse_shape" "parse_shape" (defArgs st_parse_shape) (defBody st_parse_shape) (defScope st_parse_shape) .none kV_parse_shape dc_parse_shape pm_parse_shape an_parse_shape cd_parse_shape ct_parse_shape), F_parse_shape := fun_mk (st := st_parse_shape) hl_parse_shape hc_parse_shape hk_parse_shape, mg_parse_shape := PySem.W.mg_of X G h_parse_shape, a_tiling_text := a_tiling_text, fd_tiling_text := (PySem.W.fnOf "tiling_text" "tiling_text" (defArgs st_tiling_text) (defBody st_tiling_text) (defScope st_tiling_text) .none kV_tiling_text dc_tiling_text pm_tiling_text an_tiling_text cd_tiling_text ct_tiling_text), F_tiling_text := fun_mk (st := st_tiling_text) hl_tiling_text hc_tiling_text hk_tiling_text, mg_tiling_text := PySem.W.mg_of X G h_tiling_text, a_numbers_text := a_numbers_text, fd_numbers_text := (PySem.W.fnOf "numbers_text" "numbers_text" (defArgs st_numbers_text) (defBody st_numbers_text) (defScope st_numbers_text) .none kV_numbers_text dc_numbers_text pm_numbers_text an_numbers_text cd_numbers_text ct_numbers_text), F_numbers_text := fun_mk (st := st_numbers_text) hl_numbers_text hc_numbers_text hk_numbers_text, mg_numbers_text := PySem.W.mg_of X G h_numbers_text, a__law_tape := a__law_tape, fd__law_tape := (PySem.W.fnOf "_law_tape" "_law_tape" (defArgs st__law_tape) (defBody st__law_tape) (defScope st__law_tape) .none kV__law_tape dc__law_tape pm__law_tape an__law_tape cd__law_tape ct__law_tape), F__law_tape := fun_mk (st := st__law_tape) hl__law_tape hc__law_tape hk__law_tape, mg__law_tape := PySem.W.mg_of X G h__law_tape, a__law_take := a__law_take, fd__law_take := (PySem.W.fnOf "_law_take" "_law_take" (defArgs st__law_take) (defBody st__law_take) (defScope st__law_take) .none kV__law_take dc__law_take pm__law_take an__law_take cd__law_take ct__law_take), F__law_take := fun_mk (st := st__law_take) hl__law_take hc__law_take hk__law_take, mg__law_take := PySem.W.mg_of X G h__law_take, a__law_text := a__law_text, fd__law_text := (PySem.W.fnOf "_law_text" "_law_text" (defArgs st__law_text) (defBody st__law_text) (defScope st__law_text) .none kV__law_text dc__law_text pm__law_text an__law_text cd__law_text ct__law_text), F__law_text := fun_mk (st := st__law_text) hl__law_text hc__law_text hk__law_text, mg__law_text := PySem.W.mg_of X G h__law_text, a__law_read := a__law_read, fd__law_read := (PySem.W.fnOf "_law_read" "_law_read" (defArgs st__law_read) (defBody st__law_read) (defScope st__law_read) .none kV__law_read dc__law_read pm__law_read an__law_read cd__law_read ct__law_read), F__law_read := fun_mk (st := st__law_read) hl__law_read hc__law_read hk__law_read, mg__law_read := PySem.W.mg_of X G h__law_read, a_law := a_law, fd_law := (PySem.W.fnOf "law" "law" (defArgs st_law) (defBody st_law) (defScope st_law) .none kV_law dc_law pm_law an_law cd_law ct_law), F_law := fun_mk (st := st_law) hl_law hc_law hk_law, mg_law := PySem.W.mg_of X G h_law }
  have ea : T.a_law = fa := by
    have z := T.mg_law.symm.trans hfa
    injection z with z
    injection z
  refine ⟨T.fd_law, fun s v => ?_, fun base _ _ => ?_⟩
  · obtain ⟨oc, od, kV, doc, pm, an, cdv, ct, osl, e1, e2, e3⟩ := T.F_law.ex
    rw [e1]
    exact .of_eq rfl
  · rw [← ea]
    exact (ok_law T).imp (law_imp law_plain)
end DL
open PySem PySem.W PyProof.Rows
set_option maxRecDepth 100000 in
set_option maxHeartbeats 0 in
theorem PySem.Challenge.cw_nogapsleft_k14_texts_of_shapes_holds : PySem.Challenge.rw_nogapsleft_k14_texts_of_shapes.Holds := by
  w_on; o_law; k_head; (case hw => w_witness2)
  k_fill
  refine DL.walk (l := PySem.Challenge.rw_nogapsleft_k14_texts_of_shapes) (k := 4) rfl rfl ⟨rfl, by decide, by decide⟩ (fun w h Y => PySem.W.kIn_of Y) ?F
  case F =>
    intro w mg fa h KX G hmg
    refine' DL.all_mk KX G hmg ?h_abs ?h_all ?h_any ?h_dict ?h_enumerate ?h_int ?h_len ?h_max ?h_min ?h_range ?h_sorted ?h_str ?h_tuple ?h_LETTERS ?h_GapError ?hc_GapError ?hk_GapError ?hb_GapError ?hy_GapError ?h_InvalidForm ?hc_InvalidForm ?hk_InvalidForm ?hb_InvalidForm ?hy_InvalidForm ?hd_GapError ?hs_GapError_GapError ?hs_InvalidForm_GapError ?h_shape_text ?hl_shape_text ?hc_shape_text ?hk_shape_text ?h_parse_shape ?hl_parse_shape ?hc_parse_shape ?hk_parse_shape ?h_tiling_text ?hl_tiling_text ?hc_tiling_text ?hk_tiling_text ?h_numbers_text ?hl_numbers_text ?hc_numbers_text ?hk_numbers_text ?h__law_tape ?hl__law_tape ?hc__law_tape ?hk__law_tape ?h__law_take ?hl__law_take ?hc__law_take ?hk__law_take ?h__law_text ?hl__law_text ?hc__law_text ?hk__law_text ?h__law_read ?hl__law_read ?hc__law_read ?hk__law_read ?h_law ?hl_law ?hc_law ?hk_law
    (case h_abs => k_is)
    (case h_all => k_is)
    (case h_any => k_is)
    (case h_dict => k_is)
    (case h_enumerate => k_is)
    (case h_int => k_is)
    (case h_len => k_is)
    (case h_max => k_is)
    (case h_min => k_is)
    (case h_range => k_is)
    (case h_sorted => k_is)
    (case h_str => k_is)
    (case h_tuple => k_is)
    (case h_LETTERS => k_is)
    (case h_GapError => k_is)
    (case hc_GapError => k_exc)
    (case hk_GapError => k_is)
    (case hb_GapError => k_is)
    (case hy_GapError => k_is)
    (case h_InvalidForm => k_is)
    (case hc_InvalidForm => k_exc)
    (case hk_InvalidForm => k_is)
    (case hb_InvalidForm => k_is)
    (case hy_InvalidForm => k_is)
    (case hd_GapError => k_is)
    (case hs_GapError_GapError => first | rfl | k_is)
    (case hs_InvalidForm_GapError => first | rfl | k_is)
    (case h_shape_text => k_is)
    (case hl_shape_text => k_is)
    (case hc_shape_text => k_is)
    (case hk_shape_text => k_is)
    (case h_parse_shape => k_is)
    (case hl_parse_shape => k_is)
    (case hc_parse_shape => k_is)
    (case hk_parse_shape => k_is)
    (case h_tiling_text => k_is)
    (case hl_tiling_text => k_is)
    (case hc_tiling_text => k_is)
    (case hk_tiling_text => k_is)
    (case h_numbers_text => k_is)
    (case hl_numbers_text => k_is)
    (case hc_numbers_text => k_is)
    (case hk_numbers_text => k_is)
    (case h__law_tape => k_is)
    (case hl__law_tape => k_is)
    (case hc__law_tape => k_is)
    (case hk__law_tape => k_is)
    (case h__law_take => k_is)
    (case hl__law_take => k_is)
    (case hc__law_take => k_is)
    (case hk__law_take => k_is)
    (case h__law_text => k_is)
    (case hl__law_text => k_is)
    (case hc__law_text => k_is)
    (case hk__law_text => k_is)
    (case h__law_read => k_is)
    (case hl__law_read => k_is)
    (case hc__law_read => k_is)
    (case hk__law_read => k_is)
    (case h_law => k_is)
    (case hl_law => k_is)
    (case hc_law => k_is)
    (case hk_law => k_is)
