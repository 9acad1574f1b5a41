import PyProof.Rows.All
import Wide.All
import OpenK.AllK
import Wide.FinOn
import HandS.ForMost
import HandS.Exc
import HandS.ExcInit
import HandS.Defaults
import HandS.HeadHook2
import HandS.Zip
import HandS.Wide
import HandS.IsInst
import HandS.TupAny
import HandS.More
import HandS.ExcIs
import PyProof.ReprRoads
import PyProof.CallFns
import HandS.ExcField
import KE.KExcIs
import HandS.Star
import HandS.MakeKwOnly
import KE.KTypeName
import HandS.OwnEq
import KE.KExcSuper
import HandS.Nested
import HandS.HeadEnd
import HandS.Dict
import HandS.HeadHook1
import PySem.Challenge.RW_keepsjust_k00_errors_and_papers
import HandS.Head0
import HandS.Head1
import HandS.Head2
section
set_option Elab.async false
set_option linter.all false
set_option maxRecDepth 100000
/-! The interpreter: values, cells, results; the relation to the hand layer. -/
namespace IM
open PySem PySem.Spec PyProof.Rows L2

/-! ### values, cells, results -/
/-- a value: plain data, or the number of a cell -/
inductive D where
  | non | bl (b : Bool) | int (i : Int) | str (x : Str) | ty (n : String) | glo (x : Str) | loc (n : Nat) | tup (ds : List D)
  /-- a list that nobody changes (the script) -/
  | lit (ds : List D)
/-- a cell: what changes in place -/
inductive C where
  | gone
  | lst (ds : List D)
  | dic (kvs : List (Key × D))
  | ins (c : Str) (fs : List (Str × D))
  | exc (c : Str) (d : Option Nat)
  | xd (fs : List (Str × D))
  | xdr (fs : List (Str × D))
abbrev IH := List C
inductive Res (α : Type) where
  | ok (a : α) (h : IH)
  | exn (c : Str) (n : Nat) (h : IH)
  | bad
def Res.bind {α β : Type} (r : Res α) (f : α → IH → Res β) : Res β := match r with
  | .ok a h => f a h
  | .exn c n h => .exn c n h
  | .bad => .bad
abbrev Sl := List (Option D)
abbrev CallT := Nat → List D → IH → Res D
abbrev DE := CallT → Sl → IH → Res D
abbrev DB := CallT → Sl → IH → Res Bool
abbrev DA := CallT → Sl → IH → Res (List D)
inductive Fl where
  | nx (ρ : Sl) | rt (d : D) | bk (ρ : Sl) | ct (ρ : Sl)
abbrev DS := CallT → Sl → IH → Res Fl

/-! ### the relation -/
abbrev Io := List (Option Addr)
/-- a list that stands still: locked, or an object of the module -/
def SqF (K : PySem.W.Frag) (H : Hp) (a : Addr) (xs : List V) : Prop := (∃ o, H a = some (.frz o (.lst xs))) ∨
  ∃ (o : Obj) (its : Array Value) (n : Nat), K.lookup a = some o ∧ o.cls = .type "list" ∧ o.dict = none ∧ o.data = .seq its n ∧ its.size ≤ sizeLine ∧ Vals xs its.toList
theorem SqF.seq {K : PySem.W.Frag} {H : Hp} {a : Addr} {xs : List V} (h : SqF K H a xs) : SqL K H a xs := by
  rcases h with h | h
  · exact .inl (.inr h)
  · exact .inr h
mutual
inductive RD (K : PySem.W.Frag) (ι : Io) (H : Hp) : D → V → Prop
  | non : RD K ι H .non .non
  | bl (b : Bool) : RD K ι H (.bl b) (.bl b)
  | int (i : Int) : RD K ι H (.int i) (.int i)
  | str (x : Str) : RD K ι H (.str x) (.str x)
  | ty (n : String) : RD K ι H (.ty n) (.ty n)
  | glo (x : Str) : RD K ι H (.glo x) (.ref (He.ga K x))
  | loc (n : Nat) (a : Addr) (h : ι[n]? = some (some a)) : RD K ι H (.loc n) (.ref a)
  | tup (ds : List D) (a : Addr) (vs : List V) (h : SqT K H a vs) (r : RDs K ι H ds vs) : RD K ι H (.tup ds) (.ref a)
  | lit (ds : List D) (a : Addr) (vs : List V) (h : SqF K H a vs) (r : RDs K ι H ds vs) : RD K ι H (.lit ds) (.ref a)
inductive RDs (K : PySem.W.Frag) (ι : Io) (H : Hp) : List D → List V → Prop
  | nil : RDs K ι H [] []
  | cons {d : D} {v : V} {ds : List D} {vs : List V} (h : RD K ι H d v) (r : RDs K ι H ds vs) : RDs K ι H (d :: ds) (v :: vs)
end
/-- attributes, entries: the same names in the same order -/
inductive RFs {κ : Type} (K : PySem.W.Frag) (ι : Io) (H : Hp) : List (κ × D) → List (κ × V) → Prop
  | nil : RFs K ι H [] []
  | cons {f : κ} {d : D} {v : V} {ds : List (κ × D)} {vs : List (κ × V)} (h : RD K ι H d v) (r : RFs K ι H ds vs) : RFs K ι H ((f, d) :: ds) ((f, v) :: vs)
def CellOk (K : PySem.W.Frag) (ι : Io) (H : Hp) : C → Option Addr → Prop
  | .gone, oa => oa = none
  | .lst ds, oa => ∃ a vs, oa = some a ∧ H a = some (.lst vs) ∧ RDs K ι H ds vs
  | .dic kvs, oa => ∃ a ks, oa = some a ∧ H a = some (.dK ks) ∧ RFs K ι H kvs ks
  | .ins c fs, oa => ∃ a dx gs, oa = some a ∧ H a = some (.ins (He.ga K c) dx gs) ∧ RFs K ι H fs gs
  | .exc c d, oa => ∃ a dx, oa = some a ∧ H a = some (exo a (He.ga K c) dx) ∧ (match d with
      | none => dx = none
      | some n => ∃ b, dx = some b ∧ ι[n]? = some (some b))
  | .xd fs, oa => ∃ a gs, oa = some a ∧ H a = some (exd a gs) ∧ RFs K ι H fs gs
  | .xdr fs, oa => ∃ a gs, oa = some a ∧ H a = some (.xd gs) ∧ RFs K ι H fs gs
structure Sim (K : PySem.W.Frag) (ι : Io) (ih : IH) (H : Hp) : Prop where
  len : ι.length = ih.length
  inj : ∀ (n m : Nat) (a : Addr), ι[n]? = some (some a) → ι[m]? = some (some a) → n = m
  cell : ∀ (n : Nat) (c : C) (oa : Option Addr), ih[n]? = some c → ι[n]? = some oa → CellOk K ι H c oa
structure Ext (ι : Io) (H : Hp) (ι' : Io) (H' : Hp) : Prop where
  len : ι.length ≤ ι'.length
  pre : ∀ (n : Nat) (a : Addr), ι[n]? = some (some a) → ι'[n]? = some (some a)
  keep : ∀ (a : Addr) (o : HO), H a = some o → some a ∉ ι → H' a = some o
  new : ∀ (a : Addr), some a ∈ ι' → some a ∉ ι → H a = none
abbrev Wx := Str → Nat → IH → Io → Hp → Prop
def Out {α : Type} (K : PySem.W.Frag) (ι : Io) (H : Hp) (W : Wx) (N : α → IH → Io → Hp → Prop) : Res α → Prop
  | .ok a ih' => ∀ ι' H', Sim K ι' ih' H' → Ext ι H ι' H' → N a ih' ι' H'
  | .exn c n ih' => ∀ ι' H', Sim K ι' ih' H' → Ext ι H ι' H' → W c n ih' ι' H'
  | .bad => False
def REnv (K : PySem.W.Frag) (ι : Io) (H : Hp) (ρ : Sl) (σ : L2.St) : Prop := ρ.length = σ.length ∧ ∀ (i : Nat) (d : D), ρ[i]? = some (some d) → ∃ v, σ[i]? = some (some v) ∧ RD K ι H d v

/-! ### laws of the relation -/
section
variable {K : PySem.W.Frag} {ι ι1 ι2 : Io} {H H1 H2 : Hp} {ih : IH}
theorem Ext.refl : Ext ι H ι H := ⟨Nat.le_refl _, fun _ _ h => h, fun _ _ h _ => h, fun _ h n => absurd h n⟩
theorem Ext.trans (a : Ext ι H ι1 H1) (b : Ext ι1 H1 ι2 H2) : Ext ι H ι2 H2 where
  len := Nat.le_trans a.len b.len
  pre := fun n x h => b.pre n x (a.pre n x h)
  keep := fun x o h n => b.keep x o (a.keep x o h n) fun m => by
    have := a.new x m n
    rw [h] at this
    cases this
  new := fun x m n => by
    by_cases h1 : some x ∈ ι1
    · exact a.new x h1 n
    · have h2 := b.new x m h1
      cases q : H x with
      | none => rfl
      | some o =>
        rw [a.keep x o q n] at h2
        cases h2
theorem mem_at {ι : Io} {n : Nat} {a : Addr} (h : ι[n]? = some (some a)) : some a ∈ ι := List.mem_of_getElem? h
theorem at_of_mem {ι : Io} {a : Addr} (h : some a ∈ ι) : ∃ n : Nat, ι[n]? = some (some a) := List.getElem?_of_mem h
/-- what stands at a tracked cell -/
def isCellO : HO → Prop
  | .lst _ => True
  | .dK _ => True
  | .ins _ _ _ => True
  | .ext _ => True
  | .xd _ => True
  | _ => False
theorem CellOk.obj {c : C} {a : Addr} (h : CellOk K ι H c (some a)) : ∃ o, H a = some o ∧ isCellO o := by
  cases c with
  | gone => cases h
  | lst ds => obtain ⟨_, _, e, q, _⟩ := h; cases e; exact ⟨_, q, trivial⟩
  | dic ds => obtain ⟨_, _, e, q, _⟩ := h; cases e; exact ⟨_, q, trivial⟩
  | ins c fs => obtain ⟨_, _, _, e, q, _⟩ := h; cases e; exact ⟨_, q, trivial⟩
  | exc c d => obtain ⟨_, _, e, q, _⟩ := h; cases e; exact ⟨_, q, trivial⟩
  | xd ds => obtain ⟨_, _, e, q, _⟩ := h; cases e; exact ⟨_, q, trivial⟩
  | xdr ds => obtain ⟨_, _, e, q, _⟩ := h; cases e; exact ⟨_, q, trivial⟩
theorem Sim.at_ (S : Sim K ι ih H) {n : Nat} {a : Addr} (h : ι[n]? = some (some a)) : ∃ c, ih[n]? = some c ∧ CellOk K ι H c (some a) := by
  have hl : n < ih.length := by rw [← S.len]; exact (List.getElem?_eq_some_iff.mp h).1
  exact ⟨ih[n], List.getElem?_eq_getElem hl, S.cell n _ _ (List.getElem?_eq_getElem hl) h⟩
theorem Sim.obj (S : Sim K ι ih H) {a : Addr} (h : some a ∈ ι) : ∃ o, H a = some o ∧ isCellO o := by
  obtain ⟨n, e⟩ := at_of_mem h
  obtain ⟨c, _, q⟩ := S.at_ e
  exact q.obj
theorem Sim.no {a : Addr} {o : HO} (S : Sim K ι ih H) (h : H a = some o) (hn : ¬ isCellO o) : some a ∉ ι := fun m => by
  obtain ⟨u, e, q⟩ := S.obj m
  rw [h] at e
  cases e
  exact hn q
theorem Sim.noneq {a : Addr} (S : Sim K ι ih H) (h : H a = none) : some a ∉ ι := fun m => by
  obtain ⟨u, e, q⟩ := S.obj m
  rw [h] at e
  cases e
theorem SqT.mono {a : Addr} {vs : List V} (S : Sim K ι ih H) (E : Ext ι H ι1 H1) (h : SqT K H a vs) : SqT K H1 a vs := by
  rcases h with (h | ⟨o, h⟩) | h
  · exact .inl (.inl (E.keep _ _ h (S.no h id)))
  · exact .inl (.inr ⟨o, E.keep _ _ h (S.no h id)⟩)
  · exact .inr h
theorem SqF.mono {a : Addr} {vs : List V} (S : Sim K ι ih H) (E : Ext ι H ι1 H1) (h : SqF K H a vs) : SqF K H1 a vs := by
  rcases h with ⟨o, h⟩ | h
  · exact .inl ⟨o, E.keep _ _ h (S.no h id)⟩
  · exact .inr h
mutual
theorem RD.mono (S : Sim K ι ih H) (E : Ext ι H ι1 H1) : ∀ {d : D} {v : V}, RD K ι H d v → RD K ι1 H1 d v
  | _, _, .non => .non
  | _, _, .bl b => .bl b
  | _, _, .int i => .int i
  | _, _, .str x => .str x
  | _, _, .ty n => .ty n
  | _, _, .glo x => .glo x
  | _, _, .loc n a h => .loc n a (E.pre n a h)
  | _, _, .tup ds a vs h r => .tup ds a vs (SqT.mono S E h) (RDs.mono S E r)
  | _, _, .lit ds a vs h r => .lit ds a vs (SqF.mono S E h) (RDs.mono S E r)
theorem RDs.mono (S : Sim K ι ih H) (E : Ext ι H ι1 H1) : ∀ {d : List D} {v : List V}, RDs K ι H d v → RDs K ι1 H1 d v
  | _, _, .nil => .nil
  | _, _, .cons h r => .cons (RD.mono S E h) (RDs.mono S E r)
end
theorem RFs.mono {κ : Type} (S : Sim K ι ih H) (E : Ext ι H ι1 H1) : ∀ {d : List (κ × D)} {v : List (κ × V)}, RFs K ι H d v → RFs K ι1 H1 d v
  | _, _, .nil => .nil
  | _, _, .cons h r => .cons (RD.mono S E h) (RFs.mono S E r)
theorem REnv.mono {ρ : Sl} {σ : L2.St} (S : Sim K ι ih H) (E : Ext ι H ι1 H1) (h : REnv K ι H ρ σ) : REnv K ι1 H1 ρ σ :=
  ⟨h.1, fun i d e => let ⟨v, e1, r⟩ := h.2 i d e; ⟨v, e1, r.mono S E⟩⟩
variable {α β : Type} {W : Wx} {N : α → IH → Io → Hp → Prop}
theorem Out.rebase {r : Res α} (E : Ext ι H ι1 H1) (h : Out K ι H W N r) : Out K ι1 H1 W N r := by
  cases r with
  | ok a x => exact fun ι' H' S E' => h ι' H' S (E.trans E')
  | exn c n x => exact fun ι' H' S E' => h ι' H' S (E.trans E')
  | bad => exact h
theorem Out.mono {r : Res α} {N' : α → IH → Io → Hp → Prop} (h : Out K ι H W N r) (k : ∀ a ih' ι' H', Sim K ι' ih' H' → Ext ι H ι' H' → N a ih' ι' H' → N' a ih' ι' H') : Out K ι H W N' r := by
  cases r with
  | ok a x => exact fun ι' H' S E' => k a x ι' H' S E' (h ι' H' S E')
  | exn c n x => exact h
  | bad => exact h
/-- the parts of a bind -/
theorem Out.bind {r : Res β} {f : β → IH → Res α} (h : Out K ι H W N (r.bind f)) : Out K ι H W (fun b ih' ι' H' => Out K ι' H' W N (f b ih')) r := by
  cases r with
  | ok a x => exact fun ι' H' S E' => Out.rebase E' h
  | exn c n x => exact h
  | bad => exact h
theorem Out.here {a : α} {x : IH} (S : Sim K ι x H) (h : Out K ι H W N (.ok a x)) : N a x ι H := h ι H S Ext.refl
end
end IM
end

section
set_option Elab.async false
set_option linter.all false
set_option maxRecDepth 100000
/-! The judgements of the interpreter, the first rules. -/
namespace IM
open PySem PySem.Spec PyProof.Rows L2

/-! ### readings of the interpreter's terms -/
def tE (K : PySem.W.Frag) (W : Wx) (cl : CallT) (d : DE) : TE := fun σ H Q => ∃ ι ρ ih, Sim K ι ih H ∧ REnv K ι H ρ σ ∧ Out K ι H W (fun v _ ι' H' => ∀ u, RD K ι' H' v u → Q u H') (d cl ρ ih)
def tT (K : PySem.W.Frag) (W : Wx) (cl : CallT) (d : DB) : TT := fun σ H Q => ∃ ι ρ ih, Sim K ι ih H ∧ REnv K ι H ρ σ ∧ Out K ι H W (fun b _ _ H' => Q b H') (d cl ρ ih)
def tA (K : PySem.W.Frag) (W : Wx) (cl : CallT) (d : DA) : TA := fun σ H Q => ∃ ι ρ ih, Sim K ι ih H ∧ REnv K ι H ρ σ ∧ Out K ι H W (fun v _ ι' H' => ∀ u, RDs K ι' H' v u → Q u H') (d cl ρ ih)
def FlOk (K : PySem.W.Frag) (Dk : Ends) : Fl → IH → Io → Hp → Prop
  | .nx ρ, _, ι, H => ∀ σ, REnv K ι H ρ σ → Dk.nx σ H
  | .rt d, _, ι, H => ∀ u, RD K ι H d u → Dk.rt u H
  | .bk ρ, _, ι, H => ∀ σ, REnv K ι H ρ σ → Dk.bk σ H
  | .ct ρ, _, ι, H => ∀ σ, REnv K ι H ρ σ → Dk.ct σ H
def tS (K : PySem.W.Frag) (W : Wx) (cl : CallT) (d : DS) : TS := fun Dk σ H => ∃ ι ρ ih, Sim K ι ih H ∧ REnv K ι H ρ σ ∧ Out K ι H W (FlOk K Dk) (d cl ρ ih)
abbrev SE (X : Cx) (W : Wx) (cl : CallT) (e : Expr) (d : DE) : Prop := PE X e (tE X.K W cl d)
abbrev ST (X : Cx) (W : Wx) (cl : CallT) (e : Expr) (d : DB) : Prop := PT X e (tT X.K W cl d)
abbrev SA (X : Cx) (W : Wx) (cl : CallT) (e : List Expr) (d : DA) : Prop := PA X e (tA X.K W cl d)
abbrev SS (X : Cx) (W : Wx) (cl : CallT) (e : Stmt) (d : DS) : Prop := PS X e (tS X.K W cl d)
abbrev SSs (X : Cx) (W : Wx) (cl : CallT) (e : List Stmt) (d : DS) : Prop := PSs X e (tS X.K W cl d)

theorem peOf {X : Cx} {e : Expr} {t t' : TE} (h : PE X e t) (c : ∀ σ H Q, t' σ H Q → t σ H Q) : PE X e t' := ⟨fun pins s σ H Q I q => h.run pins s σ H Q I (c σ H Q q)⟩
theorem ptOf {X : Cx} {e : Expr} {t t' : TT} (h : PT X e t) (c : ∀ σ H Q, t' σ H Q → t σ H Q) : PT X e t' := ⟨fun pins s σ H Q I q => h.run pins s σ H Q I (c σ H Q q)⟩
theorem paOf {X : Cx} {e : List Expr} {t t' : TA} (h : PA X e t) (c : ∀ σ H Q, t' σ H Q → t σ H Q) : PA X e t' := ⟨fun pos pins s σ H Q I q => h.run pos pins s σ H Q I (c σ H Q q)⟩
theorem psOf {X : Cx} {e : Stmt} {t t' : TS} (h : PS X e t) (c : ∀ D σ H, t' D σ H → t D σ H) : PS X e t' := ⟨fun pins s σ H D I q => h.run pins s σ H D I (c D σ H q)⟩
theorem pssOf {X : Cx} {e : List Stmt} {t t' : TS} (h : PSs X e t) (c : ∀ D σ H, t' D σ H → t D σ H) : PSs X e t' := ⟨fun pins s σ H D I q => h.run pins s σ H D I (c D σ H q)⟩

section
variable {K : PySem.W.Frag} {W : Wx} {cl : CallT} {ι : Io} {ih : IH} {ρ : Sl} {σ : L2.St} {H : Hp} {α : Type} {N : α → IH → Io → Hp → Prop}
/-- the first part of a bind, by its own reading -/
theorem tE.seq {da : DE} {f : D → IH → Res α} (S : Sim K ι ih H) (R : REnv K ι H ρ σ) (h : Out K ι H W N ((da cl ρ ih).bind f)) :
    tE K W cl da σ H fun u H1 => ∃ ι1 ih1 d, Sim K ι1 ih1 H1 ∧ Ext ι H ι1 H1 ∧ RD K ι1 H1 d u ∧ REnv K ι1 H1 ρ σ ∧ Out K ι1 H1 W N (f d ih1) :=
  ⟨ι, ρ, ih, S, R, (Out.bind h).mono fun a ih' ι' H' S' E' q u r => ⟨ι', ih', a, S', E', r, R.mono S E', q⟩⟩
theorem tT.seq {da : DB} {f : Bool → IH → Res α} (S : Sim K ι ih H) (R : REnv K ι H ρ σ) (h : Out K ι H W N ((da cl ρ ih).bind f)) :
    tT K W cl da σ H fun b H1 => ∃ ι1 ih1, Sim K ι1 ih1 H1 ∧ Ext ι H ι1 H1 ∧ REnv K ι1 H1 ρ σ ∧ Out K ι1 H1 W N (f b ih1) :=
  ⟨ι, ρ, ih, S, R, (Out.bind h).mono fun a ih' ι' H' S' E' q => ⟨ι', ih', S', E', R.mono S E', q⟩⟩
theorem tA.seq {da : DA} {f : List D → IH → Res α} (S : Sim K ι ih H) (R : REnv K ι H ρ σ) (h : Out K ι H W N ((da cl ρ ih).bind f)) :
    tA K W cl da σ H fun u H1 => ∃ ι1 ih1 d, Sim K ι1 ih1 H1 ∧ Ext ι H ι1 H1 ∧ RDs K ι1 H1 d u ∧ REnv K ι1 H1 ρ σ ∧ Out K ι1 H1 W N (f d ih1) :=
  ⟨ι, ρ, ih, S, R, (Out.bind h).mono fun a ih' ι' H' S' E' q u r => ⟨ι', ih', a, S', E', r, R.mono S E', q⟩⟩
end
/-- readings grow with what is wanted -/
theorem tE.weaken {K : PySem.W.Frag} {W : Wx} {cl : CallT} {d : DE} {σ : L2.St} {H : Hp} {Q Q' : VK} (h : tE K W cl d σ H Q) (k : ∀ u H1, Q u H1 → Q' u H1) : tE K W cl d σ H Q' := by
  obtain ⟨ι, ρ, ih, S, R, q⟩ := h
  exact ⟨ι, ρ, ih, S, R, q.mono fun a ih' ι' H' _ _ q u r => k _ _ (q u r)⟩
theorem tT.weaken {K : PySem.W.Frag} {W : Wx} {cl : CallT} {d : DB} {σ : L2.St} {H : Hp} {Q Q' : Bool → Hp → Prop} (h : tT K W cl d σ H Q) (k : ∀ u H1, Q u H1 → Q' u H1) : tT K W cl d σ H Q' := by
  obtain ⟨ι, ρ, ih, S, R, q⟩ := h
  exact ⟨ι, ρ, ih, S, R, q.mono fun a ih' ι' H' _ _ q => k _ _ q⟩
theorem tA.weaken {K : PySem.W.Frag} {W : Wx} {cl : CallT} {d : DA} {σ : L2.St} {H : Hp} {Q Q' : List V → Hp → Prop} (h : tA K W cl d σ H Q) (k : ∀ u H1, Q u H1 → Q' u H1) : tA K W cl d σ H Q' := by
  obtain ⟨ι, ρ, ih, S, R, q⟩ := h
  exact ⟨ι, ρ, ih, S, R, q.mono fun a ih' ι' H' _ _ q u r => k _ _ (q u r)⟩

/-! ### names and constants -/
def dVar (i : Nat) : DE := fun _ ρ ih => match ρ[i]? with
  | some (some d) => .ok d ih
  | _ => .bad
def dK (d : D) : DE := fun _ _ ih => .ok d ih
section
variable {X : Cx} {W : Wx} {cl : CallT} {pos : Pos}
theorem se_var (i : Nat) {x : Str} (hN : X.N[i]? = some x := by rfl) (hv : Vis X.env.scope x := by first | exact Or.inl rfl | exact Or.inr (Or.inl rfl) | exact Or.inr (Or.inr rfl)) (hd : (x == ("__debug__" : Str)) = false := by decide)
    (hcd : (x == ("__classdict__" : Str)) = false := by decide) : SE X W cl (.Name x pos) (dVar i) := peOf (pe_var hN hv hd hcd) fun σ H Q h => by
  obtain ⟨ι, ρ, ih, S, R, q⟩ := h
  unfold dVar at q
  cases e : ρ[i]? with
  | none => rw [e] at q; exact q.elim
  | some o =>
    rw [e] at q
    cases o with
    | none => exact q.elim
    | some d =>
      obtain ⟨v, e1, r⟩ := R.2 i d e
      exact ⟨v, e1, (Out.here S q) v r⟩
theorem se_K {e : Expr} {d : D} {v : V} (h : PE X e (tC v)) (r : ∀ K ι H, RD K ι H d v) : SE X W cl e (dK d) := peOf h fun σ H Q h => by
  obtain ⟨ι, ρ, ih, S, R, q⟩ := h
  exact (Out.here S q) v (r _ _ _)
theorem se_int {i : Int} {j : Nat} : SE X W cl (.Constant (.int i) j pos) (dK (.int i)) := se_K pe_int fun _ _ _ => .int i
theorem se_bl {b : Bool} {j : Nat} : SE X W cl (.Constant (.bool b) j pos) (dK (.bl b)) := se_K pe_bl fun _ _ _ => .bl b
theorem se_non {j : Nat} : SE X W cl (.Constant .none j pos) (dK .non) := se_K pe_non fun _ _ _ => .non
theorem se_str {x : Str} {j : Nat} : SE X W cl (.Constant (.str x) j pos) (dK (.str x)) := se_K pe_str fun _ _ _ => .str x
/-- a module's int or text -/
theorem se_gint {x : Str} {i : Int} {t : Tok} (hg : Gl X x) (hm : X.mg x = some (.int i t)) (hd : (x == ("__debug__" : Str)) = false := by decide) : SE X W cl (.Name x pos) (dK (.int i)) := se_K (pe_glob (v := .int i) hg hm ⟨t, rfl⟩ hd) fun _ _ _ => .int i
theorem se_gstr {x z : Str} {t : Tok} (hg : Gl X x) (hm : X.mg x = some (.str z t)) (hd : (x == ("__debug__" : Str)) = false := by decide) : SE X W cl (.Name x pos) (dK (.str z)) := se_K (pe_glob (v := .str z) hg hm ⟨t, rfl⟩ hd) fun _ _ _ => .str z
end

/-! ### operators by values -/
/-- the end of an operation: a value that stands in the relation -/
abbrev EndV (K : PySem.W.Frag) (Q : VK) : D → IH → Io → Hp → Prop := fun v _ ι' H' => ∀ u, RD K ι' H' v u → Q u H'
/-- a two-place operation of the machine does what g does -/
def OpS (X : Cx) (W : Wx) (f : Value → Value → Sem Value) (g : D → D → IH → Res D) : Prop :=
  ∀ (pins : List (Addr × Obj)) (s : Shared) (σ : L2.St) (H : Hp) (ι : Io) (ih : IH) (x y : D) (ux uy : V) (vx vy : Value) (Q : VK), Inv X pins σ H s → Sim X.K ι ih H → RD X.K ι H x ux → RD X.K ι H y uy → RelV ux vx → RelV uy vy →
    Out X.K ι H W (EndV X.K Q) (g x y ih) → wpAny (model X.prog X.w) X.A (f vx vy) (EP X pins σ Q) X.xe s
theorem OpS.of {X : Cx} {W : Wx} {f : Value → Value → Sem Value} {g : D → D → IH → Res D} {r : R2} (ho : OpR X f r)
    (h : ∀ (H : Hp) (ι : Io) (ih : IH) (x y : D) (ux uy : V) (Q : VK), Sim X.K ι ih H → RD X.K ι H x ux → RD X.K ι H y uy → Out X.K ι H W (EndV X.K Q) (g x y ih) → r ux uy H Q) : OpS X W f g :=
  fun pins s σ H ι ih x y ux uy vx vy Q I S r1 r2 v1 v2 q => ho pins s σ H ux uy vx vy Q I v1 v2 (h H ι ih x y ux uy Q S r1 r2 q)
def dOp (g : D → D → IH → Res D) (a b : DE) : DE := fun cl ρ ih => (a cl ρ ih).bind fun x ih => (b cl ρ ih).bind fun y ih => g x y ih
section
variable {X : Cx} {W : Wx} {cl : CallT} {a b : Expr} {da db : DE} {pos : Pos} {g : D → D → IH → Res D}
theorem OpS.two {f : Value → Value → Sem Value} (ho : OpS X W f g) (ha : SE X W cl a da) (hb : SE X W cl b db) {pins : List (Addr × Obj)} {s : Shared} {σ : L2.St} {H : Hp} {Q : VK} (I : Inv X pins σ H s) (h : tE X.K W cl (dOp g da db) σ H Q) :
    wpAny (model X.prog X.w) X.A (eval a X.env) (fun v s₁ => wpAny (model X.prog X.w) X.A (eval b X.env) (fun u s₂ => wpAny (model X.prog X.w) X.A (f v u) (EP X pins σ Q) X.xe s₂) X.xe s₁) X.xe s := by
  obtain ⟨ι, ρ, ih, S, R, q⟩ := h
  refine binT (R := fun ux uy H2 => ∃ ι2 ih2 x y, Sim X.K ι2 ih2 H2 ∧ RD X.K ι2 H2 x ux ∧ RD X.K ι2 H2 y uy ∧ Out X.K ι2 H2 W (EndV X.K Q) (g x y ih2)) ha hb I ?_ ?_
  · refine (tE.seq S R q).weaken fun ux H1 ⟨ι1, ih1, x, S1, E1, rx, R1, q1⟩ => ?_
    exact (tE.seq S1 R1 q1).weaken fun uy H2 ⟨ι2, ih2, y, S2, E2, ry, R2, q2⟩ => ⟨ι2, ih2, x, y, S2, rx.mono S1 E2, ry, q2⟩
  · rintro v u s2 ux uy H2 I2 r1 r2 ⟨ι2, ih2, x, y, S2, rx, ry, q2⟩
    exact ho pins s2 σ H2 ι2 ih2 x y ux uy v u Q I2 S2 rx ry r1 r2 q2
theorem se_op {op : Operator} (ho : OpS X W (binaryOp op) g) (ha : SE X W cl a da) (hb : SE X W cl b db) : SE X W cl (.BinOp a op b pos) (dOp g da db) := ⟨fun pins s σ H Q I h => wpAny_BinOp (ho.two ha hb I h)⟩
theorem se_cmp {op : CmpOp} (ho : OpS X W (compareOp op) g) (ha : SE X W cl a da) (hb : SE X W cl b db) (hm : behindInMarks op b = false) : SE X W cl (.Compare a [op] [b] pos) (dOp g da db) := ⟨fun pins s σ H Q I h => wpAny_Compare1 (ho.two ha hb I h) hm⟩
end
/-- two ints -/
def gI (c : Int → Int → Bool) (g : Int → Int → D) : D → D → IH → Res D := fun x y ih => match x, y with
  | .int i, .int j => if c i j = true then .ok (g i j) ih else .bad
  | _, _ => .bad
theorem RD.int_inv {K : PySem.W.Frag} {ι : Io} {H : Hp} {i : Int} {u : V} (h : RD K ι H (.int i) u) : u = .int i := by cases h; rfl
theorem gI_ok {K : PySem.W.Frag} {ι : Io} {H : Hp} {ih : IH} {W : Wx} {c : Int → Int → Bool} {g : Int → Int → D} {x y : D} {ux uy : V} {Q : VK} {G : Int → Int → V} (hG : ∀ i j K ι H, RD K ι H (g i j) (G i j)) (S : Sim K ι ih H) (r1 : RD K ι H x ux) (r2 : RD K ι H y uy)
    (q : Out K ι H W (EndV K Q) (gI c g x y ih)) : ∃ i j, ux = .int i ∧ uy = .int j ∧ c i j = true ∧ Q (G i j) H := by
  unfold gI at q
  cases x with
  | int i =>
    cases y with
    | int j =>
      cases r1
      cases r2
      dsimp only at q
      split at q
      · rename_i hc
        exact ⟨i, j, rfl, rfl, hc, (Out.here S q) _ (hG _ _ _ _ _)⟩
      · exact q.elim
    | _ => exact q.elim
  | _ => exact q.elim
section
variable {X : Cx} {W : Wx}
theorem os_I0 {f : Value → Value → Sem Value} {G : Int → Int → V} {g : Int → Int → D} (ho : OpR X f (rI0 G)) (hG : ∀ i j K ι H, RD K ι H (g i j) (G i j)) : OpS X W f (gI (fun _ _ => true) g) := .of ho fun H ι ih x y ux uy Q S r1 r2 q => by
  obtain ⟨i, j, e1, e2, _, h⟩ := gI_ok hG S r1 r2 q
  exact ⟨i, j, e1, e2, h⟩
theorem os_I {f : Value → Value → Sem Value} {P : Int → Int → Prop} {c : Int → Int → Bool} {G : Int → Int → V} {g : Int → Int → D} (ho : OpR X f (rI P G)) (hc : ∀ i j, c i j = true → P i j) (hG : ∀ i j K ι H, RD K ι H (g i j) (G i j)) : OpS X W f (gI c g) := .of ho fun H ι ih x y ux uy Q S r1 r2 q => by
  obtain ⟨i, j, e1, e2, hh, h⟩ := gI_ok hG S r1 r2 q
  exact ⟨i, j, e1, e2, hc i j hh, h⟩
abbrev gAddI := gI (fun _ _ => true) fun i j => .int (i + j)
abbrev gSubI := gI (fun _ _ => true) fun i j => .int (i - j)
abbrev gLt := gI (fun _ _ => true) fun i j => .bl (decide (i < j))
abbrev gLe := gI (fun _ _ => true) fun i j => .bl (decide (i ≤ j))
abbrev gGt := gI (fun _ _ => true) fun i j => .bl (decide (j < i))
abbrev gGe := gI (fun _ _ => true) fun i j => .bl (decide (j ≤ i))
abbrev gMul := gI (fun i j => decide (i.natAbs < 2 ^ 64) || decide (j.natAbs < 2 ^ 64)) fun i j => .int (i * j)
abbrev gMod := gI (fun _ j => decide (0 < j)) fun i j => .int (i % j)
abbrev gPow := gI (fun i j => decide (0 ≤ j) && (decide (j ≤ 1000000) && decide (i.natAbs < 2 ^ 64))) fun i j => .int (i ^ j.toNat)
theorem os_addI : OpS X W (binaryOp .Add) gAddI := os_I0 op_add fun i j _ _ _ => .int _
theorem os_subI : OpS X W (binaryOp .Sub) gSubI := os_I0 op_sub fun i j _ _ _ => .int _
theorem os_lt : OpS X W (compareOp .Lt) gLt := os_I0 op_lt fun i j _ _ _ => .bl _
theorem os_le : OpS X W (compareOp .LtE) gLe := os_I0 op_le fun i j _ _ _ => .bl _
theorem os_gt : OpS X W (compareOp .Gt) gGt := os_I0 op_gt fun i j _ _ _ => .bl _
theorem os_ge : OpS X W (compareOp .GtE) gGe := os_I0 op_ge fun i j _ _ _ => .bl _
theorem os_mul : OpS X W (binaryOp .Mult) gMul := os_I op_mul (fun i j h => by
  simp only [Bool.or_eq_true, decide_eq_true_eq] at h
  unfold CMul
  omega) fun i j _ _ _ => .int _
theorem os_mod : OpS X W (binaryOp .Mod) gMod := os_I op_mod (fun i j h => of_decide_eq_true h) fun i j _ _ _ => .int _
theorem os_pow : OpS X W (binaryOp .Pow) gPow := os_I op_pow (fun i j h => by
  simp only [Bool.and_eq_true, decide_eq_true_eq] at h
  exact h) fun i j _ _ _ => .int _
end
end IM
end

section
set_option Elab.async false
set_option linter.all false
set_option maxRecDepth 100000
/-! Heaps, displays, tests, plain statements. -/
namespace IM
open PySem PySem.Spec PyProof.Rows L2

/-! ### the heap changes -/
section
variable {K : PySem.W.Frag} {ι ι1 : Io} {H H1 : Hp} {ih : IH}
theorem CellOk.mono (S : Sim K ι ih H) (E : Ext ι H ι1 H1) {c : C} {oa : Option Addr} (h : CellOk K ι H c oa) (k : ∀ a, oa = some a → ∀ o, H a = some o → H1 a = some o) : CellOk K ι1 H1 c oa := by
  cases c with
  | gone => exact h
  | lst ds => obtain ⟨a, vs, e, q, r⟩ := h; exact ⟨a, vs, e, k a e _ q, r.mono S E⟩
  | dic ds => obtain ⟨a, vs, e, q, r⟩ := h; exact ⟨a, vs, e, k a e _ q, r.mono S E⟩
  | ins c fs => obtain ⟨a, dx, gs, e, q, r⟩ := h; exact ⟨a, dx, gs, e, k a e _ q, r.mono S E⟩
  | exc c d =>
    obtain ⟨a, dx, e, q, r⟩ := h
    refine ⟨a, dx, e, k a e _ q, ?_⟩
    cases d with
    | none => exact r
    | some n => obtain ⟨b, e1, e2⟩ := r; exact ⟨b, e1, E.pre n b e2⟩
  | xd ds => obtain ⟨a, vs, e, q, r⟩ := h; exact ⟨a, vs, e, k a e _ q, r.mono S E⟩
  | xdr ds => obtain ⟨a, vs, e, q, r⟩ := h; exact ⟨a, vs, e, k a e _ q, r.mono S E⟩
theorem upd_none_ne {p a : Addr} {o : HO} (hp : H p = none) (h : H a = some o) : a ≠ p := fun e => by rw [e, hp] at h; cases h
/-- a new object that is no cell -/
theorem Sim.aside (S : Sim K ι ih H) {p : Addr} {o : HO} (hp : H p = none) : Sim K ι ih (upd H p o) ∧ Ext ι H ι (upd H p o) := by
  have E : Ext ι H ι (upd H p o) := ⟨Nat.le_refl _, fun _ _ h => h, fun a u h _ => (upd_ne (upd_none_ne hp h)).trans h, fun a m n => absurd m n⟩
  exact ⟨⟨S.len, S.inj, fun n c oa h1 h2 => (S.cell n c oa h1 h2).mono S E fun a _ u h => (upd_ne (upd_none_ne hp h)).trans h⟩, E⟩
theorem Ext.push {p : Addr} {o : HO} (hp : H p = none) : Ext ι H (ι ++ [some p]) (upd H p o) := by
  refine ⟨by simp, fun n a h => ?_, fun a u h _ => (upd_ne (upd_none_ne hp h)).trans h, fun a m n => ?_⟩
  · rw [List.getElem?_append_left (List.getElem?_eq_some_iff.mp h).1]; exact h
  · rcases List.mem_append.mp m with m | m
    · exact absurd m n
    · have e : some a = some p := by simpa using m
      cases e
      exact hp
/-- a new cell -/
theorem Sim.push (S : Sim K ι ih H) {p : Addr} {o : HO} {c : C} (hp : H p = none) (hc : CellOk K (ι ++ [some p]) (upd H p o) c (some p)) : Sim K (ι ++ [some p]) (ih ++ [c]) (upd H p o) ∧ Ext ι H (ι ++ [some p]) (upd H p o) := by
  have E : Ext ι H (ι ++ [some p]) (upd H p o) := Ext.push hp
  have hnp : some p ∉ ι := S.noneq hp
  have hl := S.len
  refine ⟨⟨by simp [hl], fun n m a h1 h2 => ?_, fun n d oa h1 h2 => ?_⟩, E⟩
  · by_cases hn : n < ι.length
    · rw [List.getElem?_append_left hn] at h1
      by_cases hm : m < ι.length
      · rw [List.getElem?_append_left hm] at h2
        exact S.inj n m a h1 h2
      · rw [List.getElem?_append_right (by omega)] at h2
        have e : some p = some a := by
          have := List.mem_of_getElem? h2
          have := List.mem_singleton.mp this
          exact this.symm
        cases e
        exact absurd (mem_at h1) hnp
    · rw [List.getElem?_append_right (by omega)] at h1
      have e : some p = some a := (List.mem_singleton.mp (List.mem_of_getElem? h1)).symm
      cases e
      by_cases hm : m < ι.length
      · rw [List.getElem?_append_left hm] at h2
        exact absurd (mem_at h2) hnp
      · have b1 := (List.getElem?_eq_some_iff.mp h1).1
        rw [List.getElem?_append_right (by omega)] at h2
        have b2 := (List.getElem?_eq_some_iff.mp h2).1
        simp at b1 b2
        omega
  · by_cases hn : n < ih.length
    · rw [List.getElem?_append_left hn] at h1
      rw [List.getElem?_append_left (by omega)] at h2
      exact (S.cell n d oa h1 h2).mono S E fun a _ u h => (upd_ne (upd_none_ne hp h)).trans h
    · rw [List.getElem?_append_right (by omega)] at h1
      have e1 : d = c := List.mem_singleton.mp (List.mem_of_getElem? h1)
      rw [List.getElem?_append_right (by omega)] at h2
      have e2 : oa = some p := List.mem_singleton.mp (List.mem_of_getElem? h2)
      rw [e1, e2]
      exact hc
/-- a cell is written -/
theorem Sim.put (S : Sim K ι ih H) {n : Nat} {a : Addr} {o : HO} {c : C} (hn : ι[n]? = some (some a)) (hc : CellOk K ι (upd H a o) c (some a)) : Sim K ι (ih.set n c) (upd H a o) ∧ Ext ι H ι (upd H a o) := by
  have E : Ext ι H ι (upd H a o) := ⟨Nat.le_refl _, fun _ _ h => h, fun b u h hb => (upd_ne fun e => hb (by rw [e]; exact mem_at hn)).trans h, fun a m n => absurd m n⟩
  refine ⟨⟨by simp [S.len], S.inj, fun m d oa h1 h2 => ?_⟩, E⟩
  by_cases hm : m = n
  · subst hm
    have hl : m < ih.length := by
      have := (List.getElem?_eq_some_iff.mp hn).1
      rw [S.len] at this
      exact this
    rw [List.getElem?_set_self hl] at h1
    cases h1
    rw [hn] at h2
    cases h2
    exact hc
  · rw [List.getElem?_set_ne (Ne.symm hm)] at h1
    refine (S.cell m d oa h1 h2).mono S E fun b e u h => (upd_ne fun e2 => ?_).trans h
    subst e
    subst e2
    exact hm (S.inj m n b h2 hn)
theorem RDs.length : ∀ {ds : List D} {vs : List V}, RDs K ι H ds vs → ds.length = vs.length
  | _, _, .nil => rfl
  | _, _, .cons _ r => by simp [RDs.length r]
theorem RDs.get : ∀ {ds : List D} {vs : List V} {i : Nat} {d : D}, RDs K ι H ds vs → ds[i]? = some d → ∃ v, vs[i]? = some v ∧ RD K ι H d v
  | _, _, _, _, .nil, e => by simp at e
  | _, _, 0, _, .cons r _, e => by simp at e; subst e; exact ⟨_, rfl, r⟩
  | _, _, i + 1, d, .cons _ t, e => by
    obtain ⟨u, h1, h2⟩ := RDs.get (i := i) (d := d) t (by simpa using e)
    exact ⟨u, by simpa using h1, h2⟩
theorem RDs.append : ∀ {xs ys : List D} {us ws : List V}, RDs K ι H xs us → RDs K ι H ys ws → RDs K ι H (xs ++ ys) (us ++ ws)
  | _, _, _, _, .nil, s => s
  | _, _, _, _, .cons r t, s => .cons r (RDs.append t s)
theorem RDs.take : ∀ {xs : List D} {us : List V} (n : Nat), RDs K ι H xs us → RDs K ι H (xs.take n) (us.take n)
  | _, _, 0, _ => by simpa using RDs.nil
  | _, _, _ + 1, .nil => by simpa using RDs.nil
  | _, _, n + 1, .cons r t => by simpa using RDs.cons r (RDs.take n t)
theorem RDs.drop : ∀ {xs : List D} {us : List V} (n : Nat), RDs K ι H xs us → RDs K ι H (xs.drop n) (us.drop n)
  | _, _, 0, r => by simpa using r
  | _, _, _ + 1, .nil => by simpa using RDs.nil
  | _, _, n + 1, .cons _ t => by simpa using RDs.drop n t
theorem RDs.set : ∀ {xs : List D} {us : List V} {d : D} {v : V} (n : Nat), RDs K ι H xs us → RD K ι H d v → RDs K ι H (xs.set n d) (us.set n v)
  | _, _, _, _, _, .nil, _ => by simpa using RDs.nil
  | _, _, _, _, 0, .cons _ t, r => by simpa using RDs.cons r t
  | _, _, _, _, n + 1, .cons q t, r => by simpa using RDs.cons q (RDs.set n t r)
theorem REnv.set {ρ : Sl} {σ : L2.St} {d : D} {v : V} (h : REnv K ι H ρ σ) (i : Nat) (r : RD K ι H d v) : REnv K ι H (ρ.set i (some d)) (σ.set i (some v)) := by
  refine ⟨by simpa using h.1, fun j e q => ?_⟩
  by_cases hj : i = j
  · subst hj
    have hl : i < ρ.length := by
      have := (List.getElem?_eq_some_iff.mp q).1
      simpa using this
    rw [List.getElem?_set_self hl] at q
    cases q
    exact ⟨v, List.getElem?_set_self (h.1 ▸ hl), r⟩
  · rw [List.getElem?_set_ne hj] at q
    obtain ⟨w, q1, q2⟩ := h.2 j e q
    exact ⟨w, by rw [List.getElem?_set_ne hj]; exact q1, q2⟩
/-- a list at a cell -/
theorem Sim.list {n : Nat} {ds : List D} {a : Addr} (S : Sim K ι ih H) (h : ih[n]? = some (.lst ds)) (e : ι[n]? = some (some a)) : ∃ vs, H a = some (.lst vs) ∧ RDs K ι H ds vs := by
  obtain ⟨b, vs, e1, q, r⟩ := S.cell n _ _ h e
  cases e1
  exact ⟨vs, q, r⟩
end

/-! ### arguments, displays -/
def dNil : DA := fun _ _ ih => .ok [] ih
def dCons (a : DE) (r : DA) : DA := fun cl ρ ih => (a cl ρ ih).bind fun x ih => (r cl ρ ih).bind fun xs ih => .ok (x :: xs) ih
def dTup (r : DA) : DE := fun cl ρ ih => (r cl ρ ih).bind fun xs ih => if xs.length ≤ 100000 then .ok (.tup xs) ih else .bad
def dLst (r : DA) : DE := fun cl ρ ih => (r cl ρ ih).bind fun xs ih => if xs.length ≤ 100000 then .ok (.loc ih.length) (ih ++ [.lst xs]) else .bad
section
variable {X : Cx} {W : Wx} {cl : CallT} {pos : Pos} {e a b c : Expr} {es : List Expr} {d da db : DE} {r : DA}
theorem sa_nil : SA X W cl [] dNil := paOf pa_nil fun σ H Q ⟨ι, ρ, ih, S, R, q⟩ => (Out.here S q) _ .nil
theorem sa_cons (ha : SE X W cl e d) (hr : SA X W cl es r) (hs : starEach (e :: es) X.env = (false, eval e X.env) :: starEach es X.env := by rfl) : SA X W cl (e :: es) (dCons d r) := paOf (pa_cons ha hr hs) fun σ H Q ⟨ι, ρ, ih, S, R, q⟩ => by
  refine (tE.seq S R q).weaken fun ux H1 ⟨ι1, ih1, x, S1, E1, rx, R1, q1⟩ => ?_
  refine (tA.seq S1 R1 q1).weaken fun us H2 ⟨ι2, ih2, xs, S2, E2, rs, R2, q2⟩ => ?_
  exact (Out.here S2 q2) _ (.cons (rx.mono S1 E2) rs)
theorem line5 {n : Nat} (h : n ≤ 100000) : n ≤ sizeLine := by rw [sizeLine_eq]; omega
theorem se_tup {k : Nat} (h : SA X W cl es r) : SE X W cl (.Tuple es k pos) (dTup r) := peOf (pe_tup h) fun σ H Q ⟨ι, ρ, ih, S, R, q⟩ => by
  refine (tA.seq S R q).weaken fun us H1 ⟨ι1, ih1, xs, S1, E1, rs, R1, q1⟩ => ?_
  split at q1
  · rename_i hl
    refine ⟨by rw [← rs.length]; exact line5 hl, fun p hp => ?_⟩
    obtain ⟨S2, E2⟩ := S1.aside (o := .tup us) hp
    exact (q1 _ _ S2 E2) _ (.tup xs p us (.of upd_same) (rs.mono S1 E2))
  · exact q1.elim
theorem se_lst (h : SA X W cl es r) : SE X W cl (.List es pos) (dLst r) := peOf (pe_lst h) fun σ H Q ⟨ι, ρ, ih, S, R, q⟩ => by
  refine (tA.seq S R q).weaken fun us H1 ⟨ι1, ih1, xs, S1, E1, rs, R1, q1⟩ => ?_
  split at q1
  · rename_i hl
    refine ⟨by rw [← rs.length]; exact line5 hl, fun p hp => ?_⟩
    obtain ⟨S2, E2⟩ := S1.push (o := .lst us) (c := .lst xs) hp ⟨p, us, rfl, upd_same, rs.mono S1 (Ext.push hp)⟩
    exact (q1 _ _ S2 E2) _ (.loc _ p (by rw [← S1.len]; simp))
  · exact q1.elim
end
end IM
end

section
set_option Elab.async false
set_option linter.all false
set_option maxRecDepth 100000
/-! Tests, statements, loops. -/
namespace IM
open PySem PySem.Spec PyProof.Rows L2

/-! ### tests -/
def asB : D → IH → Res Bool := fun x ih => match x with
  | .bl b => .ok b ih
  | _ => .bad
def dTst (d : DE) : DB := fun cl ρ ih => (d cl ρ ih).bind asB
def dAnd (a b : DB) : DB := fun cl ρ ih => (a cl ρ ih).bind fun c ih => if c = true then b cl ρ ih else .ok false ih
def dOr (a b : DB) : DB := fun cl ρ ih => (a cl ρ ih).bind fun c ih => if c = true then .ok true ih else b cl ρ ih
def dNot (a : DB) : DB := fun cl ρ ih => (a cl ρ ih).bind fun c ih => .ok (!c) ih
def dVal (a : DB) : DE := fun cl ρ ih => (a cl ρ ih).bind fun c ih => .ok (.bl c) ih
def dIf (c : DB) (a b : DE) : DE := fun cl ρ ih => (c cl ρ ih).bind fun c ih => if c = true then a cl ρ ih else b cl ρ ih
def dAndV (a b : DE) : DE := fun cl ρ ih => (a cl ρ ih).bind fun x ih => (asB x ih).bind fun c ih => if c = true then b cl ρ ih else .ok (.bl false) ih
def dOrV (a b : DE) : DE := fun cl ρ ih => (a cl ρ ih).bind fun x ih => (asB x ih).bind fun c ih => if c = true then .ok (.bl true) ih else b cl ρ ih
def dNotV (a : DE) : DE := fun cl ρ ih => (a cl ρ ih).bind fun x ih => (asB x ih).bind fun c ih => .ok (.bl (!c)) ih
abbrev SW (X : Cx) (W : Wx) (cl : CallT) (e : Expr) (d : DB) : Prop := PW X e (tT X.K W cl d)
theorem pwOf {X : Cx} {e : Expr} {t t' : TT} (h : PW X e t) (c : ∀ σ H Q, t' σ H Q → t σ H Q) : PW X e t' := ⟨fun wh pins s σ H Q I q => h.run wh pins s σ H Q I (c σ H Q q)⟩
section
variable {X : Cx} {W : Wx} {cl : CallT} {pos : Pos} {e a b c : Expr} {rest : List Expr} {d da db : DE} {ba bb bc : DB}
theorem asB_bl {K : PySem.W.Frag} {ι : Io} {H : Hp} {ih : IH} {W : Wx} {α : Type} {N : α → IH → Io → Hp → Prop} {x : D} {ux : V} {f : Bool → IH → Res α} (r : RD K ι H x ux) (q : Out K ι H W N ((asB x ih).bind f)) : ∃ k, ux = .bl k ∧ Out K ι H W N (f k ih) := by
  cases x with
  | bl k => cases r; exact ⟨k, rfl, q⟩
  | _ => exact q.elim
theorem tst_of {K : PySem.W.Frag} {σ : L2.St} {H : Hp} {Q : Bool → Hp → Prop} (h : tT K W cl (dTst d) σ H Q) : tE K W cl d σ H fun x H1 => ∃ k, x = .bl k ∧ Q k H1 := by
  obtain ⟨ι, ρ, ih, S, R, q⟩ := h
  refine (tE.seq S R q).weaken fun ux H1 ⟨ι1, ih1, x, S1, E1, rx, R1, q1⟩ => ?_
  cases x with
  | bl k => cases rx; exact ⟨k, rfl, Out.here S1 q1⟩
  | _ => exact q1.elim
theorem st_cmp {op : CmpOp} {g : D → D → IH → Res D} (ho : OpS X W (compareOp op) g) (ha : SE X W cl a da) (hb : SE X W cl b db) (hm : behindInMarks op b = false) : ST X W cl (.Compare a [op] [b] pos) (dTst (dOp g da db)) :=
  ptOf (pt_cmp (X := X) (t := tE X.K W cl (dOp g da db)) ⟨fun pins s σ H Q I h => ho.two ha hb I h⟩ hm) fun σ H Q h => tst_of h
/-- any expression that hands back a truth value -/
theorem st_val (h : SE X W cl e d) (he : ∀ whole, isTrue e X.env whole = (do let v ← whole; standAt e.pos; holding [v] (truthy v)) := by intro _; rfl) : ST X W cl e (dTst d) := ptOf (pt_val h he) fun σ H Q h => tst_of h
theorem sw_and1 (ha : ST X W cl a ba) : SW X W cl (.BoolOp .And [a] pos) ba := pw_and1 ha
theorem sw_or1 (ha : ST X W cl a ba) : SW X W cl (.BoolOp .Or [a] pos) ba := pw_or1 ha
theorem sw_and (ha : ST X W cl a ba) (hb : SW X W cl (.BoolOp .And (b :: rest) pos) bb) : SW X W cl (.BoolOp .And (a :: b :: rest) pos) (dAnd ba bb) := pwOf (pw_and ha hb) fun σ H Q ⟨ι, ρ, ih, S, R, q⟩ => by
  refine (tT.seq S R q).weaken fun k H1 ⟨ι1, ih1, S1, E1, R1, q1⟩ => ?_
  cases k with
  | true => exact ⟨ι1, ρ, ih1, S1, R1, q1⟩
  | false => exact Out.here S1 q1
theorem sw_or (ha : ST X W cl a ba) (hb : SW X W cl (.BoolOp .Or (b :: rest) pos) bb) : SW X W cl (.BoolOp .Or (a :: b :: rest) pos) (dOr ba bb) := pwOf (pw_or ha hb) fun σ H Q ⟨ι, ρ, ih, S, R, q⟩ => by
  refine (tT.seq S R q).weaken fun k H1 ⟨ι1, ih1, S1, E1, R1, q1⟩ => ?_
  cases k with
  | false => exact ⟨ι1, ρ, ih1, S1, R1, q1⟩
  | true => exact Out.here S1 q1
theorem st_w (h : SW X W cl e ba) : ST X W cl e ba := h.pt
theorem st_not (ha : ST X W cl a ba) : ST X W cl (.UnaryOp .Not a pos) (dNot ba) := ptOf (pt_not ha) fun σ H Q ⟨ι, ρ, ih, S, R, q⟩ =>
  (tT.seq S R q).weaken fun k H1 ⟨ι1, ih1, S1, E1, R1, q1⟩ => Out.here S1 q1
theorem se_if (hc : ST X W cl c bc) (ha : SE X W cl a da) (hb : SE X W cl b db) : SE X W cl (.IfExp c a b pos) (dIf bc da db) := peOf (pe_ifExp hc ha hb) fun σ H Q ⟨ι, ρ, ih, S, R, q⟩ => by
  refine (tT.seq S R q).weaken fun k H1 ⟨ι1, ih1, S1, E1, R1, q1⟩ => ?_
  cases k with
  | true => exact ⟨ι1, ρ, ih1, S1, R1, q1⟩
  | false => exact ⟨ι1, ρ, ih1, S1, R1, q1⟩
theorem se_one {op} (h : SE X W cl a da) : SE X W cl (.BoolOp op [a] pos) da := pe_one h
theorem se_and (ha : SE X W cl a da) (hb : SE X W cl (.BoolOp .And (b :: rest) pos) db) : SE X W cl (.BoolOp .And (a :: b :: rest) pos) (dAndV da db) := peOf (pe_and ha hb) fun σ H Q ⟨ι, ρ, ih, S, R, q⟩ => by
  refine (tE.seq S R q).weaken fun ux H1 ⟨ι1, ih1, x, S1, E1, rx, R1, q1⟩ => ?_
  obtain ⟨k, e1, q2⟩ := asB_bl rx q1
  refine ⟨k, e1, ?_⟩
  cases k with
  | true => exact ⟨ι1, ρ, ih1, S1, R1, q2⟩
  | false => exact Out.here S1 q2 _ (.bl _)
theorem se_or (ha : SE X W cl a da) (hb : SE X W cl (.BoolOp .Or (b :: rest) pos) db) : SE X W cl (.BoolOp .Or (a :: b :: rest) pos) (dOrV da db) := peOf (pe_or ha hb) fun σ H Q ⟨ι, ρ, ih, S, R, q⟩ => by
  refine (tE.seq S R q).weaken fun ux H1 ⟨ι1, ih1, x, S1, E1, rx, R1, q1⟩ => ?_
  obtain ⟨k, e1, q2⟩ := asB_bl rx q1
  refine ⟨k, e1, ?_⟩
  cases k with
  | false => exact ⟨ι1, ρ, ih1, S1, R1, q2⟩
  | true => exact Out.here S1 q2 _ (.bl _)
theorem se_not (ha : SE X W cl a da) : SE X W cl (.UnaryOp .Not a pos) (dNotV da) := peOf (pe_not ha) fun σ H Q ⟨ι, ρ, ih, S, R, q⟩ => by
  refine (tE.seq S R q).weaken fun ux H1 ⟨ι1, ih1, x, S1, E1, rx, R1, q1⟩ => ?_
  obtain ⟨k, e1, q2⟩ := asB_bl rx q1
  exact ⟨k, e1, Out.here S1 q2 _ (.bl _)⟩
end

/-! ### statements -/
def dNx : DS := fun _ ρ ih => .ok (.nx ρ) ih
def dBrk : DS := fun _ ρ ih => .ok (.bk ρ) ih
def dCnt : DS := fun _ ρ ih => .ok (.ct ρ) ih
def dSeq (a b : DS) : DS := fun cl ρ ih => (a cl ρ ih).bind fun f ih => match f with
  | .nx ρ' => b cl ρ' ih
  | f => .ok f ih
def dRet (e : DE) : DS := fun cl ρ ih => (e cl ρ ih).bind fun v ih => .ok (.rt v) ih
def dExp (e : DE) : DS := fun cl ρ ih => (e cl ρ ih).bind fun _ ih => .ok (.nx ρ) ih
def dIfS (c : DB) (a b : DS) : DS := fun cl ρ ih => (c cl ρ ih).bind fun c ih => if c = true then a cl ρ ih else b cl ρ ih
def dSet (i : Nat) (e : DE) : DS := fun cl ρ ih => (e cl ρ ih).bind fun v ih => .ok (.nx (ρ.set i (some v))) ih
section
variable {X : Cx} {W : Wx} {cl : CallT} {pos : Pos} {st : Stmt} {rest : List Stmt} {e c : Expr} {d : DE} {bc : DB} {sa sb : DS}
theorem sss_nil : SSs X W cl [] dNx := pssOf pss_nil fun D σ H ⟨ι, ρ, ih, S, R, q⟩ => Out.here S q σ R
theorem FlOk.seq {K : PySem.W.Frag} {Dk : Ends} {ρ : Sl} {σ : L2.St} {ι : Io} {H : Hp} {ih : IH} (S : Sim K ι ih H) (R : REnv K ι H ρ σ) (q : Out K ι H W (FlOk K Dk) ((dSeq sa sb) cl ρ ih)) : tS K W cl sa { Dk with nx := tS K W cl sb Dk } σ H := by
  refine ⟨ι, ρ, ih, S, R, (Out.bind q).mono fun f ih' ι' H' S' E' q' => ?_⟩
  cases f with
  | nx ρ' => exact fun σ' R' => ⟨ι', ρ', ih', S', R', q'⟩
  | rt v => exact Out.here (W := W) S' q'
  | bk ρ' => exact Out.here (W := W) S' q'
  | ct ρ' => exact Out.here (W := W) S' q'
theorem sss_cons (h1 : SS X W cl st sa) (h2 : SSs X W cl rest sb) : SSs X W cl (st :: rest) (dSeq sa sb) := pssOf (pss_cons h1 h2) fun D σ H ⟨ι, ρ, ih, S, R, q⟩ => FlOk.seq S R q
theorem sss_one (h1 : SS X W cl st sa) : SSs X W cl [st] sa := pss_one h1
theorem ss_ret (h : SE X W cl e d) : SS X W cl (.Return (some e) pos) (dRet d) := psOf (ps_ret h) fun D σ H ⟨ι, ρ, ih, S, R, q⟩ =>
  (tE.seq S R q).weaken fun ux H1 ⟨ι1, ih1, x, S1, E1, rx, R1, q1⟩ => Out.here S1 q1 ux rx
theorem ss_exp (h : SE X W cl e d) (hs : swapsWith e none pos.line X.env = pure false := by rfl) : SS X W cl (.Expr e pos) (dExp d) := psOf (ps_expr h hs) fun D σ H ⟨ι, ρ, ih, S, R, q⟩ =>
  (tE.seq S R q).weaken fun ux H1 ⟨ι1, ih1, x, S1, E1, rx, R1, q1⟩ => Out.here S1 q1 σ R1
theorem ss_pass : SS X W cl (.Pass pos) dNx := psOf ps_pass fun D σ H ⟨ι, ρ, ih, S, R, q⟩ => Out.here S q σ R
theorem ss_brk : SS X W cl (.Break pos) dBrk := psOf ps_break fun D σ H ⟨ι, ρ, ih, S, R, q⟩ => Out.here S q σ R
theorem ss_cnt : SS X W cl (.Continue pos) dCnt := psOf ps_continue fun D σ H ⟨ι, ρ, ih, S, R, q⟩ => Out.here S q σ R
theorem ss_if {x y : List Stmt} (hc : ST X W cl c bc) (ha : SSs X W cl x sa) (hb : SSs X W cl y sb) : SS X W cl (.If c x y pos) (dIfS bc sa sb) := psOf (ps_if hc ha hb) fun D σ H ⟨ι, ρ, ih, S, R, q⟩ => by
  refine (tT.seq S R q).weaken fun k H1 ⟨ι1, ih1, S1, E1, R1, q1⟩ => ?_
  cases k with
  | true => exact ⟨ι1, ρ, ih1, S1, R1, q1⟩
  | false => exact ⟨ι1, ρ, ih1, S1, R1, q1⟩
theorem ss_set (i : Nat) {x : Str} {pos' : Pos} (hN : X.N.Nodup) (he : SE X W cl e d) (hi : X.N[i]? = some x := by rfl) (hx : Loc X.env.scope x := by first | exact Or.inl rfl | exact Or.inr rfl) (hs : swapsWith e (some (.Name x pos')) pos.line X.env = pure false := by rfl)
    (hf : X.fn x = true ∨ X.env.scope.names.lookup x = some .local := by first | exact .inl rfl | exact .inr rfl) : SS X W cl (.Assign [.Name x pos'] e pos) (dSet i d) := psOf (ps_set hN hi hx he hs hf) fun D σ H ⟨ι, ρ, ih, S, R, q⟩ =>
  (tE.seq S R q).weaken fun ux H1 ⟨ι1, ih1, x, S1, E1, rx, R1, q1⟩ => Out.here S1 q1 _ (R1.set i rx)
end

/-! ### targets -/
inductive Tg where
  | nm (i : Nat) | tp (is : List Nat)
def setAll : List Nat → List D → Sl → Option Sl
  | [], [], ρ => some ρ
  | i :: is, d :: ds, ρ => setAll is ds (ρ.set i (some d))
  | _, _, _ => none
def tgSet (t : Tg) (d : D) (ρ : Sl) : Option Sl := match t with
  | .nm i => some (ρ.set i (some d))
  | .tp is => match d with
    | .tup ds => setAll is ds ρ
    | _ => none
def setAllV : List Nat → List V → L2.St → L2.St
  | i :: is, v :: vs, σ => setAllV is vs (σ.set i (some v))
  | _, _, σ => σ
def gAllN : List Nat → TGs
  | [] => gNil
  | i :: is => gCons (gName i) (gAllN is)
def tgR (K : PySem.W.Frag) : Tg → TG
  | .nm i => gName i
  | .tp is => gTup K is.length (gAllN is)
abbrev SG (X : Cx) (tg : Expr) (t : Tg) : Prop := PG X tg (tgR X.K t)
def Tg.all : Tg → List Nat
  | .nm i => [i]
  | .tp is => is
theorem wipe_get (σ : L2.St) (j : Nat) : ∀ vs : List Nat, (wipe σ vs)[j]? = if j ∈ vs then (σ[j]?).map (fun _ => none) else σ[j]?
  | [] => by simp [wipe]
  | v :: vs => by
    have ih := wipe_get σ j vs
    unfold wipe
    by_cases hv : v = j
    · subst hv
      by_cases hl : v < (wipe σ vs).length
      · rw [List.getElem?_set_self hl, if_pos (by simp)]
        rw [wipe_length] at hl
        rw [List.getElem?_eq_getElem hl]
        rfl
      · rw [List.getElem?_eq_none (by rw [List.length_set]; omega), if_pos (by simp)]
        rw [wipe_length] at hl
        rw [List.getElem?_eq_none (by omega)]
        rfl
    · rw [List.getElem?_set_ne hv, ih]
      by_cases hm : j ∈ vs
      · rw [if_pos hm, if_pos (List.mem_cons_of_mem _ hm)]
      · rw [if_neg hm, if_neg (by simp [hm, Ne.symm hv])]
theorem wipe_set {σ : L2.St} {own : List Nat} {i : Nat} {v : Option V} (h : i ∈ own) : wipe (σ.set i v) own = wipe σ own := by
  apply List.ext_getElem?
  intro j
  rw [wipe_get, wipe_get]
  by_cases hj : j ∈ own
  · rw [if_pos hj, if_pos hj]
    by_cases e : i = j
    · subst e
      by_cases hl : i < σ.length
      · rw [List.getElem?_set_self hl, List.getElem?_eq_getElem hl]; rfl
      · rw [List.getElem?_eq_none (by rw [List.length_set]; omega), List.getElem?_eq_none (by omega)]
    · rw [List.getElem?_set_ne e]
  · rw [if_neg hj, if_neg hj, List.getElem?_set_ne fun e => hj (by rw [← e]; exact h)]
section
variable {K : PySem.W.Frag} {ι : Io} {H : Hp}
theorem gAll_ok : ∀ {is : List Nat} {ds : List D} {us : List V} {ρ ρ' : Sl} {σ : L2.St} {Q : L2.St → Hp → Prop}, RDs K ι H ds us → REnv K ι H ρ σ → setAll is ds ρ = some ρ' →
    (∀ σ', REnv K ι H ρ' σ' → (∀ own, (∀ i ∈ is, i ∈ own) → wipe σ' own = wipe σ own) → Q σ' H) → is.length = us.length ∧ gAllN is us σ H Q
  | [], [], _, ρ, ρ', σ, Q, .nil, R, e, h => by
    cases e
    exact ⟨rfl, rfl, h σ R fun _ _ => rfl⟩
  | [], _ :: _, _, _, _, _, _, _, _, e, _ => by cases e
  | _ :: _, [], _, _, _, _, _, _, _, e, _ => by cases e
  | i :: is, d :: ds, _, ρ, ρ', σ, Q, .cons (v := v) r rs, R, e, h => by
    obtain ⟨h1, h2⟩ := gAll_ok (is := is) (Q := Q) rs (R.set i r) e fun σ' R' hw => h σ' R' fun own ho => by
      rw [hw own fun j hj => ho j (List.mem_cons_of_mem _ hj), wipe_set (ho i List.mem_cons_self)]
    exact ⟨by simp [h1], v, _, rfl, h2⟩
/-- a target stored -/
theorem tg_ok {t : Tg} {d : D} {u : V} {ρ ρ' : Sl} {σ : L2.St} {Q : L2.St → Hp → Prop} (r : RD K ι H d u) (R : REnv K ι H ρ σ) (e : tgSet t d ρ = some ρ')
    (h : ∀ σ', REnv K ι H ρ' σ' → (∀ own, (∀ i ∈ t.all, i ∈ own) → wipe σ' own = wipe σ own) → Q σ' H) : tgR K t u σ H Q := by
  cases t with
  | nm i =>
    cases e
    exact h _ (R.set i r) fun own ho => wipe_set (ho i List.mem_cons_self)
  | tp is =>
    cases d with
    | tup ds =>
      cases r with
      | tup _ a vs hs rs =>
        obtain ⟨h1, h2⟩ := gAll_ok rs R e h
        exact ⟨a, vs, rfl, hs, h1.symm, h2⟩
    | _ => cases e
end
section
variable {X : Cx} {W : Wx} {cl : CallT} {pos : Pos}
theorem sg_nm (i : Nat) {x : Str} (hN : X.N.Nodup) (hi : X.N[i]? = some x := by rfl) (hx : Loc X.env.scope x := by first | exact Or.inl rfl | exact Or.inr rfl) (hf : X.fn x = true ∨ X.env.scope.names.lookup x = some .local := by first | exact .inl rfl | exact .inr rfl) :
    SG X (.Name x pos) (.nm i) := pg_name hN hi hx hf
abbrev SGs (X : Cx) (es : List Expr) (is : List Nat) : Prop := PGs X es (gAllN is)
theorem sgs_nil : SGs X [] [] := pgs_nil
theorem sgs_cons {e : Expr} {es : List Expr} {i : Nat} {is : List Nat} (h1 : SG X e (.nm i)) (h2 : SGs X es is) (hs : (assignEach (e :: es) X.env).map (·.2) = assign e X.env :: (assignEach es X.env).map (·.2) := by rfl) : SGs X (e :: es) (i :: is) := pgs_cons h1 h2 hs
theorem sg_tp {es : List Expr} {k : Nat} {is : List Nat} (hc : X.calm = true) (h : SGs X es is) (hn : (assignEach es X.env).length = is.length := by rfl) (hst : (assignEach es X.env).findIdx? (·.1) = none := by rfl) : SG X (.Tuple es k pos) (.tp is) := pg_tup hc h hn hst
/-- target = value -/
def dAsg (t : Tg) (e : DE) : DS := fun cl ρ ih => (e cl ρ ih).bind fun v ih => match tgSet t v ρ with
  | some ρ' => .ok (.nx ρ') ih
  | none => .bad
theorem ss_asg {tg e : Expr} {d : DE} {t : Tg} (he : SE X W cl e d) (hg : SG X tg t) (hs : swapsWithSole [tg] e pos.line X.env = pure false := by rfl) (hw : swappedStores [tg] e X.env = pure none := by rfl) (h1 : (assignEach [tg] X.env).map (·.2) = [assign tg X.env] := by rfl) :
    SS X W cl (.Assign [tg] e pos) (dAsg t d) := psOf (ps_asg he hg hs hw h1) fun D σ H ⟨ι, ρ, ih, S, R, q⟩ => by
  refine (tE.seq S R q).weaken fun ux H1 ⟨ι1, ih1, x, S1, E1, rx, R1, q1⟩ => ?_
  cases e : tgSet t x ρ with
  | none => rw [e] at q1; exact q1.elim
  | some ρ' =>
    rw [e] at q1
    exact tg_ok rx R1 e fun σ' R' _ => Out.here S1 q1 σ' R'
end

/-! ### what a loop walks -/
inductive Src where
  | items (ds : List D) | cell (n : Nat) | rng (lo : Int) (n : Nat) | zip (a b : Src) | enum (lo : Int) (a : Src)
/-- the i-th item; some none: it has ended -/
def Src.get : Src → IH → Nat → Option (Option D)
  | .items ds, _, i => some ds[i]?
  | .cell n, ih, i => match ih[n]? with
    | some (.lst ds) => some ds[i]?
    | _ => none
  | .rng lo n, _, i => some (if i < n then some (.int (lo + i)) else none)
  | .zip a b, ih, i => match a.get ih i, b.get ih i with
    | some (some x), some (some y) => some (some (.tup [x, y]))
    | some none, some _ => some none
    | some (some _), some none => some none
    | _, _ => none
  | .enum lo a, ih, i => match a.get ih i with
    | some (some x) => some (some (.tup [.int (lo + i), x]))
    | some none => some none
    | none => none
def Src.size : Src → IH → Nat
  | .items ds, _ => ds.length
  | .cell n, ih => match ih[n]? with
    | some (.lst ds) => ds.length
    | _ => 0
  | .rng _ n, _ => n
  | .zip a _, ih => a.size ih
  | .enum _ a, ih => a.size ih
abbrev DI := CallT → Sl → IH → Res Src
def SrcOk (K : PySem.W.Frag) (src : Src) (J : It) (ι0 : Io) (H0 : Hp) : Prop := ∀ (ι : Io) (ih : IH) (H : Hp) (i : Nat), Sim K ι ih H → Ext ι0 H0 ι H →
  (src.get ih i = some none → J.stop i H) ∧ ∀ d, src.get ih i = some (some d) → J.go i H ∧ ∀ x H', J.yld i H x H' → Ext ι H ι H' ∧ Sim K ι ih H' ∧ RD K ι H' d x
def tI (K : PySem.W.Frag) (W : Wx) (cl : CallT) (d : DI) : TI := fun σ H R => ∃ ι ρ ih, Sim K ι ih H ∧ REnv K ι H ρ σ ∧ Out K ι H W (fun src _ ι' H' => ∀ J, SrcOk K src J ι' H' → R J H') (d cl ρ ih)
abbrev SI (X : Cx) (W : Wx) (cl : CallT) (tg e : Expr) (d : DI) : Prop := PI X tg e (tI X.K W cl d)
theorem tI.seq {K : PySem.W.Frag} {W : Wx} {cl : CallT} {ι : Io} {ih : IH} {ρ : Sl} {σ : L2.St} {H : Hp} {α : Type} {N : α → IH → Io → Hp → Prop} {da : DI} {f : Src → IH → Res α} (S : Sim K ι ih H) (R : REnv K ι H ρ σ) (h : Out K ι H W N ((da cl ρ ih).bind f)) :
    tI K W cl da σ H fun J H1 => ∃ ι1 ih1 src, Sim K ι1 ih1 H1 ∧ Ext ι H ι1 H1 ∧ SrcOk K src J ι1 H1 ∧ REnv K ι1 H1 ρ σ ∧ Out K ι1 H1 W N (f src ih1) :=
  ⟨ι, ρ, ih, S, R, (Out.bind h).mono fun a ih' ι' H' S' E' q J o => ⟨ι', ih', a, S', E', o, R.mono S E', q⟩⟩
def loopF (cl : CallT) (src : Src) (t : Tg) (body : DS) : Nat → Nat → Sl → IH → Res Fl
  | 0, _, _, _ => .bad
  | m + 1, i, ρ, ih => match src.get ih i with
    | none => .bad
    | some none => .ok (.nx ρ) ih
    | some (some d) => match tgSet t d ρ with
      | none => .bad
      | some ρ' => (body cl ρ' ih).bind fun f ih => match f with
        | .nx ρ'' => loopF cl src t body m (i + 1) ρ'' ih
        | .ct ρ'' => loopF cl src t body m (i + 1) ρ'' ih
        | .bk ρ'' => .ok (.nx ρ'') ih
        | .rt v => .ok (.rt v) ih
def dFor (it : DI) (t : Tg) (body : DS) : DS := fun cl ρ ih => (it cl ρ ih).bind fun src ih => loopF cl src t body (src.size ih + 1) 0 ρ ih
def whileF (cl : CallT) (c : DB) (body : DS) : Nat → Sl → IH → Res Fl
  | 0, _, _ => .bad
  | m + 1, ρ, ih => (c cl ρ ih).bind fun b ih => if b = true then (body cl ρ ih).bind fun f ih => match f with
        | .nx ρ'' => whileF cl c body m ρ'' ih
        | .ct ρ'' => whileF cl c body m ρ'' ih
        | .bk ρ'' => .ok (.nx ρ'') ih
        | .rt v => .ok (.rt v) ih
      else .ok (.nx ρ) ih
def dWh (m : Nat) (c : DB) (body : DS) : DS := fun cl ρ ih => whileF cl c body m ρ ih
section
variable {X : Cx} {W : Wx} {cl : CallT} {pos : Pos} {tg iter c : Expr} {body : List Stmt} {it : DI} {t : Tg} {sb : DS} {bc : DB}
theorem ss_for (hp : PassesOwn (model X.prog X.w) X.A X.env X.xe) (hc : X.calm = true) (hi : SI X W cl tg iter it) (hg : SG X tg t) (hb : SSs X W cl body sb) (hs : ∀ x, foldedSetIterable iter X.env x = pure x := by intro _; rfl) :
    SS X W cl (.For tg iter body [] pos) (dFor it t sb) := psOf (ps_for hp hc hi hg hb hs) fun D σ H ⟨ι, ρ, ih, S, R, q⟩ => by
  obtain ⟨ι', ρ', ih', S', R', q'⟩ := tI.seq S R q
  refine ⟨ι', ρ', ih', S', R', q'.mono fun src _ _ _ _ _ k J o => ?_⟩
  obtain ⟨ι1, ih1, src, S1, E1, o1, R1, q1⟩ := k J o
  refine ⟨fun i m σ H => ∃ ι ρ ih, Sim X.K ι ih H ∧ REnv X.K ι H ρ σ ∧ Ext ι1 _ ι H ∧ Out X.K ι H W (FlOk X.K D) (loopF cl src t sb m i ρ ih), ⟨_, ι1, ρ, ih1, S1, R1, Ext.refl, q1⟩, ?_⟩
  rintro i m σ2 H2 ⟨ι2, ρ2, ih2, S2, R2, E2, q2⟩
  cases m with
  | zero => exact q2.elim
  | succ m =>
    unfold loopF at q2
    obtain ⟨o2, o3⟩ := o1 ι2 ih2 H2 i S2 E2
    cases e : src.get ih2 i with
    | none => rw [e] at q2; exact q2.elim
    | some od =>
      rw [e] at q2
      cases od with
      | none => exact .inl ⟨o2 e, Out.here S2 q2 σ2 R2⟩
      | some d =>
        obtain ⟨g, y⟩ := o3 d e
        refine .inr ⟨g, fun σ H => ∃ ι ρ ih, Sim X.K ι ih H ∧ REnv X.K ι H ρ σ ∧ Ext ι1 _ ι H ∧ Out X.K ι H W (FlOk X.K D) (loopF cl src t sb m (i + 1) ρ ih), fun σ' H' n => ⟨m, Nat.lt_succ_self m, n⟩, fun x H3 yx => ?_⟩
        obtain ⟨E3, S3, r3⟩ := y x H3 yx
        dsimp only at q2
        cases e3 : tgSet t d ρ2 with
        | none => rw [e3] at q2; exact q2.elim
        | some ρ3 =>
          rw [e3] at q2
          refine tg_ok r3 (R2.mono S2 E3) e3 fun σ3 R3 _ => ?_
          refine ⟨ι2, ρ3, ih2, S3, R3, (Out.bind (Out.rebase E3 q2)).mono fun f ih4 ι4 H4 S4 E4 q4 => ?_⟩
          have E5 := (E2.trans E3).trans E4
          cases f with
          | nx ρ4 => exact fun σ4 R4 => ⟨ι4, ρ4, ih4, S4, R4, E5, q4⟩
          | ct ρ4 => exact fun σ4 R4 => ⟨ι4, ρ4, ih4, S4, R4, E5, q4⟩
          | bk ρ4 => exact fun σ4 R4 => Out.here (W := W) S4 q4 σ4 R4
          | rt v => exact fun u ru => Out.here (W := W) S4 q4 u ru
theorem ss_while {m : Nat} (hp : PassesOwn (model X.prog X.w) X.A X.env X.xe) (hc : ST X W cl c bc) (hb : SSs X W cl body sb) : SS X W cl (.While c body [] pos) (dWh m bc sb) := psOf (ps_while hp hc hb) fun D σ H ⟨ι, ρ, ih, S, R, q⟩ => by
  refine ⟨fun m σ H => ∃ ι ρ ih, Sim X.K ι ih H ∧ REnv X.K ι H ρ σ ∧ Out X.K ι H W (FlOk X.K D) (whileF cl bc sb m ρ ih), ⟨_, ι, ρ, ih, S, R, q⟩, ?_⟩
  rintro m σ2 H2 ⟨ι2, ρ2, ih2, S2, R2, q2⟩
  cases m with
  | zero => exact q2.elim
  | succ m =>
    unfold whileF at q2
    refine (tT.seq S2 R2 q2).weaken fun k H3 ⟨ι3, ih3, S3, E3, R3, q3⟩ => ?_
    cases k with
    | false => exact Out.here S3 q3 σ2 R3
    | true =>
      refine ⟨fun σ H => ∃ ι ρ ih, Sim X.K ι ih H ∧ REnv X.K ι H ρ σ ∧ Out X.K ι H W (FlOk X.K D) (whileF cl bc sb m ρ ih), fun σ' H' n => ⟨m, Nat.lt_succ_self m, n⟩, ?_⟩
      refine ⟨ι3, ρ2, ih3, S3, R3, (Out.bind q3).mono fun f ih4 ι4 H4 S4 E4 q4 => ?_⟩
      cases f with
      | nx ρ4 => exact fun σ4 R4 => ⟨ι4, ρ4, ih4, S4, R4, q4⟩
      | ct ρ4 => exact fun σ4 R4 => ⟨ι4, ρ4, ih4, S4, R4, q4⟩
      | bk ρ4 => exact fun σ4 R4 => Out.here (W := W) S4 q4 σ4 R4
      | rt v => exact fun u ru => Out.here (W := W) S4 q4 u ru
end
end IM
end

section
set_option Elab.async false
set_option linter.all false
set_option maxRecDepth 100000
/-! Defs and calls. -/
namespace IM
open PySem PySem.Spec PyProof.Rows L2

/-- a def of the text keeps a promise, called where no repr is under way -/
structure FnG (P : Program) (w : World) (K : PySem.W.Frag) (mg : Str → Option Value) (base : Heap) (k : Nat) (f : Addr) (fd : FuncData) (ps : List Str) (sp : Sp) : Prop where
  len : ∀ vs H Q E, sp vs H Q E → vs.length = ps.length
  go : ∀ (A : Around) (outer : List Env) (s : Shared) (H : Hp) (args : Args) (us : List Value) (vs : List V) (Q : VK) (E : XK), A.guards = some [] → Room k A → Env0 P w K mg base A outer s H → BindsTo s fd args (ps.zip us) → Vals vs us → sp vs H Q E →
    codeAny (model P w) A (.call (.ref f) args) (CR (L2.CX P w) outer P w H s Q E) s
theorem FnG.mono {P : Program} {w : World} {K : PySem.W.Frag} {mg : Str → Option Value} {base : Heap} {j k : Nat} {f : Addr} {fd : FuncData} {ps : List Str} {sp : Sp} (F : FnG P w K mg base j f fd ps sp) (h : j ≤ k) : FnG P w K mg base k f fd ps sp :=
  ⟨F.len, fun A outer s H args us vs Q E hg hr => F.go A outer s H args us vs Q E hg (hr.mono h)⟩
/-- by its body -/
theorem fnG_of {P : Program} {w : World} {K : PySem.W.Frag} {mg : Str → Option Value} {base : Heap} {k : Nat} {f : Addr} {name qual : Str} {params : Arguments} {body : List Stmt} {scope : Scope} {dV kV doc pm cdv ct oc : Value} {an od : Option Addr}
    {osl : Array (Option Value)} {N ps : List Str} {sp : Sp} (lk : K.lookup f = some ⟨oc, od, .func (PySem.W.fnOf name qual params body scope dV kV doc pm an cdv ct), osl⟩) (hcd : PySem.W.codeIn K cdv qual = true) (S : FnScope N ps scope)
    (len : ∀ vs H Q E, sp vs H Q E → vs.length = ps.length)
    (hbody : ∀ (A : Around) (outer : List Env) (s : Shared) (H : Hp) (vs : List V) (Q : VK) (E : XK), A.guards = some [] → Room k (A.deeper (envOfC qual scope s.heap.objs.size f cdv)) → sp vs H Q E →
      ∃ t, PSs (cxOf (L2.CX P w) P w K mg base N qual scope f cdv A outer s H E) body t ∧ t { nx := fun _ H' => Q .non H', rt := Q } (L2.start N vs) H) :
    FnG P w K mg base (k + 1) f (PySem.W.fnOf name qual params body scope dV kV doc pm an cdv ct) ps sp := by
  refine ⟨len, fun A outer s H args us vs Q E hg room e0 hb rel hsp => ?_⟩
  have inH : ∀ b o, base.get? b = some o → s.heap.get? b = some o := fun b o e => (e0.bs b o e).1
  have KX : K.In s.heap := e0.mod.kin.keeps inH
  refine codeAny_call_function room.depth (KX _ _ lk) rfl S.co S.gen rfl (PySem.W.codeRec_of KX hcd) (hb _ _ _ _ ?_)
  refine wpAny_newFunctionEnv_cells S.kind (fun y hy => (S.par y.1 (List.of_mem_zip hy).1).imp id fun q => ⟨q, PySem.W.cellsFrom_some _ _ _ (.inl q)⟩) fun env he s1 x => ?_
  subst he
  refine ⟨(e0.mod.nolimit.keeps inH).keeps x.toInCall.keep, codeAny_func ?_⟩
  obtain ⟨t, ht, ht2⟩ := hbody A outer s H vs Q E hg (room.deeper _) hsp
  have I := inv_start (CX := L2.CX P w) (E := E) S room.hd e0 (len _ _ _ _ hsp) rel x
  refine wpAny_mono (ht.run [] s1 (L2.start N vs) H _ I ht2) (fun fl s' hs => ?_) fun _ _ z => z
  cases fl with
  | ret u => obtain ⟨v, σ', H', J, rv, q⟩ := hs; exact ⟨v, H', J.os, J.bare, J.base, J.hok, rv, q⟩
  | next => obtain ⟨σ', H', J, q⟩ := hs; exact ⟨.non, H', J.os, J.bare, J.base, J.hok, rfl, q⟩
  | brk => obtain ⟨_, _, _, q⟩ := hs; exact q.elim
  | cont => obtain ⟨_, _, _, q⟩ := hs; exact q.elim

/-! ### the promise that the interpreter makes -/
/-- an exception that leaves, by the hand layer's words -/
def WE (K : PySem.W.Frag) (E : XK) : Wx := fun c n _ ι' H' => ∀ a, ι'[n]? = some (some a) → E (.ref (He.ga K c)) (some a) H'
def EW (K : PySem.W.Frag) (W : Wx) : XK := fun cv od H' => ∃ c n ih' ι' a, cv = .ref (He.ga K c) ∧ od = some a ∧ ι'[n]? = some (some a) ∧ Sim K ι' ih' H' ∧ W c n ih' ι' H'
def spI (K : PySem.W.Frag) (cl : CallT) (f np : Nat) : Sp := fun vs H Q E => vs.length = np ∧ ∃ ι ih ds, Sim K ι ih H ∧ RDs K ι H ds vs ∧ Out K ι H (WE K E) (EndV K Q) (cl f ds ih)
abbrev W0 : Wx := fun _ _ _ _ _ => False
theorem Out.toWE {K : PySem.W.Frag} {ι : Io} {H : Hp} {W : Wx} {Q : VK} {r : Res D} (h : Out K ι H W (EndV K Q) r) : Out K ι H (WE K (EW K W)) (EndV K Q) r := by
  cases r with
  | ok a x => exact h
  | exn c n x => exact fun ι' H' S E a e => ⟨c, n, x, ι', a, rfl, rfl, e, S, h ι' H' S E⟩
  | bad => exact h
/-- what a context must give for calls -/
structure Cal (X : Cx) (W : Wx) : Prop where
  g : X.A.guards = some []
  hx : Passes (L2.CX X.prog X.w) X (EW X.K W)
theorem passW0 {X : Cx} : Passes (L2.CX X.prog X.w) X (EW X.K W0) := fun _ _ _ _ _ _ _ h => by
  obtain ⟨_, _, _, _, _, _, _, _, _, _, _, _, z⟩ := h
  obtain ⟨_, _, _, _, _, _, _, _, _, z⟩ := z
  exact z.elim
section
variable {X : Cx} {W : Wx} {cl : CallT} {pos p apos : Pos} {e : Expr} {es : List Expr} {r : DA} {f : Addr} {fd : FuncData} {ps : List Str} {k i : Nat} {x : Str} {ds : List Value} {dd : List D} {dv : List V}
/-- the callee runs -/
theorem runG {pins : List (Addr × Obj)} {σ : L2.St} {H : Hp} {s : Shared} {Q : VK} {us : List Value} {vs : List V} {sp : Sp} {E : XK} (F : FnG X.prog X.w X.K X.mg X.base k f fd ps sp) (c : X.A.guards = some []) (hx : Passes (L2.CX X.prog X.w) X E) (hr : Room k X.A) (hb : Binds X.K fd ps ds)
    (I : Inv X pins σ H s) (r : Vals vs (us ++ ds)) (h : sp vs H Q E) : wpAny (model X.prog X.w) X.A (call (.ref f) us) (EP X pins σ Q) X.xe s := by
  have hl : (us ++ ds).length = ps.length := r.length.symm.trans (F.len _ _ _ _ h)
  refine wpAny_call (codeAny_mono (F.go X.A X.stack s H ⟨us, []⟩ (us ++ ds) vs Q E c hr I.env0 (hb s us I.kIn hl) r h) fun res s' q => ?_)
  cases res with
  | error e => exact hx pins σ H s e s' I q
  | ok fl => cases fl with
    | ret u => exact I.after q
    | next => exact False.elim q
    | brk => exact False.elim q
    | cont => exact False.elim q
/-- how many arguments -/
def Len (r : DA) (m : Nat) : Prop := ∀ cl ρ ih xs ih', r cl ρ ih = .ok xs ih' → xs.length = m
theorem len_nil : Len dNil 0 := fun _ _ _ _ _ e => by cases e; rfl
theorem len_cons {a : DE} {r : DA} {m : Nat} (h : Len r m) : Len (dCons a r) (m + 1) := fun cl ρ ih xs ih' e => by
  unfold dCons at e
  cases ea : a cl ρ ih with
  | bad => rw [ea] at e; cases e
  | exn c n y => rw [ea] at e; cases e
  | ok x i1 =>
    rw [ea] at e
    have e : (r cl ρ i1).bind (fun xs ih => Res.ok (x :: xs) ih) = .ok xs ih' := e
    cases er : r cl ρ i1 with
    | bad => rw [er] at e; cases e
    | exn c n y => rw [er] at e; cases e
    | ok ys i2 =>
      rw [er] at e
      cases e
      rw [List.length_cons, h _ _ _ _ _ er]
/-- f(e, ..): the i-th def; dd: its last parameters' defaults -/
def dCall (i : Nat) (dd : List D) (r : DA) : DE := fun cl ρ ih => (r cl ρ ih).bind fun xs ih => cl i (xs ++ dd) ih
theorem se_call {np m : Nat} (F : FnG X.prog X.w X.K X.mg X.base k f fd ps (spI X.K cl i np)) (hn : ps.length = np) (c : Cal X W) (hr : Room k X.A) (hm : X.mg x = some (.ref f)) (hk : PySem.W.keepIn X.K (.ref f) = true) (hb : Binds X.K fd ps ds) (hd : Vals dv ds) (hdd : ∀ ι H, RDs X.K ι H dd dv) (ha : SA X W cl (e :: es) r)
    (hlen : Len r m) (hm2 : m + dd.length = np := by rfl)
    (hg : Gl X x := by rfl) (hdb : (x == ("__debug__" : Str)) = false := by decide) (he : starEach (e :: es) X.env = (false, eval e X.env) :: starEach es X.env := by rfl) (hpl : (backTo pos (starEach es X.env)).any (·.1) = false := by rfl) :
    SE X W cl (.Call (.Name x p) (e :: es) [] pos) (dCall i dd r) := by
  refine ⟨fun pins s σ H Q I h => ?_⟩
  obtain ⟨ι, ρ, ih, S, R, q⟩ := h
  refine wpAny_Call_Name_kw (ld_glob I hg hm ?_ hdb)
  have hA : tA X.K W cl r σ H fun vs H1 => ∃ ι1 ih1 xs, Sim X.K ι1 ih1 H1 ∧ RDs X.K ι1 H1 xs vs ∧ xs.length + dd.length = np ∧ Out X.K ι1 H1 W (EndV X.K Q) (cl i (xs ++ dd) ih1) := by
    refine ⟨ι, ρ, ih, S, R, ?_⟩
    have q' := Out.bind q
    cases er : r cl ρ ih with
    | bad => rw [er] at q'; exact q'
    | exn c n y => rw [er] at q'; exact q'
    | ok xs ih' =>
      rw [er] at q'
      exact fun ι' H' S' E' u ru => ⟨ι', ih', xs, S', ru, by rw [hlen _ _ _ _ _ er]; exact hm2, q' ι' H' S' E'⟩
  refine PySem.W.callWith_K (h₀ := X.base) I.ok.mod.kin hk (thn (ha.run pos pins s σ H _ I hA) fun us s1 ⟨vs, H1, I1, rv, ι1, ih1, xs, S1, rs, hl, q1⟩ => ⟨I1.kIn, ?_⟩) he hpl
  exact runG F c.g c.hx hr hb I1 (rv.append hd) ⟨by rw [List.length_append, ← rs.length, ← (hdd ι1 H1).length]; exact hl, ι1, ih1, xs ++ dd, S1, rs.append (hdd ι1 H1), q1.toWE⟩
end

/-! ### a def by its interpreted body -/
/-- the end of a body -/
def runBody (d : DS) (n : Nat) (cl : CallT) (args : List D) (ih : IH) : Res D := (d cl (args.map some ++ List.replicate (n - args.length) none) ih).bind fun f ih => match f with
  | .nx _ => .ok .non ih
  | .rt v => .ok v ih
  | _ => .bad
theorem env_start {K : PySem.W.Frag} {ι : Io} {H : Hp} {ds : List D} {vs : List V} {N : List Str} (r : RDs K ι H ds vs) : REnv K ι H (ds.map some ++ List.replicate (N.length - ds.length) none) (L2.start N vs) := by
  have hl := r.length
  refine ⟨by simp [L2.start, hl], fun j d e => ?_⟩
  by_cases h : j < ds.length
  · rw [List.getElem?_append_left (by simpa using h), List.getElem?_map] at e
    cases ed : ds[j]? with
    | none => rw [ed] at e; cases e
    | some d' =>
      rw [ed] at e
      cases e
      obtain ⟨v, e1, rv⟩ := r.get ed
      refine ⟨v, ?_, rv⟩
      unfold L2.start
      rw [List.getElem?_append_left (by simp; omega), List.getElem?_map, e1]
      rfl
  · rw [List.getElem?_append_right (by simp; omega), List.getElem?_replicate] at e
    split at e <;> cases e
theorem fnI_of {P : Program} {w : World} {K : PySem.W.Frag} {mg : Str → Option Value} {base : Heap} {k i np : Nat} {f : Addr} {name qual : Str} {params : Arguments} {body : List Stmt} {scope : Scope} {dV kV doc pm cdv ct oc : Value} {an od : Option Addr}
    {osl : Array (Option Value)} {N ps : List Str} {cl cl' : CallT} {d : DS} (lk : K.lookup f = some ⟨oc, od, .func (PySem.W.fnOf name qual params body scope dV kV doc pm an cdv ct), osl⟩) (hcd : PySem.W.codeIn K cdv qual = true) (S : FnScope N ps scope) (hn : ps.length = np)
    (hcl : ∀ args ih, args.length = np → cl' i args ih = runBody d N.length cl args ih)
    (hbody : ∀ (A : Around) (outer : List Env) (s : Shared) (H : Hp) (E : XK), A.guards = some [] → Room k (A.deeper (envOfC qual scope s.heap.objs.size f cdv)) →
      Cal (cxOf (L2.CX P w) P w K mg base N qual scope f cdv A outer s H E) (WE K E) → PassesOwn (model P w) (A.deeper (envOfC qual scope s.heap.objs.size f cdv)) (envOfC qual scope s.heap.objs.size f cdv) (cxOf (L2.CX P w) P w K mg base N qual scope f cdv A outer s H E).xe →
      SSs (cxOf (L2.CX P w) P w K mg base N qual scope f cdv A outer s H E) (WE K E) cl body d) :
    FnG P w K mg base (k + 1) f (PySem.W.fnOf name qual params body scope dV kV doc pm an cdv ct) ps (spI K cl' i np) := by
  refine fnG_of lk hcd S (fun vs H Q E h => h.1.trans hn.symm) fun A outer s H vs Q E hg hr h => ?_
  obtain ⟨hl, ι, ih, ds, S0, r, q⟩ := h
  have tk := takes_of (X := cxOf (L2.CX P w) P w K mg base N qual scope f cdv A outer s H E) (E := E) rfl rfl rfl rfl
  refine ⟨_, hbody A outer s H E hg hr ⟨hg, passes_call tk fun cls d σ H' h => ?_⟩ (passes_of rfl), ι, _, ih, S0, env_start r, ?_⟩
  · obtain ⟨c, n, ih', ι', a, rfl, rfl, e, _, z⟩ := h
    exact z a e
  · rw [hcl _ _ (r.length.trans hl)] at q
    refine (Out.bind q).mono fun fl ih' ι' H' S' E' q' => ?_
    cases fl with
    | nx ρ' => exact fun σ' _ => Out.here (W := WE K E) S' q' _ .non
    | rt v => exact Out.here (W := WE K E) S' q'
    | bk ρ' => exact q'.elim
    | ct ρ' => exact q'.elim
end IM
end

section
set_option Elab.async false
set_option linter.all false
set_option maxRecDepth 100000
/-! Iterators, comprehensions. -/
namespace IM
open PySem PySem.Spec PyProof.Rows L2

/-! ### the sources -/
/-- what a value gives to a loop -/
def srcOf : D → IH → Option Src := fun v ih => match v with
  | .tup ds => some (.items ds)
  | .lit ds => some (.items ds)
  | .loc n => match ih[n]? with
    | some (.lst _) => some (.cell n)
    | _ => none
  | _ => none
def dIter (e : DE) : DI := fun cl ρ ih => (e cl ρ ih).bind fun v ih => match srcOf v ih with
  | some s => .ok s ih
  | none => .bad
section
variable {K : PySem.W.Frag} {ι : Io} {H : Hp} {ih : IH}
theorem SqL.eq_of {a : Addr} {xs ys : List V} (h : H a = some (.lst xs)) (h' : SqL K H a ys) (hk : K.lookup a = none ∨ True) : H a = some (.lst ys) ∨ ∃ o its n, K.lookup a = some o ∧ o.cls = .type "list" ∧ o.dict = none ∧ o.data = .seq its n ∧ its.size ≤ sizeLine ∧ Vals ys its.toList := by
  rcases h' with (h' | ⟨o, h'⟩) | ⟨o, its, n, r⟩
  · exact .inl h'
  · rw [h] at h'; cases h'
  · exact .inr ⟨o, its, n, r⟩
/-- the source of a list cell: the list as it stands -/
theorem src_cell {n : Nat} {a : Addr} (h : ι[n]? = some (some a)) : SrcOk K (.cell n) (Itl K a) ι H := fun ι1 ih1 H1 i S E => by
  have e1 := E.pre n a h
  obtain ⟨c, hc, ok⟩ := S.at_ e1
  constructor
  · intro g
    unfold Src.get at g
    rw [hc] at g
    cases c with
    | lst ds =>
      obtain ⟨b, vs, eb, q, r⟩ := ok
      cases eb
      refine ⟨vs, .of q, ?_⟩
      have g2 : ds[i]? = none := Option.some.inj g
      have := List.getElem?_eq_none_iff.mp g2
      rw [← r.length]
      exact this
    | _ => cases g
  · intro d g
    unfold Src.get at g
    rw [hc] at g
    cases c with
    | lst ds =>
      obtain ⟨b, vs, eb, q, r⟩ := ok
      cases eb
      have g2 : ds[i]? = some d := Option.some.inj g
      obtain ⟨v, hv, rv⟩ := r.get g2
      refine ⟨⟨vs, v, .of q, hv⟩, fun x H' y => ?_⟩
      obtain ⟨e, y⟩ := y
      subst e
      have hx := y vs (.of q)
      rw [hv] at hx
      cases hx
      exact ⟨Ext.refl, S, rv⟩
    | _ => cases g
theorem src_tup {ds : List D} {a : Addr} {vs : List V} (S0 : Sim K ι ih H) (h : SqT K H a vs) (r : RDs K ι H ds vs) : SrcOk K (.items ds) (Itt K a) ι H := fun ι1 ih1 H1 i S E => by
  have h1 := SqT.mono S0 E h
  have r1 := r.mono S0 E
  constructor
  · intro g
    have g2 : ds[i]? = none := Option.some.inj g
    exact ⟨vs, h1, by rw [← r1.length]; exact List.getElem?_eq_none_iff.mp g2⟩
  · intro d g
    have g2 : ds[i]? = some d := Option.some.inj g
    obtain ⟨v, hv, rv⟩ := r1.get g2
    refine ⟨⟨vs, v, h1, hv⟩, fun x H' y => ?_⟩
    obtain ⟨e, y⟩ := y
    subst e
    have hx := y vs h1
    rw [hv] at hx
    cases hx
    exact ⟨Ext.refl, S, rv⟩
theorem src_lit {ds : List D} {a : Addr} {vs : List V} (S0 : Sim K ι ih H) (h : SqF K H a vs) (r : RDs K ι H ds vs) : SrcOk K (.items ds) (Itl K a) ι H := fun ι1 ih1 H1 i S E => by
  have h1 := (SqF.mono S0 E h).seq
  have r1 := r.mono S0 E
  constructor
  · intro g
    have g2 : ds[i]? = none := Option.some.inj g
    exact ⟨vs, h1, by rw [← r1.length]; exact List.getElem?_eq_none_iff.mp g2⟩
  · intro d g
    have g2 : ds[i]? = some d := Option.some.inj g
    obtain ⟨v, hv, rv⟩ := r1.get g2
    refine ⟨⟨vs, v, h1, hv⟩, fun x H' y => ?_⟩
    obtain ⟨e, y⟩ := y
    subst e
    have hx := y vs h1
    rw [hv] at hx
    cases hx
    exact ⟨Ext.refl, S, rv⟩
theorem src_rng (lo : Int) (n : Nat) : SrcOk K (.rng lo n) (Itr lo n) ι H := fun ι1 ih1 H1 i S E => by
  unfold Src.get
  constructor
  · intro g
    by_cases hi : i < n
    · rw [if_pos hi] at g; cases g
    · exact Nat.le_of_not_lt hi
  · intro d g
    by_cases hi : i < n
    · rw [if_pos hi] at g
      cases g
      refine ⟨hi, fun x H' y => ?_⟩
      obtain ⟨e, y⟩ := y
      subst e y
      exact ⟨Ext.refl, S, .int _⟩
    · rw [if_neg hi] at g; cases g
end
section
variable {X : Cx} {W : Wx} {cl : CallT} {tg e : Expr} {d : DE}
/-- a list or a tuple, walked -/
theorem si_seq (hl : SE X W cl e d) : SI X W cl tg e (dIter d) := by
  refine ⟨fun pins s σ H R I h => ?_⟩
  obtain ⟨ι, ρ, ih, S, RE, q⟩ := h
  refine thn (hl.run pins s σ H _ I (tE.seq S RE q)) fun v s1 ⟨u, H1, I1, rv, ι1, ih1, x, S1, E1, rx, R1, q1⟩ => ?_
  have key : ∀ {a : Addr} {J : It} {tn : Nat → Heap → Prop} {it : Addr}, it = s1.heap.objs.size → Turn X.prog X.w X.K tg J [it] it tn → ∀ {h' : Heap}, (∀ b o, s1.heap.get? b = some o → h'.get? b = some o) → tn 0 h' → R J H1 →
      PIE X pins σ tg R (.ref it) { s1 with heap := h' } := fun {a J tn it} ei T {h'} hk st hR => by
    subst ei
    refine ⟨_, _, tn, J, H1, rfl, I1.kept (t' := s1.toks) hk, T, st, fun b hb => ?_, hR⟩
    have e : b = s1.heap.objs.size := by simpa using hb
    subst e
    exact I1.fpOk (Nat.le_refl _) (I1.hok.fresh (Nat.le_refl _))
  cases hs : srcOf x ih1 with
  | none => rw [hs] at q1; exact q1.elim
  | some src =>
    rw [hs] at q1
    cases x with
    | tup ds =>
      cases hs
      cases rx with
      | tup _ a vs hq rs =>
        cases rv
        obtain ⟨its, rvv, pt, hz⟩ := I1.tuple hq
        refine wpAny_pyIter_tuple (show s1.heap.IsTuple a its.toArray from pt) (key (a := a) rfl (turn_tuple a _) (fun b o e => Heap.get?_push_of_some _ e) ⟨_, Heap.get?_push_size _ rfl, rfl, rfl⟩ ?_)
        exact Out.here S1 q1 _ (src_tup S1 hq rs)
    | lit ds =>
      cases hs
      cases rx with
      | lit _ a vs hq rs =>
        cases rv
        obtain ⟨its, rvv, pl, hz⟩ := I1.list hq.seq
        refine wpAny_pyIter_list pl.isList (key (a := a) rfl (turn_list a _) (fun b o e => Heap.get?_push_of_some _ e) ⟨_, Heap.get?_push_size _ rfl, rfl, rfl⟩ ?_)
        exact Out.here S1 q1 _ (src_lit S1 hq rs)
    | loc n =>
      cases rx with
      | loc _ a hn =>
        cases rv
        replace hs : (match ih1[n]? with | some (C.lst _) => some (Src.cell n) | _ => none) = some src := hs
        cases hc : ih1[n]? with
        | none => rw [hc] at hs; cases hs
        | some c =>
          rw [hc] at hs
          cases c with
          | lst ds =>
            cases hs
            obtain ⟨vs, hq, rs⟩ := S1.list hc hn
            obtain ⟨its, rvv, pl, hz⟩ := I1.list (SqL.of hq)
            refine wpAny_pyIter_list pl.isList (key (a := a) rfl (turn_list a _) (fun b o e => Heap.get?_push_of_some _ e) ⟨_, Heap.get?_push_size _ rfl, rfl, rfl⟩ ?_)
            exact Out.here S1 q1 _ (src_cell hn)
          | _ => cases hs
    | _ => cases hs
end
/-- range(n) -/
def dRng1 (r : DA) : DI := fun cl ρ ih => (r cl ρ ih).bind fun xs ih => match xs with
  | [.int j] => if -(2 ^ 62) ≤ j ∧ j < 2 ^ 62 then .ok (.rng 0 j.toNat) ih else .bad
  | _ => .bad
section
variable {X : Cx} {W : Wx} {cl : CallT} {tg a : Expr} {r : DA} {p pos : Pos}
theorem si_rng1 (hm : X.mg "range" = none) (ha : SA X W cl [a] r) (hg : Gl X "range" := by rfl) (hs : starEach [a] X.env = [(false, eval a X.env)] := by rfl) : SI X W cl tg (.Call (.Name "range" p) [a] [] pos) (dRng1 r) := by
  refine ⟨fun pins s σ H R I h => (pi_range1 hg hm ha hs).run pins s σ H R I ?_⟩
  obtain ⟨ι, ρ, ih, S, RE, q⟩ := h
  refine (tA.seq S RE q).weaken fun us H1 ⟨ι1, ih1, xs, S1, E1, rs, R1, q1⟩ => ?_
  match xs, rs, q1 with
  | [.int j], .cons (.int _) .nil, q1 =>
    dsimp only at q1
    split at q1
    · rename_i hj
      exact ⟨j, rfl, hj.1, hj.2, Out.here S1 q1 _ (src_rng 0 _)⟩
    · exact q1.elim
  | [], _, q1 => exact q1.elim
  | .non :: _, _, q1 => exact q1.elim
  | .bl _ :: _, _, q1 => exact q1.elim
  | .str _ :: _, _, q1 => exact q1.elim
  | .ty _ :: _, _, q1 => exact q1.elim
  | .glo _ :: _, _, q1 => exact q1.elim
  | .loc _ :: _, _, q1 => exact q1.elim
  | .tup _ :: _, _, q1 => exact q1.elim
  | .lit _ :: _, _, q1 => exact q1.elim
  | .int _ :: _ :: _, _, q1 => exact q1.elim
end

/-! ### list comprehensions -/
def Res.nox {α : Type} : Res α → Res α
  | .exn _ _ _ => .bad
  | r => r
def wipeD (ρ : Sl) : List Nat → Sl
  | [] => ρ
  | v :: vs => (wipeD ρ vs).set v none
def lcF (cl : CallT) (src : Src) (t : Tg) (c : DB) (e : DE) (ρ : Sl) : Nat → Nat → List D → IH → Res (List D)
  | 0, _, _, _ => .bad
  | m + 1, i, acc, ih => match src.get ih i with
    | none => .bad
    | some none => .ok acc ih
    | some (some d) => match tgSet t d ρ with
      | none => .bad
      | some ρ' => (c cl ρ' ih).nox.bind fun b ih => if b = true then (e cl ρ' ih).nox.bind fun v ih => if acc.length < 100000 then lcF cl src t c e ρ m (i + 1) (acc ++ [v]) ih else .bad
          else lcF cl src t c e ρ m (i + 1) acc ih
/-- [e for t in it if c]; own: the slots of the comprehension's names -/
def dLc (own : List Nat) (it : DI) (t : Tg) (c : DB) (e : DE) : DE := fun cl ρ ih => (it cl ρ ih).bind fun src ih => (lcF cl src t c e (wipeD ρ own) (src.size ih + 1) 0 [] ih).bind fun acc ih => .ok (.loc ih.length) (ih ++ [.lst acc])
def dYes : DB := fun _ _ ih => .ok true ih
abbrev SPTs (X : Cx) (W : Wx) (cl : CallT) (es : List Expr) (b : DB) : Prop := PTs X es (tT X.K W cl b)
section
variable {K : PySem.W.Frag} {ι ι1 : Io} {H H1 : Hp} {ih : IH} {ρ : Sl} {σ : L2.St}
theorem wipeD_get (ρ : Sl) (j : Nat) : ∀ vs : List Nat, (wipeD ρ vs)[j]? = if j ∈ vs then (ρ[j]?).map (fun _ => none) else ρ[j]?
  | [] => by simp [wipeD]
  | v :: vs => by
    have hlen : ∀ vs : List Nat, (wipeD ρ vs).length = ρ.length := fun vs => by
      induction vs with
      | nil => rfl
      | cons a as ih => simp [wipeD, ih]
    have ih := wipeD_get ρ j vs
    show ((wipeD ρ vs).set v none)[j]? = _
    by_cases hv : v = j
    · subst hv
      by_cases hl : v < (wipeD ρ vs).length
      · rw [List.getElem?_set_self hl, if_pos (by simp), List.getElem?_eq_getElem (by rw [← hlen vs]; exact hl)]
        rfl
      · rw [List.getElem?_eq_none (by rw [List.length_set]; omega), if_pos (by simp), List.getElem?_eq_none (by rw [← hlen vs]; omega)]
        rfl
    · rw [List.getElem?_set_ne hv, ih]
      by_cases hm : j ∈ vs
      · rw [if_pos hm, if_pos (List.mem_cons_of_mem _ hm)]
      · rw [if_neg hm, if_neg (by simp [hm, Ne.symm hv])]
theorem wipeD_length (ρ : Sl) : ∀ vs : List Nat, (wipeD ρ vs).length = ρ.length
  | [] => rfl
  | v :: vs => by simp [wipeD, wipeD_length ρ vs]
theorem REnv.wiped (h : REnv K ι H ρ σ) (vs : List Nat) : REnv K ι H (wipeD ρ vs) (wipe σ vs) := by
  refine ⟨by rw [wipeD_length, wipe_length]; exact h.1, fun i d e => ?_⟩
  rw [wipeD_get] at e
  by_cases hm : i ∈ vs
  · rw [if_pos hm] at e
    cases q : ρ[i]? with
    | none => rw [q] at e; cases e
    | some o => rw [q] at e; cases e
  · rw [if_neg hm] at e
    obtain ⟨v, e1, r⟩ := h.2 i d e
    exact ⟨v, by rw [wipe_get, if_neg hm]; exact e1, r⟩
theorem wipe_idem (σ : L2.St) (vs : List Nat) : wipe (wipe σ vs) vs = wipe σ vs := by
  apply List.ext_getElem?
  intro j
  rw [wipe_get (wipe σ vs), wipe_get σ]
  by_cases hj : j ∈ vs
  · rw [if_pos hj, if_pos hj]
    cases σ[j]? <;> rfl
  · rw [if_neg hj, if_neg hj]
/-- an object that no cell stands for is changed: what is read elsewhere stays -/
theorem RD.aside {D : Addr} {o o' : HO} (hD : H D = some o) (ht : ∀ xs, o ≠ .tup xs) (hf : ∀ b u, o ≠ .frz b u) : ∀ {d : IM.D} {v : V}, RD K ι H d v → RD K ι (upd H D o') d v := by
  have sq : ∀ {a : Addr} {vs : List V}, SqT K H a vs → SqT K (upd H D o') a vs := fun {a vs} h => by
    rcases h with (h | ⟨b, h⟩) | h
    · exact .inl (.inl ((upd_ne fun e => by rw [e, hD] at h; cases h; exact ht _ rfl).trans h))
    · exact .inl (.inr ⟨b, (upd_ne fun e => by rw [e, hD] at h; cases h; exact hf _ _ rfl).trans h⟩)
    · exact .inr h
  have sf : ∀ {a : Addr} {vs : List V}, SqF K H a vs → SqF K (upd H D o') a vs := fun {a vs} h => by
    rcases h with ⟨b, h⟩ | h
    · exact .inl ⟨b, (upd_ne fun e => by rw [e, hD] at h; cases h; exact hf _ _ rfl).trans h⟩
    · exact .inr h
  intro d v h
  exact RD.rec (motive_1 := fun d v _ => RD K ι (upd H D o') d v) (motive_2 := fun ds vs _ => RDs K ι (upd H D o') ds vs) .non .bl .int .str .ty .glo (fun n a h => .loc n a h) (fun ds a vs h _ ih => .tup ds a vs (sq h) ih) (fun ds a vs h _ ih => .lit ds a vs (sf h) ih) .nil (fun _ _ h1 h2 => .cons h1 h2) h
theorem RDs.aside {D : Addr} {o o' : HO} (hD : H D = some o) (ht : ∀ xs, o ≠ .tup xs) (hf : ∀ b u, o ≠ .frz b u) : ∀ {d : List IM.D} {v : List V}, RDs K ι H d v → RDs K ι (upd H D o') d v
  | _, _, .nil => .nil
  | _, _, .cons h r => .cons (h.aside hD ht hf) (RDs.aside hD ht hf r)
theorem RFs.aside {κ : Type} {D : Addr} {o o' : HO} (hD : H D = some o) (ht : ∀ xs, o ≠ .tup xs) (hf : ∀ b u, o ≠ .frz b u) : ∀ {d : List (κ × IM.D)} {v : List (κ × V)}, RFs K ι H d v → RFs K ι (upd H D o') d v
  | _, _, .nil => .nil
  | _, _, .cons h r => .cons (h.aside hD ht hf) (RFs.aside hD ht hf r)
theorem Sim.aside2 (S : Sim K ι ih H) {D : Addr} {o o' : HO} (hD : H D = some o) (hn : some D ∉ ι) (ht : ∀ xs, o ≠ .tup xs) (hf : ∀ b u, o ≠ .frz b u) : Sim K ι ih (upd H D o') := by
  refine ⟨S.len, S.inj, fun n c oa h1 h2 => ?_⟩
  have h := S.cell n c oa h1 h2
  have ne : ∀ {a : Addr}, oa = some a → a ≠ D := fun {a} e z => hn (by rw [← z, ← e]; exact List.mem_of_getElem? h2)
  cases c with
  | gone => exact h
  | lst ds => obtain ⟨a, vs, e, q, r⟩ := h; exact ⟨a, vs, e, (upd_ne (ne e)).trans q, r.aside hD ht hf⟩
  | dic ds => obtain ⟨a, vs, e, q, r⟩ := h; exact ⟨a, vs, e, (upd_ne (ne e)).trans q, r.aside hD ht hf⟩
  | ins c fs => obtain ⟨a, dx, gs, e, q, r⟩ := h; exact ⟨a, dx, gs, e, (upd_ne (ne e)).trans q, r.aside hD ht hf⟩
  | exc c d => obtain ⟨a, dx, e, q, r⟩ := h; exact ⟨a, dx, e, (upd_ne (ne e)).trans q, r⟩
  | xd ds => obtain ⟨a, vs, e, q, r⟩ := h; exact ⟨a, vs, e, (upd_ne (ne e)).trans q, r.aside hD ht hf⟩
  | xdr ds => obtain ⟨a, vs, e, q, r⟩ := h; exact ⟨a, vs, e, (upd_ne (ne e)).trans q, r.aside hD ht hf⟩
theorem Ext.aside2 {D : Addr} {o : HO} (E : Ext ι H ι1 H1) (h0 : H D = none) : Ext ι H ι1 (upd H1 D o) :=
  ⟨E.len, E.pre, fun a u h n => (upd_ne fun e => by rw [e, h0] at h; cases h).trans (E.keep a u h n), E.new⟩
/-- an object that stands aside becomes a cell -/
theorem Sim.adopt (S : Sim K ι ih H) {p : Addr} {c : C} (hn : some p ∉ ι) (hc : CellOk K (ι ++ [some p]) H c (some p)) : Sim K (ι ++ [some p]) (ih ++ [c]) H := by
  have pre : ∀ (n : Nat) (a : Addr), ι[n]? = some (some a) → (ι ++ [some p])[n]? = some (some a) := fun n a h => by rw [List.getElem?_append_left (List.getElem?_eq_some_iff.mp h).1]; exact h
  have rd : ∀ {d : IM.D} {v : V}, RD K ι H d v → RD K (ι ++ [some p]) H d v := fun {d v} h =>
    RD.rec (motive_1 := fun d v _ => RD K (ι ++ [some p]) H d v) (motive_2 := fun ds vs _ => RDs K (ι ++ [some p]) H ds vs) .non .bl .int .str .ty .glo (fun n a h => .loc n a (pre n a h)) (fun ds a vs h _ ih => .tup ds a vs h ih) (fun ds a vs h _ ih => .lit ds a vs h ih) .nil (fun _ _ h1 h2 => .cons h1 h2) h
  have rds : ∀ {d : List IM.D} {v : List V}, RDs K ι H d v → RDs K (ι ++ [some p]) H d v := fun {d v} h => by
    induction d generalizing v with
    | nil => cases h; exact .nil
    | cons a as ih => cases h with | cons h r => exact .cons (rd h) (ih r)
  have rfs : ∀ {κ : Type} {d : List (κ × IM.D)} {v : List (κ × V)}, RFs K ι H d v → RFs K (ι ++ [some p]) H d v := fun {κ d v} h => by
    induction d generalizing v with
    | nil => cases h; exact .nil
    | cons a as ih => cases h with | cons h r => exact .cons (rd h) (ih r)
  have hl := S.len
  refine ⟨by simp [hl], fun n m a h1 h2 => ?_, fun n d oa h1 h2 => ?_⟩
  · by_cases hnn : n < ι.length
    · rw [List.getElem?_append_left hnn] at h1
      by_cases hm : m < ι.length
      · rw [List.getElem?_append_left hm] at h2
        exact S.inj n m a h1 h2
      · rw [List.getElem?_append_right (by omega)] at h2
        have e : some p = some a := (List.mem_singleton.mp (List.mem_of_getElem? h2)).symm
        cases e
        exact absurd (mem_at h1) hn
    · rw [List.getElem?_append_right (by omega)] at h1
      have e : some p = some a := (List.mem_singleton.mp (List.mem_of_getElem? h1)).symm
      cases e
      by_cases hm : m < ι.length
      · rw [List.getElem?_append_left hm] at h2
        exact absurd (mem_at h2) hn
      · have b1 := (List.getElem?_eq_some_iff.mp h1).1
        rw [List.getElem?_append_right (by omega)] at h2
        have b2 := (List.getElem?_eq_some_iff.mp h2).1
        simp at b1 b2
        omega
  · by_cases hnn : n < ih.length
    · rw [List.getElem?_append_left hnn] at h1
      rw [List.getElem?_append_left (by omega)] at h2
      have h := S.cell n d oa h1 h2
      cases d with
      | gone => exact h
      | lst ds => obtain ⟨a, vs, e, q, r⟩ := h; exact ⟨a, vs, e, q, rds r⟩
      | dic ds => obtain ⟨a, vs, e, q, r⟩ := h; exact ⟨a, vs, e, q, rfs r⟩
      | ins c fs => obtain ⟨a, dx, gs, e, q, r⟩ := h; exact ⟨a, dx, gs, e, q, rfs r⟩
      | exc c dd =>
        obtain ⟨a, dx, e, q, r⟩ := h
        refine ⟨a, dx, e, q, ?_⟩
        cases dd with
        | none => exact r
        | some m => obtain ⟨b, e1, e2⟩ := r; exact ⟨b, e1, pre m b e2⟩
      | xd ds => obtain ⟨a, vs, e, q, r⟩ := h; exact ⟨a, vs, e, q, rfs r⟩
      | xdr ds => obtain ⟨a, vs, e, q, r⟩ := h; exact ⟨a, vs, e, q, rfs r⟩
    · rw [List.getElem?_append_right (by omega)] at h1
      have e1 : d = c := List.mem_singleton.mp (List.mem_of_getElem? h1)
      rw [List.getElem?_append_right (by omega)] at h2
      have e2 : oa = some p := List.mem_singleton.mp (List.mem_of_getElem? h2)
      rw [e1, e2]
      exact hc
theorem RDs.adopt {p : Addr} : ∀ {d : List IM.D} {v : List V}, RDs K ι H d v → RDs K (ι ++ [some p]) H d v
  | _, _, h => by
    have pre : ∀ (n : Nat) (a : Addr), ι[n]? = some (some a) → (ι ++ [some p])[n]? = some (some a) := fun n a h => by rw [List.getElem?_append_left (List.getElem?_eq_some_iff.mp h).1]; exact h
    exact RDs.rec (motive_1 := fun d v _ => RD K (ι ++ [some p]) H d v) (motive_2 := fun ds vs _ => RDs K (ι ++ [some p]) H ds vs) .non .bl .int .str .ty .glo (fun n a h => .loc n a (pre n a h)) (fun ds a vs h _ ih => .tup ds a vs h ih) (fun ds a vs h _ ih => .lit ds a vs h ih) .nil (fun _ _ h1 h2 => .cons h1 h2) h
variable {W : Wx} {cl : CallT} {α : Type} {N : α → IH → Io → Hp → Prop}
theorem tE.base {da : DE} {f : IM.D → IH → Res α} (S : Sim K ι ih H) (R : REnv K ι H ρ σ) (h : Out K ι1 H1 W N (((da cl ρ ih).nox).bind f)) :
    tE K W0 cl da σ H fun u H2 => ∃ ι2 ih2 d, Sim K ι2 ih2 H2 ∧ Ext ι H ι2 H2 ∧ RD K ι2 H2 d u ∧ REnv K ι2 H2 ρ σ ∧ Out K ι1 H1 W N (f d ih2) := by
  refine ⟨ι, ρ, ih, S, R, ?_⟩
  cases e : da cl ρ ih with
  | bad => rw [e] at h; exact h
  | exn c n x => rw [e] at h; exact h.elim
  | ok a x => rw [e] at h; exact fun ι' H' S' E' u r => ⟨ι', x, a, S', E', r, R.mono S E', h⟩
theorem tT.base {da : DB} {f : Bool → IH → Res α} (S : Sim K ι ih H) (R : REnv K ι H ρ σ) (h : Out K ι1 H1 W N (((da cl ρ ih).nox).bind f)) :
    tT K W0 cl da σ H fun u H2 => ∃ ι2 ih2, Sim K ι2 ih2 H2 ∧ Ext ι H ι2 H2 ∧ REnv K ι2 H2 ρ σ ∧ Out K ι1 H1 W N (f u ih2) := by
  refine ⟨ι, ρ, ih, S, R, ?_⟩
  cases e : da cl ρ ih with
  | bad => rw [e] at h; exact h
  | exn c n x => rw [e] at h; exact h.elim
  | ok a x => rw [e] at h; exact fun ι' H' S' E' => ⟨ι', x, S', E', R.mono S E', h⟩
end
theorem Res.bind_assoc {α β γ : Type} (r : Res α) (f : α → IH → Res β) (g : β → IH → Res γ) : (r.bind f).bind g = r.bind fun a ih => (f a ih).bind g := by cases r <;> rfl
section
variable {X : Cx} {W : Wx} {cl : CallT} {pos : Pos} {elt tg iter : Expr} {ifs : List Expr} {scope : Scope} {own : List (Str × Nat)} {it : DI} {t : Tg} {c : DB} {e : DE}
theorem spts_nil : SPTs X W cl [] dYes := ⟨fun pins s σ H Q I ⟨ι, ρ, ih, S, R, q⟩ => pts_nil.run pins s σ H Q I (Out.here S q)⟩
theorem spts_one {x : Expr} (h : ST X W cl x c) : SPTs X W cl [x] c := pts_one h
/-- what the comprehension's loop is to keep -/
theorem lc_turns {K : PySem.W.Frag} {ι1 : Io} {ih1 : IH} {ρ : Sl} {σ : L2.St} {H1 : Hp} {J : It} {src : Src} {Q : VK} (hown : ∀ i ∈ t.all, i ∈ own.map (·.2)) (S1 : Sim K ι1 ih1 H1) (R1 : REnv K ι1 H1 ρ σ) (o1 : SrcOk K src J ι1 H1)
    (q1 : Out K ι1 H1 W (EndV K Q) ((lcF cl src t c e (wipeD ρ (own.map (·.2))) (src.size ih1 + 1) 0 [] ih1).bind fun acc ih => .ok (.loc ih.length) (ih ++ [.lst acc]))) (D : Addr) (hD : H1 D = none) :
    ∃ W' : Nat → Nat → Hp → Prop, (∃ m, W' 0 m (upd H1 D (.lst []))) ∧ ∀ i m H, W' i m H → (J.stop i H ∧ Q (.ref D) H) ∨ (J.go i H ∧ ∃ Nx : Hp → Prop, (∀ H', Nx H' → ∃ m', m' < m ∧ W' (i + 1) m' H') ∧
      ∀ x H', J.yld i H x H' → tgR K t x (wipe σ (own.map (·.2))) H' fun σ2 H2 => wipe σ2 (own.map (·.2)) = wipe σ (own.map (·.2)) ∧ tT K W0 cl c σ2 H2 fun b H3 => if b = true then tE K W0 cl e σ2 H3 fun y H4 => ∃ acc, H4 D = some (.lst acc) ∧ acc.length < sizeLine ∧ Nx (upd H4 D (.lst (acc ++ [y]))) else Nx H3) := by
  have nD : some D ∉ ι1 := S1.noneq hD
  obtain ⟨WW, hWW⟩ : ∃ WW : Nat → Nat → Hp → Prop, ∀ i m H, WW i m H ↔ ∃ ι ih acc avs, Sim K ι ih H ∧ some D ∉ ι ∧ H D = some (.lst avs) ∧ RDs K ι H acc avs ∧ Ext ι1 H1 ι H ∧
      Out K ι1 H1 W (EndV K Q) ((lcF cl src t c e (wipeD ρ (own.map (·.2))) m i acc ih).bind fun acc ih => .ok (.loc ih.length) (ih ++ [.lst acc])) := ⟨_, fun _ _ _ => Iff.rfl⟩
  refine ⟨WW, ⟨_, (hWW _ _ _).mpr ⟨ι1, ih1, [], [], (S1.aside hD).1, nD, upd_same, .nil, (S1.aside hD).2, q1⟩⟩, ?_⟩
  rintro i m H w
  obtain ⟨ι, ih, acc, avs, S, hn, hH, ra, E, q⟩ := (hWW _ _ _).mp w
  have tp : ∀ xs, HO.lst avs ≠ .tup xs := fun _ z => by cases z
  have fz : ∀ b u, HO.lst avs ≠ .frz b u := fun _ _ z => by cases z
  cases m with
  | zero => exact q.elim
  | succ m =>
    unfold lcF at q
    obtain ⟨o2, o3⟩ := o1 ι ih H i S E
    cases eg : src.get ih i with
    | none => rw [eg] at q; exact q.elim
    | some od =>
      rw [eg] at q
      cases od with
      | none =>
        refine .inl ⟨o2 eg, ?_⟩
        have S2 := S.adopt (c := .lst acc) hn ⟨D, avs, rfl, hH, ra.adopt⟩
        have E2 : Ext ι1 H1 (ι ++ [some D]) H := ⟨by simp; have := E.len; omega, fun n a h => by
          have h2 := E.pre n a h
          rw [List.getElem?_append_left (List.getElem?_eq_some_iff.mp h2).1]; exact h2, E.keep, fun a m n => by
            rcases List.mem_append.mp m with m | m
            · exact E.new a m n
            · have ez : some a = some D := by simpa using m
              cases ez
              exact hD⟩
        exact (q _ _ S2 E2) _ (.loc _ D (by rw [← S.len]; simp))
      | some d =>
        obtain ⟨g, y⟩ := o3 d eg
        refine .inr ⟨g, WW (i + 1) m, fun H' n => ⟨m, Nat.lt_succ_self m, n⟩, fun x H2 yx => ?_⟩
        obtain ⟨E2, S2, r2⟩ := y x H2 yx
        dsimp only at q
        cases e3 : tgSet t d (wipeD ρ (own.map (·.2))) with
        | none => rw [e3] at q; exact q.elim
        | some ρ3 =>
          rw [e3] at q
          have hH2 : H2 D = some (.lst avs) := E2.keep _ _ hH hn
          have RW : REnv K ι H2 (wipeD ρ (own.map (·.2))) (wipe σ (own.map (·.2))) := ((R1.mono S1 E).mono S E2).wiped _
          refine tg_ok r2 RW e3 fun σ3 R3 hw => ⟨by rw [hw _ hown, wipe_idem], ?_⟩
          rw [Res.bind_assoc] at q
          refine (tT.base S2 R3 q).weaken fun b H3 ⟨ι4, ih4, S4, E4, R4, q4⟩ => ?_
          have nn : ∀ {ι' : Io} {H' : Hp}, Ext ι H2 ι' H' → some D ∉ ι' := fun {ι' H'} Ex mm => by
            have z := Ex.new D mm hn
            rw [hH2] at z
            cases z
          cases b with
          | false =>
            exact (hWW _ _ _).mpr ⟨ι4, ih4, acc, avs, S4, nn E4, E4.keep _ _ hH2 hn, (ra.mono S E2).mono S2 E4, (E.trans E2).trans E4, q4⟩
          | true =>
            have q4 : Out K ι1 H1 W (EndV K Q) (((e cl ρ3 ih4).nox.bind fun v ih => if acc.length < 100000 then lcF cl src t c e (wipeD ρ (own.map (·.2))) m (i + 1) (acc ++ [v]) ih else .bad).bind fun acc ih => .ok (.loc ih.length) (ih ++ [.lst acc])) := q4
            rw [Res.bind_assoc] at q4
            refine (tE.base S4 R4 q4).weaken fun u H5 ⟨ι5, ih5, v, S5, E5, r5, R5, q5⟩ => ?_
            by_cases hl : acc.length < 100000
            · rw [if_pos hl] at q5
              have E25 := E4.trans E5
              have hH5 : H5 D = some (.lst avs) := E25.keep _ _ hH2 hn
              have ra5 := (ra.mono S E2).mono S2 E25
              refine ⟨avs, hH5, by rw [← ra.length, sizeLine_eq]; omega, (hWW _ _ _).mpr ⟨ι5, ih5, acc ++ [v], avs ++ [u], S5.aside2 hH5 (nn E25) tp fz, nn E25, upd_same, (ra5.append (.cons r5 .nil)).aside hH5 tp fz, ((E.trans E2).trans E25).aside2 hD, q5⟩⟩
            · rw [if_neg hl] at q5
              exact q5.elim
theorem se_lc (hc : X.calm = true) (hN : X.N.Nodup) (hi : SI X W cl tg iter it) (ok : BlkOk X.N X.env.scope scope own) (hown : ∀ i ∈ t.all, i ∈ own.map (·.2))
    (hg : ∀ (s : Shared) (H : Hp) (C : Addr) (cl' : List (Str × Addr)) (fp : List Addr), SG (X.blk s H scope (compEnvC scope cl' C X.env) fp) tg t)
    (ht : ∀ (s : Shared) (H : Hp) (C : Addr) (cl' : List (Str × Addr)) (fp : List Addr), SPTs (X.blk s H scope (compEnvC scope cl' C X.env) fp) W0 cl ifs c)
    (he : ∀ (s : Shared) (H : Hp) (C : Addr) (cl' : List (Str × Addr)) (fp : List Addr), SE (X.blk s H scope (compEnvC scope cl' C X.env) fp) W0 cl elt e) (hs : ∀ x, foldedSetIterable iter X.env x = pure x := by intro _; rfl) :
    SE X W cl (.ListComp elt [⟨tg, iter, ifs, 0⟩] scope pos) (dLc (own.map (·.2)) it t c e) := peOf (pe_lc hc hN hi ok hg ht he hs) fun σ H Q ⟨ι, ρ, ih, S, R, q⟩ => by
  refine ⟨ι, ρ, ih, S, R, (Out.bind q).mono fun src ih' ι' H' S' E' q' J o => ?_⟩
  exact fun D hD => lc_turns hown S' (R.mono S E') o q' D hD
end
end IM
end

section
set_option Elab.async false
set_option linter.all false
set_option maxRecDepth 100000
/-! Subscripts, slices, builtins, methods of lists. -/
namespace IM
open PySem PySem.Spec PyProof.Rows L2

/-! ### subscripts -/
section
variable {K : PySem.W.Frag} {ι : Io} {H : Hp} {ih : IH} {W : Wx} {cl : CallT}
theorem ixN_of {n m : Nat} (h : n = m) (i : Int) : ixN n i = ixN m i := by rw [h]
theorem RDs.at_ {ds : List D} {vs : List V} (r : RDs K ι H ds vs) {i : Int} {d : D} (h : atI ds i = some d) : ∃ v, atI vs i = some v ∧ RD K ι H d v := by
  unfold atI at h ⊢
  rw [← r.length]
  cases e : ixN ds.length i with
  | none => rw [e] at h; cases h
  | some j =>
    rw [e] at h
    exact r.get h
/-- a two-place operation's reading -/
theorem optR {r : R2} {g : D → D → IH → Res D} {da db : DE} (hr : ∀ (H : Hp) (ι : Io) (ih : IH) (x y : D) (ux uy : V) (Q : VK), Sim K ι ih H → RD K ι H x ux → RD K ι H y uy → Out K ι H W (EndV K Q) (g x y ih) → r ux uy H Q) {σ : L2.St} {H : Hp} {Q : VK}
    (h : tE K W cl (dOp g da db) σ H Q) : tOp r (tE K W cl da) (tE K W cl db) σ H Q := by
  obtain ⟨ι, ρ, ih, S, R, q⟩ := h
  refine (tE.seq S R q).weaken fun ux H1 ⟨ι1, ih1, x, S1, E1, rx, R1, q1⟩ => ?_
  exact (tE.seq S1 R1 q1).weaken fun uy H2 ⟨ι2, ih2, y, S2, E2, ry, R2, q2⟩ => hr H2 ι2 ih2 x y ux uy Q S2 (rx.mono S1 E2) ry q2
end
def gIx : D → D → IH → Res D := fun x y ih => match x, y with
  | .tup ds, .int i => match atI ds i with
    | some d => .ok d ih
    | none => .bad
  | .lit ds, .int i => match atI ds i with
    | some d => .ok d ih
    | none => .bad
  | .loc n, .int i => match ih[n]? with
    | some (.lst ds) => match atI ds i with
      | some d => .ok d ih
      | none => .bad
    | _ => .bad
  | _, _ => .bad
section
variable {X : Cx} {W : Wx} {cl : CallT} {pos p2 : Pos} {a b e : Expr} {da db d : DE}
theorem se_ix (ha : SE X W cl a da) (hb : SE X W cl b db) (hs : PlainIx b := by intro _ _; rfl) : SE X W cl (.Subscript a b pos) (dOp gIx da db) := peOf (pe_ix ix_seq ha hb hs) fun σ H Q h => by
  refine optR (fun H ι ih x y ux uy Q S rx ry q => ?_) h
  unfold gIx at q
  cases ry with
  | int i =>
    cases rx with
    | tup ds p vs hs rs =>
      dsimp only at q
      cases e : atI ds i with
      | none => rw [e] at q; exact q.elim
      | some d =>
        rw [e] at q
        obtain ⟨v, hv, rv⟩ := rs.at_ e
        exact .inr (.inl ⟨p, vs, i, v, rfl, rfl, hs, hv, Out.here S q v rv⟩)
    | lit ds p vs hs rs =>
      dsimp only at q
      cases e : atI ds i with
      | none => rw [e] at q; exact q.elim
      | some d =>
        rw [e] at q
        obtain ⟨v, hv, rv⟩ := rs.at_ e
        exact .inl ⟨p, vs, i, v, rfl, rfl, hs.seq, hv, Out.here S q v rv⟩
    | loc n p hp =>
      dsimp only at q
      cases ec : ih[n]? with
      | none => rw [ec] at q; exact q.elim
      | some c =>
        rw [ec] at q
        cases c with
        | lst ds =>
          dsimp only at q
          cases e : atI ds i with
          | none => rw [e] at q; exact q.elim
          | some d =>
            rw [e] at q
            obtain ⟨vs, hH, rs⟩ := S.list ec hp
            obtain ⟨v, hv, rv⟩ := rs.at_ e
            exact .inl ⟨p, vs, i, v, rfl, rfl, .of hH, hv, Out.here S q v rv⟩
        | _ => exact q.elim
    | _ => exact q.elim
  | _ => cases rx <;> exact q.elim

/-! ### slices -/
def cutI (xs : List D) (lo hi : Option Int) : List D := (xs.drop (HT.sIx xs.length 0 lo)).take (HT.sIx xs.length xs.length hi - HT.sIx xs.length 0 lo)
theorem RDs.cut {K : PySem.W.Frag} {ι : Io} {H : Hp} {ds : List D} {vs : List V} (r : RDs K ι H ds vs) (lo hi : Option Int) : RDs K ι H (cutI ds lo hi) (cutV vs lo hi) := by
  unfold cutI cutV
  rw [r.length]
  exact (r.drop _).take _
def gSl : D → Option Int → Option Int → IH → Res D := fun x lo hi ih => match x with
  | .tup ds => if HT.sIx ds.length 0 lo = 0 ∧ HT.sIx ds.length ds.length hi = ds.length then .bad else .ok (.tup (cutI ds lo hi)) ih
  | .lit ds => .ok (.loc ih.length) (ih ++ [.lst (cutI ds lo hi)])
  | .loc n => match ih[n]? with
    | some (.lst ds) => .ok (.loc ih.length) (ih ++ [.lst (cutI ds lo hi)])
    | _ => .bad
  | _ => .bad
def asI : D → Option Int
  | .int i => some i
  | _ => none
/-- a bound that is told -/
def dPart (e : DE) : CallT → Sl → IH → Res (Option Int) := fun cl ρ ih => (e cl ρ ih).bind fun v ih => match v with
  | .int i => .ok (some i) ih
  | _ => .bad
def dNoPart : CallT → Sl → IH → Res (Option Int) := fun _ _ ih => .ok none ih
def dSl (e : DE) (lo hi : CallT → Sl → IH → Res (Option Int)) : DE := fun cl ρ ih => (e cl ρ ih).bind fun x ih => (lo cl ρ ih).bind fun l ih => (hi cl ρ ih).bind fun u ih => gSl x l u ih
def tP (K : PySem.W.Frag) (W : Wx) (cl : CallT) (d : CallT → Sl → IH → Res (Option Int)) : TO := fun σ H Q => ∃ ι ρ ih, Sim K ι ih H ∧ REnv K ι H ρ σ ∧ Out K ι H W (fun v _ _ H' => Q v H') (d cl ρ ih)
abbrev SP_ (X : Cx) (W : Wx) (cl : CallT) (e : Option Expr) (d : CallT → Sl → IH → Res (Option Int)) : Prop := PO X e (tP X.K W cl d)
theorem poOf {X : Cx} {e : Option Expr} {t t' : TO} (h : PO X e t) (c : ∀ σ H Q, t' σ H Q → t σ H Q) : PO X e t' := ⟨fun pins s σ H Q I q => h.run pins s σ H Q I (c σ H Q q)⟩
theorem sp_none : SP_ X W cl none dNoPart := poOf po_none fun σ H Q ⟨ι, ρ, ih, S, R, q⟩ => Out.here S q
theorem sp_some (h : SE X W cl e d) : SP_ X W cl (some e) (dPart d) := poOf (po_some h) fun σ H Q ⟨ι, ρ, ih, S, R, q⟩ => by
  refine (tE.seq S R q).weaken fun ux H1 ⟨ι1, ih1, x, S1, E1, rx, R1, q1⟩ => ?_
  cases rx with
  | int i => exact ⟨i, rfl, Out.here S1 q1⟩
  | _ => exact q1.elim
theorem tP.seq {K : PySem.W.Frag} {W : Wx} {cl : CallT} {ι : Io} {ih : IH} {ρ : Sl} {σ : L2.St} {H : Hp} {α : Type} {N : α → IH → Io → Hp → Prop} {da : CallT → Sl → IH → Res (Option Int)} {f : Option Int → IH → Res α} (S : Sim K ι ih H) (R : REnv K ι H ρ σ) (h : Out K ι H W N ((da cl ρ ih).bind f)) :
    tP K W cl da σ H fun u H1 => ∃ ι1 ih1, Sim K ι1 ih1 H1 ∧ Ext ι H ι1 H1 ∧ REnv K ι1 H1 ρ σ ∧ Out K ι1 H1 W N (f u ih1) :=
  ⟨ι, ρ, ih, S, R, (Out.bind h).mono fun a ih' ι' H' S' E' q => ⟨ι', ih', S', E', R.mono S E', q⟩⟩
theorem tP.weaken {K : PySem.W.Frag} {W : Wx} {cl : CallT} {d : CallT → Sl → IH → Res (Option Int)} {σ : L2.St} {H : Hp} {Q Q' : Option Int → Hp → Prop} (h : tP K W cl d σ H Q) (k : ∀ u H1, Q u H1 → Q' u H1) : tP K W cl d σ H Q' := by
  obtain ⟨ι, ρ, ih, S, R, q⟩ := h
  exact ⟨ι, ρ, ih, S, R, q.mono fun a ih' ι' H' _ _ q => k _ _ q⟩
theorem se_slice {lo hi : Option Expr} {dl dh : CallT → Sl → IH → Res (Option Int)} (he : SE X W cl e d) (hl : SP_ X W cl lo dl) (hh : SP_ X W cl hi dh) : SE X W cl (.Subscript e (.Slice lo hi none p2) pos) (dSl d dl dh) :=
  peOf (pe_slice (sl_list.or sl_tup) he hl hh) fun σ H Q ⟨ι, ρ, ih, S, R, q⟩ => by
  refine (tE.seq S R q).weaken fun ux H1 ⟨ι1, ih1, x, S1, E1, rx, R1, q1⟩ => ?_
  refine (tP.seq S1 R1 q1).weaken fun l H2 ⟨ι2, ih2, S2, E2, R2, q2⟩ => ?_
  refine (tP.seq S2 R2 q2).weaken fun u H3 ⟨ι3, ih3, S3, E3, R3, q3⟩ => ?_
  have rx := (rx.mono S1 E2).mono S2 E3
  have mk : ∀ {ds : List D} {vs : List V}, RDs X.K ι3 H3 ds vs → Out X.K ι3 H3 W (EndV X.K Q) (.ok (.loc ih3.length) (ih3 ++ [.lst (cutI ds l u)])) → ∀ p, H3 p = none → Q (.ref p) (upd H3 p (.lst (cutV vs l u))) := fun {ds vs} rs q p hp => by
    obtain ⟨S4, E4⟩ := S3.push (o := .lst (cutV vs l u)) (c := .lst (cutI ds l u)) hp ⟨p, _, rfl, upd_same, (rs.cut l u).mono S3 (Ext.push hp)⟩
    exact (q _ _ S4 E4) _ (.loc _ p (by rw [← S3.len]; simp))
  unfold gSl at q3
  cases rx with
  | tup ds p vs hs rs =>
    dsimp only at q3
    split at q3
    · exact q3.elim
    · rename_i hn
      refine .inr ⟨p, vs, rfl, hs, by rw [← rs.length]; exact hn, fun p hp => ?_⟩
      obtain ⟨S4, E4⟩ := S3.aside (o := .tup (cutV vs l u)) hp
      exact (q3 _ _ S4 E4) _ (.tup _ p _ (.of upd_same) ((rs.cut l u).mono S3 E4))
  | lit ds p vs hs rs => exact .inl ⟨p, vs, rfl, hs.seq, mk rs q3⟩
  | loc n p hp =>
    dsimp only at q3
    cases ec : ih3[n]? with
    | none => rw [ec] at q3; exact q3.elim
    | some c =>
      rw [ec] at q3
      cases c with
      | lst ds =>
        obtain ⟨vs, hH, rs⟩ := S3.list ec hp
        exact .inl ⟨p, vs, rfl, .of hH, mk rs q3⟩
      | _ => exact q3.elim
  | _ => exact q3.elim
end

/-! ### calls of builtins -/
def dApp (g : List D → IH → Res D) (r : DA) : DE := fun cl ρ ih => (r cl ρ ih).bind fun xs ih => g xs ih
/-- a builtin's rule by values does what g does -/
def CallS (K : PySem.W.Frag) (W : Wx) (r : List V → Hp → VK → Prop) (g : List D → IH → Res D) : Prop :=
  ∀ (H : Hp) (ι : Io) (ih : IH) (xs : List D) (us : List V) (Q : VK), Sim K ι ih H → RDs K ι H xs us → Out K ι H W (EndV K Q) (g xs ih) → r us H Q
section
variable {X : Cx} {W : Wx} {cl : CallT} {x : Str} {p pos : Pos} {e : Expr} {es : List Expr} {t : DA} {id T : String} {r : List V → Hp → VK → Prop} {g : List D → IH → Res D}
theorem tcb (hg : CallS X.K W r g) {σ : L2.St} {H : Hp} {Q : VK} (h : tE X.K W cl (dApp g t) σ H Q) : tCB r (tA X.K W cl t) σ H Q := by
  obtain ⟨ι, ρ, ih, S, R, q⟩ := h
  exact (tA.seq S R q).weaken fun us H1 ⟨ι1, ih1, xs, S1, E1, rs, R1, q1⟩ => hg H1 ι1 ih1 xs us Q S1 rs q1
theorem se_callB (hc : CallR X (.builtin id) r) (hs : CallS X.K W r g) (hm : X.mg x = none) (ha : SA X W cl (e :: es) t) (hg : Gl X x := by rfl) (hv : bootBuiltins x = some (.builtin id) := by rfl) (hn : x ≠ "__name__" := by decide) (hdb : (x == ("__debug__" : Str)) = false := by decide)
    (he : starEach (e :: es) X.env = (false, eval e X.env) :: starEach es X.env := by rfl) (hpl : (backTo pos (starEach es X.env)).any (·.1) = false := by rfl) : SE X W cl (.Call (.Name x p) (e :: es) [] pos) (dApp g t) :=
  peOf (pe_callB hc hg hm hv ha hn hdb he hpl) fun σ H Q h => tcb hs h
theorem se_callTy (hc : CallR X (.type T) r) (hs : CallS X.K W r g) (hm : X.mg x = none) (ha : SA X W cl (e :: es) t) (hg : Gl X x := by rfl) (hv : bootBuiltins x = some (.type T) := by rfl) (hn : x ≠ "__name__" := by decide) (hdb : (x == ("__debug__" : Str)) = false := by decide)
    (he : starEach (e :: es) X.env = (false, eval e X.env) :: starEach es X.env := by rfl) (hpl : (backTo pos (starEach es X.env)).any (·.1) = false := by rfl) : SE X W cl (.Call (.Name x p) (e :: es) [] pos) (dApp g t) :=
  peOf (pe_callTy hc hg hm hv ha hn hdb he hpl) fun σ H Q h => tcb hs h
end
/-- what a list or a tuple holds -/
def seqOf : D → IH → Option (List D) := fun x ih => match x with
  | .tup ds => some ds
  | .lit ds => some ds
  | .loc n => match ih[n]? with
    | some (.lst ds) => some ds
    | _ => none
  | _ => none
def isTupD : D → Bool
  | .tup _ => true
  | _ => false
theorem seqOf_ok {K : PySem.W.Frag} {ι : Io} {H : Hp} {ih : IH} {x : D} {u : V} {ds : List D} (S : Sim K ι ih H) (r : RD K ι H x u) (h : seqOf x ih = some ds) : ∃ p vs, u = .ref p ∧ RDs K ι H ds vs ∧ (isTupD x = true → SqT K H p vs) ∧ (isTupD x = false → SqL K H p vs) := by
  unfold seqOf at h
  cases r with
  | tup es p vs hs rs => cases h; exact ⟨p, vs, rfl, rs, fun _ => hs, (fun z => by cases z)⟩
  | lit es p vs hs rs => cases h; exact ⟨p, vs, rfl, rs, (fun z => by cases z), fun _ => hs.seq⟩
  | loc n p hp =>
    dsimp only at h
    cases ec : ih[n]? with
    | none => rw [ec] at h; cases h
    | some c =>
      rw [ec] at h
      cases c with
      | lst es =>
        cases h
        obtain ⟨vs, hH, rs⟩ := S.list ec hp
        exact ⟨p, vs, rfl, rs, (fun z => by cases z), fun _ => .of hH⟩
      | _ => cases h
  | _ => cases h
def gLen : List D → IH → Res D := fun xs ih => match xs with
  | [.str z] => if z.length ≤ 100000 then .ok (.int z.length) ih else .bad
  | [x] => match seqOf x ih with
    | some ds => .ok (.int ds.length) ih
    | none => .bad
  | _ => .bad
def gList : List D → IH → Res D := fun xs ih => match xs with
  | [x] => match seqOf x ih with
    | some ds => .ok (.loc ih.length) (ih ++ [.lst ds])
    | none => .bad
  | _ => .bad
def gTuple : List D → IH → Res D := fun xs ih => match xs with
  | [x] => match seqOf x ih with
    | some ds => .ok (.tup ds) ih
    | none => .bad
  | _ => .bad
def allB : List D → Option (List Bool)
  | [] => some []
  | .bl b :: ds => (allB ds).map (b :: ·)
  | _ => none
def gAll : List D → IH → Res D := fun xs ih => match xs with
  | [x] => if isTupD x = true then .bad else match seqOf x ih with
    | some ds => match allB ds with
      | some bs => .ok (.bl (bs.all _root_.id)) ih
      | none => .bad
    | none => .bad
  | _ => .bad
def gInt : List D → IH → Res D := fun xs ih => match xs with
  | [.int i] => .ok (.int i) ih
  | [.bl k] => .ok (.int (if k then 1 else 0)) ih
  | _ => .bad
def gBool : List D → IH → Res D := fun xs ih => match xs with
  | [.int i] => .ok (.bl (i != 0)) ih
  | [.bl k] => .ok (.bl k) ih
  | _ => .bad
def gAbs : List D → IH → Res D := fun xs ih => match xs with
  | [.int i] => .ok (.int (if i < 0 then -i else i)) ih
  | _ => .bad
theorem allB_ok {K : PySem.W.Frag} {ι : Io} {H : Hp} : ∀ {ds : List D} {vs : List V} {bs : List Bool}, RDs K ι H ds vs → allB ds = some bs → vs = bs.map V.bl
  | [], _, _, .nil, h => by cases h; rfl
  | .bl b :: ds, _, _, .cons (.bl _) r, h => by
    unfold allB at h
    cases e : allB ds with
    | none => rw [e] at h; cases h
    | some cs =>
      rw [e] at h
      cases h
      rw [allB_ok r e]
      rfl
  | .non :: _, _, _, _, h => by cases h
  | .int _ :: _, _, _, _, h => by cases h
  | .str _ :: _, _, _, _, h => by cases h
  | .ty _ :: _, _, _, _, h => by cases h
  | .glo _ :: _, _, _, _, h => by cases h
  | .loc _ :: _, _, _, _, h => by cases h
  | .tup _ :: _, _, _, _, h => by cases h
  | .lit _ :: _, _, _, _, h => by cases h
section
variable {X : Cx} {W : Wx}
theorem cs_len : CallS X.K W (fun xs H Q => ∃ x n, xs = [x] ∧ LenV X.K x H n ∧ Q (.int n) H) gLen := fun H ι ih xs us Q S r q => by
  cases r with
  | nil => exact q.elim
  | @cons x u xs us r rr =>
    cases rr with
    | cons _ _ => cases x <;> exact q.elim
    | nil =>
      have gen : ∀ ds, seqOf x ih = some ds → Out X.K ι H W (EndV X.K Q) (.ok (.int ds.length) ih) → ∃ x n, [u] = [x] ∧ LenV X.K x H n ∧ Q (.int n) H := fun ds e q => by
        obtain ⟨p, vs, rfl, rs, h1, h2⟩ := seqOf_ok S r e
        refine ⟨_, vs.length, rfl, ?_, ?_⟩
        · cases ht : isTupD x with
          | true => exact .inr ⟨vs, h1 ht, rfl⟩
          | false => exact .inl ⟨vs, h2 ht, rfl⟩
        · have := Out.here S q _ (.int _)
          rw [rs.length] at this
          exact this
      cases r with
      | str z =>
        unfold gLen at q
        dsimp only at q
        split at q
        · rename_i hz
          exact ⟨_, z.length, rfl, ⟨line5 hz, rfl⟩, Out.here S q _ (.int _)⟩
        · exact q.elim
      | tup ds p vs hs rs => exact gen _ rfl q
      | lit ds p vs hs rs => exact gen _ rfl q
      | loc n p hp =>
        unfold gLen at q
        dsimp only at q
        cases e : seqOf (.loc n) ih with
        | none => rw [e] at q; exact q.elim
        | some ds => rw [e] at q; exact gen _ e q
      | _ => exact q.elim
theorem cs_list : CallS X.K W (fun xs H Q => ∃ p ys, xs = [.ref p] ∧ (SqL X.K H p ys ∨ SqT X.K H p ys) ∧ ∀ l, H l = none → Q (.ref l) (upd H l (.lst ys))) gList := fun H ι ih xs us Q S r q => by
  cases r with
  | nil => exact q.elim
  | @cons x u xs us r rr =>
    cases rr with
    | cons _ _ => exact q.elim
    | nil =>
      unfold gList at q
      dsimp only at q
      cases e : seqOf x ih with
      | none => rw [e] at q; exact q.elim
      | some ds =>
        rw [e] at q
        obtain ⟨p, vs, rfl, rs, h1, h2⟩ := seqOf_ok S r e
        refine ⟨p, vs, rfl, ?_, fun l hl => ?_⟩
        · cases ht : isTupD x with
          | true => exact .inr (h1 ht)
          | false => exact .inl (h2 ht)
        · obtain ⟨S4, E4⟩ := S.push (o := .lst vs) (c := .lst ds) hl ⟨l, _, rfl, upd_same, rs.mono S (Ext.push hl)⟩
          exact (q _ _ S4 E4) _ (.loc _ l (by rw [← S.len]; simp))
theorem cs_tuple : CallS X.K W (fun xs H Q => ∃ p ys, xs = [.ref p] ∧ ((SqL X.K H p ys ∧ ∀ l, H l = none → Q (.ref l) (upd H l (.tup ys))) ∨ (SqT X.K H p ys ∧ Q (.ref p) H))) gTuple := fun H ι ih xs us Q S r q => by
  cases r with
  | nil => exact q.elim
  | @cons x u xs us r rr =>
    cases rr with
    | cons _ _ => exact q.elim
    | nil =>
      unfold gTuple at q
      dsimp only at q
      cases e : seqOf x ih with
      | none => rw [e] at q; exact q.elim
      | some ds =>
        rw [e] at q
        obtain ⟨p, vs, rfl, rs, h1, h2⟩ := seqOf_ok S r e
        refine ⟨p, vs, rfl, ?_⟩
        cases ht : isTupD x with
        | true => exact .inr ⟨h1 ht, Out.here S q _ (.tup ds p vs (h1 ht) rs)⟩
        | false =>
          refine .inl ⟨h2 ht, fun l hl => ?_⟩
          obtain ⟨S4, E4⟩ := S.aside (o := .tup vs) hl
          exact (q _ _ S4 E4) _ (.tup _ l _ (.of upd_same) (rs.mono S E4))
theorem cs_all : CallS X.K W (rAll X.K) gAll := fun H ι ih xs us Q S r q => by
  cases r with
  | nil => exact q.elim
  | @cons x u xs us r rr =>
    cases rr with
    | cons _ _ => exact q.elim
    | nil =>
      unfold gAll at q
      dsimp only at q
      cases ht : isTupD x with
      | true => rw [ht, if_pos rfl] at q; exact q.elim
      | false =>
        rw [ht, if_neg Bool.false_ne_true] at q
        cases e : seqOf x ih with
        | none => rw [e] at q; exact q.elim
        | some ds =>
          rw [e] at q
          dsimp only at q
          cases eb : allB ds with
          | none => rw [eb] at q; exact q.elim
          | some bs =>
            rw [eb] at q
            obtain ⟨p, vs, rfl, rs, h1, h2⟩ := seqOf_ok S r e
            have ev := allB_ok rs eb
            subst ev
            exact ⟨p, bs, rfl, h2 ht, Out.here S q _ (.bl _)⟩
theorem cs_int : CallS X.K W (fun xs H Q => (∃ i, xs = [.int i] ∧ Q (.int i) H) ∨ ∃ k, xs = [.bl k] ∧ Q (.int (if k then 1 else 0)) H) gInt := fun H ι ih xs us Q S r q => by
  cases r with
  | nil => exact q.elim
  | cons r rr =>
    cases rr with
    | cons _ _ => cases r <;> exact q.elim
    | nil => cases r with
      | int i => exact .inl ⟨i, rfl, Out.here S q _ (.int _)⟩
      | bl k => exact .inr ⟨k, rfl, Out.here S q _ (.int _)⟩
      | _ => exact q.elim
theorem cs_bool : CallS X.K W (fun xs H Q => (∃ i, xs = [.int i] ∧ Q (.bl (i != 0)) H) ∨ ∃ k, xs = [.bl k] ∧ Q (.bl k) H) gBool := fun H ι ih xs us Q S r q => by
  cases r with
  | nil => exact q.elim
  | cons r rr =>
    cases rr with
    | cons _ _ => cases r <;> exact q.elim
    | nil => cases r with
      | int i => exact .inl ⟨i, rfl, Out.here S q _ (.bl _)⟩
      | bl k => exact .inr ⟨k, rfl, Out.here S q _ (.bl _)⟩
      | _ => exact q.elim
theorem cs_abs : CallS X.K W (fun xs H Q => ∃ i, xs = [.int i] ∧ Q (.int (if i < 0 then -i else i)) H) gAbs := fun H ι ih xs us Q S r q => by
  cases r with
  | nil => exact q.elim
  | cons r rr =>
    cases rr with
    | cons _ _ => cases r <;> exact q.elim
    | nil => cases r with
      | int i => exact ⟨i, rfl, Out.here S q _ (.int _)⟩
      | _ => exact q.elim
end

/-! ### more operators -/
abbrev gDivW := gI (fun _ j => decide (0 < j) && decide (j.natAbs < 2 ^ 64)) fun i j => .int (i / j)
section
variable {X : Cx} {W : Wx}
theorem os_divW : OpS X W (binaryOp .FloorDiv) gDivW := os_I op_fdivW (fun i j h => by
  simp only [Bool.and_eq_true, decide_eq_true_eq] at h
  exact wide_div h.1 h.2 (by decide) (by decide)) fun i j _ _ _ => .int _
end
/-- xs + ys of two lists -/
def gCat : D → D → IH → Res D := fun x y ih => match x, y with
  | .loc n, .loc m => match ih[n]?, ih[m]? with
    | some (.lst xs), some (.lst ys) => if xs.length + ys.length ≤ 100000 then .ok (.loc ih.length) (ih ++ [.lst (xs ++ ys)]) else .bad
    | _, _ => .bad
  | _, _ => .bad
theorem os_cat {X : Cx} {W : Wx} : OpS X W (binaryOp .Add) gCat := .of op_cat fun H ι ih x y ux uy Q S r1 r2 q => by
  unfold gCat at q
  cases r1 with
  | loc n p hp =>
    cases r2 with
    | loc m b hb =>
      dsimp only at q
      cases e1 : ih[n]? with
      | none => rw [e1] at q; exact q.elim
      | some c =>
        rw [e1] at q
        cases e2 : ih[m]? with
        | none => rw [e2] at q; cases c <;> exact q.elim
        | some c2 =>
          rw [e2] at q
          cases c with
          | lst xs =>
            cases c2 with
            | lst ys =>
              dsimp only at q
              split at q
              · rename_i hl
                obtain ⟨vs, hH, rs⟩ := S.list e1 hp
                obtain ⟨ws, hB, ss⟩ := S.list e2 hb
                refine ⟨p, b, vs, ws, rfl, rfl, hH, hB, by rw [← rs.length, ← ss.length]; exact line5 hl, fun l hl => ?_⟩
                obtain ⟨S4, E4⟩ := S.push (o := .lst (vs ++ ws)) (c := .lst (xs ++ ys)) hl ⟨l, _, rfl, upd_same, (rs.append ss).mono S (Ext.push hl)⟩
                exact (q _ _ S4 E4) _ (.loc _ l (by rw [← S.len]; simp))
              · exact q.elim
            | _ => exact q.elim
          | _ => exact q.elim
    | _ => exact q.elim
  | _ => cases r2 <;> exact q.elim
/-- either of two ways -/
def gOr (g g' : D → D → IH → Res D) : D → D → IH → Res D := fun x y ih => match g x y ih with
  | .bad => g' x y ih
  | r => r
theorem OpS.or {X : Cx} {W : Wx} {f : Value → Value → Sem Value} {g g' : D → D → IH → Res D} (h : OpS X W f g) (h' : OpS X W f g') : OpS X W f (gOr g g') := fun pins s σ H ι ih x y ux uy vx vy Q I S r1 r2 v1 v2 q => by
  unfold gOr at q
  cases e : g x y ih with
  | bad => rw [e] at q; exact h' pins s σ H ι ih x y ux uy vx vy Q I S r1 r2 v1 v2 q
  | ok a b => rw [e] at q; exact h pins s σ H ι ih x y ux uy vx vy Q I S r1 r2 v1 v2 (by rw [e]; exact q)
  | exn a b c => rw [e] at q; exact h pins s σ H ι ih x y ux uy vx vy Q I S r1 r2 v1 v2 (by rw [e]; exact q)
/-- +: two ints, two lists -/
abbrev gAdd := gOr gAddI gCat
theorem os_add {X : Cx} {W : Wx} : OpS X W (binaryOp .Add) gAdd := os_addI.or os_cat
end IM
end

section
set_option Elab.async false
set_option linter.all false
set_option maxRecDepth 100000
/-! Zip, enumerate, unpacking, stores, data. -/
namespace IM
open PySem PySem.Spec PyProof.Rows L2 RZ

/-! ### zip, enumerate -/
section
variable {K : PySem.W.Frag} {ι : Io} {H : Hp} {ih : IH}
theorem src_zipT {xs ys : List D} {a b : Addr} {us vs : List V} (S0 : Sim K ι ih H) (hx : SqT K H a us) (hy : SqT K H b vs) (rx : RDs K ι H xs us) (ry : RDs K ι H ys vs) : SrcOk K (.zip (.items xs) (.items ys)) (ItzT K a b) ι H := fun ι1 ih1 H1 i S E => by
  have hx1 := SqT.mono S0 E hx
  have hy1 := SqT.mono S0 E hy
  have rx1 := rx.mono S0 E
  have ry1 := ry.mono S0 E
  constructor
  · intro g
    have g : (match some xs[i]?, some ys[i]? with
      | some (some x), some (some y) => some (some (D.tup [x, y]))
      | some none, some _ => some none
      | some (some _), some none => some none
      | _, _ => none) = some none := g
    refine ⟨us, vs, hx1, hy1, ?_⟩
    rw [← rx1.length, ← ry1.length]
    cases e1 : xs[i]? with
    | none => exact .inl (List.getElem?_eq_none_iff.mp e1)
    | some x =>
      cases e2 : ys[i]? with
      | none => exact .inr (List.getElem?_eq_none_iff.mp e2)
      | some y => rw [e1, e2] at g; cases g
  · intro d g
    have g : (match some xs[i]?, some ys[i]? with
      | some (some x), some (some y) => some (some (D.tup [x, y]))
      | some none, some _ => some none
      | some (some _), some none => some none
      | _, _ => none) = some (some d) := g
    cases e1 : xs[i]? with
    | none => rw [e1] at g; cases g
    | some x =>
      cases e2 : ys[i]? with
      | none => rw [e1, e2] at g; cases g
      | some y =>
        rw [e1, e2] at g
        cases g
        obtain ⟨u, hu, ru⟩ := rx1.get e1
        obtain ⟨v, hv, rv⟩ := ry1.get e2
        refine ⟨⟨us, vs, u, v, hx1, hy1, hu, hv⟩, fun z H' yl => ?_⟩
        obtain ⟨T, u', v', rfl, hT, rfl, q1, q2⟩ := yl
        have h1 := q1 us hx1
        have h2 := q2 vs hy1
        rw [hu] at h1
        rw [hv] at h2
        cases h1
        cases h2
        obtain ⟨S2, E2⟩ := S.aside (o := .tup [u, v]) hT
        exact ⟨E2, S2, .tup _ T _ (.of upd_same) (.cons (ru.mono S E2) (.cons (rv.mono S E2) .nil))⟩
theorem src_zipL {n m : Nat} {a b : Addr} (hx : ι[n]? = some (some a)) (hy : ι[m]? = some (some b)) : SrcOk K (.zip (.cell n) (.cell m)) (Itz K a b) ι H := fun ι1 ih1 H1 i S E => by
  have gc : ∀ {n : Nat} {o : Option D}, (Src.cell n).get ih1 i = some o → ∃ ds, ih1[n]? = some (.lst ds) ∧ ds[i]? = o := fun {n o} g => by
    unfold Src.get at g
    cases e : ih1[n]? with
    | none => rw [e] at g; cases g
    | some c =>
      rw [e] at g
      cases c with
      | lst ds => exact ⟨ds, rfl, Option.some.inj g⟩
      | _ => cases g
  have ps : ∀ {o : Option D}, (Src.zip (.cell n) (.cell m)).get ih1 i = some o → ∃ o1 o2, (Src.cell n).get ih1 i = some o1 ∧ (Src.cell m).get ih1 i = some o2 ∧ o = (match o1, o2 with
      | some x, some y => some (D.tup [x, y])
      | _, _ => none) := fun {o} g => by
    unfold Src.get at g
    cases e1 : (Src.cell n).get ih1 i with
    | none => rw [e1] at g; cases g
    | some o1 =>
      cases e2 : (Src.cell m).get ih1 i with
      | none => rw [e1, e2] at g; cases o1 <;> cases g
      | some o2 =>
        rw [e1, e2] at g
        refine ⟨o1, o2, rfl, rfl, ?_⟩
        cases o1 <;> cases o2 <;> exact (Option.some.inj g).symm
  constructor
  · intro g
    obtain ⟨o1, o2, g1, g2, eo⟩ := ps g
    obtain ⟨xs, ex, e1⟩ := gc g1
    obtain ⟨ys, ey, e2⟩ := gc g2
    obtain ⟨us, hU, rx⟩ := S.list ex (E.pre _ _ hx)
    obtain ⟨vs, hV, ry⟩ := S.list ey (E.pre _ _ hy)
    refine ⟨us, vs, .of hU, .of hV, ?_⟩
    rw [← rx.length, ← ry.length]
    cases o1 with
    | none => exact .inl (List.getElem?_eq_none_iff.mp e1)
    | some x => cases o2 with
      | none => exact .inr (List.getElem?_eq_none_iff.mp e2)
      | some y => cases eo
  · intro d g
    obtain ⟨o1, o2, g1, g2, eo⟩ := ps g
    obtain ⟨xs, ex, e1⟩ := gc g1
    obtain ⟨ys, ey, e2⟩ := gc g2
    obtain ⟨us, hU, rx⟩ := S.list ex (E.pre _ _ hx)
    obtain ⟨vs, hV, ry⟩ := S.list ey (E.pre _ _ hy)
    cases o1 with
    | none => cases eo
    | some x => cases o2 with
      | none => cases eo
      | some y =>
        cases eo
        obtain ⟨u, hu, ru⟩ := rx.get e1
        obtain ⟨v, hv, rv⟩ := ry.get e2
        refine ⟨⟨us, vs, u, v, .of hU, .of hV, hu, hv⟩, fun z H' yl => ?_⟩
        obtain ⟨T, u', v', rfl, hT, rfl, q1, q2⟩ := yl
        have h1 := q1 us (.of hU)
        have h2 := q2 vs (.of hV)
        rw [hu] at h1
        rw [hv] at h2
        cases h1
        cases h2
        obtain ⟨S2, E2⟩ := S.aside (o := .tup [u, v]) hT
        exact ⟨E2, S2, .tup _ T _ (.of upd_same) (.cons (ru.mono S E2) (.cons (rv.mono S E2) .nil))⟩
theorem src_enum {n : Nat} {a : Addr} (hx : ι[n]? = some (some a)) : SrcOk K (.enum 0 (.cell n)) (Ite K a) ι H := fun ι1 ih1 H1 i S E => by
  have gc : ∀ {o : Option D}, (Src.enum 0 (.cell n)).get ih1 i = some o → ∃ ds, ih1[n]? = some (.lst ds) ∧ o = (ds[i]?).map fun x => D.tup [.int (i : Nat), x] := fun {o} g => by
    unfold Src.get at g
    unfold Src.get at g
    cases e : ih1[n]? with
    | none => rw [e] at g; cases g
    | some c =>
      rw [e] at g
      cases c with
      | lst ds =>
        refine ⟨ds, rfl, ?_⟩
        dsimp only at g
        cases e2 : ds[i]? with
        | none => rw [e2] at g; exact (Option.some.inj g).symm
        | some x =>
          rw [e2] at g
          have := (Option.some.inj g).symm
          rw [this]
          simp
      | _ => cases g
  constructor
  · intro g
    obtain ⟨xs, ex, eo⟩ := gc g
    obtain ⟨us, hU, rx⟩ := S.list ex (E.pre _ _ hx)
    refine ⟨us, .of hU, ?_⟩
    rw [← rx.length]
    cases e : xs[i]? with
    | none => exact List.getElem?_eq_none_iff.mp e
    | some x => rw [e] at eo; cases eo
  · intro d g
    obtain ⟨xs, ex, eo⟩ := gc g
    obtain ⟨us, hU, rx⟩ := S.list ex (E.pre _ _ hx)
    cases e : xs[i]? with
    | none => rw [e] at eo; cases eo
    | some x =>
      rw [e] at eo
      cases eo
      obtain ⟨u, hu, ru⟩ := rx.get e
      refine ⟨⟨us, u, .of hU, hu⟩, fun z H' yl => ?_⟩
      obtain ⟨T, u', rfl, hT, rfl, q1⟩ := yl
      have h1 := q1 us (.of hU)
      rw [hu] at h1
      cases h1
      obtain ⟨S2, E2⟩ := S.aside (o := .tup [.int (i : Nat), u]) hT
      exact ⟨E2, S2, .tup _ T _ (.of upd_same) (.cons (.int _) (.cons (ru.mono S E2) .nil))⟩
end
def dZip (r : DA) : DI := fun cl ρ ih => (r cl ρ ih).bind fun xs ih => match xs with
  | [.tup xs, .tup ys] => .ok (.zip (.items xs) (.items ys)) ih
  | [.loc n, .loc m] => match ih[n]?, ih[m]? with
    | some (.lst _), some (.lst _) => .ok (.zip (.cell n) (.cell m)) ih
    | _, _ => .bad
  | _ => .bad
def dEnum (r : DA) : DI := fun cl ρ ih => (r cl ρ ih).bind fun xs ih => match xs with
  | [.loc n] => match ih[n]? with
    | some (.lst _) => .ok (.enum 0 (.cell n)) ih
    | _ => .bad
  | _ => .bad
section
variable {X : Cx} {W : Wx} {cl : CallT} {p pos tpos : Pos} {e e2 : Expr} {elts : List Expr} {kk : Nat} {r : DA}
theorem piOf {X : Cx} {tg e : Expr} {t t' : TI} (h : PI X tg e t) (c : ∀ σ H R, t' σ H R → t σ H R) : PI X tg e t' := ⟨fun pins s σ H R I q => h.run pins s σ H R I (c σ H R q)⟩
theorem si_zip (ha : SA X W cl [e, e2] r) (hm : X.mg "zip" = none) (hg : Gl X "zip" := by rfl) (hs : starEach [e, e2] X.env = (false, eval e X.env) :: starEach [e2] X.env := by rfl) (hpl : (backTo pos (starEach [e2] X.env)).any (·.1) = false := by rfl) :
    SI X W cl (.Tuple elts kk tpos) (.Call (.Name "zip" p) [e, e2] [] pos) (dZip r) := piOf (pi_zipA hg hm ha hs hpl) fun σ H R ⟨ι, ρ, ih, S, Rv, q⟩ => by
  refine (tA.seq S Rv q).weaken fun us H1 ⟨ι1, ih1, xs, S1, E1, rs, R1, q1⟩ => ?_
  cases rs with
  | nil => exact q1.elim
  | cons r1 rs =>
    cases rs with
    | nil => cases r1 <;> exact q1.elim
    | cons r2 rs =>
      cases rs with
      | cons _ _ => cases r1 <;> cases r2 <;> exact q1.elim
      | nil =>
        cases r1 with
        | tup xs a vs hx rx =>
          cases r2 with
          | tup ys b ws hy ry => exact ⟨a, b, vs, ws, rfl, .inr ⟨hx, hy, Out.here S1 q1 _ (src_zipT S1 hx hy rx ry)⟩⟩
          | _ => exact q1.elim
        | loc n a hx =>
          cases r2 with
          | loc m b hy =>
            dsimp only at q1
            cases en : ih1[n]? with
            | none => rw [en] at q1; exact q1.elim
            | some c =>
              cases em : ih1[m]? with
              | none => rw [en, em] at q1; cases c <;> exact q1.elim
              | some c2 =>
                rw [en, em] at q1
                cases c with
                | lst xs =>
                  cases c2 with
                  | lst ys =>
                    obtain ⟨us, hU, _⟩ := S1.list en hx
                    obtain ⟨vs, hV, _⟩ := S1.list em hy
                    exact ⟨a, b, us, vs, rfl, .inl ⟨.of hU, .of hV, Out.here S1 q1 _ (src_zipL hx hy)⟩⟩
                  | _ => exact q1.elim
                | _ => exact q1.elim
          | _ => exact q1.elim
        | _ => cases r2 <;> exact q1.elim
theorem si_enum (ha : SA X W cl [e] r) (hm : X.mg "enumerate" = none) (hg : Gl X "enumerate" := by rfl) (hs : starEach [e] X.env = [(false, eval e X.env)] := by rfl) :
    SI X W cl (.Tuple elts kk tpos) (.Call (.Name "enumerate" p) [e] [] pos) (dEnum r) := piOf (pi_enum hg hm ha hs) fun σ H R ⟨ι, ρ, ih, S, Rv, q⟩ => by
  refine (tA.seq S Rv q).weaken fun us H1 ⟨ι1, ih1, xs, S1, E1, rs, R1, q1⟩ => ?_
  cases rs with
  | nil => exact q1.elim
  | cons r1 rs =>
    cases rs with
    | cons _ _ => cases r1 <;> exact q1.elim
    | nil =>
      cases r1 with
      | loc n a hx =>
        dsimp only at q1
        cases en : ih1[n]? with
        | none => rw [en] at q1; exact q1.elim
        | some c =>
          rw [en] at q1
          cases c with
          | lst xs =>
            obtain ⟨us, hU, _⟩ := S1.list en hx
            exact ⟨a, us, rfl, .of hU, Out.here S1 q1 _ (src_enum hx)⟩
          | _ => exact q1.elim
      | _ => exact q1.elim
end

/-! ### xs.append(y), xs[i] = v -/
def dMeth (g : D → List D → IH → Res D) (o : DE) (r : DA) : DE := fun cl ρ ih => (o cl ρ ih).bind fun x ih => (r cl ρ ih).bind fun xs ih => g x xs ih
def gAppend : D → List D → IH → Res D := fun x xs ih => match x, xs with
  | .loc n, [y] => match ih[n]? with
    | some (.lst ds) => if ds.length < 100000 then .ok .non (ih.set n (.lst (ds ++ [y]))) else .bad
    | _ => .bad
  | _, _ => .bad
def isLst : D → IH → Bool := fun x ih => match x with
  | .loc n => match ih[n]? with
    | some (.lst _) => true
    | _ => false
  | _ => false
def dListM (g : D → List D → IH → Res D) (o : DE) (r : DA) : DE := fun cl ρ ih => (o cl ρ ih).bind fun x ih => if isLst x ih = true then (r cl ρ ih).bind fun xs ih => g x xs ih else .bad
theorem isLst_ok {K : PySem.W.Frag} {ι : Io} {H : Hp} {ih : IH} {x : D} {u : V} (S : Sim K ι ih H) (r : RD K ι H x u) (h : isLst x ih = true) : ∃ n a ds vs, x = .loc n ∧ u = .ref a ∧ ι[n]? = some (some a) ∧ ih[n]? = some (.lst ds) ∧ H a = some (.lst vs) ∧ RDs K ι H ds vs := by
  unfold isLst at h
  cases r with
  | loc n a ha =>
    dsimp only at h
    cases e : ih[n]? with
    | none => rw [e] at h; cases h
    | some c =>
      rw [e] at h
      cases c with
      | lst ds =>
        obtain ⟨vs, hH, rs⟩ := S.list e ha
        exact ⟨n, a, ds, vs, rfl, rfl, ha, e, hH, rs⟩
      | _ => cases h
  | _ => cases h
section
variable {X : Cx} {W : Wx} {cl : CallT} {apos cpos pos : Pos} {o e : Expr} {es : List Expr} {d : DE} {r : DA}
theorem se_append (ho : SE X W cl o d) (ha : SA X W cl (e :: es) r) (hbase : attributeBase o "append" X.env (eval o X.env) = eval o X.env := by rfl)
    (hfew : ((backTo cpos (starEach (e :: es) X.env)).all (fun x => !x.1) && (backToKw cpos (keywordEach [] X.env)).all (fun x => x.1.isSome)
      && decide ((e :: es).length + ([] : List Keyword).length + (if ([] : List Keyword).isEmpty then 0 else 1) < 30)) = true := by rfl)
    (hline : (apos.endLine == cpos.line) = true := by rfl) (hs : starEach (e :: es) X.env = (false, eval e X.env) :: starEach es X.env := by rfl) (hplain : (backTo cpos (starEach es X.env)).any (·.1) = false := by rfl) :
    SE X W cl (.Call (.Attribute o "append" apos) (e :: es) [] cpos) (dListM gAppend d r) :=
  peOf (pe_bm (name := "append") PySem.F.plainAttrs_list PySem.F.slot_list_append PySem.F.type_list_append mt_append ho ha hbase hfew hline hs hplain) fun σ H Q ⟨ι, ρ, ih, S, R, q⟩ => by
  refine (tE.seq S R q).weaken fun ux H1 ⟨ι1, ih1, x, S1, E1, rx, R1, q1⟩ => ?_
  split at q1
  · rename_i hL
    obtain ⟨n, a, ds, vs, rfl, rfl, ha, hc, hH, rs⟩ := isLst_ok S1 rx hL
    refine ⟨.inl ⟨rfl, vs, .inl (.inl hH)⟩, ?_⟩
    refine (tA.seq S1 R1 q1).weaken fun us H2 ⟨ι2, ih2, xs, S2, E2, rs2, R2, q2⟩ => ?_
    unfold gAppend at q2
    have ha2 := E2.pre _ _ ha
    cases rs2 with
    | nil => exact q2.elim
    | cons ry rr =>
      cases rr with
      | cons _ _ => exact q2.elim
      | nil =>
        dsimp only at q2
        cases ec : ih2[n]? with
        | none => rw [ec] at q2; exact q2.elim
        | some c =>
          rw [ec] at q2
          cases c with
          | lst es =>
            dsimp only at q2
            split at q2
            · rename_i hl
              obtain ⟨ws, hW, rw'⟩ := S2.list ec ha2
              refine ⟨a, ws, _, rfl, rfl, hW, by rw [← rw'.length, sizeLine_eq]; omega, ?_⟩
              obtain ⟨S3, E3⟩ := S2.put (o := .lst (ws ++ [_])) (c := .lst (es ++ [_])) ha2 ⟨a, _, rfl, upd_same, ((rw'.append (.cons ry .nil)).aside hW (fun _ z => by cases z) (fun _ _ z => by cases z))⟩
              exact (q2 _ _ S3 E3) _ .non
            · exact q2.elim
          | _ => exact q2.elim
  · exact q1.elim
end
end IM
end

section
set_option Elab.async false
set_option linter.all false
set_option maxRecDepth 100000
/-! Data: ==, !=, repr; isinstance; unpacking; stores. -/
namespace IM
open PySem PySem.Spec PyProof.Rows L2

/-! ### plain data -/
def mapO (f : D → Option PyData) : List D → Option (List PyData)
  | [] => some []
  | d :: ds => match f d, mapO f ds with
    | some x, some xs => some (x :: xs)
    | _, _ => none
def dataOf : Nat → IH → D → Option PyData
  | 0, _, _ => none
  | n + 1, ih, d => match d with
    | .non => some .none
    | .bl b => some (.bool b)
    | .int i => some (.int i)
    | .str x => some (.str x)
    | .tup ds => (mapO (dataOf n ih) ds).map .tuple
    | .lit ds => (mapO (dataOf n ih) ds).map .list
    | .loc m => match ih[m]? with
      | some (.lst ds) => (mapO (dataOf n ih) ds).map .list
      | some (.dic []) => some (.dict [])
      | _ => none
    | _ => none
/-- the written part holds sys.modules -/
def SmF (K : PySem.W.Frag) : Prop := ∃ o, K.lookup sysModules = some o ∧ o.cls = .type "dict"
section
variable {X : Cx} {pins : List (Addr × Obj)} {σ : L2.St} {H : Hp} {s : Shared} {ι : Io} {ih : IH}
theorem list_ns {a : Addr} {o : Obj} (I : Inv X pins σ H s) (sm : SmF X.K) (ho : s.heap.get? a = some o) (hc : o.cls = .type "list") : sysModules ≠ a := fun e => by
  subst e
  obtain ⟨o', h1, h2⟩ := sm
  have := I.kIn _ _ h1
  rw [ho] at this
  cases this
  rw [hc] at h2
  exact absurd h2 (by decide)
def RdOk (s : Shared) (pd : PyData) (u : Value) : Prop := ∃ as, Reads s.heap u pd as ∧ sysModules ∉ as
theorem readsAll (h : ∀ (d : D) (v : V) (u : Value) (pd : PyData), f d = some pd → RD X.K ι H d v → RelV v u → RdOk s pd u) : ∀ (ds : List D) (vs : List V) (us : List Value) (pds : List PyData), mapO f ds = some pds → RDs X.K ι H ds vs → Vals vs us → ∃ as, ReadsAll s.heap us pds as ∧ sysModules ∉ as
  | [], _, _, _, e, .nil, .nil => by cases e; exact ⟨_, .nil, by simp⟩
  | d :: ds, _, _, _, e, .cons r rs, .cons q qs => by
    unfold mapO at e
    cases e1 : f d with
    | none => rw [e1] at e; cases e
    | some x =>
      cases e2 : mapO f ds with
      | none => rw [e1, e2] at e; cases e
      | some xs =>
        rw [e1, e2] at e
        cases e
        obtain ⟨as, h1, n1⟩ := h d _ _ x e1 r q
        obtain ⟨bs, h2, n2⟩ := readsAll h ds _ _ xs e2 rs qs
        exact ⟨_, .cons h1 h2, by simp [n1, n2]⟩
theorem dataOf_reads (I : Inv X pins σ H s) (S : Sim X.K ι ih H) (sm : SmF X.K) : ∀ (n : Nat) (d : D) (v : V) (u : Value) (pd : PyData), dataOf n ih d = some pd → RD X.K ι H d v → RelV v u → RdOk s pd u
  | 0, _, _, _, _, e, _, _ => by cases e
  | n + 1, d, v, u, pd, e, r, q => by
    have step := dataOf_reads I S sm n
    unfold dataOf at e
    have mkL : ∀ {a : Addr} {ds : List D} {vs : List V}, SqL X.K H a vs → RDs X.K ι H ds vs → (mapO (dataOf n ih) ds).map PyData.list = some pd → RdOk s pd (.ref a) := fun {a ds vs} hs rs e => by
      cases e2 : mapO (dataOf n ih) ds with
      | none => rw [e2] at e; cases e
      | some xs =>
        rw [e2] at e
        cases e
        obtain ⟨its, rv, ⟨o, k, ho, hc, _, hd⟩, _⟩ := I.list hs
        obtain ⟨as, h1, n1⟩ := readsAll step ds vs its xs e2 rs rv
        exact ⟨_, Reads.list ho hc hd h1, by
          simp only [List.mem_cons, not_or]
          exact ⟨list_ns I sm ho hc, n1⟩⟩
    cases r with
    | non => cases e; cases q; exact ⟨_, .none, by simp⟩
    | bl b => cases e; cases q; exact ⟨_, .bool b, by simp⟩
    | int i => cases e; obtain ⟨t, rfl⟩ := q; exact ⟨_, .int i t, by simp⟩
    | str x => cases e; obtain ⟨t, rfl⟩ := q; exact ⟨_, .str x t, by simp⟩
    | ty _ => cases e
    | glo _ => cases e
    | tup ds a vs hs rs =>
      cases q
      have e : (mapO (dataOf n ih) ds).map PyData.tuple = some pd := e
      cases e2 : mapO (dataOf n ih) ds with
      | none => rw [e2] at e; cases e
      | some xs =>
        rw [e2] at e
        cases e
        obtain ⟨its, rv, ⟨o, ho, hc, k, hd⟩, _⟩ := I.tuple hs
        obtain ⟨as, h1, n1⟩ := readsAll step ds vs its xs e2 rs rv
        exact ⟨_, Reads.tuple ho hc hd h1, n1⟩
    | lit ds a vs hs rs => cases q; exact mkL hs.seq rs e
    | loc m a ha =>
      cases q
      dsimp only at e
      obtain ⟨c, hc, ok⟩ := S.at_ ha
      rw [hc] at e
      cases c with
      | lst ds =>
        obtain ⟨b, vs, eb, hH, rs⟩ := ok
        cases eb
        exact mkL (.of hH) rs e
      | dic kvs =>
        cases kvs with
        | cons _ _ => cases e
        | nil =>
          cases e
          obtain ⟨b, ks, eb, hH, rs⟩ := ok
          cases eb
          cases rs
          obtain ⟨_, ya, vs, rv, o, es, ep, h1, h2, hda, hka, hpa, _⟩ := (show ObjOk X.prog X.w H s.heap a (.dK []) from I.hok a _ hH)
          cases rv
          have hl : es.toList = [] := List.eq_nil_of_length_eq_zero hpa.length
          exact ⟨_, Reads.dict (kvs := []) h1 h2.1 hda (by rw [hl]; exact .nil) (by rw [hl]; exact .nil), by
            simp only [List.append_nil, List.mem_singleton]
            exact fun e => by rw [← e] at ya; exact absurd ya (by decide)⟩
      | _ => cases e
end

/-! ### == and != of data -/
def gEqD : D → D → IH → Res D := fun x y ih => match dataOf 40 ih x, dataOf 40 ih y with
  | some a, some b => if (SeqAt.shaped a && SeqAt.shaped b) = true then .ok (.bl (PyData.eqv a b)) ih else .bad
  | _, _ => .bad
def gNeD : D → D → IH → Res D := fun x y ih => match dataOf 40 ih x, dataOf 40 ih y with
  | some a, some b => if (SeqAt.shaped a && SeqAt.shaped b) = true then .ok (.bl (!PyData.eqv a b)) ih else .bad
  | _, _ => .bad
/-- two empty dicts -/
def gEq0 : D → D → IH → Res D := fun x y ih => match x, y with
  | .loc n, .loc m => match ih[n]?, ih[m]? with
    | some (.dic []), some (.dic []) => .ok (.bl true) ih
    | _, _ => .bad
  | _, _ => .bad
section
variable {X : Cx} {W : Wx}
theorem os_eqD (hu : X.A.units + 64 < cLine) (sm : SmF X.K) : OpS X W (compareOp .Eq) gEqD := fun pins s σ H ι ih x y ux uy vx vy Q I S r1 r2 v1 v2 q => by
  unfold gEqD at q
  cases e1 : dataOf 40 ih x with
  | none => rw [e1] at q; exact q.elim
  | some a =>
    cases e2 : dataOf 40 ih y with
    | none => rw [e1, e2] at q; exact q.elim
    | some b =>
      rw [e1, e2] at q
      dsimp only at q
      split at q
      · rename_i hs
        rw [Bool.and_eq_true] at hs
        obtain ⟨as, h1, _⟩ := dataOf_reads I S sm 40 x ux vx a e1 r1 v1
        obtain ⟨bs, h2, _⟩ := dataOf_reads I S sm 40 y uy vy b e2 r2 v2
        exact SeqAt.compareEq_shaped h1 h2 hs.1 hs.2 hu ⟨.bl _, H, I, rfl, Out.here S q _ (.bl _)⟩
      · exact q.elim
theorem os_neD (hu : X.A.units + 64 < cLine) (sm : SmF X.K) : OpS X W (compareOp .NotEq) gNeD := fun pins s σ H ι ih x y ux uy vx vy Q I S r1 r2 v1 v2 q => by
  unfold gNeD at q
  cases e1 : dataOf 40 ih x with
  | none => rw [e1] at q; exact q.elim
  | some a =>
    cases e2 : dataOf 40 ih y with
    | none => rw [e1, e2] at q; exact q.elim
    | some b =>
      rw [e1, e2] at q
      dsimp only at q
      split at q
      · rename_i hs
        rw [Bool.and_eq_true] at hs
        obtain ⟨as, h1, _⟩ := dataOf_reads I S sm 40 x ux vx a e1 r1 v1
        obtain ⟨bs, h2, _⟩ := dataOf_reads I S sm 40 y uy vy b e2 r2 v2
        exact SeqAt.compareNe_shaped h1 h2 hs.1 hs.2 hu ⟨.bl _, H, I, rfl, Out.here S q _ (.bl _)⟩
      · exact q.elim
theorem os_eq0 (hu : X.A.units < cLine) : OpS X W (compareOp .Eq) gEq0 := .of (op_eq_dict hu) fun H ι ih x y ux uy Q S r1 r2 q => by
  unfold gEq0 at q
  cases r1 with
  | loc n a ha =>
    cases r2 with
    | loc m b hb =>
      dsimp only at q
      cases e1 : ih[n]? with
      | none => rw [e1] at q; exact q.elim
      | some c =>
        cases e2 : ih[m]? with
        | none => rw [e1, e2] at q; cases c with
          | dic kvs => cases kvs <;> exact q.elim
          | _ => exact q.elim
        | some c2 =>
          rw [e1, e2] at q
          obtain ⟨_, h1, ok1⟩ := S.at_ ha
          obtain ⟨_, h2, ok2⟩ := S.at_ hb
          rw [e1] at h1
          rw [e2] at h2
          cases h1
          cases h2
          cases c with
          | dic kvs =>
            cases kvs with
            | cons _ _ => exact q.elim
            | nil =>
              cases c2 with
              | dic ls =>
                cases ls with
                | cons _ _ => exact q.elim
                | nil =>
                  obtain ⟨_, ks, eb, hH, rs⟩ := ok1
                  cases eb
                  cases rs
                  obtain ⟨_, ks, eb, hH2, rs⟩ := ok2
                  cases eb
                  cases rs
                  exact ⟨a, b, [], rfl, rfl, hH, hH2, by simp, (fun p hp => by cases hp), Out.here S q _ (.bl _)⟩
              | _ => exact q.elim
          | _ => exact q.elim
    | _ => exact q.elim
  | _ => cases r2 <;> exact q.elim
abbrev gEq := gOr gEq0 gEqD
theorem os_eq (hu : X.A.units + 64 < cLine) (sm : SmF X.K) : OpS X W (compareOp .Eq) gEq := (os_eq0 (by omega)).or (os_eqD hu sm)
end

/-! ### a builtin by what the interpreter does -/
def rG (K : PySem.W.Frag) (W : Wx) (g : List D → IH → Res D) : List V → Hp → VK → Prop := fun us H Q => ∃ ι ih xs, Sim K ι ih H ∧ RDs K ι H xs us ∧ Out K ι H W (EndV K Q) (g xs ih)
theorem cs_G {K : PySem.W.Frag} {W : Wx} {g : List D → IH → Res D} : CallS K W (rG K W g) g := fun H ι ih xs us Q S r q => ⟨ι, ih, xs, S, r, q⟩
def gRepr : List D → IH → Res D := fun xs ih => match xs with
  | [x] => match dataOf 40 ih x with
    | some d => if (d.showable && (decide (d.shown.length ≤ 100000) && decide (d.depth ≤ 50))) = true then .ok (.str d.shown) ih else .bad
    | none => .bad
  | _ => .bad
section
variable {X : Cx} {W : Wx}
theorem cr_repr (hu : X.A.units + 64 < cLine) (hg : X.A.guards = some []) (sm : SmF X.K) : CallR X (.builtin "repr") (rG X.K W gRepr) := by
  intro pins s σ H xs us Q I r h
  obtain ⟨ι, ih, ds, S, rs, q⟩ := h
  unfold gRepr at q
  cases rs with
  | nil => exact q.elim
  | @cons x v ds vs r1 rr =>
    cases rr with
    | cons _ _ => exact q.elim
    | nil =>
      obtain ⟨u, rfl, ru⟩ := r.one
      dsimp only at q
      cases e : dataOf 40 ih x with
      | none => rw [e] at q; exact q.elim
      | some d =>
        rw [e] at q
        dsimp only at q
        split at q
        · rename_i hs
          simp only [Bool.and_eq_true, decide_eq_true_eq] at hs
          obtain ⟨h1, h2, h3⟩ := hs
          have fin : ∀ (h' : Heap) (t : Tok) (tk : Nat), (∀ b o, s.heap.get? b = some o → h'.get? b = some o) → EP X pins σ Q (.str d.shown t) { s with heap := h', toks := tk } := fun h' t tk k => ⟨.str d.shown, H, I.kept (t' := tk) k, ⟨t, rfl⟩, Out.here S q _ (.str _)⟩
          obtain ⟨as, hr, hn⟩ := dataOf_reads I S sm 40 x v u d e r1 ru
          have hz : d.shown.length ≤ sizeLine := line5 h2
          cases hr with
          | none => exact PySem.P.repr_of_none (fin _ _ _ fun _ _ z => z)
          | bool b => exact PySem.P.repr_of_bool (fin _ _ _ fun _ _ z => z)
          | int i t => exact PySem.P.repr_of_int (of_decide_eq_true h1) (fin _ _ _ fun _ _ z => z)
          | str y t => exact PySem.P.repr_of_str (fin _ _ _ fun _ _ z => z) hz
          | list g1 g2 g3 g4 => exact repr_of_reads' (.list g1 g2 g3 g4) h1 (fun _ => hn) hg (by omega) (fun _ _ z => z) fin hz
          | tuple g1 g2 g3 g4 => exact repr_of_reads' (.tuple g1 g2 g3 g4) h1 (fun _ => hn) hg (by omega) (fun _ _ z => z) fin hz
          | dict g1 g2 g3 g4 g5 => exact repr_of_reads' (.dict g1 g2 g3 g4 g5) h1 (fun _ => hn) hg (by omega) (fun _ _ z => z) fin hz
        · exact q.elim
end

/-! ### o[i] = v -/
def gSet : D → D → D → IH → Option IH := fun o i v ih => match o, i with
  | .loc n, .int k => match ih[n]? with
    | some (.lst ds) => match ixN ds.length k with
      | some j => some (ih.set n (.lst (ds.set j v)))
      | none => none
    | _ => none
  | _, _ => none
def dSetI (e o i : DE) : DS := fun cl ρ ih => (e cl ρ ih).bind fun v ih => (o cl ρ ih).bind fun x ih => (i cl ρ ih).bind fun y ih => match gSet x y v ih with
  | some ih' => .ok (.nx ρ) ih'
  | none => .bad
section
variable {X : Cx} {W : Wx} {cl : CallT} {pos p2 : Pos} {o i e : Expr} {d dO dI : DE}
theorem ss_setI (he : SE X W cl e d) (ho : SE X W cl o dO) (hi : SE X W cl i dI)
    (ha : ∀ v, assign (.Subscript o i p2) X.env v = (do
      let ov ← holding [v] (eval o X.env)
      let iv ← holding [v, ov] (eval i X.env)
      standAt p2
      holding [v, ov, iv] (setItem ov iv v)
      release [v, ov, iv] []) := by intro _; rfl) (hs : swapsWithSole [.Subscript o i p2] e pos.line X.env = pure false := by rfl) (hw : swappedStores [.Subscript o i p2] e X.env = pure none := by rfl) (h1 : (assignEach [.Subscript o i p2] X.env).map (·.2) = [assign (.Subscript o i p2) X.env] := by rfl) :
    SS X W cl (.Assign [.Subscript o i p2] e pos) (dSetI d dO dI) := psOf (ps_asg he (pg_sub ho hi set_list ha) hs hw h1) fun D σ H ⟨ι, ρ, ih, S, R, q⟩ => by
  refine (tE.seq S R q).weaken fun uv H1 ⟨ι1, ih1, v, S1, E1, rv, R1, q1⟩ => ?_
  refine (tE.seq S1 R1 q1).weaken fun uo H2 ⟨ι2, ih2, x, S2, E2, ro, R2, q2⟩ => ?_
  refine (tE.seq S2 R2 q2).weaken fun ui H3 ⟨ι3, ih3, y, S3, E3, ri, R3, q3⟩ => ?_
  have ro := ro.mono S2 E3
  have rv := (rv.mono S1 E2).mono S2 E3
  unfold gSet at q3
  cases ri with
  | int k =>
    cases ro with
    | loc n a hn =>
      dsimp only at q3
      cases ec : ih3[n]? with
      | none => rw [ec] at q3; exact q3.elim
      | some c =>
        rw [ec] at q3
        cases c with
        | lst ds =>
          dsimp only at q3
          cases ej : ixN ds.length k with
          | none => rw [ej] at q3; exact q3.elim
          | some j =>
            rw [ej] at q3
            obtain ⟨vs, hH, rs⟩ := S3.list ec hn
            refine ⟨a, vs, k, j, rfl, rfl, hH, by rw [← rs.length]; exact ej, ?_⟩
            obtain ⟨S4, E4⟩ := S3.put (o := .lst (vs.set j uv)) (c := .lst (ds.set j v)) hn ⟨a, _, rfl, upd_same, ((rs.set j rv).aside hH (fun _ z => by cases z) (fun _ _ z => by cases z))⟩
            exact q3 _ _ S4 E4 σ (R3.mono S3 E4)
        | _ => exact q3.elim
    | _ => exact q3.elim
  | _ => cases ro <;> exact q3.elim
end
end IM
end

section
set_option Elab.async false
set_option linter.all false
set_option maxRecDepth 100000
/-! isinstance, attributes, unpacking. -/
namespace IM
open PySem PySem.Spec PyProof.Rows L2

/-! ### isinstance -/
/-- the class of a value: a built-in type, or an own one (an instance; an exception) -/
inductive Kn where
  | bi (t : String) | ins (c : Str) | exc (c : Str)
deriving DecidableEq
def knOf : D → IH → Option Kn := fun x ih => match x with
  | .non => some (.bi "NoneType")
  | .bl _ => some (.bi "bool")
  | .int _ => some (.bi "int")
  | .str _ => some (.bi "str")
  | .tup _ => some (.bi "tuple")
  | .lit _ => some (.bi "list")
  | .loc n => match ih[n]? with
    | some (.lst _) => some (.bi "list")
    | some (.dic _) => some (.bi "dict")
    | some (.ins c _) => some (.ins c)
    | some (.exc c _) => some (.exc c)
    | _ => none
  | _ => none
def knV (K : PySem.W.Frag) : Kn → Value
  | .bi t => .type t
  | .ins c => .ref (He.ga K c)
  | .exc c => .ref (He.ga K c)
def cvV (K : PySem.W.Frag) : D → Value
  | .ty n => .type n
  | .glo c => .ref (He.ga K c)
  | _ => .none
def isCls : D → Bool
  | .ty _ => true
  | .glo _ => true
  | _ => false
/-- what the interpreter knows of classes -/
structure IsF (K : PySem.W.Frag) (tb : Kn → D → Option Bool) : Prop where
  ok : ∀ k c b, tb k c = some b → isCls c = true ∧ PySem.W.kitOne K (knV K k) (cvV K c) = some b
  ins : ∀ n c b, tb (.ins n) c = some b → Cls K (He.ga K n) ∧ PySem.W.findIn K (.ref (He.ga K n)) "__class__" = some (some (.builtin "object.__class__")) ∧ PySem.W.specialIn K (.builtin "object.__class__") "__get__" = some (some (.builtin "getset_descriptor.__get__")) ∧
    PySem.W.takesIn K (.builtin "object.__class__") = some true ∧ PySem.W.mroIn K (He.ga K n) (.type "object") = some true
  exc : ∀ n c b, tb (.exc n) c = some b → ExcC K (He.ga K n)
def isAny (tb : Kn → D → Option Bool) (k : Kn) : List D → Option Bool
  | [] => some false
  | c :: cs => match tb k c with
    | some true => some true
    | some false => isAny tb k cs
    | none => none
/-- exact: all of them are told -/
def isiR (tb : Kn → D → Option Bool) (k : Kn) : D → Option Bool
  | .tup [] => none
  | .tup (c :: cs) => if (c :: cs).all isCls = true then isAny tb k (c :: cs) else none
  | c => tb k c
def gIsi (tb : Kn → D → Option Bool) : List D → IH → Res D := fun xs ih => match xs with
  | [x, c] => match knOf x ih with
    | some k => match isiR tb k c with
      | some b => .ok (.bl b) ih
      | none => .bad
    | none => .bad
  | _ => .bad
theorem rel_cls {K : PySem.W.Frag} {ι : Io} {H : Hp} {c : D} {v : V} {u : Value} (h : isCls c = true) (r : RD K ι H c v) (q : RelV v u) : u = cvV K c := by
  cases r with
  | ty n => exact q
  | glo x => exact q
  | _ => cases h
theorem rels_cls {K : PySem.W.Frag} {ι : Io} {H : Hp} : ∀ {cs : List D} {vs : List V} {us : List Value}, cs.all isCls = true → RDs K ι H cs vs → Vals vs us → us = cs.map (cvV K)
  | [], _, _, _, .nil, .nil => rfl
  | c :: cs, _, _, h, .cons r rs, .cons q qs => by
    rw [List.all_cons, Bool.and_eq_true] at h
    rw [rel_cls h.1 r q, rels_cls h.2 rs qs]
    rfl
theorem kitAny_of {K : PySem.W.Frag} {tb : Kn → D → Option Bool} (F : IsF K tb) {k : Kn} : ∀ {cs : List D} {b : Bool}, isAny tb k cs = some b → PySem.W.kitAny K (knV K k) (cs.map (cvV K)) = some b
  | [], _, h => by cases h; rfl
  | c :: cs, b, h => by
    unfold isAny at h
    cases e : tb k c with
    | none => rw [e] at h; cases h
    | some b' =>
      rw [e] at h
      have h1 := (F.ok _ _ _ e).2
      refine kitAny_cons h1 (fun z => ?_) (fun z => ?_)
      · subst z
        exact kitAny_of F h
      · subst z
        exact (Option.some.inj h).symm
theorem obj_get {P : Program} {w : World} {H : Hp} {h : Heap} {a : Addr} {o : HO} (x : ObjOk P w H h a o) (c : isCellO o) : ∃ u, h.get? a = some u := by
  cases o with
  | lst xs => obtain ⟨_, _, _, _, e⟩ := x; exact ⟨_, e⟩
  | dK kvs => obtain ⟨_, _, _, _, o, _, _, e, _⟩ := x; exact ⟨_, e⟩
  | ins C dx fs => obtain ⟨_, _, _, e, _⟩ := x; exact ⟨_, e⟩
  | xd fs => obtain ⟨_, ⟨_, _, _, e, _⟩, _⟩ := x; exact ⟨_, e⟩
  | ext φ => obtain ⟨_, ⟨_, e⟩, _⟩ := x; exact ⟨_, e⟩
  | _ => exact c.elim
section
variable {X : Cx} {W : Wx} {pins : List (Addr × Obj)} {σ : L2.St} {H : Hp} {s : Shared} {ι : Io} {ih : IH}
/-- the library's fact of a value whose class is known -/
theorem kitK (I : Inv X pins σ H s) (S : Sim X.K ι ih H) {tb : Kn → D → Option Bool} (F : IsF X.K tb) {x : D} {v : V} {u : Value} {k : Kn} (hk : knOf x ih = some k) (ht : ∃ c b, tb k c = some b) (r : RD X.K ι H x v) (q : RelV v u) :
    ∃ P : Heap → Prop, PySem.W.KitX X.K u (knV X.K k) P ∧ P s.heap ∧ u ≠ .builtin "__main__.__loader__#opaque" := by
  unfold knOf at hk
  cases r with
  | non => cases hk; exact kit_of I q (.base .non)
  | bl b => cases hk; exact kit_of I q (.base (.bl b))
  | int i => cases hk; exact kit_of I q (.base (.int i))
  | str x => cases hk; exact kit_of I q (.base (.str x))
  | ty _ => cases hk
  | glo _ => cases hk
  | tup ds a vs hs rs =>
    cases hk
    rcases hs with (hs | ⟨o, hs⟩) | ⟨o, its, n, h1, h2, _⟩
    · exact kit_of I q (.base (.tup hs))
    · exact kit_of I q (.fTuple hs)
    · exact kit_of I q (.kTuple h1 h2)
  | lit ds a vs hs rs =>
    cases hk
    rcases hs with ⟨o, hs⟩ | ⟨o, its, n, h1, h2, _⟩
    · exact kit_of I q (.base (.frz hs))
    · exact kit_of I q (.kList h1 h2)
  | loc n a ha =>
    cases (show u = Value.ref a from q)
    dsimp only at hk
    obtain ⟨c, hc, ok⟩ := S.at_ ha
    rw [hc] at hk
    cases c with
    | gone => cases hk
    | lst ds =>
      cases hk
      obtain ⟨_, _, e, hH, _⟩ := ok
      cases e
      exact kit_of I q (.base (.lst hH))
    | dic ds =>
      cases hk
      obtain ⟨_, _, e, hH, _⟩ := ok
      cases e
      exact kit_of I q (.base (.dK hH))
    | ins cn fs =>
      cases hk
      obtain ⟨_, dx, gs, e, hH, _⟩ := ok
      cases e
      obtain ⟨c', b', e'⟩ := ht
      obtain ⟨h1, h2, h3, h4, h5⟩ := F.ins _ _ _ e'
      exact kit_of I q (.base (.ins hH h1 h2 h3 h4 h5))
    | exc cn dd =>
      cases hk
      obtain ⟨_, dx, e, hH, hd⟩ := ok
      cases e
      obtain ⟨c', b', e'⟩ := ht
      have C := F.exc _ _ _ e'
      obtain ⟨cd, hcd, _⟩ := PySem.W.any_some C.hd
      obtain ⟨t1, ho⟩ := exo_at I.hok hH
      cases dd with
      | none =>
        subst hd
        exact ⟨_, PySem.W.kitx_exc (by rw [hcd]; rfl) C.hg C.hk C.hs C.ha C.hn C.ht C.hm, (⟨ho, rfl, rfl, trivial⟩ : PySem.W.InstAt s.heap a _ _ none), fun z => nomatch z⟩
      | some m =>
        obtain ⟨b, rfl, hb⟩ := hd
        obtain ⟨c2, hc2, ok2⟩ := S.at_ hb
        obtain ⟨o2, hH2, hc3⟩ := ok2.obj
        obtain ⟨ob, hob⟩ := obj_get (I.hok b _ hH2) hc3
        exact ⟨_, PySem.W.kitx_exc (by rw [hcd]; rfl) C.hg C.hk C.hs C.ha C.hn C.ht C.hm, (⟨ho, rfl, rfl, hob⟩ : PySem.W.InstAt s.heap a _ _ (some ob)), fun z => nomatch z⟩
    | xd _ => cases hk
    | xdr _ => cases hk
end

section
variable {X : Cx} {W : Wx}
theorem cr_isi {tb : Kn → D → Option Bool} (F : IsF X.K tb) : CallR X (.builtin "isinstance") (rG X.K W (gIsi tb)) := by
  intro pins s σ H xs us Q I r h
  obtain ⟨ι, ih, ds, S, rs, q⟩ := h
  unfold gIsi at q
  cases rs with
  | nil => exact q.elim
  | @cons x v ds vs r1 rr =>
    cases rr with
    | nil => exact q.elim
    | @cons c cv ds vs r2 rr =>
      cases rr with
      | cons _ _ => exact q.elim
      | nil =>
        obtain ⟨u, uc, rfl, ru, rc⟩ := r.two
        have fin : ∀ (b : Bool), Out X.K ι H W (EndV X.K Q) (.ok (.bl b) ih) → ∀ tk, EP X pins σ Q (.bool b) { s with toks := tk } := fun b q tk => ⟨.bl b, H, I.tok tk, rfl, Out.here S q _ (.bl b)⟩
        dsimp only at q
        cases ek : knOf x ih with
        | none => rw [ek] at q; exact q.elim
        | some k =>
          rw [ek] at q
          dsimp only at q
          cases eb : isiR tb k c with
          | none => rw [eb] at q; exact q.elim
          | some b =>
            rw [eb] at q
            have one : ∀ c, RD X.K ι H c cv → tb k c = some b → wpAny (model X.prog X.w) X.A (call (.builtin "isinstance") [u, uc]) (EP X pins σ Q) X.xe s := fun c r2 eb => by
              obtain ⟨P, Z, p, hx⟩ := kitK I S F ek ⟨_, _, eb⟩ r1 ru
              obtain ⟨hc, h1⟩ := F.ok _ _ _ eb
              have e2 := rel_cls hc r2 rc
              subst e2
              exact PySem.W.kia_one Z I.kIn p h1 hx (fin b q)
            cases r2 with
            | tup cs a ws hs rs2 =>
              cases cs with
              | nil => cases eb
              | cons c1 cs =>
                have eb : (if (c1 :: cs).all isCls = true then isAny tb k (c1 :: cs) else none) = some b := eb
                split at eb
                · rename_i hall
                  obtain ⟨bb, eb1⟩ : ∃ bb, tb k c1 = some bb := by
                    unfold isAny at eb
                    cases e : tb k c1 with
                    | none => rw [e] at eb; cases eb
                    | some bb => exact ⟨bb, rfl⟩
                  obtain ⟨P, Z, p, hx⟩ := kitK I S F ek ⟨_, _, eb1⟩ r1 ru
                  cases (show uc = Value.ref a from rc)
                  obtain ⟨its, rv, ⟨o, ho, hc, n, hd⟩, _⟩ := I.tuple hs
                  have e3 := rels_cls hall rs2 rv
                  subst e3
                  have h1 := kitAny_of F eb
                  obtain ⟨oc, od, dt, sl⟩ := o
                  simp only at hc hd
                  subst hc hd
                  exact PySem.W.kia_tup Z I.kIn p ho h1 hx (fin b q)
                · cases eb
            | ty n => exact one _ (.ty n) eb
            | glo n => exact one _ (.glo n) eb
            | non => exact one _ .non eb
            | bl b => exact one _ (.bl b) eb
            | int b => exact one _ (.int b) eb
            | str b => exact one _ (.str b) eb
            | loc n a h => exact one _ (.loc n a h) eb
            | lit ds a vs h rs => exact one _ (.lit ds a vs h rs) eb
end
end IM
end

section
set_option Elab.async false
set_option linter.all false
set_option maxRecDepth 100000
/-! Attributes, unpacking of lists, pairs. -/
namespace IM
open PySem PySem.Spec PyProof.Rows L2

/-! ### attributes -/
section
variable {K : PySem.W.Frag} {ι : Io} {H : Hp}
theorem RFs.look {f : Str} : ∀ {fs : List (Str × D)} {gs : List (Str × V)} {d : D}, RFs K ι H fs gs → fs.lookup f = some d → ∃ v, gs.lookup f = some v ∧ RD K ι H d v
  | _, _, _, .nil, e => by cases e
  | _, _, d, .cons (f := g) (d := d') (v := v) (ds := ds) (vs := vs) r rs, e => by
    rw [List.lookup_cons] at e
    rw [List.lookup_cons]
    cases hb : f == g with
    | true => rw [hb] at e; cases e; exact ⟨v, rfl, r⟩
    | false => rw [hb] at e; exact RFs.look rs e
theorem RFs.len {κ : Type} : ∀ {fs : List (κ × D)} {gs : List (κ × V)}, RFs K ι H fs gs → fs.length = gs.length
  | _, _, .nil => rfl
  | _, _, .cons _ rs => by simp [RFs.len rs]
def putD (f : Str) (v : D) : List (Str × D) → List (Str × D)
  | [] => [(f, v)]
  | (g, x) :: r => if g = f then (g, v) :: r else (g, x) :: putD f v r
theorem RFs.put {f : Str} {d : D} {v : V} (r : RD K ι H d v) : ∀ {fs : List (Str × D)} {gs : List (Str × V)}, RFs K ι H fs gs → RFs K ι H (putD f d fs) (putF f v gs)
  | _, _, .nil => .cons r .nil
  | _, _, .cons (f := g) r' rs => by
    unfold putD putF
    by_cases h : g = f
    · rw [if_pos h, if_pos h]; exact .cons r rs
    · rw [if_neg h, if_neg h]; exact .cons r' (RFs.put r rs)
end
/-- what the interpreter knows of attributes: false: of an instance's class, true: of an exception's -/
structure AtF (K : PySem.W.Frag) (T : Bool → Str → Str → Bool) : Prop where
  ins : ∀ c f, T false c f = true → Cls K (He.ga K c) ∧ NoAttr K (He.ga K c) f
  exc : ∀ c f, T true c f = true → XfC K (He.ga K c) ∧ PySem.W.findIn K (.ref (He.ga K c)) f = some none
def gFld (T : Bool → Str → Str → Bool) (f : Str) : D → IH → Res D := fun x ih => match x with
  | .loc n => match ih[n]? with
    | some (.ins c fs) => if T false c f = true then match fs.lookup f with
      | some d => .ok d ih
      | none => .bad
      else .bad
    | some (.exc c (some m)) => match ih[m]? with
      | some (.xd fs) => if T true c f = true then match fs.lookup f with
        | some d => .ok d ih
        | none => .bad
        else .bad
      | _ => .bad
    | _ => .bad
  | _ => .bad
def dFld (T : Bool → Str → Str → Bool) (f : Str) (e : DE) : DE := fun cl ρ ih => (e cl ρ ih).bind fun x ih => gFld T f x ih
def gPut (T : Bool → Str → Str → Bool) (f : Str) : D → D → IH → Option IH := fun x v ih => match x with
  | .loc n => match ih[n]? with
    | some (.ins c fs) => if (T false c f && decide (fs.length < 1000)) = true then some (ih.set n (.ins c (putD f v fs))) else none
    | _ => none
  | _ => none
def dPut (T : Bool → Str → Str → Bool) (f : Str) (e o : DE) : DS := fun cl ρ ih => (e cl ρ ih).bind fun v ih => (o cl ρ ih).bind fun x ih => match gPut T f x v ih with
  | some ih' => .ok (.nx ρ) ih'
  | none => .bad
section
variable {X : Cx} {W : Wx} {cl : CallT} {pos p2 : Pos} {o e : Expr} {f : Str} {d dO : DE} {T : Bool → Str → Str → Bool}
theorem se_fld (F : AtF X.K T) (he : SE X W cl e d) (hb : attributeBase e f X.env (eval e X.env) = eval e X.env := by rfl) : SE X W cl (.Attribute e f pos) (dFld T f d) := by
  refine ⟨fun pins s σ H Q I h => ?_⟩
  obtain ⟨ι, ρ, ih, S, R, q⟩ := h
  refine attr_of hb (thn (he.run pins s σ H _ I (tE.seq S R q)) fun u s1 ⟨ux, H1, I1, ru, ι1, ih1, x, S1, E1, rx, R1, q1⟩ => ?_)
  unfold gFld at q1
  cases rx with
  | loc n a ha =>
    cases (show u = Value.ref a from ru)
    dsimp only at q1
    obtain ⟨c, hc, ok⟩ := S1.at_ ha
    rw [hc] at q1
    cases c with
    | ins c fs =>
      dsimp only at q1
      split at q1
      · rename_i hT
        cases el : fs.lookup f with
        | none => rw [el] at q1; exact q1.elim
        | some d =>
          rw [el] at q1
          obtain ⟨_, dx, gs, e, hH, rs⟩ := ok
          cases e
          obtain ⟨v, hv, rv⟩ := rs.look el
          obtain ⟨k1, k2⟩ := F.ins _ _ hT
          exact getattr_ok I1 hH k1 k2 hv fun u' s2 I2 ru2 => ⟨v, H1, I2, ru2, Out.here S1 q1 v rv⟩
      · exact q1.elim
    | exc c dd =>
      cases dd with
      | none => exact q1.elim
      | some m =>
        dsimp only at q1
        obtain ⟨_, dx, e, hH, b, rfl, hb⟩ := ok
        cases e
        obtain ⟨c2, hc2, ok2⟩ := S1.at_ hb
        rw [hc2] at q1
        cases c2 with
        | xd fs =>
          dsimp only at q1
          split at q1
          · rename_i hT
            cases el : fs.lookup f with
            | none => rw [el] at q1; exact q1.elim
            | some d =>
              rw [el] at q1
              obtain ⟨_, gs, e, hH2, rs⟩ := ok2
              cases e
              obtain ⟨v, hv, rv⟩ := rs.look el
              obtain ⟨k1, k2⟩ := F.exc _ _ hT
              obtain ⟨t1, ho⟩ := exo_at I1.hok hH
              obtain ⟨mA, hns, hr⟩ := exd_at I1.hok hH2
              obtain ⟨od, hod, hl⟩ := lookIn_ns hns
              obtain ⟨u2, hu2, ru2⟩ := RelO.some_of (v := v) (o := mA f) (by rw [← hv]; exact hr f)
              have J : PySem.W.InstAt s1.heap a { cls := .ref (He.ga X.K c), dict := some b, data := .fields #[.ref t1, .none, .none, .none, .bool false, .none] } (He.ga X.K c) (some od) := ⟨ho, rfl, rfl, hod⟩
              exact HandSPX.exc_get I1.kIn J k1.ga k1.gg k1.exC (PySem.W.findObj_own k1.hdC k2 rfl (by rw [hl, hu2])) (handed_of ru2) ⟨v, H1, I1.tok _, ru2, Out.here S1 q1 v rv⟩
          · exact q1.elim
        | _ => exact q1.elim
    | _ => exact q1.elim
  | _ => exact q1.elim
theorem ss_put (F : AtF X.K T) (he : SE X W cl e d) (ho : SE X W cl o dO) (hs : swapsWith e (some (.Attribute o f p2)) pos.line X.env = pure false := by rfl) : SS X W cl (.Assign [.Attribute o f p2] e pos) (dPut T f d dO) :=
  psOf (ps_fld ho he hs) fun D σ H ⟨ι, ρ, ih, S, R, q⟩ => by
  refine (tE.seq S R q).weaken fun uv H1 ⟨ι1, ih1, v, S1, E1, rv, R1, q1⟩ => ?_
  refine (tE.seq S1 R1 q1).weaken fun ux H2 ⟨ι2, ih2, x, S2, E2, rx, R2, q2⟩ => ?_
  have rv := rv.mono S1 E2
  unfold gPut at q2
  cases rx with
  | loc n a ha =>
    dsimp only at q2
    obtain ⟨c, hc, ok⟩ := S2.at_ ha
    rw [hc] at q2
    cases c with
    | ins c fs =>
      dsimp only at q2
      by_cases hT : (T false c f && decide (fs.length < 1000)) = true
      · rw [if_pos hT] at q2
        rw [Bool.and_eq_true, decide_eq_true_eq] at hT
        obtain ⟨_, dx, gs, e, hH, rs⟩ := ok
        cases e
        obtain ⟨k1, k2⟩ := F.ins _ _ hT.1
        refine ⟨a, _, dx, gs, rfl, hH, k1, k2, by rw [← rs.len]; exact hT.2, ?_⟩
        obtain ⟨S3, E3⟩ := S2.put (o := .ins (He.ga X.K c) dx (putF f uv gs)) (c := .ins c (putD f v fs)) ha ⟨a, dx, _, rfl, upd_same, (RFs.put rv rs).aside hH (fun _ z => by cases z) (fun _ _ z => by cases z)⟩
        exact q2 _ _ S3 E3 σ (R2.mono S2 E3)
      · rw [if_neg hT] at q2; exact q2.elim
    | _ => exact q2.elim
  | _ => exact q2.elim
end

/-! ### (a, b, ..) = a list -/
section
variable {prog : Program} {w : World} {A : Around} {E : Value → Shared → Prop} {s : Shared}
theorem draw_list {it l : Addr} {items : Array Value} (hne : l ≠ it) : ∀ (n i : Nat) (s : Shared) (Q : List Value → Shared → Prop), s.heap.IsListIter it l i → s.heap.IsList l items → i + n ≤ items.size →
    (∀ h' : Heap, h'.IsListIter it l (i + n) → Heap.SameBut it s.heap h' → Q ((items.toList.drop i).take n) { s with heap := h' }) → wpAny (model prog w) A (draw (.ref it) n) Q E s
  | 0, i, s, Q, hit, _, _, hQ => by
    show wpAny _ _ (pure []) Q E s
    exact wpAny_pure (by simpa using hQ s.heap hit (Heap.SameBut.refl ..))
  | n + 1, i, s, Q, hit, hl, hle, hQ => by
    have hlt : i < items.size := by omega
    show wpAny _ _ (pyNext (.ref it) >>= _) Q E s
    refine wpAny_bind (wpAny_pyNext_list_item hit hl (x := items[i]) (by simp [hlt]) fun h₁ hit₁ hs₁ => ?_)
    have hl₁ : h₁.IsList l items := by
      obtain ⟨o, h1, h2⟩ := hl
      exact ⟨o, (hs₁.2 l hne).trans h1, h2⟩
    refine wpAny_bind (wpAny_holding (draw_list hne n (i + 1) _ _ hit₁ hl₁ (by omega) fun h₂ hit₂ hs₂ => wpAny_pure ?_))
    have hd : items.toList.drop i = items[i] :: items.toList.drop (i + 1) := by simp [List.drop_eq_getElem_cons, hlt]
    have := hQ h₂ (by rw [show i + (n + 1) = i + 1 + n by omega]; exact hit₂) (hs₁.trans hs₂)
    rw [hd, List.take_succ_cons] at this
    exact this
theorem unpackItems_list {t : Addr} {items : Array Value} {Q : List Value → Shared → Prop} (hh : A.handled = none) (ht : s.heap.IsList t items)
    (hQ : ∀ h', Heap.ExtBut s.heap.objs.size s.heap h' → Q items.toList { s with heap := h' }) : wpAny (model prog w) A (unpackItems (.ref t) items.size none) Q E s := by
  have hlt : t ≠ s.heap.objs.size := by obtain ⟨o, ho, _⟩ := ht; exact Nat.ne_of_lt (Heap.lt_size ho)
  have push : ∀ o, (s.heap.push o).IsList t items := fun o => by obtain ⟨o', h1, h2⟩ := ht; exact ⟨o', Heap.get?_push_of_some _ h1, h2⟩
  unfold unpackItems
  refine wpAny_bind ?_
  · unfold notIterableAtAll
    refine wpAny_bind (wpAny_specialOf ht.typeIs slot_list_iter.lookup ?_)
    refine wpAny_pure ?_
    simp only [Bool.false_eq_true, if_false]
    refine wpAny_bind (wpAny_holding (wpAny_pyIter_list ht ?_))
    refine wpAny_bind (wpAny_holding (draw_list hlt items.size 0 _ _ ⟨_, Heap.get?_push_size _ rfl, rfl, rfl⟩ (push _) (by omega) fun h₁ hit₁ hs₁ => ?_))
    have hall : List.take items.size (List.drop 0 items.toList) = items.toList := by
      rw [List.drop_zero]; exact List.take_of_length_le (by simp)
    rw [hall]
    rw [if_neg (by simp)]
    have ht₁ : h₁.IsList t items := by
      obtain ⟨o, h1, h2⟩ := ht
      exact ⟨o, (hs₁.2 t hlt).trans (Heap.get?_push_of_some _ h1), h2⟩
    refine wpAny_bind (wpAny_holding (wpAny_pyNext_list_end hh hit₁ ht₁ (by simp) fun h₂ he₂ => ?_))
    simp only [Option.isSome_none, Bool.false_eq_true, if_false]
    refine wpAny_pure (hQ h₂ fun b o hb e => he₂ b o hb (hs₁.extBut b o hb (Heap.get?_push_of_some _ e)))
end
def gLst (K : PySem.W.Frag) (n : Nat) (t : TGs) : TG := fun v σ H Q => ∃ a xs, v = .ref a ∧ SqL K H a xs ∧ xs.length = n ∧ t xs σ H Q
def dAsgL (is : List Nat) (e : DE) : DS := fun cl ρ ih => (e cl ρ ih).bind fun v ih => if isTupD v = true then .bad else match seqOf v ih with
  | some ds => match setAll is ds ρ with
    | some ρ' => .ok (.nx ρ') ih
    | none => .bad
  | none => .bad
def setTwo (i j : Nat) (xs : List D) (ρ : Sl) : Option Sl := match xs with
  | [x, y] => some ((ρ.set i (some x)).set j (some y))
  | _ => none
def dPar (i j : Nat) (r : DA) : DS := fun cl ρ ih => (r cl ρ ih).bind fun xs ih => match setTwo i j xs ρ with
  | some ρ' => .ok (.nx ρ') ih
  | none => .bad
section
variable {X : Cx} {W : Wx} {cl : CallT} {pos p2 : Pos} {e : Expr} {d : DE} {r : DA}
theorem pg_lst {es : List Expr} {k : Nat} {t : TGs} {n : Nat} (hc : X.calm = true) (h : PGs X es t)
    (hn : (assignEach es X.env).length = n := by rfl) (hst : (assignEach es X.env).findIdx? (·.1) = none := by rfl) : PG X (.Tuple es k pos) (gLst X.K n t) := by
  refine ⟨fun pins s σ H v u Q I r hw => ?_⟩
  obtain ⟨a, xs, e1, hq, hl, hw⟩ := hw
  subst e1
  cases r
  obtain ⟨its, rv, ht, hz⟩ := I.list hq
  rw [assign_Tuple]
  refine wpAny_bind (wpAny_standAt ?_)
  unfold unpack
  have hsz : (assignEach es X.env).length = its.toArray.size := by simp [hn, ← hl, rv.length]
  rw [hsz, hst]
  refine wpAny_bind (wpAny_holding (unpackItems_list (I.ok.hd hc) ht.isList fun h' hx => ?_))
  have I1 : Inv X pins σ H { s with heap := h' } := I.kept (t' := s.toks) fun b o e => hx b o (Nat.ne_of_lt (Heap.lt_size e)) e
  exact h.run pins _ σ H xs _ Q I1 (by simpa using rv) hw
theorem ss_asgL {es : List Expr} {k : Nat} {is : List Nat} (hc : X.calm = true) (he : SE X W cl e d) (h : SGs X es is) (hn : (assignEach es X.env).length = is.length := by rfl) (hst : (assignEach es X.env).findIdx? (·.1) = none := by rfl)
    (hs : swapsWithSole [.Tuple es k p2] e pos.line X.env = pure false := by rfl) (hw : swappedStores [.Tuple es k p2] e X.env = pure none := by rfl) (h1 : (assignEach [.Tuple es k p2] X.env).map (·.2) = [assign (.Tuple es k p2) X.env] := by rfl) :
    SS X W cl (.Assign [.Tuple es k p2] e pos) (dAsgL is d) := psOf (ps_asg he (pg_lst hc h hn hst) hs hw h1) fun D σ H ⟨ι, ρ, ih, S, R, q⟩ => by
  refine (tE.seq S R q).weaken fun ux H1 ⟨ι1, ih1, x, S1, E1, rx, R1, q1⟩ => ?_
  cases ht : isTupD x with
  | true => rw [ht, if_pos rfl] at q1; exact q1.elim
  | false =>
    rw [ht, if_neg Bool.false_ne_true] at q1
    cases es : seqOf x ih1 with
    | none => rw [es] at q1; exact q1.elim
    | some ds =>
      rw [es] at q1
      dsimp only at q1
      cases ea : setAll is ds ρ with
      | none => rw [ea] at q1; exact q1.elim
      | some ρ' =>
        rw [ea] at q1
        obtain ⟨p, vs, rfl, rs, _, h2⟩ := seqOf_ok S1 rx es
        obtain ⟨g1, g2⟩ := gAll_ok (Q := D.nx) rs R1 ea fun σ' R' _ => Out.here S1 q1 σ' R'
        exact ⟨p, vs, rfl, h2 ht, g1.symm, g2⟩
theorem ss_par (i j : Nat) {x y : Str} {a b : Expr} {px py pt : Pos} {kt k2 : Nat} {pt2 : Pos} (hc : X.calm = true) (hN : X.N.Nodup) (ha : SA X W cl [a, b] r) (hw : swappedStores [.Tuple [.Name x px, .Name y py] kt pt] (.Tuple [a, b] k2 pt2) X.env = pure (some [x, y]) := by rfl)
    (hi : X.N[i]? = some x := by rfl) (hj : X.N[j]? = some y := by rfl) (hij : i ≠ j := by decide) (hx : X.env.scope.names.lookup x = some .local := by rfl) (hy : X.env.scope.names.lookup y = some .local := by rfl)
    (hs : swapsWithSole [.Tuple [.Name x px, .Name y py] kt pt] (.Tuple [a, b] k2 pt2) pos.line X.env = pure false := by rfl) :
    SS X W cl (.Assign [.Tuple [.Name x px, .Name y py] kt pt] (.Tuple [a, b] k2 pt2) pos) (dPar i j r) := psOf (ps_par hc hN hi hj hij hx hy ha hw hs) fun D σ H ⟨ι, ρ, ih, S, R, q⟩ => by
  refine (tA.seq S R q).weaken fun us H1 ⟨ι1, ih1, xs, S1, E1, rs, R1, q1⟩ => ?_
  cases rs with
  | nil => exact q1.elim
  | cons r1 rs =>
    cases rs with
    | nil => exact q1.elim
    | cons r2 rs =>
      cases rs with
      | cons _ _ => exact q1.elim
      | nil => exact ⟨_, _, rfl, Out.here S1 q1 _ ((R1.set i r1).set j r2)⟩
end
end IM
end

section
set_option Elab.async false
set_option linter.all false
set_option maxRecDepth 100000
/-! Promises by position; making instances; own ==. -/
namespace IM
open PySem PySem.Spec PyProof.Rows L2

/-- a def's promise by position, called where no repr is under way -/
def FnRG (P : Program) (w : World) (K : PySem.W.Frag) (mg : Str → Option Value) (base : Heap) (k : Nat) (f : Addr) (sp : Sp) : Prop :=
  ∀ (A : Around) (outer : List Env) (s : Shared) (H : Hp) (us : List Value) (vs : List V) (Q : VK) (E : XK), A.guards = some [] → Room k A → Env0 P w K mg base A outer s H → Vals vs us → sp vs H Q E →
    codeAny (model P w) A (.call (.ref f) ⟨us, []⟩) (CR (L2.CX P w) outer P w H s Q E) s
theorem FnRG.mono {P : Program} {w : World} {K : PySem.W.Frag} {mg : Str → Option Value} {base : Heap} {j k : Nat} {f : Addr} {sp : Sp} (F : FnRG P w K mg base j f sp) (h : j ≤ k) : FnRG P w K mg base k f sp :=
  fun A outer s H us vs Q E hg hr => F A outer s H us vs Q E hg (hr.mono h)
def spR (K : PySem.W.Frag) (cl : CallT) (f : Nat) : Sp := fun vs H Q E => ∃ ι ih ds, Sim K ι ih H ∧ RDs K ι H ds vs ∧ Out K ι H (WE K E) (EndV K Q) (cl f ds ih)
/-- by position, of one whose parameters are all told -/
theorem fnR_of {P : Program} {w : World} {K : PySem.W.Frag} {mg : Str → Option Value} {base : Heap} {k i np : Nat} {f : Addr} {fd : FuncData} {ps : List Str} {cl : CallT} (F : FnG P w K mg base k f fd ps (spI K cl i np)) (hb : Binds K fd ps []) (hn : ps.length = np)
    (hl : ∀ args ih, args.length ≠ np → cl i args ih = .bad) : FnRG P w K mg base k f (spR K cl i) := fun A outer s H us vs Q E hg hr e0 r ⟨ι, ih, ds, S, rs, q⟩ => by
  by_cases hd : ds.length = np
  · have hv : vs.length = np := by rw [← rs.length]; exact hd
    have hu : (us ++ []).length = ps.length := by rw [List.append_nil, ← r.length, hv, hn]
    have kIn : K.In s.heap := e0.mod.kin.keeps fun b o e => (e0.bs b o e).1
    have b := hb s us kIn hu
    rw [List.append_nil] at b
    exact F.go A outer s H ⟨us, []⟩ us vs Q E hg hr e0 b r ⟨hv, ι, ih, ds, S, rs, q⟩
  · rw [hl ds ih hd] at q
    exact q.elim
/-- def f(a, .., *v) -/
theorem fnStar_of {P : Program} {w : World} {K : PySem.W.Frag} {mg : Str → Option Value} {base : Heap} {k i np : Nat} {f : Addr} {name qual : Str} {params : Arguments} {body : List Stmt} {scope : Scope} {dV kV doc pm cdv ct oc : Value} {an od : Option Addr}
    {osl : Array (Option Value)} {N ps : List Str} {pv : Str} {cl cl' : CallT} {d : DS} (lk : K.lookup f = some ⟨oc, od, .func (PySem.W.fnOf name qual params body scope dV kV doc pm an cdv ct), osl⟩) (hcd : PySem.W.codeIn K cdv qual = true) (S : FnScope N (ps ++ [pv]) scope) (hn : ps.length = np)
    (hb : ∀ us rest : List Value, us.length = ps.length → bindArgs (PySem.W.fnOf name qual params body scope dV kV doc pm an cdv ct) ⟨us ++ rest, []⟩ = (newTuple rest >>= fun t => pure (ps.zip us ++ [(pv, t)])))
    (hcl : ∀ args ih, cl' i args ih = if np ≤ args.length ∧ args.length ≤ 100000 then runBody d N.length cl (args.take np ++ [.tup (args.drop np)]) ih else .bad)
    (hbody : ∀ (A : Around) (outer : List Env) (s : Shared) (H : Hp) (E : XK), A.guards = some [] → Room k (A.deeper (envOfC qual scope s.heap.objs.size f cdv)) →
      Cal (cxOf (L2.CX P w) P w K mg base N qual scope f cdv A outer s H E) (WE K E) → PassesOwn (model P w) (A.deeper (envOfC qual scope s.heap.objs.size f cdv)) (envOfC qual scope s.heap.objs.size f cdv) (cxOf (L2.CX P w) P w K mg base N qual scope f cdv A outer s H E).xe →
      SSs (cxOf (L2.CX P w) P w K mg base N qual scope f cdv A outer s H E) (WE K E) cl body d) :
    FnRG P w K mg base (k + 1) f (spR K cl' i) := by
  intro A outer s H us vs Q E hg hr e0 r hsp
  obtain ⟨ι, ih, ds, S0, rs, q⟩ := hsp
  rw [hcl] at q
  by_cases hl : np ≤ ds.length ∧ ds.length ≤ 100000
  · rw [if_pos hl] at q
    have hvl := rs.length
    have hul := r.length
    have rw1 : RDs K ι H (ds.take np) (vs.take np) := rs.take np
    have rw2 : RDs K ι H (ds.drop np) (vs.drop np) := rs.drop np
    have r1 : Vals (vs.take np) (us.take np) := r.take np
    have r2 : Vals (vs.drop np) (us.drop np) := r.drop np
    have e1 : us = us.take np ++ us.drop np := (List.take_append_drop np us).symm
    have l1 : (us.take np).length = ps.length := by rw [List.length_take, hn]; omega
    have hn0 : H s.heap.objs.size = Option.none := e0.hok.fresh (Nat.le_refl _)
    have hl2 : (us.drop np).length ≤ sizeLine := by rw [List.length_drop, sizeLine_eq]; omega
    rw [e1]
    refine StX.run_bnd lk hcd S hr e0 (G := fun xs H2 => ∃ p, H p = Option.none ∧ xs = vs.take np ++ [V.ref p] ∧ H2 = upd H p (.tup (vs.drop np))) (fun A' Ex Q' h => ?_) fun s2 H2 xs ⟨p, hp, ex, eH⟩ hr' => ?_
    · rw [hb _ _ l1]
      refine wpAny_bind (wpAny_newTuple (wpAny_pure ?_) hl2)
      have new : ObjOk P w (upd H s.heap.objs.size (.tup (vs.drop np))) (s.heap.push ({ cls := .type "tuple", data := .seq (us.drop np).toArray } : Obj)) s.heap.objs.size (.tup (vs.drop np)) := ⟨by rw [r2.length]; exact hl2, _, r2, ⟨_, Heap.get?_push_size _ rfl, rfl, _, rfl⟩⟩
      have un := StX.un_laid (fs := frs outer) (s := s) (o := ({ cls := .type "tuple", data := .seq (us.drop np).toArray } : Obj)) (u := .tup (vs.drop np)) hn0
      have z := h _ _ (vs.take np ++ [V.ref s.heap.objs.size]) (us.take np ++ [Value.ref s.heap.objs.size]) (StX.env0_laid e0 new) un rfl (fun e s' => StX.cxUp outer s H _ _ E e s' un (fun b o q => Heap.get?_push_of_some _ q) rfl) (r1.append (.cons rfl .nil))
        (by rw [List.length_append, List.length_append, r1.length, l1] <;> rfl) ⟨_, hn0, rfl, rfl⟩
      rw [List.zip_append l1.symm] at z
      exact z
    · subst ex eH
      obtain ⟨S1, E1⟩ := S0.aside (o := .tup (vs.drop np)) hp
      have tk := takes_of (X := cxOf (L2.CX P w) P w K mg base N qual scope f cdv A outer s2 (upd H p (.tup (vs.drop np))) E) (E := E) rfl rfl rfl rfl
      refine ⟨_, hbody A outer s2 _ E hg hr' ⟨hg, passes_call tk fun cls dd σ H' h => ?_⟩ (passes_of rfl), ι, _, ih, S1, env_start ((rw1.mono S0 E1).append (.cons (.tup _ p _ (.of upd_same) (rw2.mono S0 E1)) .nil)), ?_⟩
      · obtain ⟨c, n, ih', ι', a, rfl, rfl, e, _, z⟩ := h
        exact z a e
      · refine (Out.rebase E1 (Out.bind q)).mono fun fl ih' ι' H' S' E' q' => ?_
        cases fl with
        | nx ρ' => exact fun σ' _ => Out.here (W := WE K E) S' q' _ .non
        | rt v => exact Out.here (W := WE K E) S' q'
        | bk ρ' => exact q'.elim
        | ct ρ' => exact q'.elim
  · rw [if_neg hl] at q
    exact q.elim

/-! ### making an instance -/
section
variable {X : Cx} {W : Wx} {cl : CallT}
theorem runRG {pins : List (Addr × Obj)} {σ : L2.St} {H : Hp} {s : Shared} {Q : VK} {us : List Value} {vs : List V} {sp : Sp} {E : XK} {k : Nat} {f : Addr} {A : Around} (F : FnRG X.prog X.w X.K X.mg X.base k f sp) (c : A.guards = some []) (fr : A.frames = X.A.frames) (hx : Passes (L2.CX X.prog X.w) X E) (hr : Room k A)
    (I : Inv X pins σ H s) (r : Vals vs us) (h : sp vs H Q E) : wpAny (model X.prog X.w) A (call (.ref f) us) (EP X pins σ Q) X.xe s := by
  have e0 : Env0 X.prog X.w X.K X.mg X.base A X.stack s H := by
    have e := I.env0
    exact ⟨by rw [fr]; exact e.frames, e.mod, e.bs, e.bsz, e.funs, e.frf, e.hok, e.bare⟩
  refine wpAny_call (codeAny_mono (F A X.stack s H us vs Q E c hr e0 r h) fun res s' q => ?_)
  cases res with
  | error e => exact hx pins σ H s e s' I q
  | ok fl => cases fl with
    | ret u => exact I.after q
    | next => exact False.elim q
    | brk => exact False.elim q
    | cont => exact False.elim q
theorem make_guards {A : Around} {C : Addr} {us : List Value} {kw : List (Str × Value)} (h : A.guards = some []) : (A.under (.builtin "type.__call__" ⟨.ref C :: us, kw⟩)).guards = some [] := by
  first | exact h | simp [Around.under, Code.weight, Code.isCreation, Code.isGuard, Code.isCaller, Code.frames, Code.isFrame, guardIds, h]
/-- C(..): a new cell, then its __init__ -/
def gMake (c : Str) (i : Nat) (cl : CallT) : List D → IH → Res D := fun xs ih => (cl i (.loc ih.length :: xs) (ih ++ [.ins c []])).bind fun v ih' => match v with
  | .non => .ok (.loc ih.length) ih'
  | _ => .bad
def dMake (c : Str) (i : Nat) (r : DA) : DE := fun cl ρ ih => (r cl ρ ih).bind fun xs ih => gMake c i cl xs ih
theorem EndV.keep {K : PySem.W.Frag} {Q : VK} : True := trivial
theorem runMake {pins : List (Addr × Obj)} {σ : L2.St} {H : Hp} {s : Shared} {Q : VK} {us : List Value} {vs : List V} {k i : Nat} {f : Addr} {c : Str} {ι : Io} {ih : IH} {xs : List D} (M : Mk X.K (He.ga X.K c) f) (F : FnRG X.prog X.w X.K X.mg X.base k f (spR X.K cl i)) (cc : Cal X W) (hr : Room (k + 1) X.A)
    (I : Inv X pins σ H s) (r : Vals vs us) (S : Sim X.K ι ih H) (rs : RDs X.K ι H xs vs) (q : Out X.K ι H W (EndV X.K Q) (gMake c i cl xs ih)) : wpAny (model X.prog X.w) X.A (call (.ref (He.ga X.K c)) us) (EP X pins σ Q) X.xe s := by
  have hx : H (s.heap.objs.size + 1) = none := I.hok.fresh (Nat.le_succ _)
  have hdx : H s.heap.objs.size = none := I.hok.fresh (Nat.le_refl _)
  have hne : s.heap.objs.size ≠ s.heap.objs.size + 1 := Nat.ne_of_lt (Nat.lt_succ_self _)
  obtain ⟨x, ex⟩ : ∃ x, x = s.heap.objs.size + 1 := ⟨_, rfl⟩
  obtain ⟨dx, ed⟩ : ∃ dx, dx = s.heap.objs.size := ⟨_, rfl⟩
  have I2 := Inv.made (C := He.ga X.K c) I
  rw [← ex, ← ed] at I2
  rw [← ex] at hx
  rw [← ed] at hdx
  have hne : dx ≠ x := by rw [ex, ed]; exact hne
  obtain ⟨S1, E1⟩ := S.aside (o := .own x) hdx
  have hx1 : upd H dx (.own x) x = none := by rw [upd_ne (Ne.symm hne)]; exact hx
  obtain ⟨S2, E2⟩ := S1.push (o := .ins (He.ga X.K c) dx []) (c := .ins c []) hx1 ⟨x, dx, [], rfl, upd_same, .nil⟩
  have E12 := E1.trans E2
  have r2 : Vals (V.ref x :: vs) (Value.ref x :: us) := .cons rfl r
  have hsp : spR X.K cl i (V.ref x :: vs) (upd (upd H dx (.own x)) x (.ins (He.ga X.K c) dx [])) (fun v H2 => v = .non ∧ Q (.ref x) H2) (EW X.K W) := by
    refine ⟨ι ++ [some x], ih ++ [.ins c []], .loc ih.length :: xs, S2, .cons (.loc _ x (by rw [← S.len]; simp)) (rs.mono S E12), ?_⟩
    unfold gMake at q
    refine Out.toWE ((Out.bind (Out.rebase E12 q)).mono fun v ih' ι' H' S' E' q' u ru => ?_)
    cases ru with
    | non => exact ⟨rfl, (Out.here S' q') _ (.loc _ x (E'.pre _ _ (by rw [← S.len]; simp)))⟩
    | _ => exact q'.elim
  refine wpAny_call (make_map (f := f) I.kIn M.makes M.init (beq_iff_eq.mp M.fn) ?_)
  rw [← ex, ← ed]
  refine codeAny_mono (F _ X.stack _ _ (Value.ref x :: us) _ _ (EW X.K W) (make_guards cc.g) (hr.make _ us []) (I2.env0.make _ us []) r2 hsp) fun res s' hq' => ?_
  cases res with
  | error e => exact cc.hx pins σ _ _ e s' I2 hq'
  | ok fl =>
    cases fl with
    | ret u =>
      obtain ⟨v, H', I3, rv, ev, q3⟩ := I2.after hq'
      subst ev
      exact ⟨rv, ⟨V.ref x, H', I3, rfl, q3⟩⟩
    | next => exact False.elim hq'
    | brk => exact False.elim hq'
    | cont => exact False.elim hq'
variable {x c : Str} {e : Expr} {es : List Expr} {r : DA} {p pos : Pos} {k i : Nat} {f : Addr}
theorem se_make (M : Mk X.K (He.ga X.K c) f) (F : FnRG X.prog X.w X.K X.mg X.base k f (spR X.K cl i)) (cc : Cal X W) (hr : Room (k + 1) X.A) (hm : X.mg x = some (.ref (He.ga X.K c))) (ha : SA X W cl (e :: es) r)
    (hg : Gl X x := by rfl) (hdb : (x == ("__debug__" : Str)) = false := by decide) (he : starEach (e :: es) X.env = (false, eval e X.env) :: starEach es X.env := by rfl) (hpl : (backTo pos (starEach es X.env)).any (·.1) = false := by rfl) :
    SE X W cl (.Call (.Name x p) (e :: es) [] pos) (dMake c i r) := by
  refine ⟨fun pins s σ H Q I h => ?_⟩
  obtain ⟨ι, ρ, ih, S, R, q⟩ := h
  refine wpAny_Call_Name_kw (ld_glob I hg hm ?_ hdb)
  refine PySem.W.callWith_K (h₀ := X.base) I.ok.mod.kin M.kp (thn (ha.run pos pins s σ H _ I (tA.seq S R q)) fun us s1 ⟨vs, H1, I1, rv, ι1, ih1, xs, S1, E1, rs, R1, q1⟩ => ⟨I1.kIn, ?_⟩) he hpl
  exact runMake M F cc hr I1 rv S1 rs q1
end
end IM
end

section
set_option Elab.async false
set_option linter.all false
set_option maxRecDepth 100000
/-! Own ==, !=, truth; a class's name. -/
namespace PySem.W
open Lean Elab Tactic Meta PySem PySem.Calls PyProof.Rows Builtin Builtin.ObjectAttr Builtin.Getset_descriptor
section
variable {prog : Program} {w : World} {A : Around} {E : Value → Shared → Prop} {s : Shared} {K : Frag} {R : Result → Shared → Prop} {h₀ : Heap} {L : Addr} {m : Str → Option Value}
/-- a class's own name, as it was made -/
def nameIn (K : Frag) (C : Addr) : Option Str := match K.lookup C with
  | some ⟨_, _, .cls _, sl⟩ => match (sl[2]? : Option (Option Value)) with
    | some (some (Value.str x _)) => some x
    | _ => none
  | _ => none
theorem nameIn_at {K : Frag} {C : Addr} {x : Str} (h : nameIn K C = some x) : ∃ o t, K.lookup C = some o ∧ o.slots[2]? = some (some (.str x t)) := by
  unfold nameIn at h
  split at h
  · rename_i c d cd sl hk
    split at h
    · rename_i y t hs
      cases h
      exact ⟨_, t, hk, hs⟩
    · cases h
  · cases h
theorem dgaO (d tp : Value) (C : Addr) : descrGetArgs ⟨[d, .ref C, tp], []⟩ = pure (d, some (.ref C), given tp) := by kernel_rfl
theorem cname_get {tp : Value} {C : Addr} {x : Str} (X : K.In s.heap) (ht : typeIn K (.ref C) = some (.type "type")) (hn : nameIn K C = some x) (h : ∀ t, R (.ok (.ret (.str x t))) s) :
    codeAny (model prog w) A (.call (.builtin "getset_descriptor.__get__") ⟨[.builtin "type.__name__", .ref C, tp], []⟩) R s := by
  obtain ⟨o, tk, hk, hs⟩ := nameIn_at hn
  obtain ⟨hh, g, dr, t, os⟩ := s
  have hC : hh.get? C = some o := X _ _ hk
  have L0 : Looks (model prog w) hh (typeOf (.ref C)) (.type "type") := looks_typeIn X ht
  have L1 : Looks (model prog w) hh (isSubtype (.type "type") (.type "type")) true := Looks.of_pure (by rw [isSubtype_type]; kernel_rfl)
  refine codeAny_call_builtin KF.slot_gs.plain KF.entry_gs (KF.slot_gs.check _ _ _ _ _ _ _ _ ktyn_type (KF.args_gs _ _ _) ?_)
  unfold Builtin.«getset_descriptor.__get__» descrGet
  rw [dgaO]
  refine wpAny_bind (wpAny_pure ?_)
  unfold descrGetter descrCheckInstance descrNameAndClass isInstance
  simp only [ktyn_owner]
  repeat lk
  refine ⟨Code.quiet_builtin _ (by decide +kernel), codeAny_builtin ktyn_entry ?_⟩
  unfold Builtin.«type.__name__» keptObject
  dsimp only
  have hsl : wpAny (model prog w) A.in1 (slotAt C 2) (fun r s' => r = some (Value.str x tk) ∧ s' = ⟨hh, g, dr, t, os⟩) (fun e s' => R (.error e) s') ⟨hh, g, dr, t, os⟩ := by
    unfold slotAt
    refine wpAny_bind (wpAny_loadPart hC (wpAny_pure ⟨?_, rfl⟩))
    rw [hs]
    rfl
  refine wpAny_bind (wpAny_mono hsl (fun r s' q => ?_) fun _ _ z => z)
  obtain ⟨rfl, rfl⟩ := q
  exact wpAny_pure (h tk)
end
end PySem.W
namespace PySem.W
open PySem PySem.Calls PyProof.Rows
section
variable {prog : Program} {w : World} {A : Around} {E : Value → Shared → Prop} {s : Shared} {K : Frag} {x y C D f : Addr} {ox oy : Obj} {od oe : Option Obj} {b : Value}
/-- x == b by the own __eq__ -/
theorem try_own {Q : Option Value → Shared → Prop} (X : K.In s.heap) (I : InstAt s.heap x ox C od) (hs : findIn K (.ref C) "__eq__" = some (some (.ref f))) (hf : isFn K (.ref f) = true)
    (h : wpAny (model prog w) A (call (.ref f) [.ref x, b]) (fun v s' => ∃ r, v = .bool r ∧ Q (some (.bool r)) s') E s) : wpAny (model prog w) A (tryCompare (.ref x) "__eq__" b) Q E s := by
  unfold tryCompare
  refine wpAny_bind (ifBound_K X I hs hf (wpAny_mono h (fun v s' hv => ?_) fun _ _ e => e))
  obtain ⟨r, rfl, q⟩ := hv
  exact wpAny_pure q
theorem ifBound_slot {M : Model} {name : Str} {args : List Value} {Q : Option Value → Shared → Prop} {T id : String} (X : K.In s.heap) (I : InstAt s.heap x ox C od) (hs : findIn K (.ref C) name = some (some (.builtin id))) (sl : Slot T name id)
    (h : wpAny M A (call (.builtin id) (.ref x :: args)) (fun v => Q (some v)) E s) : wpAny M A (callSpecialIfBound? (.ref x) name args) Q E s := by
  simp only [callSpecialIfBound?, bindSpecialIfBound?]
  refine wpAny_holding (wpAny_bind (wpAny_bind (wpAny_bind (I.type.here ((looks_findIn X hs).here ?_)))))
  refine wpAny_bind (wpAny_askSetting (wpAny_ite ?_))
  have fin : wpAny M A (call (.builtin id) ([.ref x] ++ args) >>= fun v => pure (some v)) Q E s := wpAny_bind (wpAny_mono h (fun v s' h' => wpAny_pure h') fun _ _ h' => h')
  split
  · exact wpAny_bind (wpAny_of_eq (sl.bind _) (wpAny_pure (by exact fin)))
  · exact wpAny_tryCatch (wpAny_bind (wpAny_of_eq (sl.bind _) (wpAny_pure (by exact fin))))
/-- x != b: object's, by the own __eq__ -/
theorem try_ne {Q : Option Value → Shared → Prop} (X : K.In s.heap) (I : InstAt s.heap x ox C od) (hs : findIn K (.ref C) "__eq__" = some (some (.ref f))) (hf : isFn K (.ref f) = true) (hn : findIn K (.ref C) "__ne__" = some (some (.builtin "object.__ne__")))
    (hm : mroIn K C (.type "object") = some true) (hu : A.units + 1 < cLine)
    (h : wpAny (model prog w) A.in1 (call (.ref f) [.ref x, b]) (fun v s' => ∃ r, v = .bool r ∧ Q (some (.bool (!r))) s') E s) : wpAny (model prog w) A (tryCompare (.ref x) "__ne__" b) Q E s := by
  obtain ⟨hh, g, d, t, os⟩ := s
  unfold tryCompare
  have sub : Looks (model prog w) hh (isInstance (.ref x) (.type "object")) true := I.type.andThen (looks_mroIn X hm)
  refine wpAny_bind (ifBound_slot X I hn PySem.F.cmp_object.ne (wpAny_call (codeAny_call_builtin PySem.F.cmp_object.ne.plain PySem.F.cmpEntry_ne (check_slot PySem.F.cmpKind_ne PySem.F.cmpSplit_ne sub (PySem.F.cmpArgs_ne _ _) ?_))))
  unfold Builtin.«object.__ne__»
  refine wpAny_bind (wpAny_of_eq (a := ((Value.ref x : Value), [b])) (by first | rfl | (simp only [slotArgs]; rfl)) ?_)
  dsimp only
  refine wpAny_bind (wpAny_cRoomFor (show A.in1.units < cLine from hu) ?_)
  refine wpAny_bind (ifBound_K X I hs hf (wpAny_mono h (fun r s' hr => ?_) fun _ _ e => e))
  obtain ⟨b, rfl, hq⟩ := hr
  dsimp only
  first
    | exact wpAny_bind (wpAny_truthy_bool (wpAny_pure (wpAny_pure hq)))
    | exact wpAny_bind (wpAny_truthy_bool (wpAny_pure hq))
    | trace_state
/-- x op y, == or != of two instances; first: y's class, a further one, is asked first -/
theorem rich_own {op : CmpOp} {nm : Str} {sym : String} {Q : Value → Shared → Prop} (hop : cmpInfo op = (sym, nm, nm)) (hu : A.units < cLine) (X : K.In s.heap) (I : InstAt s.heap x ox C od) (J : InstAt s.heap y oy D oe) (first : Bool)
    (h1 : first = true → D ≠ C ∧ subIn K (.ref D) (.ref C) = some true) (h0 : first = false → notFirst K C (.ref D) = true)
    (h : wpAny (model prog w) A (tryCompare (.ref (if first = true then y else x)) nm (.ref (if first = true then x else y))) (fun r s' => ∃ b, r = some (.bool b) ∧ Q (.bool b) s') E s) : wpAny (model prog w) A (richCompare op (.ref x) (.ref y)) Q E s := by
  unfold richCompare
  simp only [oneThing_ref]
  rw [hop]
  refine wpAny_holding (wpAny_bind (wpAny_cRoomFor hu ?_))
  refine wpAny_bind (I.type.here (wpAny_bind (J.type.here ?_)))
  cases first with
  | true =>
    obtain ⟨hne, hs⟩ := h1 rfl
    rw [if_pos (show (Value.ref C != Value.ref D) = true by simp [Ne.symm hne])]
    refine wpAny_bind ((looks_subIn X hs).here ?_)
    simp only [if_true]
    refine wpAny_bind (wpAny_mono h (fun r s' z => ?_) fun _ _ e => e)
    obtain ⟨b, rfl, q⟩ := z
    first
      | exact wpAny_bind (wpAny_rule (wpAny_pure q))
      | exact wpAny_rule (wpAny_pure q)
      | exact wpAny_bind (wpAny_rule (wpAny_bind (wpAny_pure (wpAny_pure q))))
  | false =>
    have hn := h0 rfl
    split
    · rename_i q
      have e : subIn K (.ref D) (.ref C) = some false := by
        rcases Bool.or_eq_true_iff.mp hn with e | e
        · rw [beq_iff_eq.mp e] at q; simp at q
        · exact beq_iff_eq.mp e
      refine wpAny_bind ((looks_subIn X e).here ?_)
      simp only [Bool.false_eq_true, if_false] at h ⊢
      refine wpAny_bind (wpAny_mono h (fun r s' z => ?_) fun _ _ e => e)
      obtain ⟨b, rfl, q⟩ := z
      exact wpAny_pure q
    · refine wpAny_bind (wpAny_pure ?_)
      simp only [Bool.false_eq_true, if_false] at h ⊢
      refine wpAny_bind (wpAny_mono h (fun r s' z => ?_) fun _ _ e => e)
      obtain ⟨b, rfl, q⟩ := z
      exact wpAny_pure q
end
end PySem.W
end

section
set_option Elab.async false
set_option linter.all false
set_option maxRecDepth 100000
/-! The rules of own ==, !=, truth, class names. -/
namespace IM
open PySem PySem.Spec PyProof.Rows L2

theorem ins_inst {P : Program} {w : World} {K : PySem.W.Frag} {ι : Io} {H : Hp} {h : Heap} {c : Str} {fs : List (Str × D)} {a : Addr} (hok : HOk P w H h) (ok : CellOk K ι H (.ins c fs) (some a)) : ∃ ox od, PySem.W.InstAt h a ox (He.ga K c) (some od) := by
  obtain ⟨_, dx, gs, e, hH, _⟩ := ok
  cases e
  obtain ⟨mA, O, _⟩ := ins_get hok hH
  obtain ⟨od, J, _⟩ := O.look
  exact ⟨_, od, J⟩
/-- what the interpreter knows of classes with an own == (at the def's number), of subclasses -/
structure OwF (P : Program) (w : World) (K : PySem.W.Frag) (mg : Str → Option Value) (base : Heap) (k : Nat) (cl : CallT) (te : Str → Option Nat) (sb : Str → Str → Option Bool) : Prop where
  own : ∀ c i, te c = some i → ∃ f, PySem.W.findIn K (.ref (He.ga K c)) "__eq__" = some (some (.ref f)) ∧ PySem.W.isFn K (.ref f) = true ∧ PySem.W.findIn K (.ref (He.ga K c)) "__ne__" = some (some (.builtin "object.__ne__")) ∧
    PySem.W.mroIn K (He.ga K c) (.type "object") = some true ∧ FnRG P w K mg base k f (spR K cl i)
  yes : ∀ c d, sb d c = some true → He.ga K d ≠ He.ga K c ∧ PySem.W.subIn K (.ref (He.ga K d)) (.ref (He.ga K c)) = some true
  no : ∀ c d, sb d c = some false → PySem.W.notFirst K (He.ga K c) (.ref (He.ga K d)) = true
def insOf : D → IH → Option Str := fun x ih => match x with
  | .loc n => match ih[n]? with
    | some (.ins c _) => some c
    | _ => none
  | _ => none
def gOwn (te : Str → Option Nat) (sb : Str → Str → Option Bool) (neg : Bool) (cl : CallT) : D → D → IH → Res D := fun x y ih => match insOf x ih, insOf y ih with
  | some c, some d => match sb d c with
    | some b => match te (if b = true then d else c) with
      | some i => (cl i [if b = true then y else x, if b = true then x else y] ih).bind fun r ih => match r with
        | .bl t => .ok (.bl (t != neg)) ih
        | _ => .bad
      | none => .bad
    | none => .bad
  | _, _ => .bad
def opEq (neg : Bool) : CmpOp := if neg = true then .NotEq else .Eq
section
variable {X : Cx} {W : Wx} {cl : CallT} {k : Nat}
theorem insOf_ok {K : PySem.W.Frag} {ι : Io} {H : Hp} {ih : IH} {x : D} {u : V} {c : Str} (S : Sim K ι ih H) (r : RD K ι H x u) (h : insOf x ih = some c) : ∃ n a fs, x = .loc n ∧ u = .ref a ∧ ι[n]? = some (some a) ∧ CellOk K ι H (.ins c fs) (some a) := by
  unfold insOf at h
  cases r with
  | loc n a ha =>
    dsimp only at h
    obtain ⟨cc, hc, ok⟩ := S.at_ ha
    rw [hc] at h
    cases cc with
    | ins c' fs => cases h; exact ⟨n, a, fs, rfl, rfl, ha, ok⟩
    | _ => cases h
  | _ => cases h
theorem os_own {te : Str → Option Nat} {sb : Str → Str → Option Bool} (neg : Bool) (F : OwF X.prog X.w X.K X.mg X.base k cl te sb) (cc : Cal X W) (hr : Room (k + 1) X.A) : OpS X W (compareOp (opEq neg)) (gOwn te sb neg cl) := by
  intro pins s σ H ι ih x y ux uy vx vy Q I S r1 r2 v1 v2 q
  unfold gOwn at q
  cases e1 : insOf x ih with
  | none => rw [e1] at q; exact q.elim
  | some c =>
    cases e2 : insOf y ih with
    | none => rw [e1, e2] at q; exact q.elim
    | some d =>
      rw [e1, e2] at q
      dsimp only at q
      obtain ⟨n, a, fs, rfl, rfl, ha, ok1⟩ := insOf_ok S r1 e1
      obtain ⟨m, b, gs, rfl, rfl, hb, ok2⟩ := insOf_ok S r2 e2
      cases (show vx = Value.ref a from v1)
      cases (show vy = Value.ref b from v2)
      obtain ⟨ox, od, J1⟩ := ins_inst I.hok ok1
      obtain ⟨oy, oe, J2⟩ := ins_inst I.hok ok2
      cases es : sb d c with
      | none => rw [es] at q; exact q.elim
      | some bb =>
        rw [es] at q
        dsimp only at q
        cases et : te (if bb = true then d else c) with
        | none => rw [et] at q; exact q.elim
        | some i =>
          rw [et] at q
          obtain ⟨f, h1, h2, h3, h4, h5⟩ := F.own _ _ et
          -- the call itself, anywhere below
          have run : ∀ (A : Around), A.guards = some [] → A.frames = X.A.frames → Room k A → ∀ (x' y' : D) (a' b' : Addr), x' = (if bb = true then D.loc m else D.loc n) → y' = (if bb = true then D.loc n else D.loc m) → a' = (if bb = true then b else a) → b' = (if bb = true then a else b) →
              wpAny (model X.prog X.w) A (call (.ref f) [.ref a', .ref b']) (fun v s' => ∃ r, v = .bool r ∧ EP X pins σ Q (.bool (r != neg)) s') X.xe s := fun A hg hf hrA x' y' a' b' ex ey ea eb => by
            have rx : RD X.K ι H x' (.ref a') := by
              rw [ex, ea]
              cases bb with
              | true => exact r2
              | false => exact r1
            have ry : RD X.K ι H y' (.ref b') := by
              rw [ey, eb]
              cases bb with
              | true => exact r1
              | false => exact r2
            have hsp : spR X.K cl i [.ref a', .ref b'] H (fun v H' => ∃ t, v = .bl t ∧ Q (.bl (t != neg)) H') (EW X.K W) := by
              refine ⟨ι, ih, [x', y'], S, .cons rx (.cons ry .nil), ?_⟩
              have q' := q
              rw [← ex, ← ey] at q'
              refine Out.toWE ((Out.bind q').mono fun v ih' ι' H' S' E' q2 u ru => ?_)
              cases ru with
              | bl t => exact ⟨t, rfl, Out.here S' q2 _ (.bl _)⟩
              | _ => exact q2.elim
            refine wpAny_mono (runRG (us := [.ref a', .ref b']) (vs := [.ref a', .ref b']) h5 hg hf cc.hx hrA I (.cons rfl (.cons rfl .nil)) hsp) (fun v s' hv => ?_) fun _ _ z => z
            obtain ⟨u, H', I', ru, t, rfl, q2⟩ := hv
            cases ru
            exact ⟨t, rfl, .bl _, H', I', rfl, q2⟩
          unfold opEq
          cases neg with
          | false =>
            show wpAny _ _ (richCompare .Eq (.ref a) (.ref b)) _ _ _
            refine PySem.W.rich_own (nm := "__eq__") (sym := "==") rfl hr.units0 I.kIn J1 J2 bb (fun z => F.yes _ _ (by rw [es, z])) (fun z => F.no _ _ (by rw [es, z])) ?_
            cases bb with
            | true =>
              refine PySem.W.try_own I.kIn J2 h1 h2 (wpAny_mono (run X.A cc.g rfl (hr.mono (Nat.le_succ k)) _ _ _ _ rfl rfl rfl rfl) (fun v s' hv => ?_) fun _ _ z => z)
              obtain ⟨r, rfl, q2⟩ := hv
              rw [Bool.bne_false] at q2
              exact ⟨r, rfl, r, rfl, q2⟩
            | false =>
              refine PySem.W.try_own I.kIn J1 h1 h2 (wpAny_mono (run X.A cc.g rfl (hr.mono (Nat.le_succ k)) _ _ _ _ rfl rfl rfl rfl) (fun v s' hv => ?_) fun _ _ z => z)
              obtain ⟨r, rfl, q2⟩ := hv
              rw [Bool.bne_false] at q2
              exact ⟨r, rfl, r, rfl, q2⟩
          | true =>
            show wpAny _ _ (richCompare .NotEq (.ref a) (.ref b)) _ _ _
            have hu1 : X.A.units + 1 < cLine := hu_of hr
            refine PySem.W.rich_own (nm := "__ne__") (sym := "!=") rfl hr.units0 I.kIn J1 J2 bb (fun z => F.yes _ _ (by rw [es, z])) (fun z => F.no _ _ (by rw [es, z])) ?_
            cases bb with
            | true =>
              refine PySem.W.try_ne I.kIn J2 h1 h2 h3 h4 hu1 (wpAny_mono (run X.A.in1 cc.g rfl hr.in1 _ _ _ _ rfl rfl rfl rfl) (fun v s' hv => ?_) fun _ _ z => z)
              obtain ⟨r, rfl, q2⟩ := hv
              rw [Bool.bne_true] at q2
              exact ⟨r, rfl, !r, rfl, q2⟩
            | false =>
              refine PySem.W.try_ne I.kIn J1 h1 h2 h3 h4 hu1 (wpAny_mono (run X.A.in1 cc.g rfl hr.in1 _ _ _ _ rfl rfl rfl rfl) (fun v s' hv => ?_) fun _ _ z => z)
              obtain ⟨r, rfl, q2⟩ := hv
              rw [Bool.bne_true] at q2
              exact ⟨r, rfl, !r, rfl, q2⟩
end

/-! ### truth by an own __bool__ -/
structure BoF (P : Program) (w : World) (K : PySem.W.Frag) (mg : Str → Option Value) (base : Heap) (k : Nat) (cl : CallT) (tb : Str → Option Nat) : Prop where
  own : ∀ c i, tb c = some i → ∃ f, PySem.W.findIn K (.ref (He.ga K c)) "__bool__" = some (some (.ref f)) ∧ PySem.W.isFn K (.ref f) = true ∧ FnRG P w K mg base k f (spR K cl i)
def gTruth (tb : Str → Option Nat) (cl : CallT) : D → IH → Res Bool := fun x ih => match insOf x ih with
  | some c => match tb c with
    | some i => (cl i [x] ih).bind asB
    | none => .bad
  | none => .bad
def dTruth (tb : Str → Option Nat) (d : DE) : DB := fun cl ρ ih => (d cl ρ ih).bind fun x ih => gTruth tb cl x ih
section
variable {X : Cx} {W : Wx} {cl : CallT} {k : Nat} {e : Expr} {d : DE}
theorem st_own {tb : Str → Option Nat} (F : BoF X.prog X.w X.K X.mg X.base k cl tb) (cc : Cal X W) (hr : Room k X.A) (h : SE X W cl e d) (he : ∀ whole, isTrue e X.env whole = (do let v ← whole; standAt e.pos; holding [v] (truthy v)) := by intro _; rfl) : ST X W cl e (dTruth tb d) := by
  refine ⟨fun pins s σ H Q I hw => ?_⟩
  obtain ⟨ι, ρ, ih, S, R, q⟩ := hw
  refine isTrue_plain (thn (h.run pins s σ H _ I (tE.seq S R q)) fun v s1 ⟨ux, H1, I1, r1, ι1, ih1, x, S1, E1, rx, R1, q1⟩ => ?_) (he _)
  unfold gTruth at q1
  cases e1 : insOf x ih1 with
  | none => rw [e1] at q1; exact q1.elim
  | some c =>
    rw [e1] at q1
    dsimp only at q1
    cases et : tb c with
    | none => rw [et] at q1; exact q1.elim
    | some i =>
      rw [et] at q1
      obtain ⟨n, a, fs, rfl, rfl, ha, ok1⟩ := insOf_ok S1 rx e1
      cases (show v = Value.ref a from r1)
      obtain ⟨ox, od, J1⟩ := ins_inst I1.hok ok1
      obtain ⟨f, h1, h2, h5⟩ := F.own _ _ et
      have hsp : spR X.K cl i [.ref a] H1 (fun v H' => ∃ t, v = .bl t ∧ Q t H') (EW X.K W) := by
        refine ⟨ι1, ih1, [.loc n], S1, .cons rx .nil, ?_⟩
        refine Out.toWE ((Out.bind q1).mono fun v ih' ι' H' S' E' q2 u ru => ?_)
        cases ru with
        | bl t => exact ⟨t, rfl, Out.here S' q2⟩
        | _ => exact q2.elim
      obtain ⟨m, hF⟩ := I1.fr
      refine PySem.W.truthy_K hF I1.ok.mod.kin J1 h1 h2 (wpAny_mono (runRG (us := [.ref a]) (vs := [.ref a]) h5 cc.g rfl cc.hx hr I1 (.cons rfl .nil) hsp) (fun v s' hv => ?_) fun _ _ z => z)
      obtain ⟨u, H', I', ru, t, rfl, q2⟩ := hv
      cases ru
      exact ⟨H', I', q2⟩
end

/-! ### e.__class__.__name__ -/
structure NmF (K : PySem.W.Frag) (tn : Str → Option Str) : Prop where
  ok : ∀ c x, tn c = some x → Cls K (He.ga K c) ∧ PySem.W.findIn K (.ref (He.ga K c)) "__class__" = some (some (.builtin "object.__class__")) ∧ PySem.W.specialIn K (.builtin "object.__class__") "__get__" = some (some (.builtin "getset_descriptor.__get__")) ∧
    PySem.W.takesIn K (.builtin "object.__class__") = some true ∧ PySem.W.mroIn K (He.ga K c) (.type "object") = some true ∧ PySem.W.readsIn K (He.ga K c) (.type "type") = true ∧ PySem.W.typeIn K (.ref (He.ga K c)) = some (.type "type") ∧
    PySem.W.findCls K (.ref (He.ga K c)) (.type "type") "__name__" = some (.get (.builtin "getset_descriptor.__get__") (.builtin "type.__name__") (.ref (He.ga K c)) (.type "type")) ∧ PySem.W.nameIn K (He.ga K c) = some x
def gName (tn : Str → Option Str) : D → IH → Res D := fun x ih => match insOf x ih with
  | some c => match tn c with
    | some z => .ok (.str z) ih
    | none => .bad
  | none => .bad
def dClsName (tn : Str → Option Str) (d : DE) : DE := fun cl ρ ih => (d cl ρ ih).bind fun x ih => gName tn x ih
section
variable {X : Cx} {W : Wx} {cl : CallT} {e : Expr} {d : DE} {p1 p2 : Pos}
theorem se_clsName {tn : Str → Option Str} (F : NmF X.K tn) (h : SE X W cl e d) (hb : attributeBase e "__class__" X.env (eval e X.env) = eval e X.env := by rfl)
    (hb2 : attributeBase (.Attribute e "__class__" p1) "__name__" X.env (eval (.Attribute e "__class__" p1) X.env) = eval (.Attribute e "__class__" p1) X.env := by rfl) :
    SE X W cl (.Attribute (.Attribute e "__class__" p1) "__name__" p2) (dClsName tn d) := by
  refine ⟨fun pins s σ H Q I hw => ?_⟩
  obtain ⟨ι, ρ, ih, S, R, q⟩ := hw
  refine attr_of hb2 (attr_of hb (thn (h.run pins s σ H _ I (tE.seq S R q)) fun v s1 ⟨ux, H1, I1, r1, ι1, ih1, x, S1, E1, rx, R1, q1⟩ => ?_))
  unfold gName at q1
  cases e1 : insOf x ih1 with
  | none => rw [e1] at q1; exact q1.elim
  | some c =>
    rw [e1] at q1
    dsimp only at q1
    cases et : tn c with
    | none => rw [et] at q1; exact q1.elim
    | some z =>
      rw [et] at q1
      obtain ⟨n, a, fs, rfl, rfl, ha, ok1⟩ := insOf_ok S1 rx e1
      cases (show v = Value.ref a from r1)
      obtain ⟨ox, od, J1⟩ := ins_inst I1.hok ok1
      obtain ⟨k1, k2, k3, k4, k5, k6, k7, k8, k9⟩ := F.ok _ _ et
      obtain ⟨m, hF⟩ := I1.fr
      refine PySem.W.get_class hF I1.ok.mod.kin J1 k1.pg k1.hd k2 k3 k4 k5 ?_
      have I2 := I1.tok (s1.toks + 1)
      refine PySem.W.cls_bind I2.kIn k6 k8 (wpAny_call (PySem.W.cname_get (I2.kIn) k7 k9 fun t => ?_))
      exact PySem.W.handed_on rfl ⟨.str z, H1, (I1.tok _), ⟨t, rfl⟩, Out.here S1 q1 _ (.str z)⟩
end
end IM
end

section
set_option Elab.async false
set_option linter.all false
set_option maxRecDepth 100000
set_option maxHeartbeats 1000000
/-! Exceptions made by keywords. -/
namespace PySem
namespace IMX
open Builtin Builtin.ObjectAttr HandSPX
section
variable {M : Model} {A : Around} {E : Value → Shared → Prop} {h : Heap} {g : Array GenState} {d : Drawn} {t : Nat} {os : OsState}
variable {nm q : Str} {C N : Addr} {bs bm bmB : List Value} {hdct : Bool} {sn : List Str} {sub : List Value} {ab : Bool} {col : Option Bool} {dd : Option Addr} {k0 k1 k2 k3 k5 : Option Value} {B newId initId : String}
theorem check_new_kw (F : ExcBaseFacts B newId initId bmB) (hT : ∀ X : String, bm.contains (.type X) = bmB.contains (.type X)) {rest : List Value} {kw : List (Str × Value)} {Q : Unit → Shared → Prop}
    (hC : h.get? C = some (excClassObj nm q C N bs bm hdct sn sub ab col dd k0 k1 k2 k3 k5 newId)) (hq : Q () ⟨h, g, d, t, os⟩) : wpAny M A (checkBuiltinCall newId ⟨.ref C :: rest, kw⟩) Q E ⟨h, g, d, t, os⟩ := by
  have hcont : (Value.ref C :: bm).contains (.type B) = true := by rw [List.contains_cons, hT, F.hasB, Bool.or_true]
  have hstar := F.noStar
  simp only [checkBuiltinCall, F.newKind, F.newSplit, F.newRow]
  repeat (first | refine wpAny_loadPart_at hC ?_ | (refine wpAny_isSubtype_exc hC ?_; rw [hcont]) | refine wpAny_staticBase_exc hC ?_ | refine wpAny_madeBy_exc hC ?_ | simp only [bne_self_eq_false, Bool.false_eq_true, if_false] | wp_step)
  exact hq
theorem check_type_call_kw {rest : List Value} {kw : List (Str × Value)} {Q : Unit → Shared → Prop} (hC : h.get? C = some (excClassObj nm q C N bs bm hdct sn sub ab col dd k0 k1 k2 k3 k5 newId))
    (hq : Q () ⟨h, g, d, t, os⟩) : wpAny M A (checkBuiltinCall "type.__call__" ⟨.ref C :: rest, kw⟩) Q E ⟨h, g, d, t, os⟩ := by
  have f3 := tc_sub
  have hT : (⟨h, g, d, t, os⟩ : Shared).TypeIs (.ref C) "type" := ⟨_, hC, rfl⟩
  simp only [checkBuiltinCall, tc_kind, tc_split]
  repeat (any_goals (first | assumption | with_reducible refine wpAny_loadPart_at hC ?_ | with_reducible refine wpAny_onRaise ?_ | with_reducible refine wpAny_map ?_ | wp_step))
end
section
variable {prog : Program} {w : World} {A : Around} {E : Value → Shared → Prop} {R : Result → Shared → Prop} {h : Heap} {g : Array GenState} {d : Drawn} {t : Nat} {os : OsState}
variable {nm q : Str} {C N : Addr} {bs bm bmB : List Value} {hdct : Bool} {sn : List Str} {sub : List Value} {ab : Bool} {col : Option Bool} {dd : Option Addr} {k0 k1 k2 k3 k5 : Option Value} {B newId initId : String}
theorem new_kw (F : ExcBaseFacts B newId initId bmB) (hT : ∀ X : String, bm.contains (.type X) = bmB.contains (.type X)) {rest : List Value} {kw : List (Str × Value)}
    (hC : h.get? C = some (excClassObj nm q C N bs bm hdct sn sub ab col dd k0 k1 k2 k3 k5 newId))
    (hq : R (.ok (.ret (.ref (h.objs.size + 1)))) ⟨(h.push { cls := .type "tuple", data := .seq rest.toArray }).push
      { cls := .ref C, data := .fields #[.ref h.objs.size, .none, .none, .none, .bool false, .none] }, g, d, t, os⟩) (hrest : rest.length ≤ sizeLine) :
    codeAny (model prog w) A (.builtin newId ⟨.ref C :: rest, kw⟩) R ⟨h, g, d, t, os⟩ := by
  have hends := F.ends
  have hcB : (Value.ref C :: bm).contains (.type B) = true := by rw [List.contains_cons, hT, F.hasB, Bool.or_true]
  have hcA : (Value.ref C :: bm).contains (.type "AttributeError") = false := by rw [List.contains_cons, hT, F.noAttr]; rfl
  have hcN : (Value.ref C :: bm).contains (.type "NameError") = false := by rw [List.contains_cons, hT, F.noName]; rfl
  refine codeAny_builtinAt F.entry ?_
  unfold Builtin.«BaseException.__new__»
  refine wpAt_bind ?_
  show wpAt _ _ _ (stack >>= _) _ _ _
  refine wpAt_bind (wpAt_stack fun p below => wpAt_of_wpAny ?_)
  wp_walk
  refine wpAt_of_wpAny ?_
  rw [F.owner]
  repeat (first | with_reducible refine wpAny_madeHere_exc F.canon hC ?_ | with_reducible refine wpAny_loadPart_at hC ?_ | (with_reducible refine wpAny_isSubtype_exc hC ?_; first | rw [hcB] | rw [hcA] | rw [hcN]) | wp_step)
  show R _ _
  rw [Heap.size_push]
  exact hq
theorem type_call_kw (F : ExcBaseFacts B newId initId bmB) (hT : ∀ X : String, bm.contains (.type X) = bmB.contains (.type X)) {rest : List Value} {kw : List (Str × Value)} {fI : Addr} {Q : Fin → Shared → Prop}
    (hC : h.get? C = some (excClassObj nm q C N bs bm hdct sn sub ab col dd k0 k1 k2 k3 k5 newId))
    (hi : W.Looks (model prog w) h (typeLookup (.ref C) "__init__") (some (.ref fI))) (hb : ∀ self, W.Looks (model prog w) h (bindSpecial (.ref fI) self) (.ref fI, [self])) (hrest : rest.length ≤ sizeLine)
    (hq : codeAny (model prog w) A (.call (.ref fI) ⟨.ref (h.objs.size + 1) :: rest, kw⟩)
      (fun r s' => match r with | .ok (.ret v) => v = .none ∧ Q (.done (.ret (.ref (h.objs.size + 1)))) s' | .ok _ => False | .error e => E e s')
      ⟨(h.push (W.kdv_tup rest)).push (excO C h.objs.size), g, d, t, os⟩) :
    wpAny (model prog w) A (Builtin.«type.__call__» ⟨.ref C :: rest, kw⟩) Q E ⟨h, g, d, t, os⟩ := by
  repeat (first | with_reducible refine wpAny_loadPart_at hC ?_ | with_reducible refine wpAny_madeBy_exc hC ?_ | wp_step)
  refine codeAny_call_builtin_code (Code.quiet_builtin _ F.quiet) (check_new_kw F hT hC ?_)
  refine new_kw F hT hC ?_ hrest
  show wpAny _ _ _ _ _ _
  have k : ∀ b o, h.get? b = some o → ((h.push (W.kdv_tup rest)).push (excO C h.objs.size)).get? b = some o := fun b o e => Heap.get?_push_of_some _ (Heap.get?_push_of_some _ e)
  have hC₁ := k _ _ hC
  have hget : ((h.push (W.kdv_tup rest)).push (excO C h.objs.size)).get? (h.objs.size + 1) = some (excO C h.objs.size) := by heap_get
  have hcC : (Value.ref C :: bm).contains (.ref C) = true := by simp
  have i1 := hi.keeps k
  have b1 := (hb (.ref (h.objs.size + 1))).keeps k
  unfold isInstance
  repeat (first | with_reducible refine wpAny_loadPart_at hget ?_ | (with_reducible refine wpAny_isSubtype_exc hC₁ ?_; rw [hcC]) | wp_step)
  show wpAny _ _ (typeLookup (.ref C) _) _ _ _
  refine i1.at ?_
  refine wpAny_holding (wpAny_bind (b1.at ?_))
  refine wpAny_bind (wpAny_call (codeAny_mono hq fun r s' z => ?_))
  rcases r with e | (v | _ | _ | _) <;> first | exact z | exact z.elim | skip
  obtain ⟨rfl, z⟩ := z
  first
    | exact wpAny_pure (wpAny_pure z)
    | (wp_walk; exact z)
theorem call_kw (F : ExcBaseFacts B newId initId bmB) (hT : ∀ X : String, bm.contains (.type X) = bmB.contains (.type X)) {rest : List Value} {kw : List (Str × Value)} {fI : Addr}
    (hC : h.get? C = some (excClassObj nm q C N bs bm hdct sn sub ab col dd k0 k1 k2 k3 k5 newId))
    (hi : W.Looks (model prog w) h (typeLookup (.ref C) "__init__") (some (.ref fI))) (hb : ∀ self, W.Looks (model prog w) h (bindSpecial (.ref fI) self) (.ref fI, [self])) (hrest : rest.length ≤ sizeLine)
    (hq : codeAny (model prog w) (A.under (.builtin "type.__call__" ⟨.ref C :: rest, kw⟩)) (.call (.ref fI) ⟨.ref (h.objs.size + 1) :: rest, kw⟩) (W.InitBack (h.objs.size + 1) R)
      ⟨(h.push (W.kdv_tup rest)).push (excO C h.objs.size), g, d, t, os⟩) :
    codeAny (model prog w) A (.call (.ref C) ⟨rest, kw⟩) R ⟨h, g, d, t, os⟩ := by
  have f1 := tc_lookup
  have f2 := tc_bind (.ref C)
  have hTy : (⟨h, g, d, t, os⟩ : Shared).TypeIs (.ref C) "type" := ⟨_, hC, rfl⟩
  refine codeAny_of_tree ?_
  show wpAny _ _ (callAny (.ref C) _) _ _ _
  repeat (any_goals (first | assumption | with_reducible refine wpAny_loadPart_at hC ?_ | wp_step))
  refine ⟨rfl, ?_⟩
  refine codeAny_call_builtin_at (Code.quiet_builtin _ (by decide +kernel)) entry_typeCall (check_type_call_kw hC (type_call_kw F hT hC hi hb hrest ?_))
  refine codeAny_mono hq fun r s' z => ?_
  rcases r with e | (v | _ | _ | _) <;> exact z
end
end IMX
end PySem
end

section
set_option Elab.async false
set_option linter.all false
set_option maxRecDepth 100000
set_option maxHeartbeats 1000000
/-! An exception's __init__ that says super().__init__(..) first. -/
namespace PySem
namespace IMX
open PySem.W PySem.Calls PyProof.Rows HandSPX
section
variable {prog : Program} {w : World} {A : Around} {E : Value → Shared → Prop} {h : Heap} {g : Array GenState} {d : Drawn} {t : Nat} {os : OsState}
variable {nm q : Str} {C N : Addr} {bs bm : List Value} {hdct : Bool} {sn : List Str} {sub : List Value} {ab : Bool} {col : Option Bool} {dd : Option Addr} {k0 k1 k2 k3 k5 : Option Value}
/-- ValueError.__init__ bound to e, called -/
theorem call_mw {u e t0 : Addr} {rest : List Value} {Q : Value → Shared → Prop}
    (hC : h.get? C = some (excClassObj nm q C N bs bm hdct sn sub ab col dd k0 k1 k2 k3 k5 "ValueError.__new__")) (he : h.get? e = some (HandSPX.excO C t0)) (hu : h.get? u = some (W.kxs_mw "ValueError.__init__" e)) (hrest : rest.length ≤ sizeLine)
    (hq : ∀ h' t1, (∀ b o, b ≠ e → h.get? b = some o → h'.get? b = some o) → h'.get? e = some (HandSPX.excO C t1) → Q .none ⟨h', g, d, t, os⟩) :
    wpAny (model prog w) A (call (.ref u) rest) Q E ⟨h, g, d, t, os⟩ := by
  refine wpAny_call (codeAny_of_tree ?_)
  show wpAny _ A.in1 (callAny (.ref u) ⟨rest, []⟩) _ _ _
  simp only [callAny]
  refine wpAny_bind (wpAny_load hu ?_)
  simp only [kxs_mw, show (Value.type "method-wrapper" == Value.type "method" || Value.type "method-wrapper" == Value.type "builtin_function_or_method" || Value.type "method-wrapper" == Value.type "method-wrapper") = true by decide, if_true]
  refine W.KFB.if_so (by decide) ?_
  refine wpAny_bind (check_bound_init F.excBase_ValueError.toExcCallFacts hC he rfl ?_)
  refine wpAny_bind (wpAny_pure (wpAny_pure ?_))
  refine ⟨plainId_quiet F.excBase_ValueError.init.plain _, codeAny_builtin F.excBase_ValueError.initEntry ?_⟩
  rw [Around.under_plainId F.excBase_ValueError.init.plain _]
  wp_walk
  refine hq _ h.objs.size (fun b o hb ho => ?_) ?_
  · rw [Heap.get?_update_other _ _ (Ne.symm hb)]
    exact Heap.get?_push_of_some _ ho
  · rw [Heap.get?_update_self _ (Heap.get?_push_of_some _ he) rfl]
    rfl
end
end IMX
end PySem
namespace IM
open PySem PySem.Spec PyProof.Rows L2
/-- what the written part says of the exception class c, whose cell is at cc -/
structure ExF (K : PySem.W.Frag) (c : Str) (cc : Addr) : Prop where
  ox : OexC K (He.ga K c)
  cell : ∃ cl cld csl, K.lookup cc = some ⟨cl, cld, .cell (some (.ref (He.ga K c))), csl⟩
  mr : PySem.W.mroIn K (He.ga K c) (.ref (He.ga K c)) = some true
  su : PySem.W.ks_superIn K (He.ga K c) (He.ga K c) "__init__" = some (some (.builtin "ValueError.__init__"))
  ve : PySem.W.subIn K (.ref (He.ga K c)) (.type "ValueError") = some true
  tp : PySem.W.nsIn K cStatics "thirdparty.any" = some none
section
variable {X : Cx} {pins : List (Addr × Obj)} {σ : L2.St} {H : Hp} {s : Shared}
/-- a local name, the state as it is -/
theorem ld_var {E : Value → Shared → Prop} {Q : Value → Shared → Prop} {i : Nat} {x : Str} {v : V} {pos : Pos} (I : Inv X pins σ H s) (hN : X.N[i]? = some x) (hl : X.env.scope.names.lookup x = some .local) (hv : σ[i]? = some (some v)) (h : ∀ u, RelV v u → Q u s)
    (hd : (x == ("__debug__" : Str)) = false := by decide) : wpAny (model X.prog X.w) X.A (eval (.Name x pos) X.env) Q E s := by
  obtain ⟨m, hn, hl2⟩ := I.loc
  obtain ⟨u, r, l⟩ := hl2 i x v hN hv (.inl hl)
  rcases l with ⟨hk, hm⟩ | ⟨hk, c, hc, hcell⟩
  · exact wpAny_Name (wpAny_loadName_local I.ok.kind hk hn hm (h u r)) hd
  · have hk : X.env.scope.names.lookup x = some .cell ∨ X.env.scope.names.lookup x = some .free := hk
    rw [hl] at hk
    rcases hk with hk | hk <;> cases hk
/-- names as arguments, the state as it is -/
inductive Nms (X : Cx) : List Expr → List Nat → Prop
  | nil : Nms X [] []
  | cons {x : Str} {pos : Pos} {i : Nat} {es : List Expr} {is : List Nat} (hN : X.N[i]? = some x) (hl : X.env.scope.names.lookup x = some .local) (hd : (x == ("__debug__" : Str)) = false) (hs : starEach (.Name x pos :: es) X.env = (false, eval (.Name x pos) X.env) :: starEach es X.env) (r : Nms X es is) : Nms X (.Name x pos :: es) (i :: is)
theorem nms_run {E : Value → Shared → Prop} {pos : Pos} (I : Inv X pins σ H s) : ∀ {es : List Expr} {is : List Nat} {Q : List Value → Shared → Prop}, Nms X es is → (∀ i ∈ is, ∃ v, σ[i]? = some (some v)) → (∀ us, us.length = is.length → Q us s) →
    wpAny (model X.prog X.w) X.A (spliced (backTo pos (starEach es X.env))) Q E s
  | _, _, Q, .nil, _, h => PyProof.Rows.args_nil (h [] rfl)
  | _, _, Q, .cons (x := x) (i := i) (es := es) (is := is) hN hl hd hs r, hv, h => by
    obtain ⟨v, hv0⟩ := hv i List.mem_cons_self
    refine PyProof.Rows.args_cons (ld_var I hN hl hv0 (fun u _ => ?_) hd) hs
    exact nms_run I r (fun j hj => hv j (List.mem_cons_of_mem _ hj)) fun us hl => h (u :: us) (by simp [hl])
end
end IM
end

section
set_option Elab.async false
set_option linter.all false
set_option maxRecDepth 100000
set_option maxHeartbeats 1000000
/-! The statement super().__init__(..); the def's promise. -/
namespace IM
open PySem PySem.Spec PyProof.Rows L2
/-- what the def's object and its code's object say -/
structure SupD (P : Program) (K : PySem.W.Frag) (mg : Str → Option Value) (env : Env) (slf : Str) (cc : Addr) : Prop where
  ks : env.kindOf "super" = some .globalImplicit
  kc : env.kindOf "__class__" = some .free
  fn : ∃ f oc od fd osl, env.func = some f ∧ K.lookup f = some ⟨oc, od, .func fd, osl⟩ ∧ ∃ ar, (fd.params.posonlyargs ++ fd.params.args).head? = some ar ∧ ar.arg = slf
  code : ∃ cda ccl cdd vs ccs file tf, env.code = .ref cda ∧ K.lookup cda = some ⟨ccl, cdd, .fields vs, ccs⟩ ∧ vs[2]? = some (.str file tf) ∧ ((P.main.file : Str) == file) = true
  top : (P.main.scope.names.lookup ("super" : Str)).isSome = false
  mg : mg "super" = none
  cells : env.cells.lookup ("__class__" : Str) = some cc
section
variable {X : Cx} {pins : List (Addr × Obj)} {σ : L2.St} {H : Hp} {s : Shared}
theorem sup_stmt {slf c : Str} {cc a : Addr} {e : Expr} {es : List Expr} {is : List Nat} {p0 p1 pa pos pos' : Pos} {body : List Stmt} {E : Value → Shared → Prop} (D : SupD X.prog X.K X.mg X.env slf cc) (T : ExF X.K c cc) (I : Inv X pins σ H s)
    (h0 : X.N[0]? = some slf) (hl : X.env.scope.names.lookup slf = some .local) (hv : σ[0]? = some (some (.ref a))) (ha : H a = some (exo a (He.ga X.K c) none)) (A : Nms X (e :: es) is) (hA : ∀ i ∈ is, ∃ v, σ[i]? = some (some v)) (hsm : is.length ≤ 1000)
    {pl : Sem Bool} (he : eval (.Call (.Attribute (.Call (.Name "super" p0) [] [] p1) "__init__" pa) (e :: es) [] pos) X.env = (do
      let ov ← attributeBase (.Call (.Name "super" p0) [] [] p1) "__init__" X.env (eval (.Call (.Name "super" p0) [] [] p1) X.env)
      standAt pa.atName
      let (f, first) ← holding [ov] (getMethod ov "__init__" pl)
      callWith pos f first (backTo pos (starEach (e :: es) X.env)) []) := by rfl) (hst : starEach (e :: es) X.env = (false, eval e X.env) :: starEach es X.env := by rfl) (hpl : (backTo pos (starEach es X.env)).any (·.1) = false := by rfl)
    (hi : interactive X.env = false := by rfl) (hsw : swapsWith (.Call (.Attribute (.Call (.Name "super" p0) [] [] p1) "__init__" pa) (e :: es) [] pos) none pos'.line X.env = pure false := by rfl) :
    PySem.wpAt (model X.prog X.w) X.A (.func body X.env) (exec (.Expr (.Call (.Attribute (.Call (.Name "super" p0) [] [] p1) "__init__" pa) (e :: es) [] pos) pos') X.env) (fun fl s' => fl = .next ∧ Inv X pins σ H s') E s := by
  obtain ⟨f, oc, od, fd, osl, hfu, hf, ar, har, rfl⟩ := D.fn
  obtain ⟨cda, ccl, cdd, vs, ccs, file, tf, hco, hcd, hvs, hfile⟩ := D.code
  obtain ⟨ccl', cld', csl', hcell⟩ := T.cell
  obtain ⟨nm, q, N, bs, bm, sn, sub, ab, col, dd, k0, k1, k2, k3, k5, hC, hbm⟩ := T.ox.cls
  have kin := I.kIn
  obtain ⟨t1, hself⟩ := exo_at I.hok ha
  have hcl : PySem.W.clsIn X.K (He.ga X.K c) = some { name := nm, bases := bs, mro := .ref (He.ga X.K c) :: bm, ns := N, qualname := q, hasDict := true, slotNames := sn, subclasses := sub, abstract := ab, collection := col, hasDel := false } := by unfold PySem.W.clsIn; rw [hC] <;> rfl
  refine PySem.ks_wpAt_Expr_any (PySem.ks_wpAt_MethodCall (pl := pl) ?_ he) hi hsw
  refine PySem.ks_wpAt_mono (Q := fun ov s1 => ∃ so, ov = .ref so ∧ Inv X pins σ H s1 ∧ s1.heap.get? so = some { cls := .type "super", dict := none, data := .fields #[.ref (He.ga X.K c), .ref a, .ref (He.ga X.K c)], slots := #[] }) (E := E) ?_ (fun ov s1 h1 => ?_) fun _ _ z => z
  · -- super()
    refine PySem.ks_wpAt_super_base D.ks D.kc (by decide) hfu (kin _ _ hf) rfl har hco (kin _ _ hcd) rfl hvs hfile D.top ?_
    obtain ⟨mb, hb1, hb2⟩ := I.mod.blt
    refine PySem.W.ks_loadName_global I.ok.kind D.ks (Calls.loadGlobal_builtin (by rw [I.ok.glob]; exact I.mod.glob.keeps I.bk) D.mg (by rw [I.ok.blt]; exact hb1.keeps I.bk) ((hb2 "super" (by decide)).trans (by rfl)) ⟨rfl, ?_⟩)
    refine wpAny_loadName_free I.ok.kind D.kc D.cells ⟨_, kin _ _ hcell, rfl⟩ ?_
    obtain ⟨m, hn, hl2⟩ := I.loc
    obtain ⟨u, r, l⟩ := hl2 0 ar.arg (.ref a) h0 hv (.inl hl)
    have hu : u = .ref a := r
    subst hu
    rcases l with ⟨hk, hm⟩ | ⟨hk, c', hc, hcell'⟩
    · refine wpAny_loadName_local I.ok.kind hk hn hm ?_
      have hD : s.heap.get? (He.ga X.K c) = some _ := kin _ _ hC
      obtain ⟨hh, g, d, t, os⟩ := s
      refine PySem.ks_wpAny_isType_cls hD rfl ⟨rfl, ?_⟩
      refine PySem.ks_wpAny_call_super hD rfl hself rfl (fun c e => by cases e) (PySem.W.looks_mroIn kin T.mr) (fun h' e k => ?_)
      exact ⟨_, rfl, I.kept (t' := t) k, e⟩
    · have hk : X.env.scope.names.lookup ar.arg = some .cell ∨ X.env.scope.names.lookup ar.arg = some .free := hk
      rw [hl] at hk
      rcases hk with hk | hk <;> cases hk
  · -- .__init__(..)
    obtain ⟨so, rfl, I1, hso⟩ := h1
    obtain ⟨t2, hself1⟩ := exo_at I1.hok ha
    obtain ⟨hh, g, d, t, os⟩ := s1
    have J : PySem.W.InstAt hh a { cls := .ref (He.ga X.K c), dict := none, data := .fields #[.ref t2, .none, .none, .none, .bool false, .none] } (He.ga X.K c) none := ⟨hself1, rfl, rfl, trivial⟩
    have hI : PySem.W.Looks (model X.prog X.w) hh (isInstance (.ref a) (.type "ValueError")) true := J.type.andThen (PySem.W.looks_subIn I1.kIn T.ve)
    have hm := T.su
    unfold PySem.W.ks_superIn at hm
    rw [hcl] at hm
    refine PySem.W.kxs_getMethod PySem.W.kxs_ValueError hso (PySem.W.looks_opaque I1.kIn T.tp) (l₀ := .ref (He.ga X.K c) :: bm) ?_ rfl I1.kIn hm hI (PySem.W.ks_ne I1.kIn J hcl) (by decide) ?_
    · exact fun A Q E s k q => wpAny_bind ((PySem.W.looks_clsIn I1.kIn hcl) A _ E s k (wpAny_pure q))
    · -- the wrapper at u
      have up : ∀ b o, hh.get? b = some o → (hh.push (PySem.W.kxs_mw "ValueError.__init__" a)).get? b = some o := fun b o e => Heap.get?_push_of_some _ e
      have I2 : Inv X pins σ H ⟨hh.push (PySem.W.kxs_mw "ValueError.__init__" a), g, d, t + 1, os⟩ := I1.kept (t' := t + 1) up
      have hu : (hh.push (PySem.W.kxs_mw "ValueError.__init__" a)).get? hh.objs.size = some (PySem.W.kxs_mw "ValueError.__init__" a) := Heap.get?_push_at rfl rfl
      have hC2 := I2.kIn _ _ hC
      have hself2 := up _ _ hself1
      suffices hrun : wpAny (model X.prog X.w) X.A (spliced (backTo pos (starEach (e :: es) X.env))) (fun us s' => PySem.W.KxsAt "ValueError.__init__" hh.objs.size a s'.heap ∧ wpAny (model X.prog X.w) X.A (call (.ref hh.objs.size) ([] ++ us)) (fun _ s' => Flow.next = Flow.next ∧ Inv X pins σ H s') E s') E ⟨hh.push (PySem.W.kxs_mw "ValueError.__init__" a), g, d, t + 1, os⟩ by
        rw [hst] at hrun ⊢
        exact PySem.W.kxs_callWith (i := "ValueError.__init__") (x := a) (by show (false || (backTo pos (starEach es X.env)).any (·.1)) = false; rw [hpl]; rfl) (Calls.evalArgs_plain hrun)
      refine nms_run I2 A hA fun us hlen => ⟨hu, ?_⟩
      refine IMX.call_mw hC2 hself2 hu (by rw [List.nil_append, hlen, sizeLine_eq]; omega) fun h' t3 k hx => ⟨rfl, ?_⟩
      have K2 := I2.write (t' := t + 1) (x := a) (e := a) (o := exo a (He.ga X.K c) none) (by rw [ha]; exact True.intro) (.inl rfl) k ⟨_, hx⟩ (exo_ok hx)
      have eu : upd H a (exo a (He.ga X.K c) none) = H := by
        funext b
        by_cases hb : b = a
        · rw [hb, upd_same, ha]
        · rw [upd_ne hb]
      rw [eu] at K2
      exact K2
end

/-! ### self.f = v on an exception -/
/-- what the interpreter knows: the class's exceptions may be given the attribute -/
def OsF (K : PySem.W.Frag) (T : Str → Str → Bool) : Prop := ∀ c f, T c f = true → OexC K (He.ga K c) ∧ PySem.W.findIn K (.ref (He.ga K c)) f = some none
def gOst (T : Str → Str → Bool) (f : Str) : D → D → IH → Option IH := fun x v ih => match x with
  | .loc n => match ih[n]? with
    | some (.exc c none) => if T c f = true then some ((ih ++ [C.xd [(f, v)]]).set n (.exc c (some ih.length))) else none
    | some (.exc c (some m)) => match ih[m]? with
      | some (.xd fs) => if (T c f && decide (fs.length ≤ 900)) = true then some (ih.set m (.xd ((f, v) :: fs))) else none
      | _ => none
    | _ => none
  | _ => none
def dOst (T : Str → Str → Bool) (f : Str) (e o : DE) : DS := fun cl ρ ih => (e cl ρ ih).bind fun v ih => (o cl ρ ih).bind fun x ih => match gOst T f x v ih with
  | some ih' => .ok (.nx ρ) ih'
  | none => .bad
section
variable {X : Cx} {W : Wx} {cl : CallT} {pos p2 : Pos} {o e : Expr} {f : Str} {d dO : DE} {T : Str → Str → Bool}
theorem isCell_exo {a C : Addr} {d : Option Addr} : ∀ xs, exo a C d ≠ .tup xs := fun xs => exo_tup
theorem ss_ost (F : OsF X.K T) (he : SE X W cl e d) (ho : SE X W cl o dO) (hs : swapsWith e (some (.Attribute o f p2)) pos.line X.env = pure false := by rfl) : SS X W cl (.Assign [.Attribute o f p2] e pos) (dOst T f d dO) :=
  psOf (ps_ost ho he hs) fun D σ H ⟨ι, ρ, ih, S, R, q⟩ => by
  refine (tE.seq S R q).weaken fun uv H1 ⟨ι1, ih1, v, S1, E1, rv, R1, q1⟩ => ?_
  refine (tE.seq S1 R1 q1).weaken fun ux H2 ⟨ι2, ih2, x, S2, E2, rx, R2, q2⟩ => ?_
  have rv := rv.mono S1 E2
  unfold gOst at q2
  cases rx with
  | loc n a ha =>
    dsimp only at q2
    obtain ⟨c, hc, ok⟩ := S2.at_ ha
    rw [hc] at q2
    cases c with
    | exc c dd =>
      obtain ⟨_, dx, e, hH, hd⟩ := ok
      cases e
      cases dd with
      | none =>
        subst hd
        dsimp only at q2
        by_cases hT : T c f = true
        · rw [if_pos hT] at q2
          obtain ⟨k1, k2⟩ := F _ _ hT
          refine ⟨a, _, rfl, k1, k2, .inl ⟨hH, fun dx hdx hne => ?_⟩⟩
          obtain ⟨S3, E3⟩ := S2.push (o := exd dx [(f, uv)]) (c := .xd [(f, v)]) hdx ⟨dx, _, rfl, upd_same, .cons (rv.mono S2 (Ext.push hdx)) .nil⟩
          have ha3 := E3.pre _ _ ha
          obtain ⟨S4, E4⟩ := S3.put (o := exo a (He.ga X.K c) (some dx)) (c := .exc c (some ih2.length)) ha3 ⟨a, some dx, rfl, upd_same, dx, rfl, by rw [← S2.len]; simp⟩
          exact q2 _ _ S4 (E3.trans E4) σ ((R2.mono S2 E3).mono S3 E4)
        · rw [if_neg hT] at q2; exact q2.elim
      | some m =>
        obtain ⟨b, rfl, hb⟩ := hd
        dsimp only at q2
        obtain ⟨c2, hc2, ok2⟩ := S2.at_ hb
        rw [hc2] at q2
        cases c2 with
        | xd fs =>
          dsimp only at q2
          by_cases hT : (T c f && decide (fs.length ≤ 900)) = true
          · rw [if_pos hT] at q2
            rw [Bool.and_eq_true, decide_eq_true_eq] at hT
            obtain ⟨k1, k2⟩ := F _ _ hT.1
            obtain ⟨_, gs, e, hH2, rs⟩ := ok2
            cases e
            refine ⟨a, _, rfl, k1, k2, .inr ⟨b, gs, hH, hH2, by rw [← rs.len]; exact hT.2, ?_⟩⟩
            obtain ⟨S3, E3⟩ := S2.put (o := exd b ((f, uv) :: gs)) (c := .xd ((f, v) :: fs)) hb ⟨b, _, rfl, upd_same, RFs.cons (rv.aside hH2 (fun _ => exd_tup) (fun _ _ z => by have z' : HO.ext _ = HO.frz _ _ := z; cases z')) (rs.aside hH2 (fun _ => exd_tup) (fun _ _ z => by have z' : HO.ext _ = HO.frz _ _ := z; cases z'))⟩
            exact q2 _ _ S3 E3 σ (R2.mono S2 E3)
          · rw [if_neg hT] at q2; exact q2.elim
        | _ => exact q2.elim
    | _ => exact q2.elim
  | _ => exact q2.elim
end
end IM
end

section
set_option Elab.async false
set_option linter.all false
set_option maxRecDepth 100000
set_option maxHeartbeats 1000000
/-! Exceptions' __init__ as promises; keywords; exceptions as values. -/
namespace IM
open PySem PySem.Spec PyProof.Rows L2 NdefX

def selfExc (c : Str) : List D → IH → Bool := fun args ih => match args with
  | .loc n :: _ => match ih[n]? with
    | some (.exc c' none) => c' == c
    | _ => false
  | _ => false
theorem env_startF {K : PySem.W.Frag} {ι : Io} {H : Hp} {ds : List D} {vs : List V} {N : List Str} (r : RDs K ι H ds vs) (hN : ds.length + 1 ≤ N.length) : REnv K ι H (ds.map some ++ List.replicate (N.length - ds.length) none) (startF N vs [none]) := by
  have hl := r.length
  refine ⟨by simp [startF, hl]; omega, fun j d e => ?_⟩
  by_cases h : j < ds.length
  · rw [List.getElem?_append_left (by simpa using h), List.getElem?_map] at e
    cases ed : ds[j]? with
    | none => rw [ed] at e; cases e
    | some d' =>
      rw [ed] at e
      cases e
      obtain ⟨v, e1, rv⟩ := r.get ed
      refine ⟨v, ?_, rv⟩
      unfold startF
      rw [List.getElem?_append_left (by simp; omega), List.getElem?_map, e1]
      rfl
  · rw [List.getElem?_append_right (by simp; omega), List.getElem?_replicate] at e
    split at e <;> cases e
theorem fnSup_of {P : Program} {w : World} {K : PySem.W.Frag} {mg : Str → Option Value} {base : Heap} {k i np : Nat} {f cc cda : Addr} {name qual slf c : Str} {params : Arguments} {body : List Stmt} {scope : Scope} {dV kV doc pm ct oc : Value} {an od : Option Addr}
    {osl : Array (Option Value)} {N ps : List Str} {cl cl' : CallT} {d : DS} {e : Expr} {es : List Expr} {is : List Nat} {p0 p1 pa pos pos' : Pos}
    (lk : K.lookup f = some ⟨oc, od, .func (PySem.W.fnX name qual params (.Expr (.Call (.Attribute (.Call (.Name "super" p0) [] [] p1) "__init__" pa) (e :: es) [] pos) pos' :: body) scope [("__class__", cc)] dV kV doc pm an (.ref cda) ct), osl⟩) (hcd : PySem.W.codeIn K (.ref cda) qual = true)
    (S : NScope N ps ["__class__"] scope) (hn : ps.length = np) (T : ExF K c cc) (hps : ps[0]? = some slf)
    (hcl : ∀ args ih, cl' i args ih = if selfExc c args ih = true then runBody d N.length cl args ih else .bad)
    (hsup : ∀ (L : Addr), SupD P K mg (PySem.W.envX qual scope L f (.ref cda) [("__class__", cc)]) slf cc)
    (hnm : ∀ (A : Around) (outer : List Env) (s : Shared) (H : Hp) (E : XK), Nms (ncx (L2.CX P w) P w K mg base N ⟨name, qual, params, .Expr (.Call (.Attribute (.Call (.Name "super" p0) [] [] p1) "__init__" pa) (e :: es) [] pos) pos' :: body, scope, [("__class__", cc)], cda⟩ f A outer s H E) (e :: es) is) (his : ∀ j ∈ is, j < np) (hsm : is.length ≤ 1000)
    (hbody : ∀ (A : Around) (outer : List Env) (s : Shared) (H : Hp) (E : XK), A.guards = some [] →
      Cal (ncx (L2.CX P w) P w K mg base N ⟨name, qual, params, .Expr (.Call (.Attribute (.Call (.Name "super" p0) [] [] p1) "__init__" pa) (e :: es) [] pos) pos' :: body, scope, [("__class__", cc)], cda⟩ f A outer s H E) (WE K E) →
      SSs (ncx (L2.CX P w) P w K mg base N ⟨name, qual, params, .Expr (.Call (.Attribute (.Call (.Name "super" p0) [] [] p1) "__init__" pa) (e :: es) [] pos) pos' :: body, scope, [("__class__", cc)], cda⟩ f A outer s H E) (WE K E) cl body d)
    (hst : ∀ L, starEach (e :: es) (PySem.W.envX qual scope L f (.ref cda) [("__class__", cc)]) = (false, eval e (PySem.W.envX qual scope L f (.ref cda) [("__class__", cc)])) :: starEach es (PySem.W.envX qual scope L f (.ref cda) [("__class__", cc)]) := by intro _; rfl)
    (hpl : ∀ L, (backTo pos (starEach es (PySem.W.envX qual scope L f (.ref cda) [("__class__", cc)]))).any (·.1) = false := by intro _; rfl)
    (hsw : ∀ L, swapsWith (.Call (.Attribute (.Call (.Name "super" p0) [] [] p1) "__init__" pa) (e :: es) [] pos) none pos'.line (PySem.W.envX qual scope L f (.ref cda) [("__class__", cc)]) = pure false := by intro _; rfl)
    (pl : Addr → Sem Bool) (he : ∀ L, eval (.Call (.Attribute (.Call (.Name "super" p0) [] [] p1) "__init__" pa) (e :: es) [] pos) (PySem.W.envX qual scope L f (.ref cda) [("__class__", cc)]) = (do
      let ov ← attributeBase (.Call (.Name "super" p0) [] [] p1) "__init__" (PySem.W.envX qual scope L f (.ref cda) [("__class__", cc)]) (eval (.Call (.Name "super" p0) [] [] p1) (PySem.W.envX qual scope L f (.ref cda) [("__class__", cc)]))
      standAt pa.atName
      let (f', first) ← holding [ov] (getMethod ov "__init__" (pl L))
      callWith pos f' first (backTo pos (starEach (e :: es) (PySem.W.envX qual scope L f (.ref cda) [("__class__", cc)]))) [])) :
    FnG P w K mg base (k + 1) f (PySem.W.fnX name qual params (.Expr (.Call (.Attribute (.Call (.Name "super" p0) [] [] p1) "__init__" pa) (e :: es) [] pos) pos' :: body) scope [("__class__", cc)] dV kV doc pm an (.ref cda) ct) ps (spI K cl' i np) := by
  refine ⟨fun vs H Q E h => h.1.trans hn.symm, fun A outer s H args us vs Q E hg room e0 hb rel hsp => ?_⟩
  obtain ⟨hl, ι, ih, ds, S0, rs, q⟩ := hsp
  rw [hcl] at q
  by_cases hse : selfExc c ds ih = true
  · rw [if_pos hse] at q
    have inH : ∀ b o, base.get? b = some o → s.heap.get? b = some o := fun b o e => (e0.bs b o e).1
    have KX : K.In s.heap := e0.mod.kin.keeps inH
    obtain ⟨ccl, ccd, csl, hcell⟩ := T.cell
    have hpl2 : ps.length + 1 ≤ N.length := by
      have q := congrArg List.length S.pre
      rw [List.length_take, List.length_append] at q
      simp at q
      omega
    refine PySem.ks_codeAny_call_defAt (fd := PySem.W.fnX name qual params (.Expr (.Call (.Attribute (.Call (.Name "super" p0) [] [] p1) "__init__" pa) (e :: es) [] pos) pos' :: body) scope [("__class__", cc)] dV kV doc pm an (.ref cda) ct) (binds := ps.zip us) room.depth (KX _ _ lk) rfl (e0.mod.nolimit.keeps inH) (PySem.W.codeRec_of KX hcd) rfl hb S.nocell (fun y hy => S.par y.1 (List.of_mem_zip hy).1) (fun h₁ hns kp => ?_) S.co S.gen S.kind
    have C : CellsAt [("__class__", cc)] ["__class__"] [none] s.heap H := by
      refine ⟨rfl, fun y c hy => ?_, fun x y c hx hy => ?_, fun j y hj => ?_⟩
      · have hy' : y = "__class__" ∧ c = cc := by
          rw [List.lookup_cons] at hy
          cases hb : y == ("__class__" : Str) with
          | true => rw [hb] at hy; cases hy; exact ⟨eq_of_beq hb, rfl⟩
          | false => rw [hb] at hy; cases hy
        obtain ⟨rfl, rfl⟩ := hy'
        have hk := e0.mod.kin _ _ hcell
        exact ⟨(e0.bs _ _ hk).2, _, _, (e0.bs _ _ hk).1, rfl⟩
      · have f1 : ∀ z, List.lookup z [(("__class__" : Str), cc)] = some c → z = "__class__" := fun z hz => by
          rw [List.lookup_cons] at hz
          cases hb : z == ("__class__" : Str) with
          | true => exact eq_of_beq hb
          | false => rw [hb] at hz; cases hz
        rw [f1 x hx, f1 y hy]
      · cases j with
        | zero => cases hj; exact ⟨cc, rfl, fun v hv => by cases hv⟩
        | succ j => cases j <;> cases hj
    have hvl : vs.length = ps.length := by rw [hl, hn]
    have I : Inv (ncx (L2.CX P w) P w K mg base N ⟨name, qual, params, .Expr (.Call (.Attribute (.Call (.Name "super" p0) [] [] p1) "__init__" pa) (e :: es) [] pos) pos' :: body, scope, [("__class__", cc)], cda⟩ f A outer s H E) [] (startF N vs [none]) H { s with heap := h₁, toks := s.toks + (ps.zip us).length } :=
      inv_startN (CX := L2.CX P w) (E := E) S room.hd e0 hvl rel C hns kp
    -- the object itself
    obtain ⟨n, a, rest, hd0, hv0, hHa⟩ : ∃ (n : Nat) (a : Addr) (rest : List D), ds = .loc n :: rest ∧ vs[0]? = some (.ref a) ∧ H a = some (exo a (He.ga K c) none) := by
      unfold selfExc at hse
      cases rs with
      | nil => cases hse
      | @cons x v xs vs' r1 rr =>
        cases r1 with
        | loc n a ha =>
          dsimp only at hse
          obtain ⟨cell, hc, ok⟩ := S0.at_ ha
          rw [hc] at hse
          cases cell with
          | exc c' dd =>
            cases dd with
            | none =>
              have : c' = c := eq_of_beq hse
              subst this
              obtain ⟨_, dx, e, hH, hd⟩ := ok
              cases e
              subst hd
              exact ⟨n, a, xs, rfl, rfl, hH⟩
            | some m => cases hse
          | _ => cases hse
        | _ => cases hse
    have pos0 : 0 < ps.length := (List.getElem?_eq_some_iff.mp hps).1
    have hN0 : N[0]? = some slf := by
      have h2 : (N.take (ps.length + [("__class__" : Str)].length))[0]? = some slf := by
        rw [S.pre, List.getElem?_append_left pos0]
        exact hps
      rw [List.getElem?_take_of_lt (by simp)] at h2
      exact h2
    have hσ : ∀ j, j < np → ∃ v, (startF N vs [none])[j]? = some (some v) := fun j hj => by
      have hj' : j < vs.length := by rw [hl]; exact hj
      refine ⟨vs[j], ?_⟩
      unfold startF
      rw [List.getElem?_append_left (by simpa using hj'), List.getElem?_map, List.getElem?_eq_getElem hj']
      rfl
    have hσ0 : (startF N vs [none])[0]? = some (some (.ref a)) := by
      unfold startF
      rw [List.getElem?_append_left (by rw [List.length_map, hvl]; exact pos0), List.getElem?_map, hv0]
      rfl
    have tk := takes_of (X := ncx (L2.CX P w) P w K mg base N ⟨name, qual, params, .Expr (.Call (.Attribute (.Call (.Name "super" p0) [] [] p1) "__init__" pa) (e :: es) [] pos) pos' :: body, scope, [("__class__", cc)], cda⟩ f A outer s H E) (E := E) rfl rfl rfl rfl
    have ht := hbody A outer s H E hg ⟨hg, passes_call tk fun cls dd σ H' h => by
      obtain ⟨c, n, ih', ι', a, rfl, rfl, e, _, z⟩ := h
      exact z a e⟩
    refine PySem.ks_wpAt_execs_cons (PySem.ks_wpAt_mono (sup_stmt (X := ncx (L2.CX P w) P w K mg base N ⟨name, qual, params, .Expr (.Call (.Attribute (.Call (.Name "super" p0) [] [] p1) "__init__" pa) (e :: es) [] pos) pos' :: body, scope, [("__class__", cc)], cda⟩ f A outer s H E) (pl := pl s.heap.objs.size)
      (hsup _) T I hN0 (S.par slf (List.mem_of_getElem? hps)) hσ0 hHa (hnm A outer s H E) (fun j hj => hσ j (his j hj)) hsm (he _) (hst _) (hpl _) (by
        show interactive (PySem.W.envX qual scope _ f (.ref cda) [("__class__", cc)]) = false
        unfold interactive
        simp [S.kind]) (hsw _)) (fun fl s' hfl => ?_) fun _ _ z => z)
    obtain ⟨rfl, I'⟩ := hfl
    refine PySem.wpAt_of_wpAny ?_
    have R : REnv K ι H (ds.map some ++ List.replicate (N.length - ds.length) none) (startF N vs [none]) := env_startF rs (by rw [rs.length, hvl]; exact hpl2)
    refine wpAny_mono (ht.run [] s' (startF N vs [none]) H { nx := fun _ H' => Q .non H', rt := Q } I' ⟨ι, _, ih, S0, R, ?_⟩) (fun fl s' hs => ?_) fun _ _ z => z
    · refine (Out.bind q).mono fun fl ih' ι' H' S' E' q' => ?_
      cases fl with
      | nx ρ' => exact fun σ' _ => Out.here (W := WE K E) S' q' _ .non
      | rt v => exact Out.here (W := WE K E) S' q'
      | bk ρ' => exact q'.elim
      | ct ρ' => exact q'.elim
    · cases fl with
      | ret u => obtain ⟨v, σ', H', J, rv, q⟩ := hs; exact ⟨v, H', J.os, J.bare, J.base, J.hok, rv, q⟩
      | next => obtain ⟨σ', H', J, q⟩ := hs; exact ⟨.non, H', J.os, J.bare, J.base, J.hok, rfl, q⟩
      | brk => obtain ⟨_, _, _, q⟩ := hs; exact q.elim
      | cont => obtain ⟨_, _, _, q⟩ := hs; exact q.elim
  · rw [if_neg hse] at q
    exact q.elim
end IM
end

section
set_option Elab.async false
set_option linter.all false
set_option maxRecDepth 100000
set_option maxHeartbeats 1000000
/-! Keywords; exceptions as values. -/
namespace IM
open PySem PySem.Spec PyProof.Rows L2

abbrev SK (X : Cx) (W : Wx) (cl : CallT) (e : List Keyword) (d : DA) : Prop := PK X e (tA X.K W cl d)
theorem pkOf {X : Cx} {e : List Keyword} {t t' : TA} (h : PK X e t) (c : ∀ σ H Q, t' σ H Q → t σ H Q) : PK X e t' := ⟨fun pos pins s σ H Q I q => h.run pos pins s σ H Q I (c σ H Q q)⟩
/-- the fit of a keyword call's order -/
def FitD (gV : List V → List V → List V) (gD : List D → List D → List D) : Prop := ∀ {K : PySem.W.Frag} {ι : Io} {H : Hp} {a b : List D} {u v : List V}, RDs K ι H a u → RDs K ι H b v → RDs K ι H (gD a b) (gV u v)
/-- C(k = v, ..) of an exception's class: the object -/
def gMkExc (c : Str) (i : Nat) (gD : List D → List D → List D) (m : Nat) (cl : CallT) : List D → IH → Res D := fun zs ih => if zs.length = m then (cl i (gD [.loc ih.length] zs) (ih ++ [.exc c none])).bind fun v ih' => match v with
    | .non => .ok (.loc ih.length) ih'
    | _ => .bad
  else .bad
def dMkExc (c : Str) (i : Nat) (gD : List D → List D → List D) (m : Nat) (r : DA) : DE := fun cl ρ ih => (r cl ρ ih).bind fun zs ih => gMkExc c i gD m cl zs ih
section
variable {X : Cx} {W : Wx} {cl : CallT}
theorem sk_nil : SK X W cl [] dNil := pkOf pk_nil fun σ H Q ⟨ι, ρ, ih, S, R, q⟩ => (Out.here S q) _ .nil
theorem sk_cons {e : Expr} {kws : List Keyword} {nm : Option Str} {kpos : Pos} {d : DE} {r : DA} (ha : SE X W cl e d) (hr : SK X W cl kws r) : SK X W cl (⟨nm, e, kpos⟩ :: kws) (dCons d r) := pkOf (pk_cons ha hr) fun σ H Q ⟨ι, ρ, ih, S, R, q⟩ => by
  refine (tE.seq S R q).weaken fun ux H1 ⟨ι1, ih1, x, S1, E1, rx, R1, q1⟩ => ?_
  refine (tA.seq S1 R1 q1).weaken fun us H2 ⟨ι2, ih2, xs, S2, E2, rs, R2, q2⟩ => ?_
  exact (Out.here S2 q2) _ (.cons (rx.mono S1 E2) rs)
theorem runExc {pins : List (Addr × Obj)} {σ : L2.St} {H : Hp} {s : Shared} {Q : VK} {ws : List Value} {vs : List V} {k i m np : Nat} {f : Addr} {fd : FuncData} {ps ks : List Str} {g : List Value → List Value → List Value} {gV : List V → List V → List V} {gD : List D → List D → List D} {c : Str} {cc : Addr} {ι : Io} {ih : IH} {zs : List D}
    (T : ExF X.K c cc) (iC : PySem.W.findIn X.K (.ref (He.ga X.K c)) "__init__" = some (some (.ref f))) (tI : PySem.W.typeIn X.K (.ref f) = some (.type "function")) (F : FnG X.prog X.w X.K X.mg X.base k f fd ps (spI X.K cl i np)) (hb : KBn X.K fd ps 1 ks g gV) (hf : FitD gV gD) (hD : ∀ a b : List D, a.length = 1 → b.length = m → (gD a b).length = np) (hks : ks.length = m)
    (cc' : Cal X W) (hr : Room (k + 1) X.A) (I : Inv X pins σ H s) (r : Vals vs ws) (S : Sim X.K ι ih H) (rs : RDs X.K ι H zs vs) (q : Out X.K ι H W (EndV X.K Q) (gMkExc c i gD m cl zs ih)) : wpAny (model X.prog X.w) X.A (call (.ref (He.ga X.K c)) [] (ks.zip ws)) (EP X pins σ Q) X.xe s := by
  obtain ⟨nm, qn, N, bs, bm, sn, sub, ab, col, dd, k0, k1, k2, k3, k5, hC, hbm⟩ := T.ox.cls
  unfold gMkExc at q
  by_cases hm : zs.length = m
  · rw [if_pos hm] at q
    obtain ⟨hp, g0, dr, tk, os⟩ := s
    have hsz : hp.objs.size ≤ hp.objs.size + 1 := Nat.le_succ _
    obtain ⟨x, ex⟩ : ∃ x, x = hp.objs.size + 1 := ⟨_, rfl⟩
    have hn : H x = none := by rw [ex]; exact I.hok.fresh hsz
    obtain ⟨S2, E2⟩ := S.push (o := exo x (He.ga X.K c) none) (c := .exc c none) hn ⟨x, none, rfl, upd_same, rfl⟩
    have kk : ∀ b o, hp.get? b = some o → ((hp.push (PySem.W.kdv_tup [])).push (PySem.HandSPX.excO (He.ga X.K c) hp.objs.size)).get? b = some o := fun b o e => Heap.get?_push_of_some _ (Heap.get?_push_of_some _ e)
    have hget : ((hp.push (PySem.W.kdv_tup [])).push (PySem.HandSPX.excO (He.ga X.K c) hp.objs.size)).get? x = some (PySem.HandSPX.excO (He.ga X.K c) hp.objs.size) := by rw [ex]; heap_get
    have I2 : Inv X pins σ (upd H x (exo x (He.ga X.K c) none)) ⟨(hp.push (PySem.W.kdv_tup [])).push (PySem.HandSPX.excO (He.ga X.K c) hp.objs.size), g0, dr, tk, os⟩ :=
      I.laid (t' := tk) (a := x) (o := exo x (He.ga X.K c) none) (h' := (hp.push (PySem.W.kdv_tup [])).push (PySem.HandSPX.excO (He.ga X.K c) hp.objs.size)) kk (by rw [ex]; exact hsz) (exo_ok hget)
    have r1 : Vals [V.ref x] [Value.ref x] := .cons rfl .nil
    have r2 := hb.rel r1 r
    have rx : RDs X.K (ι ++ [some x]) (upd H x (exo x (He.ga X.K c) none)) [.loc ih.length] [.ref x] := .cons (.loc _ x (by rw [← S.len]; simp)) .nil
    have rd := hf rx (rs.mono S E2)
    have hl0 : (gV [V.ref x] vs).length = np := by rw [← rd.length]; exact hD _ _ rfl hm
    have hlw : ws.length = ks.length := by rw [← r.length, ← rs.length, hm, hks]
    have hsp : spI X.K cl i np (gV [V.ref x] vs) (upd H x (exo x (He.ga X.K c) none)) (fun v H2 => v = .non ∧ Q (.ref x) H2) (EW X.K W) := by
      refine ⟨hl0, ι ++ [some x], ih ++ [.exc c none], gD [.loc ih.length] zs, S2, rd, ?_⟩
      refine Out.toWE ((Out.bind (Out.rebase E2 q)).mono fun v ih' ι' H' S' E' q' u ru => ?_)
      cases ru with
      | non => exact ⟨rfl, (Out.here S' q') _ (.loc _ x (E'.pre _ _ (by rw [← S.len]; simp)))⟩
      | _ => exact q'.elim
    refine wpAny_call (IMX.call_kw PySem.F.excBase_ValueError (fun Y => PySem.HandSPX.refsVE_contains Y bm hbm) (I.kIn _ _ hC) (PySem.W.looks_findIn I.kIn iC) (fun self => PySem.W.bind_fn I.kIn self tI) (by rw [sizeLine_eq]; simp) ?_)
    rw [← ex]
    refine codeAny_mono (F.go _ X.stack _ _ ⟨[Value.ref x], ks.zip ws⟩ (g [Value.ref x] ws) _ _ (EW X.K W) (make_guards cc'.g) (hr.make _ [] _) (I2.env0.make _ [] _) (hb.to _ [Value.ref x] ws I2.kIn rfl hlw) r2 hsp) fun res s' hq' => ?_
    cases res with
    | error e => exact cc'.hx pins σ _ _ e s' I2 hq'
    | ok fl =>
      cases fl with
      | ret u =>
        obtain ⟨v, H', I3, rv, ev, q3⟩ := I2.after hq'
        subst ev
        exact ⟨rv, ⟨V.ref x, H', I3, rfl, q3⟩⟩
      | next => exact False.elim hq'
      | brk => exact False.elim hq'
      | cont => exact False.elim hq'
  · rw [if_neg hm] at q
    exact q.elim
theorem se_mkExc {k i m np : Nat} {f : Addr} {fd : FuncData} {ps ks : List Str} {g : List Value → List Value → List Value} {gV : List V → List V → List V} {gD : List D → List D → List D} {c x : Str} {cc : Addr} {kws : List Keyword} {r : DA} {p pos : Pos}
    (T : ExF X.K c cc) (iC : PySem.W.findIn X.K (.ref (He.ga X.K c)) "__init__" = some (some (.ref f))) (tI : PySem.W.typeIn X.K (.ref f) = some (.type "function")) (F : FnG X.prog X.w X.K X.mg X.base k f fd ps (spI X.K cl i np)) (hb : KBn X.K fd ps 1 ks g gV) (hf : FitD gV gD) (hD : ∀ a b : List D, a.length = 1 → b.length = m → (gD a b).length = np) (hks : ks.length = m)
    (cc' : Cal X W) (hr : Room (k + 1) X.A) (hm : X.mg x = some (.ref (He.ga X.K c))) (hkw : SK X W cl kws r) (hg : Gl X x := by rfl)
    (hall : (backToKw pos (keywordEach kws X.env)).all (·.1.isSome) = true := by rfl) (hks2 : (backToKw pos (keywordEach kws X.env)).filterMap (·.1) = ks := by rfl) (hdb : (x == ("__debug__" : Str)) = false := by decide)
    (hpl : ((backTo pos (starEach [] X.env)).any (·.1) || (backToKw pos (keywordEach kws X.env)).any (·.1.isNone)) = false := by rfl) :
    SE X W cl (.Call (.Name x p) [] kws pos) (dMkExc c i gD m r) := by
  refine ⟨fun pins s σ H Q I h => ?_⟩
  obtain ⟨ι, ρ, ih, S, R, q⟩ := h
  refine wpAny_Call_Name_kw (ld_glob I hg hm ?_ hdb)
  refine PySem.W.callWith_KW0 (h₀ := X.base) I.ok.mod.kin T.ox.kC hall ?_ hpl
  refine thn (hkw.run pos pins s σ H _ I (tA.seq S R q)) fun ws s2 ⟨zs, H2, I2, rz, ι2, ih2, xs, S2, E2, rs2, R2, q2⟩ => ⟨I2.kIn, ?_⟩
  rw [hks2]
  exact runExc T iC tI F hb hf hD hks cc' hr I2 rz S2 rs2 q2
end
end IM
end

section
set_option Elab.async false
set_option linter.all false
set_option maxRecDepth 100000
set_option maxHeartbeats 1000000
/-! The law's end; the head's own look. -/
namespace IM
open PySem PySem.Spec PyProof.Rows L2

/-! ### what the head looks at -/
def asH (g : Addr → Option Obj) (n : Nat) : List Addr := sysModules :: cStatics :: He.asD g n
/-- a def that closes over its class -/
structure DefX where
  cls : Str
  name : Str
  qual : Str
  params : Arguments
  body : List Stmt
  scope : Scope
abbrev FnX : Type := Option (Str × Str × Arguments × FuncBody × Scope × Addr × List Str × Addr)
def DefX.at_ (K : PySem.W.Frag) (d : DefX) : Addr := He.ma K (He.ga K d.cls) d.name
def fnX (K : PySem.W.Frag) (a : Addr) : FnX := match K.lookup a with
  | some ⟨_, _, .func fd, _⟩ => some (fd.name, fd.qualname, fd.params, fd.body, fd.scope, fd.globals, fd.closure.map (·.1), fd.builtins)
  | _ => none
def DefX.val (d : DefX) : FnX := some (d.name, d.qual, d.params, FuncBody.stmts d.body, d.scope, mainGlobals, [("__class__" : Str)], builtinsNs)
/-- the cell of the class, its code's object -/
def DefX.ok (F : Str) (K : PySem.W.Frag) (d : DefX) : Bool := match K.lookup (d.at_ K) with
  | some ⟨_, _, .func fd, _⟩ => (match fd.closure with
    | [(_, cc)] => (match K.lookup cc with
      | some ⟨_, _, .cell (some (.ref D)), _⟩ => decide (D = He.ga K d.cls)
      | _ => false)
    | _ => false) && ((match fd.code with
    | .ref cda => PySem.W.codeIn K (.ref cda) d.qual && (match K.lookup cda with
      | some ⟨_, _, .fields vs, _⟩ => (match (vs[2]? : Option Value) with
        | some (.str f _) => f == F
        | _ => false)
      | _ => false)
    | _ => false) && ((match fd.defaults with
    | .none => true
    | _ => false) && true))
  | _ => false
abbrev AlI : Type := Bool × List He.FnW × List FnX
def obsI (F : Str) (fs : List (PySem.W.Frag → Bool)) (fn : List He.DefD) (fx : List DefX) (K : PySem.W.Frag) : AlI := (fs.all (fun f => f K) && (fn.all (fun d => d.ok K) && fx.all fun d => d.ok F K), fn.map fun d => He.fnW K d.at_, fx.map fun d => fnX K (d.at_ K))
def valI (fn : List He.DefD) (fx : List DefX) : AlI := (true, fn.map He.DefD.val, fx.map DefX.val)
def SaysI (F : Str) (fs : List (PySem.W.Frag → Bool)) (fn : List He.DefD) (fx : List DefX) (K : PySem.W.Frag) : Prop := obsI F fs fn fx K = valI fn fx
def obsIG (n : Nat) (F : Str) (fs : List (PySem.W.Frag → Bool)) (fn : List He.DefD) (fx : List DefX) (g : Addr → Option Obj) : AlI := obsI F fs fn fx (He.frG g (asH g n))
def hookI (n : Nat) (F : Str) (fs : List (PySem.W.Frag → Bool)) (fn : List He.DefD) (fx : List DefX) : PySem.W.Hook where
  α := AlI
  obs := fun s => obsIG n F fs fn fx s.heap.get?
  val := fun _ => valI fn fx
  says := fun _ h => ∃ K : PySem.W.Frag, K.In h ∧ SaysI F fs fn fx K
  of := fun _ _ e => ⟨_, He.frG_in, e⟩
  keeps := fun _ _ _ ⟨K, hK, c⟩ k => ⟨K, PySem.W.Frag.In.keeps hK k, c⟩
theorem obsIG_eq {n : Nat} {F : Str} {fs : List (PySem.W.Frag → Bool)} {fn : List He.DefD} {fx : List DefX} {g : Addr → Option Obj} {s : Shared} (h : ∀ a, g a = s.heap.get? a) : obsIG n F fs fn fx g = (hookI n F fs fn fx).obs s := by
  have e : g = s.heap.get? := funext h
  rw [e] <;> rfl
section
variable {F : Str} {fs : List (PySem.W.Frag → Bool)} {fn : List He.DefD} {fx : List DefX} {K : PySem.W.Frag}
theorem SaysI.all (c : SaysI F fs fn fx K) : (fs.all (fun f => f K) && (fn.all (fun d => d.ok K) && fx.all fun d => d.ok F K)) = true := congrArg (fun z : AlI => z.1) c
theorem SaysI.fact (c : SaysI F fs fn fx K) (i : Nat) {f : PySem.W.Frag → Bool} (h : fs[i]? = some f := by rfl) : f K = true :=
  List.all_eq_true.mp (Bool.and_eq_true_iff.mp c.all).1 f (List.mem_of_getElem? h)
theorem SaysI.def_ (c : SaysI F fs fn fx K) (i : Nat) {d : He.DefD} (h : fn[i]? = some d := by rfl) : ∃ fd, FunD K d.name d.qual d.params d.body d.scope (d.dvs K) (d.kws K) (He.fAd K d.at_) fd := by
  have c2 := (Bool.and_eq_true_iff.mp (Bool.and_eq_true_iff.mp c.all).2).1
  have e : fn.map (fun d => He.fnW K d.at_) = fn.map He.DefD.val := congrArg (fun z : AlI => z.2.1) c
  have e2 : (fn.map fun d => He.fnW K d.at_)[i]? = (fn.map He.DefD.val)[i]? := by rw [e]
  rw [List.getElem?_map, List.getElem?_map, h] at e2
  exact He.DefD.funD (Option.some.inj e2) (List.all_eq_true.mp c2 d (List.mem_of_getElem? h))
/-- what is known of a def that closes over its class -/
structure FunX (F : Str) (K : PySem.W.Frag) (d : DefX) (fd : FuncData) (cc cda : Addr) : Prop where
  ex : ∃ (oc : Value) (od : Option Addr) (kV doc pm ct : Value) (an : Option Addr) (osl : Array (Option Value)), fd = PySem.W.fnX d.name d.qual d.params d.body d.scope [("__class__", cc)] .none kV doc pm an (.ref cda) ct ∧ K.lookup (d.at_ K) = some ⟨oc, od, .func fd, osl⟩
  cell : ∃ cl cld csl, K.lookup cc = some ⟨cl, cld, .cell (some (.ref (He.ga K d.cls))), csl⟩
  code : PySem.W.codeIn K (.ref cda) d.qual = true
  file : ∃ ccl cdd vs ccs tf, K.lookup cda = some ⟨ccl, cdd, .fields vs, ccs⟩ ∧ vs[2]? = some (.str F tf)
theorem SaysI.defX (c : SaysI F fs fn fx K) (i : Nat) {d : DefX} (h : fx[i]? = some d := by rfl) : ∃ fd cc cda, FunX F K d fd cc cda := by
  have c2 := List.all_eq_true.mp (Bool.and_eq_true_iff.mp (Bool.and_eq_true_iff.mp c.all).2).2 d (List.mem_of_getElem? h)
  have e : fx.map (fun d => fnX K (d.at_ K)) = fx.map DefX.val := congrArg (fun z : AlI => z.2.2) c
  have e2 : (fx.map fun d => fnX K (d.at_ K))[i]? = (fx.map DefX.val)[i]? := by rw [e]
  rw [List.getElem?_map, List.getElem?_map, h] at e2
  have e3 : fnX K (d.at_ K) = d.val := Option.some.inj e2
  unfold fnX at e3
  unfold DefX.ok at c2
  cases q : K.lookup (d.at_ K) with
  | none => rw [q] at c2; cases c2
  | some o =>
    obtain ⟨oc, od, dt, osl⟩ := o
    rw [q] at c2 e3
    cases dt with
    | func fd =>
      obtain ⟨n1, n2, n3, n4, n5, n6, n7, n8, n9, n10, n11, n12, n13, n14, n15⟩ := fd
      have e4 : (some (n1, n2, n3, n4, n5, n6, n7.map (·.1), n15) : FnX) = some (d.name, d.qual, d.params, FuncBody.stmts d.body, d.scope, mainGlobals, [("__class__" : Str)], builtinsNs) := e3
      simp only [Option.some.injEq, Prod.mk.injEq] at e4
      obtain ⟨h1, h2, h3, h4, h5, h6, h7, h8⟩ := e4
      subst h1 h2 h3 h4 h5 h6 h8
      rw [Bool.and_eq_true, Bool.and_eq_true, Bool.and_eq_true] at c2
      obtain ⟨c3, c4, c5, _⟩ := c2
      have hlen : n7.length = 1 := by simpa using congrArg List.length h7
      cases n7 with
      | nil => cases hlen
      | cons p n7 =>
        cases n7 with
        | cons _ _ => simp at hlen
        | nil =>
          obtain ⟨y, cc⟩ := p
          have hy : y = "__class__" := by
            have : [y] = [("__class__" : Str)] := h7
            exact (List.cons.inj this).1
          subst hy
          cases n13 with
          | ref cda =>
            dsimp only at c3 c4 c5
            rw [Bool.and_eq_true] at c4
            obtain ⟨c6, c7⟩ := c4
            cases n8 with
            | none =>
              refine ⟨_, cc, cda, ⟨⟨oc, od, n9, n10, n11, n14, n12, osl, rfl, q⟩, ?_, c6, ?_⟩⟩
              · cases q2 : K.lookup cc with
                | none => rw [q2] at c3; cases c3
                | some o2 =>
                  obtain ⟨a1, a2, a3, a4⟩ := o2
                  rw [q2] at c3
                  cases a3 with
                  | cell v =>
                    cases v with
                    | none => cases c3
                    | some v =>
                      cases v with
                      | ref D =>
                        have := of_decide_eq_true c3
                        subst this
                        exact ⟨_, _, _, rfl⟩
                      | _ => cases c3
                  | _ => cases c3
              · cases q2 : K.lookup cda with
                | none => rw [q2] at c7; cases c7
                | some o2 =>
                  obtain ⟨a1, a2, a3, a4⟩ := o2
                  rw [q2] at c7
                  cases a3 with
                  | fields vs =>
                    dsimp only at c7
                    cases q3 : (vs[2]? : Option Value) with
                    | none => rw [q3] at c7; cases c7
                    | some v =>
                      rw [q3] at c7
                      cases v with
                      | str f t =>
                        have : f = F := eq_of_beq c7
                        subst this
                        exact ⟨_, _, _, _, _, rfl, q3⟩
                      | _ => cases c7
                  | _ => cases c7
            | _ => cases c5
          | _ => cases c4
    | _ => cases c2
end
end IM
end

section
set_option Elab.async false
set_option linter.all false
set_option maxRecDepth 100000
set_option maxHeartbeats 1000000
/-! The law's end over the interpreter. -/
namespace IM
open PySem PySem.Spec PyProof.Rows L2

theorem rds_ints {K : PySem.W.Frag} {H : Hp} : ∀ ns : List Int, RDs K [] H (ns.map D.int) (ns.map V.int)
  | [] => .nil
  | n :: ns => .cons (.int n) (rds_ints ns)
theorem sim_nil {K : PySem.W.Frag} {H : Hp} : Sim K [] [] H := ⟨rfl, fun n m a h => by simp at h, fun n c oa h => by simp at h⟩
/-- what the script's list is to the heap -/
structure ScrOk (K : PySem.W.Frag) (P : Program) (w : World) (s : Shared) (a : Addr) (ns : List Int) (H : Hp) : Prop where
  ok : HOk P w H s.heap
  sq : SqF K H a (ns.map V.int)
  at_ : ∀ b u, H b = some u → b = a ∧ K.lookup a = none ∧ ∃ ob xs, u = .frz ob (.lst xs)
theorem scr_of {K : PySem.W.Frag} {P : Program} {w : World} {s : Shared} {a : Addr} {vs : List Value} {ns : List Int} (KX : K.In s.heap) (ha : s.heap.get? a = some { cls := .type "list", data := .seq vs.toArray }) (hi : IntsAre vs ns) (hl : ns.length ≤ sizeLine) : ∃ H, ScrOk K P w s a ns H := by
  have rv := vals_ints hi
  have lenV := hi.length
  cases hk : K.lookup a with
  | some o =>
    have e := (KX a o hk).symm.trans ha
    refine ⟨fun _ => none, ⟨(fun b o z => by cases z), .inr ⟨o, vs.toArray, 0, hk, ?_, ?_, ?_, (by rw [List.size_toArray, lenV]; exact hl), (by simpa using rv)⟩, (fun b u z => by cases z)⟩⟩
    · rw [Option.some.inj e]
    · rw [Option.some.inj e]
    · rw [Option.some.inj e]
  | none =>
    refine ⟨upd (fun _ => none) a (.frz { cls := .type "list", data := .seq vs.toArray } (.lst (ns.map V.int))), ⟨fun b u z => ?_, .inl ⟨_, upd_same⟩, fun b u z => ?_⟩⟩
    · by_cases hb : b = a
      · subst hb
        rw [upd_same] at z
        cases z
        exact ⟨ha, by rw [List.length_map]; exact hl, vs, 0, rv, ha⟩
      · rw [upd_ne hb] at z
        cases z
    · by_cases hb : b = a
      · subst hb
        rw [upd_same] at z
        cases z
        exact ⟨rfl, hk, _, _, rfl⟩
      · rw [upd_ne hb] at z
        cases z
/-- the law's def called, from the interpreter's answer -/
theorem end_call {P : Program} {w : World} {K : PySem.W.Frag} {mg mb : Str → Option Value} {k i : Nat} {fa a : Addr} {fd : FuncData} {x : Str} {cl : CallT} {s : Shared} {vs : List Value} {ns : List Int}
    (KX : K.In s.heap) (hns : s.heap.Ns mainGlobals mg) (hb : s.heap.Ns builtinsNs mb) (hbb : ∀ x : Str, x ≠ "__name__" → mb x = bootBuiltins x) (hlim : s.heap.NoLimit) (hg : s.gens = #[])
    (ha : s.heap.get? a = some { cls := .type "list", data := .seq vs.toArray }) (hi : IntsAre vs ns) (hl : ns.length ≤ sizeLine) (hr : Room k callerA)
    (F : ∀ base : Heap, K.In base → base.Ns mainGlobals mg → FnG P w K mg base k fa fd [x] (spI K cl i 1)) (hbind : ∀ (s : Shared) (u : Value), BindsTo s fd ⟨[u], []⟩ [(x, u)])
    (hsp : ∃ ih', cl i [.lit (ns.map D.int)] [] = .ok (.bl true) ih') :
    codeAny (model P w) callerA (.call (.ref fa) ⟨[.ref a], []⟩) (fun r s' => r = .ok (.ret (.bool true)) ∧ OldK s.heap s'.heap ∧ s'.os = s.os ∧ AllBare s'.gens) s := by
  obtain ⟨H, S⟩ := scr_of (P := P) (w := w) KX ha hi hl
  obtain ⟨ih', he⟩ := hsp
  -- the heap without the script
  have keepB : ∀ {b : Addr} {o : Obj}, s.heap.get? b = some o → (b = a → K.lookup a ≠ none) ∨ (∀ vs' : Array Value, ∀ n, o.data ≠ .seq vs' n) → (hidT s.heap H).get? b = some o := fun {b o} e h => by
    refine hidT_get e ?_
    cases q : H b with
    | none => rfl
    | some u =>
      obtain ⟨rfl, hk, _⟩ := S.at_ b u q
      rcases h with h | h
      · exact absurd hk (h rfl)
      · rw [ha] at e
        cases e
        exact absurd rfl (h _ _)
  have nsK : ∀ {b : Addr} {m : Str → Option Value}, s.heap.Ns b m → (hidT s.heap H).Ns b m := fun {b m} ⟨o, es, ep, e, d, r⟩ => ⟨o, es, ep, keepB e (.inr fun vs' n z => by rw [d] at z; cases z), d, r⟩
  have hKb : K.In (hidT s.heap H) := fun b o e => keepB (KX b o e) (.inl fun z => by rw [← z, e]; simp)
  have hM : Mod K mg (hidT s.heap H) := ⟨hKb, nsK hns, ⟨mb, nsK hb, hbb⟩, let ⟨mc, h1, h2⟩ := hlim; ⟨mc, nsK h1, h2⟩⟩
  have e0 : Env0 P w K mg (hidT s.heap H) callerA [] s H := ⟨rfl, hM, fun b o e => of_hidT e, Nat.le_of_eq (hidT_size _ _), trivial, fun b hb => absurd (show b ∈ ([] : List Addr) from hb) (by simp), S.ok, .of_eq hg⟩
  have hsp : spI K cl i 1 [.ref a] H (fun v _ => v = .bl true) (fun _ _ _ => False) := by
    refine ⟨rfl, [], [], [.lit (ns.map D.int)], sim_nil, .cons (.lit _ a _ S.sq (rds_ints ns)) .nil, ?_⟩
    rw [he]
    exact fun ι' H' _ _ u ru => by cases ru; rfl
  refine codeAny_mono ((F _ hKb (nsK hns)).go callerA [] s H ⟨[.ref a], []⟩ [.ref a] [.ref a] _ (fun _ _ _ => False) rfl hr e0 (hbind s (.ref a)) (.cons rfl .nil) hsp) fun r s' h => ?_
  cases r with
  | error e =>
    obtain ⟨_, _, _, _, _, _, _, _, _, _, _, _, z⟩ := h
    exact z.elim
  | ok fl =>
    cases fl with
    | next => exact False.elim h
    | brk => exact False.elim h
    | cont => exact False.elim h
    | ret u =>
      obtain ⟨v, H', os, bare, un, hok', r', q⟩ := h
      have q' : v = .bl true := q
      subst q'
      obtain rfl : u = Value.bool true := r'
      refine ⟨rfl, OldK.of_keep fun b o e => ?_, os, bare⟩
      cases q : H b with
      | none => exact un.keep b o e q (by intro z; exact absurd (show b ∈ ([] : List Addr) from z) (by simp)) (by simp)
      | some u =>
        obtain ⟨_, _, ob, xs, rfl⟩ := S.at_ b u q
        obtain ⟨e1, _⟩ := S.ok b _ q
        obtain ⟨e2, _⟩ := hok' b _ (un.frzs b ob _ q)
        rw [e] at e1
        cases e1
        exact e2
theorem walk_ofI {l : PySem.W.OpenLaw} {n k : Nat} {q : Program} {loose : List Str} {XP : (Str → Option Value) → Heap → Prop} {YP : World → Heap → Prop} {d : DefRec} {x : Str}
    (hn : l.most = some n) (hn2 : n ≤ sizeLine) (hdf : d.params.defaults = []) (hr : Room k callerA)
    (F : ∀ (w : World) (mg : Str → Option Value) (fa : Addr) (h : Heap), YP w h → h.Ns mainGlobals mg → mg d.name = some (.ref fa) →
      ∃ (K : PySem.W.Frag) (fd : FuncData) (cl : CallT) (i : Nat), K.In h ∧ (∀ (s : Shared) (u : Value), BindsTo s fd ⟨[u], []⟩ [(x, u)]) ∧
        (∀ ns : List Int, ns.length ≤ n → ∃ ih', cl i [.lit (ns.map D.int)] [] = .ok (.bl true) ih') ∧
        ∀ base : Heap, K.In base → base.Ns mainGlobals mg → FnG l.prog w K mg base k fa fd [x] (spI K cl i 1)) :
    PySem.W.WalkO q loose XP YP l.row.toRowW d [] (fun f vs => PySem.call f vs) := by
  refine Att.attach_call hn hdf fun w s₀ s₁ mg mb fa o pm cd doc a vs ns G Y ho hd hcd hmg hobj hints hlen hg => ?_
  obtain ⟨K, fd, cl, i, KX, hb, hsp, hF⟩ := F w mg fa _ Y G.T.g hmg
  exact end_call KX G.T.g G.T.b G.T.builtins G.T.nolimit hg hobj hints (Nat.le_trans hlen hn2) hr hF hb (hsp ns hlen)
end IM
end

section
set_option Elab.async false
set_option linter.all false
set_option maxRecDepth 100000
/-! Small rules; facts by one look. -/
namespace IM
open PySem PySem.Spec PyProof.Rows L2

def dNeg (d : DE) : DE := fun cl ρ ih => (d cl ρ ih).bind fun x ih => match x with
  | .int i => .ok (.int (-i)) ih
  | _ => .bad
def dDict0 : DE := fun _ _ ih => .ok (.loc ih.length) (ih ++ [C.dic []])
section
variable {X : Cx} {W : Wx} {cl : CallT} {pos : Pos} {a : Expr} {d : DE} {x : Str}
theorem se_neg (ha : SE X W cl a d) : SE X W cl (.UnaryOp .USub a pos) (dNeg d) := peOf (pe_un un_neg ha) fun σ H Q ⟨ι, ρ, ih, S, R, q⟩ => by
  refine (tE.seq S R q).weaken fun ux H1 ⟨ι1, ih1, x, S1, E1, rx, R1, q1⟩ => ?_
  cases rx with
  | int i => exact ⟨i, rfl, Out.here S1 q1 _ (.int _)⟩
  | _ => exact q1.elim
theorem se_dict0 : SE X W cl (.Dict [] [] pos) dDict0 := peOf pe_dnewK fun σ H Q ⟨ι, ρ, ih, S, R, q⟩ p hp => by
  obtain ⟨S1, E1⟩ := S.push (o := .dK []) (c := .dic []) hp ⟨p, [], rfl, upd_same, .nil⟩
  exact (q _ _ S1 E1) _ (.loc _ p (by rw [← S.len]; simp))
/-- a built-in type as a value -/
theorem se_ty {T : String} (hm : X.mg x = none) (hg : Gl X x := by rfl) (hv : bootBuiltins x = some (.type T) := by rfl) (hn : x ≠ "__name__" := by decide) (hd : (x == ("__debug__" : Str)) = false := by decide) : SE X W cl (.Name x pos) (dK (.ty T)) :=
  se_K (pe_bltn (v := .ty T) hg hm hv rfl hn hd) fun _ _ _ => .ty T
/-- a class of the module as a value -/
theorem se_glo (hm : X.mg x = some (.ref (He.ga X.K x))) (hg : Gl X x := by rfl) (hd : (x == ("__debug__" : Str)) = false := by decide) : SE X W cl (.Name x pos) (dK (.glo x)) := peOf (pe_glob (v := .ref (He.ga X.K x)) hg hm rfl hd) fun σ H Q ⟨ι, ρ, ih, S, R, q⟩ => (Out.here S q) _ (.glo x)
end
end IM
end

section
set_option Elab.async false
set_option linter.all false
set_option maxRecDepth 100000
/-! Facts by tables that the head looks up; own == as rules. -/
namespace IM
open PySem PySem.Spec PyProof.Rows L2

/-! ### own == -/
def dOwn (te : Str → Option Nat) (sb : Str → Str → Option Bool) (neg : Bool) (a b : DE) : DE := fun cl ρ ih => (a cl ρ ih).bind fun x ih => (b cl ρ ih).bind fun y ih => gOwn te sb neg cl x y ih
section
variable {X : Cx} {W : Wx} {cl : CallT} {k : Nat} {a b : Expr} {da db : DE} {pos : Pos} {te : Str → Option Nat} {sb : Str → Str → Option Bool}
theorem se_ownE (F : OwF X.prog X.w X.K X.mg X.base k cl te sb) (cc : Cal X W) (hr : Room (k + 1) X.A) (ha : SE X W cl a da) (hb : SE X W cl b db) (hm : behindInMarks .Eq b = false) : SE X W cl (.Compare a [.Eq] [b] pos) (dOwn te sb false da db) :=
  se_cmp (op := .Eq) (os_own false F cc hr) ha hb hm
theorem se_ownN (F : OwF X.prog X.w X.K X.mg X.base k cl te sb) (cc : Cal X W) (hr : Room (k + 1) X.A) (ha : SE X W cl a da) (hb : SE X W cl b db) (hm : behindInMarks .NotEq b = false) : SE X W cl (.Compare a [.NotEq] [b] pos) (dOwn te sb true da db) :=
  se_cmp (op := .NotEq) (os_own true F cc hr) ha hb hm
theorem st_ownE (F : OwF X.prog X.w X.K X.mg X.base k cl te sb) (cc : Cal X W) (hr : Room (k + 1) X.A) (ha : SE X W cl a da) (hb : SE X W cl b db) (hm : behindInMarks .Eq b = false) : ST X W cl (.Compare a [.Eq] [b] pos) (dTst (dOwn te sb false da db)) :=
  st_cmp (op := .Eq) (os_own false F cc hr) ha hb hm
theorem st_ownN (F : OwF X.prog X.w X.K X.mg X.base k cl te sb) (cc : Cal X W) (hr : Room (k + 1) X.A) (ha : SE X W cl a da) (hb : SE X W cl b db) (hm : behindInMarks .NotEq b = false) : ST X W cl (.Compare a [.NotEq] [b] pos) (dTst (dOwn te sb true da db)) :=
  st_cmp (op := .NotEq) (os_own true F cc hr) ha hb hm
/-- within a comprehension -/
theorem Cal.blk (c : Cal X W) {s : Shared} {H : Hp} {scope : Scope} {cl' : List (Str × Addr)} {C : Addr} {fp : List Addr} : Cal (X.blk s H scope (compEnvC scope cl' C X.env) fp) W0 := ⟨c.g, passW0⟩
end

/-! ### tables -/
inductive DK where
  | ty (n : String) | glo (c : Str)
deriving DecidableEq
def keyD : D → Option DK
  | .ty n => some (.ty n)
  | .glo c => some (.glo c)
  | _ => none
def dkV (K : PySem.W.Frag) : DK → Value
  | .ty n => .type n
  | .glo c => .ref (He.ga K c)
theorem keyD_ok {d : D} {q : DK} (h : keyD d = some q) (K : PySem.W.Frag) : isCls d = true ∧ cvV K d = dkV K q := by
  cases d with
  | ty n => cases h; exact ⟨rfl, rfl⟩
  | glo n => cases h; exact ⟨rfl, rfl⟩
  | _ => cases h
def look2 {α β γ : Type} [DecidableEq α] [DecidableEq β] (a : α) (b : β) : List (α × β × γ) → Option γ
  | [] => none
  | (x, y, z) :: r => if x = a ∧ y = b then some z else look2 a b r
theorem look2_mem {α β γ : Type} [DecidableEq α] [DecidableEq β] {a : α} {b : β} {z : γ} : ∀ {l : List (α × β × γ)}, look2 a b l = some z → (a, b, z) ∈ l
  | [], h => by cases h
  | (x, y, w) :: r, h => by
    unfold look2 at h
    split at h
    · rename_i e
      obtain ⟨rfl, rfl⟩ := e
      cases h
      exact List.mem_cons_self
    · exact List.mem_cons_of_mem _ (look2_mem h)
abbrev IsT := List (Kn × DK × Bool)
def tbOf (t : IsT) (k : Kn) (c : D) : Option Bool := match keyD c with
  | some q => look2 k q t
  | none => none
def clsOB (K : PySem.W.Frag) (c : Str) : Bool := (He.Fa.cls c).ok K && (decide (PySem.W.findIn K (.ref (He.ga K c)) "__class__" = some (some (.builtin "object.__class__"))) && (decide (PySem.W.specialIn K (.builtin "object.__class__") "__get__" = some (some (.builtin "getset_descriptor.__get__"))) &&
  (decide (PySem.W.takesIn K (.builtin "object.__class__") = some true) && decide (PySem.W.mroIn K (He.ga K c) (.type "object") = some true))))
def excOB (K : PySem.W.Frag) (c : Str) : Bool := decide (PySem.W.findIn K (.ref (He.ga K c)) "__getattribute__" = some (some (.builtin "BaseException.__getattribute__"))) && (decide (PySem.W.findIn K (.ref (He.ga K c)) "__getattr__" = some none) && (decide (PySem.W.subIn K (.ref (He.ga K c)) (.type "BaseException") = some true) &&
  (PySem.W.hasDictIn K (He.ga K c) && (decide (PySem.W.findIn K (.ref (He.ga K c)) "__class__" = some (some (.builtin "object.__class__"))) && (decide (PySem.W.specialIn K (.builtin "object.__class__") "__get__" = some (some (.builtin "getset_descriptor.__get__"))) &&
  (decide (PySem.W.takesIn K (.builtin "object.__class__") = some true) && decide (PySem.W.mroIn K (He.ga K c) (.type "object") = some true)))))))
theorem clsOB_ok {K : PySem.W.Frag} {c : Str} (h : clsOB K c = true) : Cls K (He.ga K c) ∧ PySem.W.findIn K (.ref (He.ga K c)) "__class__" = some (some (.builtin "object.__class__")) ∧ PySem.W.specialIn K (.builtin "object.__class__") "__get__" = some (some (.builtin "getset_descriptor.__get__")) ∧
    PySem.W.takesIn K (.builtin "object.__class__") = some true ∧ PySem.W.mroIn K (He.ga K c) (.type "object") = some true := by
  unfold clsOB at h
  simp only [Bool.and_eq_true, decide_eq_true_eq] at h
  exact ⟨He.cls_ok h.1, h.2.1, h.2.2.1, h.2.2.2.1, h.2.2.2.2⟩
theorem excOB_ok {K : PySem.W.Frag} {c : Str} (h : excOB K c = true) : ExcC K (He.ga K c) := by
  unfold excOB at h
  simp only [Bool.and_eq_true, decide_eq_true_eq] at h
  obtain ⟨h1, h2, h3, h4, h5, h6, h7, h8⟩ := h
  exact ⟨h1, h2, h3, h4, h5, h6, h7, h8⟩
def isB (t : IsT) (K : PySem.W.Frag) : Bool := t.all fun e => decide (PySem.W.kitOne K (knV K e.1) (dkV K e.2.1) = some e.2.2)
/-- the tables' classes -/
def kinds (t : IsT) : List Kn := (t.map (·.1)).eraseDups
def isBk (t : IsT) (K : PySem.W.Frag) : Bool := (kinds t).all fun k => match k with
  | .ins c => clsOB K c
  | .exc c => excOB K c
  | .bi _ => true
theorem isF_of {t : IsT} {K : PySem.W.Frag} (h : isB t K = true) (h2 : isBk t K = true) : IsF K (tbOf t) := by
  have key : ∀ k c b, tbOf t k c = some b → ∃ q, keyD c = some q ∧ (k, q, b) ∈ t := fun k c b e => by
    unfold tbOf at e
    cases eq : keyD c with
    | none => rw [eq] at e; cases e
    | some q => rw [eq] at e; exact ⟨q, rfl, look2_mem e⟩
  have kin : ∀ k q b, (k, q, b) ∈ t → k ∈ kinds t := fun k q b m => by
    unfold kinds
    exact List.mem_eraseDups.mpr (List.mem_map.mpr ⟨_, m, rfl⟩)
  refine ⟨fun k c b e => ?_, fun n c b e => ?_, fun n c b e => ?_⟩
  · obtain ⟨q, eq, m⟩ := key k c b e
    obtain ⟨h3, h4⟩ := keyD_ok eq K
    refine ⟨h3, ?_⟩
    rw [h4]
    exact of_decide_eq_true (List.all_eq_true.mp h _ m)
  · obtain ⟨q, eq, m⟩ := key _ c b e
    exact clsOB_ok (List.all_eq_true.mp h2 _ (kin _ _ _ m))
  · obtain ⟨q, eq, m⟩ := key _ c b e
    exact excOB_ok (List.all_eq_true.mp h2 _ (kin _ _ _ m))
/-- attributes -/
abbrev AtT := List (Bool × Str × Str)
def taOf (t : AtT) (b : Bool) (c f : Str) : Bool := decide ((b, c, f) ∈ t)
def atB (t : AtT) (K : PySem.W.Frag) : Bool := t.all fun e => (if e.1 = true then xfB K (He.ga K e.2.1) else (He.Fa.cls e.2.1).ok K) && decide (PySem.W.findIn K (.ref (He.ga K e.2.1)) e.2.2 = some none)
theorem atF_of {t : AtT} {K : PySem.W.Frag} (h : atB t K = true) : AtF K (taOf t) := by
  refine ⟨fun c f e => ?_, fun c f e => ?_⟩
  · have := List.all_eq_true.mp h _ (of_decide_eq_true e)
    rw [Bool.and_eq_true] at this
    exact ⟨He.cls_ok this.1, show PySem.W.findIn K (.ref (He.ga K c)) f = some none from of_decide_eq_true this.2⟩
  · have := List.all_eq_true.mp h _ (of_decide_eq_true e)
    rw [Bool.and_eq_true] at this
    exact ⟨xfB_ok this.1, of_decide_eq_true this.2⟩
def oexB (K : PySem.W.Frag) (C : Addr) : Bool := (match K.lookup C with
  | some ⟨.type "type", _, .cls cd, sl⟩ => (match cd.mro, sl.toList with
    | .ref C' :: bm, [_, _, _, _, some (.builtin n), _] => decide (C' = C) && (decide (n = "ValueError.__new__") && (!cd.hasDel && (cd.hasDict && PySem.HandSPX.refsVE bm)))
    | _, _ => false)
  | _ => false) && (decide (PySem.W.findIn K (.ref C) "__setattr__" = some (some (.builtin "object.__setattr__"))) && (decide (PySem.W.subIn K (.ref C) (.type "BaseException") = some true) && (decide (PySem.W.typeIn K (.ref C) = some (.type "type")) && PySem.W.keepIn K (.ref C))))
theorem oexB_ok {K : PySem.W.Frag} {C : Addr} (h : oexB K C = true) : OexC K C := by
  unfold oexB at h
  simp only [Bool.and_eq_true, decide_eq_true_eq] at h
  obtain ⟨q, h1, h2, h3, h4⟩ := h
  refine ⟨?_, h1, h2, h3, h4⟩
  split at q
  · rename_i dd cd sl ho
    split at q
    · rename_i C' bm k0 k1 k2 k3 n k5 hm hs
      simp only [Bool.and_eq_true, decide_eq_true_eq, Bool.not_eq_true'] at q
      obtain ⟨rfl, rfl, hdel, hd, hv⟩ := q
      obtain ⟨nm, bs, mro, ns, qn, hdt, sn, sub, ab, col, del⟩ := cd
      dsimp only at hm hdel hd
      subst hm hdel hd
      obtain ⟨sl⟩ := sl
      dsimp only at hs
      subst hs
      exact ⟨_, _, _, _, _, _, _, _, _, _, _, _, _, _, _, ho, hv⟩
    · cases q
  · cases q
def osB (t : List (Str × Str)) (K : PySem.W.Frag) : Bool := t.all fun e => oexB K (He.ga K e.1) && decide (PySem.W.findIn K (.ref (He.ga K e.1)) e.2 = some none)
def toOf (t : List (Str × Str)) (c f : Str) : Bool := decide ((c, f) ∈ t)
theorem osF_of {t : List (Str × Str)} {K : PySem.W.Frag} (h : osB t K = true) : OsF K (toOf t) := fun c f e => by
  have := List.all_eq_true.mp h _ (of_decide_eq_true e)
  rw [Bool.and_eq_true] at this
  exact ⟨oexB_ok this.1, of_decide_eq_true this.2⟩
def nmB (t : List (Str × Str)) (K : PySem.W.Frag) : Bool := t.all fun e => clsOB K e.1 && (PySem.W.readsIn K (He.ga K e.1) (.type "type") && (decide (PySem.W.typeIn K (.ref (He.ga K e.1)) = some (.type "type")) && ((match PySem.W.findCls K (.ref (He.ga K e.1)) (.type "type") "__name__" with
  | some (.get g a o tp) => decide (g = .builtin "getset_descriptor.__get__") && (decide (a = .builtin "type.__name__") && (decide (o = .ref (He.ga K e.1)) && decide (tp = .type "type")))
  | _ => false) && decide (PySem.W.nameIn K (He.ga K e.1) = some e.2))))
def tnOf (t : List (Str × Str)) (c : Str) : Option Str := t.lookup c
theorem nmF_of {t : List (Str × Str)} {K : PySem.W.Frag} (h : nmB t K = true) : NmF K (tnOf t) := ⟨fun c x e => by
  have := List.all_eq_true.mp h _ (PySem.mem_of_lookup e)
  simp only [Bool.and_eq_true, decide_eq_true_eq] at this
  obtain ⟨h1, h2, h3, h4, h5⟩ := this
  obtain ⟨k1, k2, k3, k4, k5⟩ := clsOB_ok h1
  refine ⟨k1, k2, k3, k4, k5, h2, h3, ?_, h5⟩
  split at h4
  · rename_i g a o tp he
    simp only [Bool.and_eq_true, decide_eq_true_eq] at h4
    obtain ⟨rfl, rfl, rfl, rfl⟩ := h4
    exact he
  · cases h4⟩
/-- an exception class whose __init__ says super().__init__(..) -/
def exB (K : PySem.W.Frag) (c : Str) : Bool := oexB K (He.ga K c) && (decide (PySem.W.mroIn K (He.ga K c) (.ref (He.ga K c)) = some true) && (decide (PySem.W.ks_superIn K (He.ga K c) (He.ga K c) "__init__" = some (some (.builtin "ValueError.__init__"))) &&
  (decide (PySem.W.subIn K (.ref (He.ga K c)) (.type "ValueError") = some true) && (decide (PySem.W.nsIn K cStatics "thirdparty.any" = some none) && (decide (PySem.W.findIn K (.ref (He.ga K c)) "__init__" = some (some (.ref (He.ma K (He.ga K c) "__init__")))) && decide (PySem.W.typeIn K (.ref (He.ma K (He.ga K c) "__init__")) = some (.type "function")))))))
theorem exB_ok {K : PySem.W.Frag} {c : Str} {cc : Addr} (h : exB K c = true) (hc : ∃ cl cld csl, K.lookup cc = some ⟨cl, cld, .cell (some (.ref (He.ga K c))), csl⟩) : ExF K c cc ∧ PySem.W.findIn K (.ref (He.ga K c)) "__init__" = some (some (.ref (He.ma K (He.ga K c) "__init__"))) ∧ PySem.W.typeIn K (.ref (He.ma K (He.ga K c) "__init__")) = some (.type "function") := by
  unfold exB at h
  simp only [Bool.and_eq_true, decide_eq_true_eq] at h
  obtain ⟨h1, h2, h3, h4, h5, h6, h7⟩ := h
  exact ⟨⟨oexB_ok h1, hc, h2, h3, h4, h5⟩, h6, h7⟩
def smB (K : PySem.W.Frag) : Bool := match K.lookup sysModules with
  | some ⟨.type c, _, _, _⟩ => decide (c = "dict")
  | _ => false
theorem smB_ok {K : PySem.W.Frag} (h : smB K = true) : SmF K := by
  unfold smB at h
  split at h
  · rename_i c d dt sl ho
    have := of_decide_eq_true h
    subst this
    exact ⟨_, ho, rfl⟩
  · cases h
/-- the own == of some classes, all one def; sb: all pairs -/
def owB (t : List Str) (m : Str × Str) (sbt : List (Str × Str × Bool)) (K : PySem.W.Frag) : Bool := (t.all fun c => decide (PySem.W.findIn K (.ref (He.ga K c)) "__eq__" = some (some (.ref (He.ma K (He.ga K m.1) m.2)))) && (decide (PySem.W.findIn K (.ref (He.ga K c)) "__ne__" = some (some (.builtin "object.__ne__"))) && decide (PySem.W.mroIn K (He.ga K c) (.type "object") = some true))) &&
  (PySem.W.isFn K (.ref (He.ma K (He.ga K m.1) m.2)) && sbt.all fun e => if e.2.2 = true then decide (He.ga K e.1 ≠ He.ga K e.2.1) && decide (PySem.W.subIn K (.ref (He.ga K e.1)) (.ref (He.ga K e.2.1)) = some true) else PySem.W.notFirst K (He.ga K e.2.1) (.ref (He.ga K e.1)))
theorem owF_of {P : Program} {w : World} {K : PySem.W.Frag} {mg : Str → Option Value} {base : Heap} {k i : Nat} {cl : CallT} {t : List Str} {m : Str × Str} {sbt : List (Str × Str × Bool)} (h : owB t m sbt K = true) (F : FnRG P w K mg base k (He.ma K (He.ga K m.1) m.2) (spR K cl i)) :
    OwF P w K mg base k cl (fun c => if c ∈ t then some i else none) (fun d c => look2 d c sbt) := by
  unfold owB at h
  simp only [Bool.and_eq_true] at h
  obtain ⟨h1, h2, h3⟩ := h
  refine ⟨fun c j e => ?_, fun c d e => ?_, fun c d e => ?_⟩
  · split at e
    · rename_i hc
      cases e
      have := List.all_eq_true.mp h1 _ hc
      simp only [Bool.and_eq_true, decide_eq_true_eq] at this
      exact ⟨_, this.1, h2, this.2.1, this.2.2, F⟩
    · cases e
  · have := List.all_eq_true.mp h3 _ (look2_mem e)
    rw [if_pos rfl, Bool.and_eq_true, decide_eq_true_eq, decide_eq_true_eq] at this
    exact this
  · have := List.all_eq_true.mp h3 _ (look2_mem e)
    rw [if_neg Bool.false_ne_true] at this
    exact this
def boB (t : List (Str × Nat)) (m : Str) (K : PySem.W.Frag) : Bool := t.all fun e => decide (PySem.W.findIn K (.ref (He.ga K e.1)) m = some (some (.ref (He.ma K (He.ga K e.1) m)))) && PySem.W.isFn K (.ref (He.ma K (He.ga K e.1) m))
theorem boF_of {P : Program} {w : World} {K : PySem.W.Frag} {mg : Str → Option Value} {base : Heap} {k : Nat} {cl : CallT} {t : List (Str × Nat)} (h : boB t "__bool__" K = true) (F : ∀ c i, t.lookup c = some i → FnRG P w K mg base k (He.ma K (He.ga K c) "__bool__") (spR K cl i)) :
    BoF P w K mg base k cl (fun c => t.lookup c) := ⟨fun c i e => by
  have := List.all_eq_true.mp h _ (PySem.mem_of_lookup e)
  rw [Bool.and_eq_true, decide_eq_true_eq] at this
  exact ⟨_, this.1, this.2, F c i e⟩⟩
end IM
namespace IM
open PySem PySem.Spec PyProof.Rows L2
/-! ### the order of a keyword call -/
def pm {α : Type} (is : List Nat) (xs : List α) : List α := is.filterMap (xs[·]?)
abbrev gP (is : List Nat) : List D → List D → List D := fun a b => a ++ pm is b
theorem pm_rds {K : PySem.W.Frag} {ι : Io} {H : Hp} {a : List D} {v : List V} (r : RDs K ι H a v) : ∀ is : List Nat, RDs K ι H (pm is a) (pm is v)
  | [] => .nil
  | i :: is => by
    have ih := pm_rds r is
    unfold pm at ih ⊢
    rw [List.filterMap_cons, List.filterMap_cons]
    by_cases h : i < a.length
    · obtain ⟨u, e, ru⟩ := r.get (List.getElem?_eq_getElem h)
      rw [List.getElem?_eq_getElem h, e]
      exact .cons ru ih
    · rw [List.getElem?_eq_none (by omega), List.getElem?_eq_none (by rw [← r.length]; omega)]
      exact ih
theorem pm_vals {a : List V} {v : List Value} (r : Vals a v) : ∀ is : List Nat, Vals (pm is a) (pm is v)
  | [] => .nil
  | i :: is => by
    have ih := pm_vals r is
    unfold pm at ih ⊢
    rw [List.filterMap_cons, List.filterMap_cons]
    by_cases h : i < a.length
    · obtain ⟨u, e, ru⟩ := r.get (List.getElem?_eq_getElem h)
      rw [List.getElem?_eq_getElem h, e]
      exact .cons ru ih
    · rw [List.getElem?_eq_none (by omega), List.getElem?_eq_none (by rw [← r.length]; omega)]
      exact ih
theorem fit_pm (is : List Nat) : FitD (fun vs zs => vs ++ pm is zs) (gP is) := fun r1 r2 => r1.append (pm_rds r2 is)
theorem pm_length {α : Type} {m : Nat} (b : List α) (hb : b.length = m) : ∀ is : List Nat, (∀ i ∈ is, i < m) → (pm is b).length = is.length
  | [], _ => rfl
  | i :: is, h => by
    have ih := pm_length b hb is fun j hj => h j (List.mem_cons_of_mem _ hj)
    unfold pm at ih ⊢
    rw [List.filterMap_cons, List.getElem?_eq_getElem (by rw [hb]; exact h i List.mem_cons_self)]
    exact congrArg (· + 1) ih
theorem pm_len {m np : Nat} {is : List Nat} (h : ∀ i ∈ is, i < m) (hn : 1 + is.length = np) (a b : List D) (ha : a.length = 1) (hb : b.length = m) : (gP is a b).length = np := by
  show (a ++ pm is b).length = np
  rw [List.length_append, ha, pm_length b hb is h, hn]
end IM
end

section
set_option Elab.async false
set_option linter.all false
set_option maxRecDepth 100000
set_option maxHeartbeats 1000000
/-! The heap cut back: cells that came since are forgotten. -/
namespace IM
open PySem PySem.Spec PyProof.Rows L2

mutual
/-- only cells below m are named -/
def lo (m : Nat) : D → Bool
  | .loc n => decide (n < m)
  | .tup ds => los m ds
  | .lit ds => los m ds
  | .non => true
  | .bl _ => true
  | .int _ => true
  | .str _ => true
  | .ty _ => true
  | .glo _ => true
def los (m : Nat) : List D → Bool
  | [] => true
  | d :: ds => lo m d && los m ds
end
def loF {κ : Type} (m : Nat) (fs : List (κ × D)) : Bool := fs.all fun e => lo m e.2
def loC (m : Nat) : C → Bool
  | .gone => true
  | .lst ds => los m ds
  | .dic kvs => loF m kvs
  | .ins _ fs => loF m fs
  | .exc _ d => match d with
    | none => true
    | some n => decide (n < m)
  | .xd fs => loF m fs
  | .xdr fs => loF m fs
def keepS (m : Nat) (keep : List Nat) (ρ : Sl) : Sl := ρ.mapIdx fun i o => match o with
  | some d => if (decide (i ∈ keep) && lo m d) = true then some d else none
  | none => none
def gcR (keep : List Nat) (m : Nat) (f : Fl) (ih' : IH) : Res Fl := if (ih'.take m).all (loC m) = true then match f with
    | .nx ρ' => .ok (.nx (keepS m keep ρ')) (ih'.take m)
    | .rt v => if lo m v = true then .ok (.rt v) (ih'.take m) else .bad
    | _ => .bad
  else .bad
def dGC (keep : List Nat) (d : DS) : DS := fun cl ρ ih => (d cl ρ ih).bind fun f ih' => gcR keep ih.length f ih'
section
variable {K : PySem.W.Frag} {ι : Io} {H : Hp} {m : Nat}
mutual
theorem RD.gcut : ∀ {d : D} {v : V}, RD K ι H d v → lo m d = true → RD K (ι.take m) H d v
  | _, _, .non, _ => .non
  | _, _, .bl b, _ => .bl b
  | _, _, .int i, _ => .int i
  | _, _, .str x, _ => .str x
  | _, _, .ty n, _ => .ty n
  | _, _, .glo x, _ => .glo x
  | _, _, .loc n a h, z => .loc n a (by rw [List.getElem?_take_of_lt (of_decide_eq_true z)]; exact h)
  | _, _, .tup ds a vs h r, z => .tup ds a vs h (RDs.gcut r z)
  | _, _, .lit ds a vs h r, z => .lit ds a vs h (RDs.gcut r z)
theorem RDs.gcut : ∀ {d : List D} {v : List V}, RDs K ι H d v → los m d = true → RDs K (ι.take m) H d v
  | _, _, .nil, _ => .nil
  | _, _, .cons h r, z => .cons (RD.gcut h (Bool.and_eq_true_iff.mp z).1) (RDs.gcut r (Bool.and_eq_true_iff.mp z).2)
end
theorem RFs.gcut {κ : Type} : ∀ {d : List (κ × D)} {v : List (κ × V)}, RFs K ι H d v → loF m d = true → RFs K (ι.take m) H d v
  | _, _, .nil, _ => .nil
  | _, _, .cons h r, z => .cons (RD.gcut h (Bool.and_eq_true_iff.mp z).1) (RFs.gcut r (Bool.and_eq_true_iff.mp z).2)
theorem CellOk.gcut {c : C} {oa : Option Addr} (h : CellOk K ι H c oa) (z : loC m c = true) : CellOk K (ι.take m) H c oa := by
  cases c with
  | gone => exact h
  | lst ds => obtain ⟨a, vs, e, q, r⟩ := h; exact ⟨a, vs, e, q, r.gcut z⟩
  | dic ds => obtain ⟨a, vs, e, q, r⟩ := h; exact ⟨a, vs, e, q, r.gcut z⟩
  | ins c fs => obtain ⟨a, x, vs, e, q, r⟩ := h; exact ⟨a, x, vs, e, q, r.gcut z⟩
  | exc c d =>
    obtain ⟨a, x, e, q, r⟩ := h
    cases d with
    | none => exact ⟨a, x, e, q, r⟩
    | some n =>
      obtain ⟨b, e2, r⟩ := r
      exact ⟨a, x, e, q, b, e2, by rw [List.getElem?_take_of_lt (of_decide_eq_true z)]; exact r⟩
  | xd ds => obtain ⟨a, vs, e, q, r⟩ := h; exact ⟨a, vs, e, q, r.gcut z⟩
  | xdr ds => obtain ⟨a, vs, e, q, r⟩ := h; exact ⟨a, vs, e, q, r.gcut z⟩
theorem take_some {α : Type} {m n : Nat} {xs : List α} {x : α} (h : (xs.take m)[n]? = some x) : n < m ∧ xs[n]? = some x := by
  rw [List.getElem?_take] at h
  by_cases q : n < m
  · rw [if_pos q] at h
    exact ⟨q, h⟩
  · rw [if_neg q] at h
    cases h
theorem Sim.gcut {ih : IH} (S : Sim K ι ih H) (z : (ih.take m).all (loC m) = true) : Sim K (ι.take m) (ih.take m) H where
  len := by rw [List.length_take, List.length_take, S.len]
  inj := fun n k a h1 h2 => S.inj n k a (take_some h1).2 (take_some h2).2
  cell := fun n c oa h1 h2 => (S.cell n c oa (take_some h1).2 (take_some h2).2).gcut (List.all_eq_true.mp z c (List.mem_of_getElem? h1))
theorem Ext.gcut {ι' : Io} {H' : Hp} (E : Ext ι H ι' H') : Ext ι H (ι'.take ι.length) H' where
  len := by rw [List.length_take]; exact Nat.le_min.mpr ⟨Nat.le_refl _, E.len⟩
  pre := fun n a h => by
    have hl := (List.getElem?_eq_some_iff.mp h).1
    rw [List.getElem?_take_of_lt hl]
    exact E.pre n a h
  keep := E.keep
  new := fun a h1 h2 => E.new a (List.mem_of_mem_take h1) h2
theorem REnv.gcut {ρ : Sl} {σ : L2.St} {keep : List Nat} (R : REnv K ι H ρ σ) : REnv K (ι.take m) H (keepS m keep ρ) σ := by
  refine ⟨by rw [← R.1]; unfold keepS; exact List.length_mapIdx, fun i d h => ?_⟩
  unfold keepS at h
  rw [List.getElem?_mapIdx] at h
  cases q : ρ[i]? with
  | none => rw [q] at h; cases h
  | some o =>
    rw [q] at h
    cases o with
    | none => cases h
    | some d' =>
      simp only [Option.map_some, Option.some.injEq] at h
      split at h
      · rename_i z
        cases h
        obtain ⟨v, e, r⟩ := R.2 i d q
        exact ⟨v, e, r.gcut (Bool.and_eq_true_iff.mp z).2⟩
      · cases h
end
section
variable {X : Cx} {W : Wx} {cl : CallT} {es : List Stmt} {d : DS} {keep : List Nat}
theorem sss_gc (h : SSs X W cl es d) : SSs X W cl es (dGC keep d) := pssOf h fun Dk σ H ⟨ι, ρ, ih, S, R, q⟩ => by
  refine ⟨ι, ρ, ih, S, R, ?_⟩
  unfold dGC at q
  cases e : d cl ρ ih with
  | bad => rw [e] at q; exact q
  | exn c n ih' => rw [e] at q; exact q
  | ok f ih' =>
    rw [e] at q
    have q : Out X.K ι H W (FlOk X.K Dk) (gcR keep ih.length f ih') := q
    unfold gcR at q
    by_cases z : (ih'.take ih.length).all (loC ih.length) = true
    · rw [if_pos z] at q
      cases f with
      | nx ρ' =>
        intro ι' H' S' E' σ' R'
        have q := q (ι'.take ι.length) H' (by rw [S.len]; exact S'.gcut z) E'.gcut
        refine q σ' ?_
        rw [S.len]
        exact R'.gcut
      | rt v =>
        by_cases y : lo ih.length v = true
        · have q : Out X.K ι H W (FlOk X.K Dk) (if lo ih.length v = true then .ok (.rt v) (ih'.take ih.length) else .bad) := q
          rw [if_pos y] at q
          intro ι' H' S' E' u r
          have q := q (ι'.take ι.length) H' (by rw [S.len]; exact S'.gcut z) E'.gcut
          refine q u ?_
          rw [S.len]
          exact r.gcut y
        · have q : Out X.K ι H W (FlOk X.K Dk) (if lo ih.length v = true then .ok (.rt v) (ih'.take ih.length) else .bad) := q
          rw [if_neg y] at q
          exact q.elim
      | bk ρ' => exact q.elim
      | ct ρ' => exact q.elim
    · rw [if_neg z] at q
      exact q.elim
end
end IM
end

section
set_option Elab.async false
set_option linter.all false
set_option maxRecDepth 100000
set_option maxHeartbeats 2000000
/-! law_k00: the text's defs, what the interpreter makes of them, the walk. Printed by gen_k00.py. -/
namespace K00
open PySem PySem.Spec PyProof.Rows L2 NdefX IM
def top (i : Nat) : Stmt := PySem.Challenge.pw_keepsjust_k00_errors_and_papers.main.body.getD i (.Pass ⟨0, 0, 0, 0⟩)
def clsBody : Stmt → List Stmt
  | .ClassDef _ _ _ b _ _ _ _ _ _ _ => b
  | _ => []
def meth (i j : Nat) : Stmt := (clsBody (top i)).getD j (.Pass ⟨0, 0, 0, 0⟩)
/-! ### tables -/
def tbl : IsT := [(.bi "NoneType", .ty "list", false), (.bi "NoneType", .ty "tuple", false), (.bi "NoneType", .ty "bool", false), (.bi "bool", .ty "list", false), (.bi "bool", .ty "tuple", false), (.bi "bool", .ty "bool", true), (.bi "int", .ty "list", false), (.bi "int", .ty "tuple", false), (.bi "int", .ty "bool", false), (.bi "str", .ty "list", false), (.bi "str", .ty "tuple", false), (.bi "str", .ty "bool", false), (.bi "tuple", .ty "list", false), (.bi "tuple", .ty "tuple", true), (.bi "tuple", .ty "bool", false), (.bi "list", .ty "list", true), (.bi "list", .ty "tuple", false), (.bi "list", .ty "bool", false), (.bi "dict", .ty "list", false), (.bi "dict", .ty "tuple", false), (.bi "dict", .ty "bool", false), (.ins "Paper", .glo "Paper", true), (.ins "Denial", .glo "Paper", true), (.exc "Misfit", .glo "Misfit", true), (.exc "Misfit", .glo "BadValue", false), (.exc "Misfit", .glo "BadEvent", false), (.exc "Misfit", .glo "BadBase", false), (.exc "Misfit", .glo "BadSchema", false), (.exc "Misfit", .glo "BadProgram", false), (.exc "Misfit", .glo "Falls", false), (.exc "Misfit", .glo "BadWord", false), (.exc "Misfit", .glo "BadText", false), (.exc "Misfit", .glo "BadStream", false), (.exc "Misfit", .glo "BadAsk", false), (.exc "Misfit", .glo "Nothing", false), (.exc "Misfit", .glo "TooMany", false), (.exc "Misfit", .glo "NoName", false), (.exc "Misfit", .glo "KeepError", true), (.exc "Misfit", .ty "ValueError", true), (.exc "BadValue", .glo "Misfit", false), (.exc "BadValue", .glo "BadValue", true), (.exc "BadValue", .glo "BadEvent", false), (.exc "BadValue", .glo "BadBase", false), (.exc "BadValue", .glo "BadSchema", false), (.exc "BadValue", .glo "BadProgram", false), (.exc "BadValue", .glo "Falls", false), (.exc "BadValue", .glo "BadWord", false), (.exc "BadValue", .glo "BadText", false), (.exc "BadValue", .glo "BadStream", false), (.exc "BadValue", .glo "BadAsk", false), (.exc "BadValue", .glo "Nothing", false), (.exc "BadValue", .glo "TooMany", false), (.exc "BadValue", .glo "NoName", false), (.exc "BadValue", .glo "KeepError", true), (.exc "BadValue", .ty "ValueError", true), (.exc "BadEvent", .glo "Misfit", false), (.exc "BadEvent", .glo "BadValue", false), (.exc "BadEvent", .glo "BadEvent", true), (.exc "BadEvent", .glo "BadBase", false), (.exc "BadEvent", .glo "BadSchema", false), (.exc "BadEvent", .glo "BadProgram", false), (.exc "BadEvent", .glo "Falls", false), (.exc "BadEvent", .glo "BadWord", false), (.exc "BadEvent", .glo "BadText", false), (.exc "BadEvent", .glo "BadStream", false), (.exc "BadEvent", .glo "BadAsk", false), (.exc "BadEvent", .glo "Nothing", false), (.exc "BadEvent", .glo "TooMany", false), (.exc "BadEvent", .glo "NoName", false), (.exc "BadEvent", .glo "KeepError", true), (.exc "BadEvent", .ty "ValueError", true), (.exc "BadBase", .glo "Misfit", false), (.exc "BadBase", .glo "BadValue", false), (.exc "BadBase", .glo "BadEvent", false), (.exc "BadBase", .glo "BadBase", true), (.exc "BadBase", .glo "BadSchema", false), (.exc "BadBase", .glo "BadProgram", false), (.exc "BadBase", .glo "Falls", false), (.exc "BadBase", .glo "BadWord", false), (.exc "BadBase", .glo "BadText", false), (.exc "BadBase", .glo "BadStream", false), (.exc "BadBase", .glo "BadAsk", false), (.exc "BadBase", .glo "Nothing", false), (.exc "BadBase", .glo "TooMany", false), (.exc "BadBase", .glo "NoName", false), (.exc "BadBase", .glo "KeepError", true), (.exc "BadBase", .ty "ValueError", true), (.exc "BadSchema", .glo "Misfit", false), (.exc "BadSchema", .glo "BadValue", false), (.exc "BadSchema", .glo "BadEvent", false), (.exc "BadSchema", .glo "BadBase", false), (.exc "BadSchema", .glo "BadSchema", true), (.exc "BadSchema", .glo "BadProgram", false), (.exc "BadSchema", .glo "Falls", false), (.exc "BadSchema", .glo "BadWord", false), (.exc "BadSchema", .glo "BadText", false), (.exc "BadSchema", .glo "BadStream", false), (.exc "BadSchema", .glo "BadAsk", false), (.exc "BadSchema", .glo "Nothing", false), (.exc "BadSchema", .glo "TooMany", false), (.exc "BadSchema", .glo "NoName", false), (.exc "BadSchema", .glo "KeepError", true), (.exc "BadSchema", .ty "ValueError", true), (.exc "BadProgram", .glo "Misfit", false), (.exc "BadProgram", .glo "BadValue", false), (.exc "BadProgram", .glo "BadEvent", false), (.exc "BadProgram", .glo "BadBase", false), (.exc "BadProgram", .glo "BadSchema", false), (.exc "BadProgram", .glo "BadProgram", true), (.exc "BadProgram", .glo "Falls", false), (.exc "BadProgram", .glo "BadWord", false), (.exc "BadProgram", .glo "BadText", false), (.exc "BadProgram", .glo "BadStream", false), (.exc "BadProgram", .glo "BadAsk", false), (.exc "BadProgram", .glo "Nothing", false), (.exc "BadProgram", .glo "TooMany", false), (.exc "BadProgram", .glo "NoName", false), (.exc "BadProgram", .glo "KeepError", true), (.exc "BadProgram", .ty "ValueError", true), (.exc "Falls", .glo "Misfit", false), (.exc "Falls", .glo "BadValue", false), (.exc "Falls", .glo "BadEvent", false), (.exc "Falls", .glo "BadBase", false), (.exc "Falls", .glo "BadSchema", false), (.exc "Falls", .glo "BadProgram", false), (.exc "Falls", .glo "Falls", true), (.exc "Falls", .glo "BadWord", false), (.exc "Falls", .glo "BadText", false), (.exc "Falls", .glo "BadStream", false), (.exc "Falls", .glo "BadAsk", false), (.exc "Falls", .glo "Nothing", false), (.exc "Falls", .glo "TooMany", false), (.exc "Falls", .glo "NoName", false), (.exc "Falls", .glo "KeepError", true), (.exc "Falls", .ty "ValueError", true), (.exc "BadWord", .glo "Misfit", false), (.exc "BadWord", .glo "BadValue", false), (.exc "BadWord", .glo "BadEvent", false), (.exc "BadWord", .glo "BadBase", false), (.exc "BadWord", .glo "BadSchema", false), (.exc "BadWord", .glo "BadProgram", false), (.exc "BadWord", .glo "Falls", false), (.exc "BadWord", .glo "BadWord", true), (.exc "BadWord", .glo "BadText", false), (.exc "BadWord", .glo "BadStream", false), (.exc "BadWord", .glo "BadAsk", false), (.exc "BadWord", .glo "Nothing", false), (.exc "BadWord", .glo "TooMany", false), (.exc "BadWord", .glo "NoName", false), (.exc "BadWord", .glo "KeepError", true), (.exc "BadWord", .ty "ValueError", true), (.exc "BadText", .glo "Misfit", false), (.exc "BadText", .glo "BadValue", false), (.exc "BadText", .glo "BadEvent", false), (.exc "BadText", .glo "BadBase", false), (.exc "BadText", .glo "BadSchema", false), (.exc "BadText", .glo "BadProgram", false), (.exc "BadText", .glo "Falls", false), (.exc "BadText", .glo "BadWord", false), (.exc "BadText", .glo "BadText", true), (.exc "BadText", .glo "BadStream", false), (.exc "BadText", .glo "BadAsk", false), (.exc "BadText", .glo "Nothing", false), (.exc "BadText", .glo "TooMany", false), (.exc "BadText", .glo "NoName", false), (.exc "BadText", .glo "KeepError", true), (.exc "BadText", .ty "ValueError", true), (.exc "BadStream", .glo "Misfit", false), (.exc "BadStream", .glo "BadValue", false), (.exc "BadStream", .glo "BadEvent", false), (.exc "BadStream", .glo "BadBase", false), (.exc "BadStream", .glo "BadSchema", false), (.exc "BadStream", .glo "BadProgram", false), (.exc "BadStream", .glo "Falls", false), (.exc "BadStream", .glo "BadWord", false), (.exc "BadStream", .glo "BadText", false), (.exc "BadStream", .glo "BadStream", true), (.exc "BadStream", .glo "BadAsk", false), (.exc "BadStream", .glo "Nothing", false), (.exc "BadStream", .glo "TooMany", false), (.exc "BadStream", .glo "NoName", false), (.exc "BadStream", .glo "KeepError", true), (.exc "BadStream", .ty "ValueError", true), (.exc "BadAsk", .glo "Misfit", false), (.exc "BadAsk", .glo "BadValue", false), (.exc "BadAsk", .glo "BadEvent", false), (.exc "BadAsk", .glo "BadBase", false), (.exc "BadAsk", .glo "BadSchema", false), (.exc "BadAsk", .glo "BadProgram", false), (.exc "BadAsk", .glo "Falls", false), (.exc "BadAsk", .glo "BadWord", false), (.exc "BadAsk", .glo "BadText", false), (.exc "BadAsk", .glo "BadStream", false), (.exc "BadAsk", .glo "BadAsk", true), (.exc "BadAsk", .glo "Nothing", false), (.exc "BadAsk", .glo "TooMany", false), (.exc "BadAsk", .glo "NoName", false), (.exc "BadAsk", .glo "KeepError", true), (.exc "BadAsk", .ty "ValueError", true), (.exc "Nothing", .glo "Misfit", false), (.exc "Nothing", .glo "BadValue", false), (.exc "Nothing", .glo "BadEvent", false), (.exc "Nothing", .glo "BadBase", false), (.exc "Nothing", .glo "BadSchema", false), (.exc "Nothing", .glo "BadProgram", false), (.exc "Nothing", .glo "Falls", false), (.exc "Nothing", .glo "BadWord", false), (.exc "Nothing", .glo "BadText", false), (.exc "Nothing", .glo "BadStream", false), (.exc "Nothing", .glo "BadAsk", false), (.exc "Nothing", .glo "Nothing", true), (.exc "Nothing", .glo "TooMany", false), (.exc "Nothing", .glo "NoName", false), (.exc "Nothing", .glo "KeepError", true), (.exc "Nothing", .ty "ValueError", true), (.exc "TooMany", .glo "Misfit", false), (.exc "TooMany", .glo "BadValue", false), (.exc "TooMany", .glo "BadEvent", false), (.exc "TooMany", .glo "BadBase", false), (.exc "TooMany", .glo "BadSchema", false), (.exc "TooMany", .glo "BadProgram", false), (.exc "TooMany", .glo "Falls", false), (.exc "TooMany", .glo "BadWord", false), (.exc "TooMany", .glo "BadText", false), (.exc "TooMany", .glo "BadStream", false), (.exc "TooMany", .glo "BadAsk", false), (.exc "TooMany", .glo "Nothing", false), (.exc "TooMany", .glo "TooMany", true), (.exc "TooMany", .glo "NoName", false), (.exc "TooMany", .glo "KeepError", true), (.exc "TooMany", .ty "ValueError", true), (.exc "NoName", .glo "Misfit", false), (.exc "NoName", .glo "BadValue", false), (.exc "NoName", .glo "BadEvent", false), (.exc "NoName", .glo "BadBase", false), (.exc "NoName", .glo "BadSchema", false), (.exc "NoName", .glo "BadProgram", false), (.exc "NoName", .glo "Falls", false), (.exc "NoName", .glo "BadWord", false), (.exc "NoName", .glo "BadText", false), (.exc "NoName", .glo "BadStream", false), (.exc "NoName", .glo "BadAsk", false), (.exc "NoName", .glo "Nothing", false), (.exc "NoName", .glo "TooMany", false), (.exc "NoName", .glo "NoName", true), (.exc "NoName", .glo "KeepError", true), (.exc "NoName", .ty "ValueError", true)]
def atl : AtT := [(false, "Paper", "word"), (false, "Paper", "parts"), (false, "Denial", "word"), (false, "Denial", "parts"), (true, "Misfit", "part"), (true, "BadValue", "part"), (true, "BadEvent", "part"), (true, "BadBase", "part"), (true, "BadSchema", "part"), (true, "BadProgram", "part"), (true, "Falls", "show"), (true, "Falls", "path"), (true, "Falls", "why"), (true, "BadWord", "word"), (true, "BadText", "line"), (true, "BadText", "word"), (true, "BadStream", "at"), (true, "BadAsk", "path"), (true, "Nothing", "word"), (true, "TooMany", "what"), (true, "TooMany", "most"), (true, "NoName", "name")]
def osl : List (Str × Str) := [("Misfit", "part"), ("BadValue", "part"), ("BadEvent", "part"), ("BadBase", "part"), ("BadSchema", "part"), ("BadProgram", "part"), ("Falls", "show"), ("Falls", "path"), ("Falls", "why"), ("BadWord", "word"), ("BadText", "line"), ("BadText", "word"), ("BadStream", "at"), ("BadAsk", "path"), ("Nothing", "word"), ("TooMany", "what"), ("TooMany", "most"), ("NoName", "name")]
def nml : List (Str × Str) := [("Paper", "Paper"), ("Denial", "Denial")]
def sbl : List (Str × Str × Bool) := [("Paper", "Paper", false), ("Denial", "Paper", true), ("Paper", "Denial", false), ("Denial", "Denial", false)]
def bol : List (Str × Nat) := [("Paper", 5), ("Denial", 6)]
def owl : List Str := ["Paper", "Denial"]
abbrev tb := tbOf tbl
abbrev ta := taOf atl
abbrev to_ := toOf osl
abbrev tn := tnOf nml
abbrev te : Str → Option Nat := fun c => if c ∈ owl then some 4 else none
abbrev sb : Str → Str → Option Bool := fun d c => look2 d c sbl
abbrev tbo : Str → Option Nat := fun c => bol.lookup c
/-! ### what the defs do -/
def d_is_listed : DS := (dRet (dApp (gIsi tb) (dCons (dVar 0) (dCons (dTup (dCons (dK (.ty "list")) (dCons (dK (.ty "tuple")) dNil))) dNil))))
def d_fixed : DS := (dRet (dIf (dTst (dCall 0 [] (dCons (dVar 0) dNil))) (dApp gTuple (dCons (dLc [1] (dIter (dVar 0)) (.nm 1) dYes (dCall 1 [] (dCons (dVar 1) dNil))) dNil)) (dVar 0)))
def d_is_like : DS := (dSeq (dIfS (dAnd (dTst (dApp (gIsi tb) (dCons (dVar 0) (dCons (dK (.ty "tuple")) dNil)))) (dTst (dApp (gIsi tb) (dCons (dVar 1) (dCons (dK (.ty "tuple")) dNil))))) (dRet (dAndV (dOp gEq (dApp gLen (dCons (dVar 0) dNil)) (dApp gLen (dCons (dVar 1) dNil))) (dApp gAll (dCons (dLc [2, 3] (dZip (dCons (dVar 0) (dCons (dVar 1) dNil))) (.tp [2, 3]) dYes (dCall 2 [] (dCons (dVar 2) (dCons (dVar 3) dNil)))) dNil)))) dNx) (dSeq (dIfS (dOr (dTst (dApp (gIsi tb) (dCons (dVar 0) (dCons (dK (.ty "bool")) dNil)))) (dTst (dApp (gIsi tb) (dCons (dVar 1) (dCons (dK (.ty "bool")) dNil))))) (dRet (dAndV (dApp (gIsi tb) (dCons (dVar 0) (dCons (dK (.ty "bool")) dNil))) (dAndV (dApp (gIsi tb) (dCons (dVar 1) (dCons (dK (.ty "bool")) dNil))) (dOp gEq (dVar 0) (dVar 1))))) dNx) (dRet (dApp gBool (dCons (dOp gEq (dVar 0) (dVar 1)) dNil)))))
def d_Paper__init : DS := (dSeq (dPut ta "word" (dVar 1) (dVar 0)) (dPut ta "parts" (dCall 1 [] (dCons (dVar 2) dNil)) (dVar 0)))
def d_Paper__eq : DS := (dSeq (dIfS (dOr (dNot (dTst (dApp (gIsi tb) (dCons (dVar 1) (dCons (dK (.glo "Paper")) dNil))))) (dTst (dOp gNeD (dClsName tn (dVar 0)) (dClsName tn (dVar 1))))) (dRet (dK (.bl false))) dNx) (dRet (dAndV (dCall 2 [] (dCons (dFld ta "word" (dVar 0)) (dCons (dFld ta "word" (dVar 1)) dNil))) (dCall 2 [] (dCons (dFld ta "parts" (dVar 0)) (dCons (dFld ta "parts" (dVar 1)) dNil))))))
def d_Paper__bool : DS := (dRet (dK (.bl true)))
def d_Denial__bool : DS := (dRet (dK (.bl false)))
def d_BadAsk__init : DS := (dOst to_ "path" (dVar 1) (dVar 0))
def d_BadProgram__init : DS := (dOst to_ "part" (dVar 1) (dVar 0))
def d_BadSchema__init : DS := (dOst to_ "part" (dVar 1) (dVar 0))
def d_BadBase__init : DS := (dOst to_ "part" (dVar 1) (dVar 0))
def d_BadEvent__init : DS := (dOst to_ "part" (dVar 1) (dVar 0))
def d_BadStream__init : DS := (dOst to_ "at" (dVar 1) (dVar 0))
def d_BadValue__init : DS := (dOst to_ "part" (dVar 1) (dVar 0))
def d_BadText__init : DS := (dSeq (dOst to_ "line" (dVar 1) (dVar 0)) (dOst to_ "word" (dVar 2) (dVar 0)))
def d_BadWord__init : DS := (dOst to_ "word" (dVar 1) (dVar 0))
def d_Falls__init : DS := (dSeq (dOst to_ "show" (dVar 1) (dVar 0)) (dSeq (dOst to_ "path" (dVar 2) (dVar 0)) (dOst to_ "why" (dVar 3) (dVar 0))))
def d_Misfit__init : DS := (dOst to_ "part" (dVar 1) (dVar 0))
def d_NoName__init : DS := (dOst to_ "name" (dVar 1) (dVar 0))
def d_TooMany__init : DS := (dSeq (dOst to_ "what" (dVar 1) (dVar 0)) (dOst to_ "most" (dVar 2) (dVar 0)))
def d_Nothing__init : DS := (dOst to_ "word" (dVar 1) (dVar 0))
def d_law_pen : DS := (dRet (dLst (dCons (dApp gList (dCons (dSl (dVar 0) dNoPart (dPart (dK (.int 63)))) dNil)) (dCons (dK (.int 0)) (dCons (dK (.int 0)) dNil)))))
def d_law_draw : DS := (dGC [] (dSeq (dIfS (dTst (dOp gGt (dOp gIx (dVar 0) (dK (.int 2))) (dK (.int 0)))) (dSeq (dSet 5 (dOp gMod (dApp gInt (dCons (dOp gIx (dVar 0) (dK (.int 2))) dNil)) (dVar 1))) (dSeq (dSetI (dOp gDivW (dApp gInt (dCons (dOp gIx (dVar 0) (dK (.int 2))) dNil)) (dVar 1)) (dVar 0) (dK (.int 2))) (dRet (dVar 5)))) dNx) (dSeq (dSet 2 (dOp gIx (dVar 0) (dK (.int 1)))) (dSeq (dSetI (dOp gAdd (dVar 2) (dK (.int 1))) (dVar 0) (dK (.int 1))) (dSeq (dSet 3 (dOp gAdd (dOp gMul (dK (.int 71011)) (dVar 2)) (dK (.int 9001)))) (dSeq (dIfS (dTst (dOp gNeD (dOp gIx (dVar 0) (dK (.int 0))) (dLst dNil))) (dSet 3 (dOp gIx (dOp gIx (dVar 0) (dK (.int 0))) (dOp gMod (dApp gInt (dCons (dVar 2) dNil)) (dApp gLen (dCons (dOp gIx (dVar 0) (dK (.int 0))) dNil))))) dNx) (dSeq (dIfS (dAnd (dTst (dOp gLt (dVar 2) (dApp gLen (dCons (dOp gIx (dVar 0) (dK (.int 0))) dNil)))) (dTst (dOp gGe (dApp gAbs (dCons (dVar 3) dNil)) (dOp gPow (dK (.int 10)) (dK (.int 18)))))) (dSeq (dSet 6 (dOp gAdd (dOp gMul (dK (.int 2)) (dOp gSubI (dApp gAbs (dCons (dVar 3) dNil)) (dOp gPow (dK (.int 10)) (dK (.int 18))))) (dApp gInt (dCons (dOp gLt (dVar 3) (dK (.int 0))) dNil)))) (dSeq (dSetI (dOp gDivW (dApp gInt (dCons (dVar 6) dNil)) (dVar 1)) (dVar 0) (dK (.int 2))) (dRet (dOp gMod (dApp gInt (dCons (dVar 6) dNil)) (dVar 1))))) dNx) (dSeq (dSet 4 (dOp gMod (dApp gInt (dCons (dOp gPow (dOp gAdd (dOp gAdd (dOp gMod (dApp gInt (dCons (dVar 3) dNil)) (dK (.int 2147483549))) (dOp gMul (dK (.int 33013)) (dVar 2))) (dK (.int 6101))) (dK (.int 5))) dNil)) (dK (.int 2147483629)))) (dSeq (dSet 4 (dOp gMod (dApp gInt (dCons (dOp gPow (dOp gAdd (dOp gAdd (dOp gMul (dVar 4) (dOp gAdd (dOp gMul (dK (.int 2)) (dVar 2)) (dK (.int 557)))) (dOp gMul (dOp gMul (dK (.int 8807)) (dVar 2)) (dVar 2))) (dK (.int 89))) (dK (.int 3))) dNil)) (dK (.int 2147483587)))) (dRet (dOp gMod (dApp gInt (dCons (dOp gDivW (dVar 4) (dK (.int 16))) dNil)) (dVar 1))))))))))))
def d_law_pick : DS := (dRet (dOp gIx (dVar 1) (dCall 22 [] (dCons (dVar 0) (dCons (dApp gLen (dCons (dVar 1) dNil)) dNil)))))
def d_law_any : DS := (dRet (dCall 23 [] (dCons (dVar 0) (dCons (dLst (dCons (dK .non) (dCons (dK (.int 5)) (dCons (dNeg (dK (.int 3))) (dCons (dK (.bl true)) (dCons (dK (.str "word")) (dCons (dLst (dCons (dK (.int 1)) (dCons (dLst (dCons (dK (.int 2)) dNil)) dNil))) (dCons (dTup (dCons (dK (.int 1)) (dCons (dTup (dCons (dK (.int 2)) dNil)) dNil))) (dCons dDict0 (dCons (dK (.str "A")) (dCons (dOp gPow (dK (.int 10)) (dK (.int 30))) (dCons (dTup dNil) dNil)))))))))))) dNil))))
def d_law : DS := (dSeq (dSet 1 (dCall 21 [] (dCons (dVar 0) dNil))) (dSeq (dFor (dRng1 (dCons (dK (.int 6)) dNil)) (.nm 2) (dGC [1] (dSeq (dAsgL [7, 8, 9] (dLc [15] (dRng1 (dCons (dK (.int 3)) dNil)) (.nm 15) dYes (dCall 24 [] (dCons (dVar 1) dNil)))) (dSeq (dSet 3 (dLst (dCons (dMkExc "BadProgram" 8 (gP [0]) 1 (dCons (dVar 7) dNil)) (dCons (dMkExc "BadSchema" 9 (gP [0]) 1 (dCons (dVar 7) dNil)) (dCons (dMkExc "BadBase" 10 (gP [0]) 1 (dCons (dVar 7) dNil)) (dCons (dMkExc "BadEvent" 11 (gP [0]) 1 (dCons (dVar 7) dNil)) (dCons (dMkExc "BadValue" 13 (gP [0]) 1 (dCons (dVar 7) dNil)) (dCons (dMkExc "Misfit" 17 (gP [0]) 1 (dCons (dVar 7) dNil)) dNil)))))))) (dSeq (dIfS (dTst (dOp gNeD (dLc [11] (dIter (dVar 3)) (.nm 11) (dTst (dOp gNeD (dApp gRepr (dCons (dFld ta "part" (dVar 11)) dNil)) (dApp gRepr (dCons (dVar 7) dNil)))) (dVar 11)) (dLst dNil))) (dRet (dK (.bl false))) dNx) (dSeq (dSet 4 (dLst (dCons (dMkExc "BadAsk" 7 (gP [0]) 1 (dCons (dVar 7) dNil)) (dCons (dMkExc "BadStream" 12 (gP [0]) 1 (dCons (dVar 7) dNil)) (dCons (dMkExc "BadText" 14 (gP [1, 0]) 2 (dCons (dVar 8) (dCons (dVar 7) dNil))) (dCons (dMkExc "BadWord" 15 (gP [0]) 1 (dCons (dVar 7) dNil)) (dCons (dMkExc "Falls" 16 (gP [2, 1, 0]) 3 (dCons (dVar 9) (dCons (dVar 8) (dCons (dVar 7) dNil)))) dNil))))))) (dSeq (dSet 4 (dOp gAdd (dVar 4) (dLst (dCons (dMkExc "NoName" 18 (gP [0]) 1 (dCons (dVar 7) dNil)) (dCons (dMkExc "TooMany" 19 (gP [1, 0]) 2 (dCons (dVar 8) (dCons (dVar 7) dNil))) (dCons (dMkExc "Nothing" 20 (gP [0]) 1 (dCons (dVar 7) dNil)) dNil)))))) (dSeq (dSet 5 (dLst (dCons (dFld ta "path" (dOp gIx (dVar 4) (dK (.int 0)))) (dCons (dFld ta "at" (dOp gIx (dVar 4) (dK (.int 1)))) (dCons (dFld ta "line" (dOp gIx (dVar 4) (dK (.int 2)))) (dCons (dFld ta "word" (dOp gIx (dVar 4) (dK (.int 2)))) (dCons (dFld ta "word" (dOp gIx (dVar 4) (dK (.int 3)))) (dCons (dFld ta "show" (dOp gIx (dVar 4) (dK (.int 4)))) (dCons (dFld ta "path" (dOp gIx (dVar 4) (dK (.int 4)))) (dCons (dFld ta "why" (dOp gIx (dVar 4) (dK (.int 4)))) (dCons (dFld ta "name" (dOp gIx (dVar 4) (dK (.int 5)))) (dCons (dFld ta "what" (dOp gIx (dVar 4) (dK (.int 6)))) (dCons (dFld ta "most" (dOp gIx (dVar 4) (dK (.int 6)))) (dCons (dFld ta "word" (dOp gIx (dVar 4) (dK (.int 7)))) dNil)))))))))))))) (dSeq (dIfS (dTst (dOp gNeD (dApp gRepr (dCons (dVar 5) dNil)) (dApp gRepr (dCons (dLst (dCons (dVar 7) (dCons (dVar 7) (dCons (dVar 7) (dCons (dVar 8) (dCons (dVar 7) (dCons (dVar 7) (dCons (dVar 8) (dCons (dVar 9) (dCons (dVar 7) (dCons (dVar 7) (dCons (dVar 8) (dCons (dVar 7) dNil))))))))))))) dNil)))) (dRet (dK (.bl false))) dNx) (dSeq (dFor (dEnum (dCons (dOp gAdd (dVar 3) (dVar 4)) dNil)) (.tp [10, 11]) (dSeq (dSet 12 (dLst (dCons (dApp (gIsi tb) (dCons (dVar 11) (dCons (dK (.glo "BadProgram")) dNil))) (dCons (dApp (gIsi tb) (dCons (dVar 11) (dCons (dK (.glo "BadSchema")) dNil))) (dCons (dApp (gIsi tb) (dCons (dVar 11) (dCons (dK (.glo "BadBase")) dNil))) (dCons (dApp (gIsi tb) (dCons (dVar 11) (dCons (dK (.glo "BadEvent")) dNil))) (dCons (dApp (gIsi tb) (dCons (dVar 11) (dCons (dK (.glo "BadValue")) dNil))) (dCons (dApp (gIsi tb) (dCons (dVar 11) (dCons (dK (.glo "Misfit")) dNil))) dNil)))))))) (dSeq (dSet 12 (dOp gAdd (dVar 12) (dLst (dCons (dApp (gIsi tb) (dCons (dVar 11) (dCons (dK (.glo "BadAsk")) dNil))) (dCons (dApp (gIsi tb) (dCons (dVar 11) (dCons (dK (.glo "BadStream")) dNil))) (dCons (dApp (gIsi tb) (dCons (dVar 11) (dCons (dK (.glo "BadText")) dNil))) (dCons (dApp (gIsi tb) (dCons (dVar 11) (dCons (dK (.glo "BadWord")) dNil))) (dCons (dApp (gIsi tb) (dCons (dVar 11) (dCons (dK (.glo "Falls")) dNil))) dNil)))))))) (dSeq (dSet 12 (dOp gAdd (dVar 12) (dLst (dCons (dApp (gIsi tb) (dCons (dVar 11) (dCons (dK (.glo "NoName")) dNil))) (dCons (dApp (gIsi tb) (dCons (dVar 11) (dCons (dK (.glo "TooMany")) dNil))) (dCons (dApp (gIsi tb) (dCons (dVar 11) (dCons (dK (.glo "Nothing")) dNil))) dNil)))))) (dIfS (dOr (dTst (dOp gNeD (dVar 12) (dLc [16] (dRng1 (dCons (dK (.int 14)) dNil)) (.nm 16) dYes (dOp gEq (dVar 16) (dVar 10))))) (dOr (dNot (dTst (dApp (gIsi tb) (dCons (dVar 11) (dCons (dK (.glo "KeepError")) dNil))))) (dNot (dTst (dApp (gIsi tb) (dCons (dVar 11) (dCons (dK (.ty "ValueError")) dNil))))))) (dRet (dK (.bl false))) dNx))))) (dSeq (dSet 6 (dLst (dCons (dK (.int 1)) (dCons (dLst (dCons (dK (.int 2)) (dCons (dK (.int 3)) dNil))) dNil)))) (dSeq (dPar 13 14 (dCons (dMake "Paper" 3 (dCons (dK (.str "odd")) (dCons (dVar 6) (dCons (dVar 7) dNil)))) (dCons (dMake "Denial" 3 (dCons (dK (.str "odd")) (dCons (dVar 6) (dCons (dVar 7) dNil)))) dNil))) (dSeq (dExp (dListM gAppend (dOp gIx (dVar 6) (dK (.int 1))) (dCons (dK (.int 4)) dNil))) (dSeq (dExp (dListM gAppend (dVar 6) (dCons (dK (.int 5)) dNil))) (dSeq (dIfS (dOr (dTst (dOp gNeD (dFld ta "word" (dVar 13)) (dK (.str "odd")))) (dOr (dTst (dOp gNeD (dApp gRepr (dCons (dOp gIx (dFld ta "parts" (dVar 13)) (dK (.int 0))) dNil)) (dApp gRepr (dCons (dTup (dCons (dK (.int 1)) (dCons (dTup (dCons (dK (.int 2)) (dCons (dK (.int 3)) dNil))) dNil))) dNil)))) (dOr (dNot (dTruth tbo (dVar 13))) (dOr (dTruth tbo (dVar 14)) (dOr (dTst (dOwn te sb false (dVar 13) (dVar 14))) (dNot (dTst (dOwn te sb true (dVar 13) (dVar 14))))))))) (dRet (dK (.bl false))) dNx) (dIfS (dOr (dTst (dOwn te sb true (dVar 13) (dMake "Paper" 3 (dCons (dK (.str "odd")) (dCons (dTup (dCons (dK (.int 1)) (dCons (dTup (dCons (dK (.int 2)) (dCons (dK (.int 3)) dNil))) dNil))) (dCons (dVar 7) dNil)))))) (dOr (dTst (dOwn te sb true (dVar 14) (dMake "Denial" 3 (dCons (dK (.str "odd")) (dCons (dLst (dCons (dK (.int 1)) (dCons (dLst (dCons (dK (.int 2)) (dCons (dK (.int 3)) dNil))) dNil))) (dCons (dVar 7) dNil)))))) (dOr (dTst (dOwn te sb false (dVar 13) (dMake "Paper" 3 (dCons (dK (.str "odd")) (dCons (dVar 6) (dCons (dVar 7) dNil)))))) (dTst (dOwn te sb false (dVar 13) (dMake "Paper" 3 (dCons (dK (.str "even")) (dCons (dTup (dCons (dK (.int 1)) (dCons (dTup (dCons (dK (.int 2)) (dCons (dK (.int 3)) dNil))) dNil))) (dCons (dVar 7) dNil))))))))) (dRet (dK (.bl false))) dNx)))))))))))))))) (dRet (dAndV (dOwn te sb true (dMake "Paper" 3 (dCons (dK (.str "p")) (dCons (dK (.int 1)) dNil))) (dMake "Paper" 3 (dCons (dK (.str "p")) (dCons (dK (.bl true)) dNil)))) (dAndV (dOwn te sb true (dMake "Paper" 3 (dCons (dK (.str "p")) (dCons (dLst (dCons (dK (.int 0)) (dCons (dK (.int 1)) dNil))) dNil))) (dMake "Paper" 3 (dCons (dK (.str "p")) (dCons (dLst (dCons (dK (.bl false)) (dCons (dK (.int 1)) dNil))) dNil)))) (dAndV (dOwn te sb true (dMake "Paper" 3 (dCons (dK (.str "p")) (dCons (dK (.int 1)) dNil))) (dMake "Paper" 3 (dCons (dK (.str "p")) (dCons (dK (.int 1)) (dCons (dK (.int 1)) dNil))))) (dAndV (dApp (gIsi tb) (dCons (dMake "Denial" 3 (dCons (dK (.str "d")) dNil)) (dCons (dK (.glo "Paper")) dNil))) (dOp gEq (dFld ta "parts" (dMake "Paper" 3 (dCons (dK (.str "p")) dNil))) (dTup dNil)))))))))
def clF : Nat → CallT
  | 0 => fun _ _ _ => .bad
  | k + 1 => fun i args ih => match i with
    | 0 => if args.length = 1 then runBody d_is_listed 1 (clF k) args ih else .bad
    | 1 => if args.length = 1 then runBody d_fixed 2 (clF k) args ih else .bad
    | 2 => if args.length = 2 then runBody d_is_like 4 (clF k) args ih else .bad
    | 3 => if 2 ≤ args.length ∧ args.length ≤ 100000 then runBody d_Paper__init 3 (clF k) (args.take 2 ++ [.tup (args.drop 2)]) ih else .bad
    | 4 => if args.length = 2 then runBody d_Paper__eq 2 (clF k) args ih else .bad
    | 5 => if args.length = 1 then runBody d_Paper__bool 1 (clF k) args ih else .bad
    | 6 => if args.length = 1 then runBody d_Denial__bool 1 (clF k) args ih else .bad
    | 7 => if selfExc "BadAsk" args ih = true then runBody d_BadAsk__init 3 (clF k) args ih else .bad
    | 8 => if selfExc "BadProgram" args ih = true then runBody d_BadProgram__init 3 (clF k) args ih else .bad
    | 9 => if selfExc "BadSchema" args ih = true then runBody d_BadSchema__init 3 (clF k) args ih else .bad
    | 10 => if selfExc "BadBase" args ih = true then runBody d_BadBase__init 3 (clF k) args ih else .bad
    | 11 => if selfExc "BadEvent" args ih = true then runBody d_BadEvent__init 3 (clF k) args ih else .bad
    | 12 => if selfExc "BadStream" args ih = true then runBody d_BadStream__init 3 (clF k) args ih else .bad
    | 13 => if selfExc "BadValue" args ih = true then runBody d_BadValue__init 3 (clF k) args ih else .bad
    | 14 => if selfExc "BadText" args ih = true then runBody d_BadText__init 4 (clF k) args ih else .bad
    | 15 => if selfExc "BadWord" args ih = true then runBody d_BadWord__init 3 (clF k) args ih else .bad
    | 16 => if selfExc "Falls" args ih = true then runBody d_Falls__init 5 (clF k) args ih else .bad
    | 17 => if selfExc "Misfit" args ih = true then runBody d_Misfit__init 3 (clF k) args ih else .bad
    | 18 => if selfExc "NoName" args ih = true then runBody d_NoName__init 3 (clF k) args ih else .bad
    | 19 => if selfExc "TooMany" args ih = true then runBody d_TooMany__init 4 (clF k) args ih else .bad
    | 20 => if selfExc "Nothing" args ih = true then runBody d_Nothing__init 3 (clF k) args ih else .bad
    | 21 => if args.length = 1 then runBody d_law_pen 1 (clF k) args ih else .bad
    | 22 => if args.length = 2 then runBody d_law_draw 7 (clF k) args ih else .bad
    | 23 => if args.length = 2 then runBody d_law_pick 2 (clF k) args ih else .bad
    | 24 => if args.length = 1 then runBody d_law_any 1 (clF k) args ih else .bad
    | 25 => if args.length = 1 then runBody d_law 17 (clF k) args ih else .bad
    | _ => .bad
/-! ### the text -/
abbrev s_is_listed : Stmt := top 1
abbrev s_fixed : Stmt := top 2
abbrev s_is_like : Stmt := top 4
abbrev s_Paper__init : Stmt := meth 5 0
abbrev s_Paper__eq : Stmt := meth 5 1
abbrev s_Paper__bool : Stmt := meth 5 2
abbrev s_Denial__bool : Stmt := meth 6 0
abbrev s_BadAsk__init : Stmt := meth 9 0
abbrev s_BadProgram__init : Stmt := meth 10 0
abbrev s_BadSchema__init : Stmt := meth 11 0
abbrev s_BadBase__init : Stmt := meth 12 0
abbrev s_BadEvent__init : Stmt := meth 13 0
abbrev s_BadStream__init : Stmt := meth 14 0
abbrev s_BadValue__init : Stmt := meth 15 0
abbrev s_BadText__init : Stmt := meth 16 0
abbrev s_BadWord__init : Stmt := meth 17 0
abbrev s_Falls__init : Stmt := meth 18 0
abbrev s_Misfit__init : Stmt := meth 19 0
abbrev s_NoName__init : Stmt := meth 20 0
abbrev s_TooMany__init : Stmt := meth 21 0
abbrev s_Nothing__init : Stmt := meth 22 0
abbrev s_law_pen : Stmt := top 24
abbrev s_law_draw : Stmt := top 25
abbrev s_law_pick : Stmt := top 26
abbrev s_law_any : Stmt := top 27
abbrev s_law : Stmt := top 28
def D_is_listed : He.DefD := ⟨("is_listed", none), "is_listed", "is_listed", defArgs s_is_listed, defBody s_is_listed, defScope s_is_listed, [], []⟩
def D_fixed : He.DefD := ⟨("fixed", none), "fixed", "fixed", defArgs s_fixed, defBody s_fixed, defScope s_fixed, [], []⟩
def D_is_like : He.DefD := ⟨("is_like", none), "is_like", "is_like", defArgs s_is_like, defBody s_is_like, defScope s_is_like, [], []⟩
def D_Paper__init : He.DefD := ⟨("Paper", some "__init__"), "__init__", "Paper.__init__", defArgs s_Paper__init, defBody s_Paper__init, defScope s_Paper__init, [], []⟩
def D_Paper__eq : He.DefD := ⟨("Paper", some "__eq__"), "__eq__", "Paper.__eq__", defArgs s_Paper__eq, defBody s_Paper__eq, defScope s_Paper__eq, [], []⟩
def D_Paper__bool : He.DefD := ⟨("Paper", some "__bool__"), "__bool__", "Paper.__bool__", defArgs s_Paper__bool, defBody s_Paper__bool, defScope s_Paper__bool, [], []⟩
def D_Denial__bool : He.DefD := ⟨("Denial", some "__bool__"), "__bool__", "Denial.__bool__", defArgs s_Denial__bool, defBody s_Denial__bool, defScope s_Denial__bool, [], []⟩
def x_BadAsk__init : DefX := ⟨"BadAsk", "__init__", "BadAsk.__init__", defArgs s_BadAsk__init, defBody s_BadAsk__init, defScope s_BadAsk__init⟩
def x_BadProgram__init : DefX := ⟨"BadProgram", "__init__", "BadProgram.__init__", defArgs s_BadProgram__init, defBody s_BadProgram__init, defScope s_BadProgram__init⟩
def x_BadSchema__init : DefX := ⟨"BadSchema", "__init__", "BadSchema.__init__", defArgs s_BadSchema__init, defBody s_BadSchema__init, defScope s_BadSchema__init⟩
def x_BadBase__init : DefX := ⟨"BadBase", "__init__", "BadBase.__init__", defArgs s_BadBase__init, defBody s_BadBase__init, defScope s_BadBase__init⟩
def x_BadEvent__init : DefX := ⟨"BadEvent", "__init__", "BadEvent.__init__", defArgs s_BadEvent__init, defBody s_BadEvent__init, defScope s_BadEvent__init⟩
def x_BadStream__init : DefX := ⟨"BadStream", "__init__", "BadStream.__init__", defArgs s_BadStream__init, defBody s_BadStream__init, defScope s_BadStream__init⟩
def x_BadValue__init : DefX := ⟨"BadValue", "__init__", "BadValue.__init__", defArgs s_BadValue__init, defBody s_BadValue__init, defScope s_BadValue__init⟩
def x_BadText__init : DefX := ⟨"BadText", "__init__", "BadText.__init__", defArgs s_BadText__init, defBody s_BadText__init, defScope s_BadText__init⟩
def x_BadWord__init : DefX := ⟨"BadWord", "__init__", "BadWord.__init__", defArgs s_BadWord__init, defBody s_BadWord__init, defScope s_BadWord__init⟩
def x_Falls__init : DefX := ⟨"Falls", "__init__", "Falls.__init__", defArgs s_Falls__init, defBody s_Falls__init, defScope s_Falls__init⟩
def x_Misfit__init : DefX := ⟨"Misfit", "__init__", "Misfit.__init__", defArgs s_Misfit__init, defBody s_Misfit__init, defScope s_Misfit__init⟩
def x_NoName__init : DefX := ⟨"NoName", "__init__", "NoName.__init__", defArgs s_NoName__init, defBody s_NoName__init, defScope s_NoName__init⟩
def x_TooMany__init : DefX := ⟨"TooMany", "__init__", "TooMany.__init__", defArgs s_TooMany__init, defBody s_TooMany__init, defScope s_TooMany__init⟩
def x_Nothing__init : DefX := ⟨"Nothing", "__init__", "Nothing.__init__", defArgs s_Nothing__init, defBody s_Nothing__init, defScope s_Nothing__init⟩
def D_law_pen : He.DefD := ⟨("_law_pen", none), "_law_pen", "_law_pen", defArgs s_law_pen, defBody s_law_pen, defScope s_law_pen, [], []⟩
def D_law_draw : He.DefD := ⟨("_law_draw", none), "_law_draw", "_law_draw", defArgs s_law_draw, defBody s_law_draw, defScope s_law_draw, [], []⟩
def D_law_pick : He.DefD := ⟨("_law_pick", none), "_law_pick", "_law_pick", defArgs s_law_pick, defBody s_law_pick, defScope s_law_pick, [], []⟩
def D_law_any : He.DefD := ⟨("_law_any", none), "_law_any", "_law_any", defArgs s_law_any, defBody s_law_any, defScope s_law_any, [], []⟩
def D_law : He.DefD := ⟨("law", none), "law", "law", defArgs s_law, defBody s_law, defScope s_law, [], []⟩
abbrev Fd := Nat → FuncData
structure Fx (P : Program) (K : PySem.W.Frag) (mg : Str → Option Value) (fd : Fd) (cc cda : Nat → Addr) : Prop where
  sm : SmF K
  isf : IsF K tb
  at_ : AtF K ta
  osf : OsF K to_
  nm : NmF K tn
  owb : owB owl ("Paper", "__eq__") sbl K = true
  bob : boB bol "__bool__" K = true
  top_ : (P.main.scope.names.lookup ("super" : Str)).isSome = false
  sup : mg "super" = none
  f_ValueError : mg "ValueError" = none
  f_abs : mg "abs" = none
  f_all : mg "all" = none
  f_bool : mg "bool" = none
  f_enumerate : mg "enumerate" = none
  f_int : mg "int" = none
  f_isinstance : mg "isinstance" = none
  f_len : mg "len" = none
  f_list : mg "list" = none
  f_range : mg "range" = none
  f_repr : mg "repr" = none
  f_tuple : mg "tuple" = none
  f_zip : mg "zip" = none
  g_BadAsk : mg "BadAsk" = some (.ref (He.ga K "BadAsk"))
  g_BadBase : mg "BadBase" = some (.ref (He.ga K "BadBase"))
  g_BadEvent : mg "BadEvent" = some (.ref (He.ga K "BadEvent"))
  g_BadProgram : mg "BadProgram" = some (.ref (He.ga K "BadProgram"))
  g_BadSchema : mg "BadSchema" = some (.ref (He.ga K "BadSchema"))
  g_BadStream : mg "BadStream" = some (.ref (He.ga K "BadStream"))
  g_BadText : mg "BadText" = some (.ref (He.ga K "BadText"))
  g_BadValue : mg "BadValue" = some (.ref (He.ga K "BadValue"))
  g_BadWord : mg "BadWord" = some (.ref (He.ga K "BadWord"))
  g_Denial : mg "Denial" = some (.ref (He.ga K "Denial"))
  g_Falls : mg "Falls" = some (.ref (He.ga K "Falls"))
  g_KeepError : mg "KeepError" = some (.ref (He.ga K "KeepError"))
  g_Misfit : mg "Misfit" = some (.ref (He.ga K "Misfit"))
  g_NoName : mg "NoName" = some (.ref (He.ga K "NoName"))
  g_Nothing : mg "Nothing" = some (.ref (He.ga K "Nothing"))
  g_Paper : mg "Paper" = some (.ref (He.ga K "Paper"))
  g_TooMany : mg "TooMany" = some (.ref (He.ga K "TooMany"))
  g__law_any : mg "_law_any" = some (.ref (He.ga K "_law_any"))
  g__law_draw : mg "_law_draw" = some (.ref (He.ga K "_law_draw"))
  g__law_pen : mg "_law_pen" = some (.ref (He.ga K "_law_pen"))
  g__law_pick : mg "_law_pick" = some (.ref (He.ga K "_law_pick"))
  g_fixed : mg "fixed" = some (.ref (He.ga K "fixed"))
  g_is_like : mg "is_like" = some (.ref (He.ga K "is_like"))
  g_is_listed : mg "is_listed" = some (.ref (He.ga K "is_listed"))
  k__law_any : PySem.W.keepIn K (.ref (He.ga K "_law_any")) = true
  k__law_draw : PySem.W.keepIn K (.ref (He.ga K "_law_draw")) = true
  k__law_pen : PySem.W.keepIn K (.ref (He.ga K "_law_pen")) = true
  k__law_pick : PySem.W.keepIn K (.ref (He.ga K "_law_pick")) = true
  k_fixed : PySem.W.keepIn K (.ref (He.ga K "fixed")) = true
  k_is_like : PySem.W.keepIn K (.ref (He.ga K "is_like")) = true
  k_is_listed : PySem.W.keepIn K (.ref (He.ga K "is_listed")) = true
  mk_Denial : Mk K (He.ga K "Denial") (He.fAd K ("Paper", some "__init__"))
  mk_Paper : Mk K (He.ga K "Paper") (He.fAd K ("Paper", some "__init__"))
  d_is_listed : FunD K D_is_listed.name D_is_listed.qual D_is_listed.params D_is_listed.body D_is_listed.scope [] [] (He.fAd K ("is_listed", none)) (fd 0)
  d_fixed : FunD K D_fixed.name D_fixed.qual D_fixed.params D_fixed.body D_fixed.scope [] [] (He.fAd K ("fixed", none)) (fd 1)
  d_is_like : FunD K D_is_like.name D_is_like.qual D_is_like.params D_is_like.body D_is_like.scope [] [] (He.fAd K ("is_like", none)) (fd 2)
  d_Paper__init : FunD K D_Paper__init.name D_Paper__init.qual D_Paper__init.params D_Paper__init.body D_Paper__init.scope [] [] (He.fAd K ("Paper", some "__init__")) (fd 3)
  d_Paper__eq : FunD K D_Paper__eq.name D_Paper__eq.qual D_Paper__eq.params D_Paper__eq.body D_Paper__eq.scope [] [] (He.fAd K ("Paper", some "__eq__")) (fd 4)
  d_Paper__bool : FunD K D_Paper__bool.name D_Paper__bool.qual D_Paper__bool.params D_Paper__bool.body D_Paper__bool.scope [] [] (He.fAd K ("Paper", some "__bool__")) (fd 5)
  d_Denial__bool : FunD K D_Denial__bool.name D_Denial__bool.qual D_Denial__bool.params D_Denial__bool.body D_Denial__bool.scope [] [] (He.fAd K ("Denial", some "__bool__")) (fd 6)
  d_law_pen : FunD K D_law_pen.name D_law_pen.qual D_law_pen.params D_law_pen.body D_law_pen.scope [] [] (He.fAd K ("_law_pen", none)) (fd 21)
  d_law_draw : FunD K D_law_draw.name D_law_draw.qual D_law_draw.params D_law_draw.body D_law_draw.scope [] [] (He.fAd K ("_law_draw", none)) (fd 22)
  d_law_pick : FunD K D_law_pick.name D_law_pick.qual D_law_pick.params D_law_pick.body D_law_pick.scope [] [] (He.fAd K ("_law_pick", none)) (fd 23)
  d_law_any : FunD K D_law_any.name D_law_any.qual D_law_any.params D_law_any.body D_law_any.scope [] [] (He.fAd K ("_law_any", none)) (fd 24)
  d_law : FunD K D_law.name D_law.qual D_law.params D_law.body D_law.scope [] [] (He.fAd K ("law", none)) (fd 25)
  b_is_listed : Binds K (fd 0) ["value"] []
  b_fixed : Binds K (fd 1) ["value"] []
  b_is_like : Binds K (fd 2) ["one", "other"] []
  b__law_pen : Binds K (fd 21) ["script"] []
  b__law_draw : Binds K (fd 22) ["pen", "many"] []
  b__law_pick : Binds K (fd 23) ["pen", "some"] []
  b__law_any : Binds K (fd 24) ["pen"] []
  x_BadAsk__init : FunX PySem.Challenge.pw_keepsjust_k00_errors_and_papers.main.file K x_BadAsk__init (fd 7) (cc 7) (cda 7)
  x_BadProgram__init : FunX PySem.Challenge.pw_keepsjust_k00_errors_and_papers.main.file K x_BadProgram__init (fd 8) (cc 8) (cda 8)
  x_BadSchema__init : FunX PySem.Challenge.pw_keepsjust_k00_errors_and_papers.main.file K x_BadSchema__init (fd 9) (cc 9) (cda 9)
  x_BadBase__init : FunX PySem.Challenge.pw_keepsjust_k00_errors_and_papers.main.file K x_BadBase__init (fd 10) (cc 10) (cda 10)
  x_BadEvent__init : FunX PySem.Challenge.pw_keepsjust_k00_errors_and_papers.main.file K x_BadEvent__init (fd 11) (cc 11) (cda 11)
  x_BadStream__init : FunX PySem.Challenge.pw_keepsjust_k00_errors_and_papers.main.file K x_BadStream__init (fd 12) (cc 12) (cda 12)
  x_BadValue__init : FunX PySem.Challenge.pw_keepsjust_k00_errors_and_papers.main.file K x_BadValue__init (fd 13) (cc 13) (cda 13)
  x_BadText__init : FunX PySem.Challenge.pw_keepsjust_k00_errors_and_papers.main.file K x_BadText__init (fd 14) (cc 14) (cda 14)
  x_BadWord__init : FunX PySem.Challenge.pw_keepsjust_k00_errors_and_papers.main.file K x_BadWord__init (fd 15) (cc 15) (cda 15)
  x_Falls__init : FunX PySem.Challenge.pw_keepsjust_k00_errors_and_papers.main.file K x_Falls__init (fd 16) (cc 16) (cda 16)
  x_Misfit__init : FunX PySem.Challenge.pw_keepsjust_k00_errors_and_papers.main.file K x_Misfit__init (fd 17) (cc 17) (cda 17)
  x_NoName__init : FunX PySem.Challenge.pw_keepsjust_k00_errors_and_papers.main.file K x_NoName__init (fd 18) (cc 18) (cda 18)
  x_TooMany__init : FunX PySem.Challenge.pw_keepsjust_k00_errors_and_papers.main.file K x_TooMany__init (fd 19) (cc 19) (cda 19)
  x_Nothing__init : FunX PySem.Challenge.pw_keepsjust_k00_errors_and_papers.main.file K x_Nothing__init (fd 20) (cc 20) (cda 20)
  ex_BadAsk : ExF K "BadAsk" (cc 7) ∧ PySem.W.findIn K (.ref (He.ga K "BadAsk")) "__init__" = some (some (.ref (He.ma K (He.ga K "BadAsk") "__init__"))) ∧ PySem.W.typeIn K (.ref (He.ma K (He.ga K "BadAsk") "__init__")) = some (.type "function")
  ex_BadProgram : ExF K "BadProgram" (cc 8) ∧ PySem.W.findIn K (.ref (He.ga K "BadProgram")) "__init__" = some (some (.ref (He.ma K (He.ga K "BadProgram") "__init__"))) ∧ PySem.W.typeIn K (.ref (He.ma K (He.ga K "BadProgram") "__init__")) = some (.type "function")
  ex_BadSchema : ExF K "BadSchema" (cc 9) ∧ PySem.W.findIn K (.ref (He.ga K "BadSchema")) "__init__" = some (some (.ref (He.ma K (He.ga K "BadSchema") "__init__"))) ∧ PySem.W.typeIn K (.ref (He.ma K (He.ga K "BadSchema") "__init__")) = some (.type "function")
  ex_BadBase : ExF K "BadBase" (cc 10) ∧ PySem.W.findIn K (.ref (He.ga K "BadBase")) "__init__" = some (some (.ref (He.ma K (He.ga K "BadBase") "__init__"))) ∧ PySem.W.typeIn K (.ref (He.ma K (He.ga K "BadBase") "__init__")) = some (.type "function")
  ex_BadEvent : ExF K "BadEvent" (cc 11) ∧ PySem.W.findIn K (.ref (He.ga K "BadEvent")) "__init__" = some (some (.ref (He.ma K (He.ga K "BadEvent") "__init__"))) ∧ PySem.W.typeIn K (.ref (He.ma K (He.ga K "BadEvent") "__init__")) = some (.type "function")
  ex_BadStream : ExF K "BadStream" (cc 12) ∧ PySem.W.findIn K (.ref (He.ga K "BadStream")) "__init__" = some (some (.ref (He.ma K (He.ga K "BadStream") "__init__"))) ∧ PySem.W.typeIn K (.ref (He.ma K (He.ga K "BadStream") "__init__")) = some (.type "function")
  ex_BadValue : ExF K "BadValue" (cc 13) ∧ PySem.W.findIn K (.ref (He.ga K "BadValue")) "__init__" = some (some (.ref (He.ma K (He.ga K "BadValue") "__init__"))) ∧ PySem.W.typeIn K (.ref (He.ma K (He.ga K "BadValue") "__init__")) = some (.type "function")
  ex_BadText : ExF K "BadText" (cc 14) ∧ PySem.W.findIn K (.ref (He.ga K "BadText")) "__init__" = some (some (.ref (He.ma K (He.ga K "BadText") "__init__"))) ∧ PySem.W.typeIn K (.ref (He.ma K (He.ga K "BadText") "__init__")) = some (.type "function")
  ex_BadWord : ExF K "BadWord" (cc 15) ∧ PySem.W.findIn K (.ref (He.ga K "BadWord")) "__init__" = some (some (.ref (He.ma K (He.ga K "BadWord") "__init__"))) ∧ PySem.W.typeIn K (.ref (He.ma K (He.ga K "BadWord") "__init__")) = some (.type "function")
  ex_Falls : ExF K "Falls" (cc 16) ∧ PySem.W.findIn K (.ref (He.ga K "Falls")) "__init__" = some (some (.ref (He.ma K (He.ga K "Falls") "__init__"))) ∧ PySem.W.typeIn K (.ref (He.ma K (He.ga K "Falls") "__init__")) = some (.type "function")
  ex_Misfit : ExF K "Misfit" (cc 17) ∧ PySem.W.findIn K (.ref (He.ga K "Misfit")) "__init__" = some (some (.ref (He.ma K (He.ga K "Misfit") "__init__"))) ∧ PySem.W.typeIn K (.ref (He.ma K (He.ga K "Misfit") "__init__")) = some (.type "function")
  ex_NoName : ExF K "NoName" (cc 18) ∧ PySem.W.findIn K (.ref (He.ga K "NoName")) "__init__" = some (some (.ref (He.ma K (He.ga K "NoName") "__init__"))) ∧ PySem.W.typeIn K (.ref (He.ma K (He.ga K "NoName") "__init__")) = some (.type "function")
  ex_TooMany : ExF K "TooMany" (cc 19) ∧ PySem.W.findIn K (.ref (He.ga K "TooMany")) "__init__" = some (some (.ref (He.ma K (He.ga K "TooMany") "__init__"))) ∧ PySem.W.typeIn K (.ref (He.ma K (He.ga K "TooMany") "__init__")) = some (.type "function")
  ex_Nothing : ExF K "Nothing" (cc 20) ∧ PySem.W.findIn K (.ref (He.ga K "Nothing")) "__init__" = some (some (.ref (He.ma K (He.ga K "Nothing") "__init__"))) ∧ PySem.W.typeIn K (.ref (He.ma K (He.ga K "Nothing") "__init__")) = some (.type "function")
  kb_Misfit_part : KBn K (fd 17) ["self", "part"] 1 ["part"] (fun us ws => us ++ pm [0] ws) (fun vs zs => vs ++ pm [0] zs)
  kb_BadValue_part : KBn K (fd 13) ["self", "part"] 1 ["part"] (fun us ws => us ++ pm [0] ws) (fun vs zs => vs ++ pm [0] zs)
  kb_BadEvent_part : KBn K (fd 11) ["self", "part"] 1 ["part"] (fun us ws => us ++ pm [0] ws) (fun vs zs => vs ++ pm [0] zs)
  kb_BadBase_part : KBn K (fd 10) ["self", "part"] 1 ["part"] (fun us ws => us ++ pm [0] ws) (fun vs zs => vs ++ pm [0] zs)
  kb_BadSchema_part : KBn K (fd 9) ["self", "part"] 1 ["part"] (fun us ws => us ++ pm [0] ws) (fun vs zs => vs ++ pm [0] zs)
  kb_BadProgram_part : KBn K (fd 8) ["self", "part"] 1 ["part"] (fun us ws => us ++ pm [0] ws) (fun vs zs => vs ++ pm [0] zs)
  kb_Falls_why_path_show : KBn K (fd 16) ["self", "show", "path", "why"] 1 ["why", "path", "show"] (fun us ws => us ++ pm [2, 1, 0] ws) (fun vs zs => vs ++ pm [2, 1, 0] zs)
  kb_BadWord_word : KBn K (fd 15) ["self", "word"] 1 ["word"] (fun us ws => us ++ pm [0] ws) (fun vs zs => vs ++ pm [0] zs)
  kb_BadText_word_line : KBn K (fd 14) ["self", "line", "word"] 1 ["word", "line"] (fun us ws => us ++ pm [1, 0] ws) (fun vs zs => vs ++ pm [1, 0] zs)
  kb_BadStream_at : KBn K (fd 12) ["self", "at"] 1 ["at"] (fun us ws => us ++ pm [0] ws) (fun vs zs => vs ++ pm [0] zs)
  kb_BadAsk_path : KBn K (fd 7) ["self", "path"] 1 ["path"] (fun us ws => us ++ pm [0] ws) (fun vs zs => vs ++ pm [0] zs)
  kb_Nothing_word : KBn K (fd 20) ["self", "word"] 1 ["word"] (fun us ws => us ++ pm [0] ws) (fun vs zs => vs ++ pm [0] zs)
  kb_TooMany_most_what : KBn K (fd 19) ["self", "what", "most"] 1 ["most", "what"] (fun us ws => us ++ pm [1, 0] ws) (fun vs zs => vs ++ pm [1, 0] zs)
  kb_NoName_name : KBn K (fd 18) ["self", "name"] 1 ["name"] (fun us ws => us ++ pm [0] ws) (fun vs zs => vs ++ pm [0] zs)
structure Tab (P : Program) (w : World) (K : PySem.W.Frag) (mg : Str → Option Value) (base : Heap) (fd : Fd) (k : Nat) : Prop where
  p_is_listed : FnG P w K mg base (2 * k) (He.fAd K ("is_listed", none)) (fd 0) ["value"] (spI K (clF k) 0 1)
  p_fixed : FnG P w K mg base (2 * k) (He.fAd K ("fixed", none)) (fd 1) ["value"] (spI K (clF k) 1 1)
  p_is_like : FnG P w K mg base (2 * k) (He.fAd K ("is_like", none)) (fd 2) ["one", "other"] (spI K (clF k) 2 2)
  p_Paper__init : FnRG P w K mg base (2 * k) (He.fAd K ("Paper", some "__init__")) (spR K (clF k) 3)
  p_Paper__eq : FnRG P w K mg base (2 * k) (He.fAd K ("Paper", some "__eq__")) (spR K (clF k) 4)
  p_Paper__bool : FnRG P w K mg base (2 * k) (He.fAd K ("Paper", some "__bool__")) (spR K (clF k) 5)
  p_Denial__bool : FnRG P w K mg base (2 * k) (He.fAd K ("Denial", some "__bool__")) (spR K (clF k) 6)
  p_BadAsk__init : FnG P w K mg base (2 * k) (He.ma K (He.ga K "BadAsk") "__init__") (fd 7) ["self", "path"] (spI K (clF k) 7 2)
  p_BadProgram__init : FnG P w K mg base (2 * k) (He.ma K (He.ga K "BadProgram") "__init__") (fd 8) ["self", "part"] (spI K (clF k) 8 2)
  p_BadSchema__init : FnG P w K mg base (2 * k) (He.ma K (He.ga K "BadSchema") "__init__") (fd 9) ["self", "part"] (spI K (clF k) 9 2)
  p_BadBase__init : FnG P w K mg base (2 * k) (He.ma K (He.ga K "BadBase") "__init__") (fd 10) ["self", "part"] (spI K (clF k) 10 2)
  p_BadEvent__init : FnG P w K mg base (2 * k) (He.ma K (He.ga K "BadEvent") "__init__") (fd 11) ["self", "part"] (spI K (clF k) 11 2)
  p_BadStream__init : FnG P w K mg base (2 * k) (He.ma K (He.ga K "BadStream") "__init__") (fd 12) ["self", "at"] (spI K (clF k) 12 2)
  p_BadValue__init : FnG P w K mg base (2 * k) (He.ma K (He.ga K "BadValue") "__init__") (fd 13) ["self", "part"] (spI K (clF k) 13 2)
  p_BadText__init : FnG P w K mg base (2 * k) (He.ma K (He.ga K "BadText") "__init__") (fd 14) ["self", "line", "word"] (spI K (clF k) 14 3)
  p_BadWord__init : FnG P w K mg base (2 * k) (He.ma K (He.ga K "BadWord") "__init__") (fd 15) ["self", "word"] (spI K (clF k) 15 2)
  p_Falls__init : FnG P w K mg base (2 * k) (He.ma K (He.ga K "Falls") "__init__") (fd 16) ["self", "show", "path", "why"] (spI K (clF k) 16 4)
  p_Misfit__init : FnG P w K mg base (2 * k) (He.ma K (He.ga K "Misfit") "__init__") (fd 17) ["self", "part"] (spI K (clF k) 17 2)
  p_NoName__init : FnG P w K mg base (2 * k) (He.ma K (He.ga K "NoName") "__init__") (fd 18) ["self", "name"] (spI K (clF k) 18 2)
  p_TooMany__init : FnG P w K mg base (2 * k) (He.ma K (He.ga K "TooMany") "__init__") (fd 19) ["self", "what", "most"] (spI K (clF k) 19 3)
  p_Nothing__init : FnG P w K mg base (2 * k) (He.ma K (He.ga K "Nothing") "__init__") (fd 20) ["self", "word"] (spI K (clF k) 20 2)
  p_law_pen : FnG P w K mg base (2 * k) (He.fAd K ("_law_pen", none)) (fd 21) ["script"] (spI K (clF k) 21 1)
  p_law_draw : FnG P w K mg base (2 * k) (He.fAd K ("_law_draw", none)) (fd 22) ["pen", "many"] (spI K (clF k) 22 2)
  p_law_pick : FnG P w K mg base (2 * k) (He.fAd K ("_law_pick", none)) (fd 23) ["pen", "some"] (spI K (clF k) 23 2)
  p_law_any : FnG P w K mg base (2 * k) (He.fAd K ("_law_any", none)) (fd 24) ["pen"] (spI K (clF k) 24 1)
  p_law : FnG P w K mg base (2 * k) (He.fAd K ("law", none)) (fd 25) ["script"] (spI K (clF k) 25 1)
  ow : OwF P w K mg base (2 * k) (clF k) te sb
  bo : BoF P w K mg base (2 * k) (clF k) tbo
/-! ### the walk -/
section
variable {P : Program} {w : World} {K : PySem.W.Frag} {mg : Str → Option Value} {base : Heap} {fd : Fd} {cc cda : Nat → Addr} {k : Nat}
theorem sc_is_listed : FnScope ["value"] ["value"] D_is_listed.scope := ⟨rfl, rfl, rfl, by decide +kernel, rfl, by decide +kernel, by decide +kernel⟩
theorem wG_is_listed (G : Fx P K mg fd cc cda) (T : Tab P w K mg base fd k) : FnG P w K mg base (2 * (k + 1)) (He.fAd K ("is_listed", none)) (fd 0) ["value"] (spI K (clF (k + 1)) 0 1) := by
  obtain ⟨oc, od, dV, kV, doc, pm, an, cdv, ct, osl, e, lk, hcd, hD, hK⟩ := G.d_is_listed.ex
  rw [e] at lk ⊢
  have hN : (["value"] : List Str).Nodup := sc_is_listed.nd
  refine fnI_of (k := 2 * k + 1) (cl := clF k) (cl' := clF (k + 1)) lk hcd sc_is_listed rfl (fun args ih h => if_pos h) fun A outer s H E hg hr cal po => ?_
  exact (sss_one (ss_ret (se_callB (cr_isi G.isf) cs_G G.f_isinstance (sa_cons (se_var 0) (sa_cons (se_tup (sa_cons (se_ty G.f_list) (sa_cons (se_ty G.f_tuple) sa_nil))) sa_nil)))))
theorem w_is_listed (G : Fx P K mg fd cc cda) (T : Tab P w K mg base fd k) : FnG P w K mg base (2 * (k + 1)) (He.fAd K ("is_listed", none)) (fd 0) ["value"] (spI K (clF (k + 1)) 0 1) := wG_is_listed G T
theorem sc_fixed : FnScope ["value", "one"] ["value"] D_fixed.scope := ⟨rfl, rfl, rfl, by decide +kernel, rfl, by decide +kernel, by decide +kernel⟩
theorem wG_fixed (G : Fx P K mg fd cc cda) (T : Tab P w K mg base fd k) : FnG P w K mg base (2 * (k + 1)) (He.fAd K ("fixed", none)) (fd 1) ["value"] (spI K (clF (k + 1)) 1 1) := by
  obtain ⟨oc, od, dV, kV, doc, pm, an, cdv, ct, osl, e, lk, hcd, hD, hK⟩ := G.d_fixed.ex
  rw [e] at lk ⊢
  have hN : (["value", "one"] : List Str).Nodup := sc_fixed.nd
  refine fnI_of (k := 2 * k + 1) (cl := clF k) (cl' := clF (k + 1)) lk hcd sc_fixed rfl (fun args ih h => if_pos h) fun A outer s H E hg hr cal po => ?_
  exact (sss_one (ss_ret (se_if (st_val (se_call T.p_is_listed rfl cal (hr.mono (by omega)) G.g_is_listed G.k_is_listed G.b_is_listed .nil (fun _ _ => .nil) (sa_cons (se_var 0) sa_nil) (len_cons len_nil))) (se_callTy call_tuple_of cs_tuple G.f_tuple (sa_cons (se_lc (own := [("one", 1)]) rfl hN (si_seq (se_var 0)) (blkOk_by (by kernel_rfl)) (by decide) (fun s H C cl' fp => (sg_nm 1 hN)) (fun s H C cl' fp => spts_nil) (fun s H C cl' fp => (se_call T.p_fixed rfl cal.blk (hr.mono (by omega)) G.g_fixed G.k_fixed G.b_fixed .nil (fun _ _ => .nil) (sa_cons (se_var 1) sa_nil) (len_cons len_nil)))) sa_nil)) (se_var 0))))
theorem w_fixed (G : Fx P K mg fd cc cda) (T : Tab P w K mg base fd k) : FnG P w K mg base (2 * (k + 1)) (He.fAd K ("fixed", none)) (fd 1) ["value"] (spI K (clF (k + 1)) 1 1) := wG_fixed G T
theorem sc_is_like : FnScope ["one", "other", "mine", "its"] ["one", "other"] D_is_like.scope := ⟨rfl, rfl, rfl, by decide +kernel, rfl, by decide +kernel, by decide +kernel⟩
theorem wG_is_like (G : Fx P K mg fd cc cda) (T : Tab P w K mg base fd k) : FnG P w K mg base (2 * (k + 1)) (He.fAd K ("is_like", none)) (fd 2) ["one", "other"] (spI K (clF (k + 1)) 2 2) := by
  obtain ⟨oc, od, dV, kV, doc, pm, an, cdv, ct, osl, e, lk, hcd, hD, hK⟩ := G.d_is_like.ex
  rw [e] at lk ⊢
  have hN : (["one", "other", "mine", "its"] : List Str).Nodup := sc_is_like.nd
  refine fnI_of (k := 2 * k + 1) (cl := clF k) (cl' := clF (k + 1)) lk hcd sc_is_like rfl (fun args ih h => if_pos h) fun A outer s H E hg hr cal po => ?_
  exact (sss_cons (ss_if (st_w (sw_and (st_val (se_callB (cr_isi G.isf) cs_G G.f_isinstance (sa_cons (se_var 0) (sa_cons (se_ty G.f_tuple) sa_nil)))) (sw_and1 (st_val (se_callB (cr_isi G.isf) cs_G G.f_isinstance (sa_cons (se_var 1) (sa_cons (se_ty G.f_tuple) sa_nil))))))) (sss_one (ss_ret (se_and (se_cmp (os_eq hr.units G.sm) (se_callB call_len cs_len G.f_len (sa_cons (se_var 0) sa_nil)) (se_callB call_len cs_len G.f_len (sa_cons (se_var 1) sa_nil)) (by first | exact nobehind _ (by decide) (by decide) | rfl)) (se_one (se_callB (cr_all rfl) cs_all G.f_all (sa_cons (se_lc (own := [("mine", 2), ("its", 3)]) rfl hN (si_zip (sa_cons (se_var 0) (sa_cons (se_var 1) sa_nil)) G.f_zip) (blkOk_by (by kernel_rfl)) (by decide) (fun s H C cl' fp => (sg_tp rfl (sgs_cons (sg_nm 2 hN) (sgs_cons (sg_nm 3 hN) sgs_nil)))) (fun s H C cl' fp => spts_nil) (fun s H C cl' fp => (se_call T.p_is_like rfl cal.blk (hr.mono (by omega)) G.g_is_like G.k_is_like G.b_is_like .nil (fun _ _ => .nil) (sa_cons (se_var 2) (sa_cons (se_var 3) sa_nil)) (len_cons (len_cons len_nil))))) sa_nil)))))) sss_nil)
    (sss_cons (ss_if (st_w (sw_or (st_val (se_callB (cr_isi G.isf) cs_G G.f_isinstance (sa_cons (se_var 0) (sa_cons (se_ty G.f_bool) sa_nil)))) (sw_or1 (st_val (se_callB (cr_isi G.isf) cs_G G.f_isinstance (sa_cons (se_var 1) (sa_cons (se_ty G.f_bool) sa_nil))))))) (sss_one (ss_ret (se_and (se_callB (cr_isi G.isf) cs_G G.f_isinstance (sa_cons (se_var 0) (sa_cons (se_ty G.f_bool) sa_nil))) (se_and (se_callB (cr_isi G.isf) cs_G G.f_isinstance (sa_cons (se_var 1) (sa_cons (se_ty G.f_bool) sa_nil))) (se_one (se_cmp (os_eq hr.units G.sm) (se_var 0) (se_var 1) (by first | exact nobehind _ (by decide) (by decide) | rfl))))))) sss_nil)
    (sss_one (ss_ret (se_callTy call_bool1 cs_bool G.f_bool (sa_cons (se_cmp (os_eq hr.units G.sm) (se_var 0) (se_var 1) (by first | exact nobehind _ (by decide) (by decide) | rfl)) sa_nil))))))
theorem w_is_like (G : Fx P K mg fd cc cda) (T : Tab P w K mg base fd k) : FnG P w K mg base (2 * (k + 1)) (He.fAd K ("is_like", none)) (fd 2) ["one", "other"] (spI K (clF (k + 1)) 2 2) := wG_is_like G T
theorem sc_Paper__init : FnScope ["self", "word", "parts"] ["self", "word", "parts"] D_Paper__init.scope := ⟨rfl, rfl, rfl, by decide +kernel, rfl, by decide +kernel, by decide +kernel⟩
theorem w_Paper__init (G : Fx P K mg fd cc cda) (T : Tab P w K mg base fd k) : FnRG P w K mg base (2 * (k + 1)) (He.fAd K ("Paper", some "__init__")) (spR K (clF (k + 1)) 3) := by
  obtain ⟨oc, od, dV, kV, doc, pm, an, cdv, ct, osl, e, lk, hcd, hD, hK⟩ := G.d_Paper__init.ex
  rcases hD with ⟨_, rfl⟩ | ⟨e, _⟩
  · rw [e] at lk
    have hN : (["self", "word", "parts"] : List Str).Nodup := sc_Paper__init.nd
    refine fnStar_of (k := 2 * k + 1) (ps := ["self", "word"]) (pv := "parts") (cl := clF k) (cl' := clF (k + 1)) lk hcd sc_Paper__init rfl (fun us rest h => StX.bind_star2 (B := fun l => bindArgs (PySem.W.fnOf D_Paper__init.name D_Paper__init.qual D_Paper__init.params D_Paper__init.body D_Paper__init.scope .none kV doc pm an cdv ct) ⟨l, []⟩) (p1 := "self") (p2 := "word") (pv := "parts") (by intros; rfl) (by intros; rfl) us rest h) (fun args ih => rfl) fun A outer s H E hg hr cal po => ?_
    exact (sss_cons (ss_put G.at_ (se_var 1) (se_var 0))
    (sss_one (ss_put G.at_ (se_call T.p_fixed rfl cal (hr.mono (by omega)) G.g_fixed G.k_fixed G.b_fixed .nil (fun _ _ => .nil) (sa_cons (se_var 2) sa_nil) (len_cons len_nil)) (se_var 0))))
  · exact absurd rfl e
theorem sc_Paper__eq : FnScope ["self", "other"] ["self", "other"] D_Paper__eq.scope := ⟨rfl, rfl, rfl, by decide +kernel, rfl, by decide +kernel, by decide +kernel⟩
theorem wG_Paper__eq (G : Fx P K mg fd cc cda) (T : Tab P w K mg base fd k) : FnG P w K mg base (2 * (k + 1)) (He.fAd K ("Paper", some "__eq__")) (fd 4) ["self", "other"] (spI K (clF (k + 1)) 4 2) := by
  obtain ⟨oc, od, dV, kV, doc, pm, an, cdv, ct, osl, e, lk, hcd, hD, hK⟩ := G.d_Paper__eq.ex
  rw [e] at lk ⊢
  have hN : (["self", "other"] : List Str).Nodup := sc_Paper__eq.nd
  refine fnI_of (k := 2 * k + 1) (cl := clF k) (cl' := clF (k + 1)) lk hcd sc_Paper__eq rfl (fun args ih h => if_pos h) fun A outer s H E hg hr cal po => ?_
  exact (sss_cons (ss_if (st_w (sw_or (st_not (st_val (se_callB (cr_isi G.isf) cs_G G.f_isinstance (sa_cons (se_var 1) (sa_cons (se_glo G.g_Paper) sa_nil))))) (sw_or1 (st_cmp (os_neD hr.units G.sm) (se_clsName G.nm (se_var 0)) (se_clsName G.nm (se_var 1)) (by first | exact nobehind _ (by decide) (by decide) | rfl))))) (sss_one (ss_ret se_bl)) sss_nil)
    (sss_one (ss_ret (se_and (se_call T.p_is_like rfl cal (hr.mono (by omega)) G.g_is_like G.k_is_like G.b_is_like .nil (fun _ _ => .nil) (sa_cons (se_fld G.at_ (se_var 0)) (sa_cons (se_fld G.at_ (se_var 1)) sa_nil)) (len_cons (len_cons len_nil))) (se_one (se_call T.p_is_like rfl cal (hr.mono (by omega)) G.g_is_like G.k_is_like G.b_is_like .nil (fun _ _ => .nil) (sa_cons (se_fld G.at_ (se_var 0)) (sa_cons (se_fld G.at_ (se_var 1)) sa_nil)) (len_cons (len_cons len_nil))))))))
theorem w_Paper__eq (G : Fx P K mg fd cc cda) (T : Tab P w K mg base fd k) : FnRG P w K mg base (2 * (k + 1)) (He.fAd K ("Paper", some "__eq__")) (spR K (clF (k + 1)) 4) :=
  fnR_of (wG_Paper__eq G T) (G.d_Paper__eq.bindsN fun _ _ _ _ _ _ us hl => match us, hl with | [_, _], _ => rfl) rfl fun args ih h => if_neg h
theorem sc_Paper__bool : FnScope ["self"] ["self"] D_Paper__bool.scope := ⟨rfl, rfl, rfl, by decide +kernel, rfl, by decide +kernel, by decide +kernel⟩
theorem wG_Paper__bool (G : Fx P K mg fd cc cda) (T : Tab P w K mg base fd k) : FnG P w K mg base (2 * (k + 1)) (He.fAd K ("Paper", some "__bool__")) (fd 5) ["self"] (spI K (clF (k + 1)) 5 1) := by
  obtain ⟨oc, od, dV, kV, doc, pm, an, cdv, ct, osl, e, lk, hcd, hD, hK⟩ := G.d_Paper__bool.ex
  rw [e] at lk ⊢
  have hN : (["self"] : List Str).Nodup := sc_Paper__bool.nd
  refine fnI_of (k := 2 * k + 1) (cl := clF k) (cl' := clF (k + 1)) lk hcd sc_Paper__bool rfl (fun args ih h => if_pos h) fun A outer s H E hg hr cal po => ?_
  exact (sss_one (ss_ret se_bl))
theorem w_Paper__bool (G : Fx P K mg fd cc cda) (T : Tab P w K mg base fd k) : FnRG P w K mg base (2 * (k + 1)) (He.fAd K ("Paper", some "__bool__")) (spR K (clF (k + 1)) 5) :=
  fnR_of (wG_Paper__bool G T) (G.d_Paper__bool.bindsN fun _ _ _ _ _ _ us hl => match us, hl with | [_], _ => rfl) rfl fun args ih h => if_neg h
theorem sc_Denial__bool : FnScope ["self"] ["self"] D_Denial__bool.scope := ⟨rfl, rfl, rfl, by decide +kernel, rfl, by decide +kernel, by decide +kernel⟩
theorem wG_Denial__bool (G : Fx P K mg fd cc cda) (T : Tab P w K mg base fd k) : FnG P w K mg base (2 * (k + 1)) (He.fAd K ("Denial", some "__bool__")) (fd 6) ["self"] (spI K (clF (k + 1)) 6 1) := by
  obtain ⟨oc, od, dV, kV, doc, pm, an, cdv, ct, osl, e, lk, hcd, hD, hK⟩ := G.d_Denial__bool.ex
  rw [e] at lk ⊢
  have hN : (["self"] : List Str).Nodup := sc_Denial__bool.nd
  refine fnI_of (k := 2 * k + 1) (cl := clF k) (cl' := clF (k + 1)) lk hcd sc_Denial__bool rfl (fun args ih h => if_pos h) fun A outer s H E hg hr cal po => ?_
  exact (sss_one (ss_ret se_bl))
theorem w_Denial__bool (G : Fx P K mg fd cc cda) (T : Tab P w K mg base fd k) : FnRG P w K mg base (2 * (k + 1)) (He.fAd K ("Denial", some "__bool__")) (spR K (clF (k + 1)) 6) :=
  fnR_of (wG_Denial__bool G T) (G.d_Denial__bool.bindsN fun _ _ _ _ _ _ us hl => match us, hl with | [_], _ => rfl) rfl fun args ih h => if_neg h
theorem sc_BadAsk__init : NScope ["self", "path", "__class__"] ["self", "path"] ["__class__"] x_BadAsk__init.scope := nscope_by (by decide +kernel)
theorem w_BadAsk__init (G : Fx P K mg fd cc cda) (T : Tab P w K mg base fd k) (hP : P = PySem.Challenge.pw_keepsjust_k00_errors_and_papers) : FnG P w K mg base (2 * (k + 1)) (He.ma K (He.ga K "BadAsk") "__init__") (fd 7) ["self", "path"] (spI K (clF (k + 1)) 7 2) := by
  obtain ⟨⟨oc, od, kV, doc, pm, ct, an, osl, e, lk⟩, hcell, hcode, ccl, cdd, vs, ccs, tf, hco, hvs⟩ := G.x_BadAsk__init
  subst hP
  rw [e]
  have lk2 := lk
  rw [e] at lk2
  have hN : (["self", "path", "__class__"] : List Str).Nodup := sc_BadAsk__init.nd
  refine fnSup_of (k := 2 * k + 1) (slf := "self") (c := "BadAsk") (is := [1]) (cl := clF k) (cl' := clF (k + 1)) lk2 hcode sc_BadAsk__init rfl G.ex_BadAsk.1 rfl (fun args ih => rfl) (fun L => ⟨rfl, rfl, ⟨_, _, _, _, _, rfl, lk2, _, rfl, rfl⟩, ⟨_, _, _, _, _, _, _, rfl, hco, hvs, beq_self_eq_true _⟩, G.top_, G.sup, rfl⟩) (fun A outer s H E => (.cons (i := 1) rfl rfl (by decide) rfl .nil)) (by decide) (by decide) (fun A outer s H E hg cal => ?_) (pl := ?pl) (he := ?he)
  case he => intro L; rfl
  exact (sss_one (ss_ost G.osf (se_var 1) (se_var 0)))
theorem sc_BadProgram__init : NScope ["self", "part", "__class__"] ["self", "part"] ["__class__"] x_BadProgram__init.scope := nscope_by (by decide +kernel)
theorem w_BadProgram__init (G : Fx P K mg fd cc cda) (T : Tab P w K mg base fd k) (hP : P = PySem.Challenge.pw_keepsjust_k00_errors_and_papers) : FnG P w K mg base (2 * (k + 1)) (He.ma K (He.ga K "BadProgram") "__init__") (fd 8) ["self", "part"] (spI K (clF (k + 1)) 8 2) := by
  obtain ⟨⟨oc, od, kV, doc, pm, ct, an, osl, e, lk⟩, hcell, hcode, ccl, cdd, vs, ccs, tf, hco, hvs⟩ := G.x_BadProgram__init
  subst hP
  rw [e]
  have lk2 := lk
  rw [e] at lk2
  have hN : (["self", "part", "__class__"] : List Str).Nodup := sc_BadProgram__init.nd
  refine fnSup_of (k := 2 * k + 1) (slf := "self") (c := "BadProgram") (is := [1]) (cl := clF k) (cl' := clF (k + 1)) lk2 hcode sc_BadProgram__init rfl G.ex_BadProgram.1 rfl (fun args ih => rfl) (fun L => ⟨rfl, rfl, ⟨_, _, _, _, _, rfl, lk2, _, rfl, rfl⟩, ⟨_, _, _, _, _, _, _, rfl, hco, hvs, beq_self_eq_true _⟩, G.top_, G.sup, rfl⟩) (fun A outer s H E => (.cons (i := 1) rfl rfl (by decide) rfl .nil)) (by decide) (by decide) (fun A outer s H E hg cal => ?_) (pl := ?pl) (he := ?he)
  case he => intro L; rfl
  exact (sss_one (ss_ost G.osf (se_var 1) (se_var 0)))
theorem sc_BadSchema__init : NScope ["self", "part", "__class__"] ["self", "part"] ["__class__"] x_BadSchema__init.scope := nscope_by (by decide +kernel)
theorem w_BadSchema__init (G : Fx P K mg fd cc cda) (T : Tab P w K mg base fd k) (hP : P = PySem.Challenge.pw_keepsjust_k00_errors_and_papers) : FnG P w K mg base (2 * (k + 1)) (He.ma K (He.ga K "BadSchema") "__init__") (fd 9) ["self", "part"] (spI K (clF (k + 1)) 9 2) := by
  obtain ⟨⟨oc, od, kV, doc, pm, ct, an, osl, e, lk⟩, hcell, hcode, ccl, cdd, vs, ccs, tf, hco, hvs⟩ := G.x_BadSchema__init
  subst hP
  rw [e]
  have lk2 := lk
  rw [e] at lk2
  have hN : (["self", "part", "__class__"] : List Str).Nodup := sc_BadSchema__init.nd
  refine fnSup_of (k := 2 * k + 1) (slf := "self") (c := "BadSchema") (is := [1]) (cl := clF k) (cl' := clF (k + 1)) lk2 hcode sc_BadSchema__init rfl G.ex_BadSchema.1 rfl (fun args ih => rfl) (fun L => ⟨rfl, rfl, ⟨_, _, _, _, _, rfl, lk2, _, rfl, rfl⟩, ⟨_, _, _, _, _, _, _, rfl, hco, hvs, beq_self_eq_true _⟩, G.top_, G.sup, rfl⟩) (fun A outer s H E => (.cons (i := 1) rfl rfl (by decide) rfl .nil)) (by decide) (by decide) (fun A outer s H E hg cal => ?_) (pl := ?pl) (he := ?he)
  case he => intro L; rfl
  exact (sss_one (ss_ost G.osf (se_var 1) (se_var 0)))
theorem sc_BadBase__init : NScope ["self", "part", "__class__"] ["self", "part"] ["__class__"] x_BadBase__init.scope := nscope_by (by decide +kernel)
theorem w_BadBase__init (G : Fx P K mg fd cc cda) (T : Tab P w K mg base fd k) (hP : P = PySem.Challenge.pw_keepsjust_k00_errors_and_papers) : FnG P w K mg base (2 * (k + 1)) (He.ma K (He.ga K "BadBase") "__init__") (fd 10) ["self", "part"] (spI K (clF (k + 1)) 10 2) := by
  obtain ⟨⟨oc, od, kV, doc, pm, ct, an, osl, e, lk⟩, hcell, hcode, ccl, cdd, vs, ccs, tf, hco, hvs⟩ := G.x_BadBase__init
  subst hP
  rw [e]
  have lk2 := lk
  rw [e] at lk2
  have hN : (["self", "part", "__class__"] : List Str).Nodup := sc_BadBase__init.nd
  refine fnSup_of (k := 2 * k + 1) (slf := "self") (c := "BadBase") (is := [1]) (cl := clF k) (cl' := clF (k + 1)) lk2 hcode sc_BadBase__init rfl G.ex_BadBase.1 rfl (fun args ih => rfl) (fun L => ⟨rfl, rfl, ⟨_, _, _, _, _, rfl, lk2, _, rfl, rfl⟩, ⟨_, _, _, _, _, _, _, rfl, hco, hvs, beq_self_eq_true _⟩, G.top_, G.sup, rfl⟩) (fun A outer s H E => (.cons (i := 1) rfl rfl (by decide) rfl .nil)) (by decide) (by decide) (fun A outer s H E hg cal => ?_) (pl := ?pl) (he := ?he)
  case he => intro L; rfl
  exact (sss_one (ss_ost G.osf (se_var 1) (se_var 0)))
theorem sc_BadEvent__init : NScope ["self", "part", "__class__"] ["self", "part"] ["__class__"] x_BadEvent__init.scope := nscope_by (by decide +kernel)
theorem w_BadEvent__init (G : Fx P K mg fd cc cda) (T : Tab P w K mg base fd k) (hP : P = PySem.Challenge.pw_keepsjust_k00_errors_and_papers) : FnG P w K mg base (2 * (k + 1)) (He.ma K (He.ga K "BadEvent") "__init__") (fd 11) ["self", "part"] (spI K (clF (k + 1)) 11 2) := by
  obtain ⟨⟨oc, od, kV, doc, pm, ct, an, osl, e, lk⟩, hcell, hcode, ccl, cdd, vs, ccs, tf, hco, hvs⟩ := G.x_BadEvent__init
  subst hP
  rw [e]
  have lk2 := lk
  rw [e] at lk2
  have hN : (["self", "part", "__class__"] : List Str).Nodup := sc_BadEvent__init.nd
  refine fnSup_of (k := 2 * k + 1) (slf := "self") (c := "BadEvent") (is := [1]) (cl := clF k) (cl' := clF (k + 1)) lk2 hcode sc_BadEvent__init rfl G.ex_BadEvent.1 rfl (fun args ih => rfl) (fun L => ⟨rfl, rfl, ⟨_, _, _, _, _, rfl, lk2, _, rfl, rfl⟩, ⟨_, _, _, _, _, _, _, rfl, hco, hvs, beq_self_eq_true _⟩, G.top_, G.sup, rfl⟩) (fun A outer s H E => (.cons (i := 1) rfl rfl (by decide) rfl .nil)) (by decide) (by decide) (fun A outer s H E hg cal => ?_) (pl := ?pl) (he := ?he)
  case he => intro L; rfl
  exact (sss_one (ss_ost G.osf (se_var 1) (se_var 0)))
theorem sc_BadStream__init : NScope ["self", "at", "__class__"] ["self", "at"] ["__class__"] x_BadStream__init.scope := nscope_by (by decide +kernel)
theorem w_BadStream__init (G : Fx P K mg fd cc cda) (T : Tab P w K mg base fd k) (hP : P = PySem.Challenge.pw_keepsjust_k00_errors_and_papers) : FnG P w K mg base (2 * (k + 1)) (He.ma K (He.ga K "BadStream") "__init__") (fd 12) ["self", "at"] (spI K (clF (k + 1)) 12 2) := by
  obtain ⟨⟨oc, od, kV, doc, pm, ct, an, osl, e, lk⟩, hcell, hcode, ccl, cdd, vs, ccs, tf, hco, hvs⟩ := G.x_BadStream__init
  subst hP
  rw [e]
  have lk2 := lk
  rw [e] at lk2
  have hN : (["self", "at", "__class__"] : List Str).Nodup := sc_BadStream__init.nd
  refine fnSup_of (k := 2 * k + 1) (slf := "self") (c := "BadStream") (is := [1]) (cl := clF k) (cl' := clF (k + 1)) lk2 hcode sc_BadStream__init rfl G.ex_BadStream.1 rfl (fun args ih => rfl) (fun L => ⟨rfl, rfl, ⟨_, _, _, _, _, rfl, lk2, _, rfl, rfl⟩, ⟨_, _, _, _, _, _, _, rfl, hco, hvs, beq_self_eq_true _⟩, G.top_, G.sup, rfl⟩) (fun A outer s H E => (.cons (i := 1) rfl rfl (by decide) rfl .nil)) (by decide) (by decide) (fun A outer s H E hg cal => ?_) (pl := ?pl) (he := ?he)
  case he => intro L; rfl
  exact (sss_one (ss_ost G.osf (se_var 1) (se_var 0)))
theorem sc_BadValue__init : NScope ["self", "part", "__class__"] ["self", "part"] ["__class__"] x_BadValue__init.scope := nscope_by (by decide +kernel)
theorem w_BadValue__init (G : Fx P K mg fd cc cda) (T : Tab P w K mg base fd k) (hP : P = PySem.Challenge.pw_keepsjust_k00_errors_and_papers) : FnG P w K mg base (2 * (k + 1)) (He.ma K (He.ga K "BadValue") "__init__") (fd 13) ["self", "part"] (spI K (clF (k + 1)) 13 2) := by
  obtain ⟨⟨oc, od, kV, doc, pm, ct, an, osl, e, lk⟩, hcell, hcode, ccl, cdd, vs, ccs, tf, hco, hvs⟩ := G.x_BadValue__init
  subst hP
  rw [e]
  have lk2 := lk
  rw [e] at lk2
  have hN : (["self", "part", "__class__"] : List Str).Nodup := sc_BadValue__init.nd
  refine fnSup_of (k := 2 * k + 1) (slf := "self") (c := "BadValue") (is := [1]) (cl := clF k) (cl' := clF (k + 1)) lk2 hcode sc_BadValue__init rfl G.ex_BadValue.1 rfl (fun args ih => rfl) (fun L => ⟨rfl, rfl, ⟨_, _, _, _, _, rfl, lk2, _, rfl, rfl⟩, ⟨_, _, _, _, _, _, _, rfl, hco, hvs, beq_self_eq_true _⟩, G.top_, G.sup, rfl⟩) (fun A outer s H E => (.cons (i := 1) rfl rfl (by decide) rfl .nil)) (by decide) (by decide) (fun A outer s H E hg cal => ?_) (pl := ?pl) (he := ?he)
  case he => intro L; rfl
  exact (sss_one (ss_ost G.osf (se_var 1) (se_var 0)))
theorem sc_BadText__init : NScope ["self", "line", "word", "__class__"] ["self", "line", "word"] ["__class__"] x_BadText__init.scope := nscope_by (by decide +kernel)
theorem w_BadText__init (G : Fx P K mg fd cc cda) (T : Tab P w K mg base fd k) (hP : P = PySem.Challenge.pw_keepsjust_k00_errors_and_papers) : FnG P w K mg base (2 * (k + 1)) (He.ma K (He.ga K "BadText") "__init__") (fd 14) ["self", "line", "word"] (spI K (clF (k + 1)) 14 3) := by
  obtain ⟨⟨oc, od, kV, doc, pm, ct, an, osl, e, lk⟩, hcell, hcode, ccl, cdd, vs, ccs, tf, hco, hvs⟩ := G.x_BadText__init
  subst hP
  rw [e]
  have lk2 := lk
  rw [e] at lk2
  have hN : (["self", "line", "word", "__class__"] : List Str).Nodup := sc_BadText__init.nd
  refine fnSup_of (k := 2 * k + 1) (slf := "self") (c := "BadText") (is := [1, 2]) (cl := clF k) (cl' := clF (k + 1)) lk2 hcode sc_BadText__init rfl G.ex_BadText.1 rfl (fun args ih => rfl) (fun L => ⟨rfl, rfl, ⟨_, _, _, _, _, rfl, lk2, _, rfl, rfl⟩, ⟨_, _, _, _, _, _, _, rfl, hco, hvs, beq_self_eq_true _⟩, G.top_, G.sup, rfl⟩) (fun A outer s H E => (.cons (i := 1) rfl rfl (by decide) rfl (.cons (i := 2) rfl rfl (by decide) rfl .nil))) (by decide) (by decide) (fun A outer s H E hg cal => ?_) (pl := ?pl) (he := ?he)
  case he => intro L; rfl
  exact (sss_cons (ss_ost G.osf (se_var 1) (se_var 0))
    (sss_one (ss_ost G.osf (se_var 2) (se_var 0))))
theorem sc_BadWord__init : NScope ["self", "word", "__class__"] ["self", "word"] ["__class__"] x_BadWord__init.scope := nscope_by (by decide +kernel)
theorem w_BadWord__init (G : Fx P K mg fd cc cda) (T : Tab P w K mg base fd k) (hP : P = PySem.Challenge.pw_keepsjust_k00_errors_and_papers) : FnG P w K mg base (2 * (k + 1)) (He.ma K (He.ga K "BadWord") "__init__") (fd 15) ["self", "word"] (spI K (clF (k + 1)) 15 2) := by
  obtain ⟨⟨oc, od, kV, doc, pm, ct, an, osl, e, lk⟩, hcell, hcode, ccl, cdd, vs, ccs, tf, hco, hvs⟩ := G.x_BadWord__init
  subst hP
  rw [e]
  have lk2 := lk
  rw [e] at lk2
  have hN : (["self", "word", "__class__"] : List Str).Nodup := sc_BadWord__init.nd
  refine fnSup_of (k := 2 * k + 1) (slf := "self") (c := "BadWord") (is := [1]) (cl := clF k) (cl' := clF (k + 1)) lk2 hcode sc_BadWord__init rfl G.ex_BadWord.1 rfl (fun args ih => rfl) (fun L => ⟨rfl, rfl, ⟨_, _, _, _, _, rfl, lk2, _, rfl, rfl⟩, ⟨_, _, _, _, _, _, _, rfl, hco, hvs, beq_self_eq_true _⟩, G.top_, G.sup, rfl⟩) (fun A outer s H E => (.cons (i := 1) rfl rfl (by decide) rfl .nil)) (by decide) (by decide) (fun A outer s H E hg cal => ?_) (pl := ?pl) (he := ?he)
  case he => intro L; rfl
  exact (sss_one (ss_ost G.osf (se_var 1) (se_var 0)))
theorem sc_Falls__init : NScope ["self", "show", "path", "why", "__class__"] ["self", "show", "path", "why"] ["__class__"] x_Falls__init.scope := nscope_by (by decide +kernel)
theorem w_Falls__init (G : Fx P K mg fd cc cda) (T : Tab P w K mg base fd k) (hP : P = PySem.Challenge.pw_keepsjust_k00_errors_and_papers) : FnG P w K mg base (2 * (k + 1)) (He.ma K (He.ga K "Falls") "__init__") (fd 16) ["self", "show", "path", "why"] (spI K (clF (k + 1)) 16 4) := by
  obtain ⟨⟨oc, od, kV, doc, pm, ct, an, osl, e, lk⟩, hcell, hcode, ccl, cdd, vs, ccs, tf, hco, hvs⟩ := G.x_Falls__init
  subst hP
  rw [e]
  have lk2 := lk
  rw [e] at lk2
  have hN : (["self", "show", "path", "why", "__class__"] : List Str).Nodup := sc_Falls__init.nd
  refine fnSup_of (k := 2 * k + 1) (slf := "self") (c := "Falls") (is := [1, 2, 3]) (cl := clF k) (cl' := clF (k + 1)) lk2 hcode sc_Falls__init rfl G.ex_Falls.1 rfl (fun args ih => rfl) (fun L => ⟨rfl, rfl, ⟨_, _, _, _, _, rfl, lk2, _, rfl, rfl⟩, ⟨_, _, _, _, _, _, _, rfl, hco, hvs, beq_self_eq_true _⟩, G.top_, G.sup, rfl⟩) (fun A outer s H E => (.cons (i := 1) rfl rfl (by decide) rfl (.cons (i := 2) rfl rfl (by decide) rfl (.cons (i := 3) rfl rfl (by decide) rfl .nil)))) (by decide) (by decide) (fun A outer s H E hg cal => ?_) (pl := ?pl) (he := ?he)
  case he => intro L; rfl
  exact (sss_cons (ss_ost G.osf (se_var 1) (se_var 0))
    (sss_cons (ss_ost G.osf (se_var 2) (se_var 0))
    (sss_one (ss_ost G.osf (se_var 3) (se_var 0)))))
theorem sc_Misfit__init : NScope ["self", "part", "__class__"] ["self", "part"] ["__class__"] x_Misfit__init.scope := nscope_by (by decide +kernel)
theorem w_Misfit__init (G : Fx P K mg fd cc cda) (T : Tab P w K mg base fd k) (hP : P = PySem.Challenge.pw_keepsjust_k00_errors_and_papers) : FnG P w K mg base (2 * (k + 1)) (He.ma K (He.ga K "Misfit") "__init__") (fd 17) ["self", "part"] (spI K (clF (k + 1)) 17 2) := by
  obtain ⟨⟨oc, od, kV, doc, pm, ct, an, osl, e, lk⟩, hcell, hcode, ccl, cdd, vs, ccs, tf, hco, hvs⟩ := G.x_Misfit__init
  subst hP
  rw [e]
  have lk2 := lk
  rw [e] at lk2
  have hN : (["self", "part", "__class__"] : List Str).Nodup := sc_Misfit__init.nd
  refine fnSup_of (k := 2 * k + 1) (slf := "self") (c := "Misfit") (is := [1]) (cl := clF k) (cl' := clF (k + 1)) lk2 hcode sc_Misfit__init rfl G.ex_Misfit.1 rfl (fun args ih => rfl) (fun L => ⟨rfl, rfl, ⟨_, _, _, _, _, rfl, lk2, _, rfl, rfl⟩, ⟨_, _, _, _, _, _, _, rfl, hco, hvs, beq_self_eq_true _⟩, G.top_, G.sup, rfl⟩) (fun A outer s H E => (.cons (i := 1) rfl rfl (by decide) rfl .nil)) (by decide) (by decide) (fun A outer s H E hg cal => ?_) (pl := ?pl) (he := ?he)
  case he => intro L; rfl
  exact (sss_one (ss_ost G.osf (se_var 1) (se_var 0)))
theorem sc_NoName__init : NScope ["self", "name", "__class__"] ["self", "name"] ["__class__"] x_NoName__init.scope := nscope_by (by decide +kernel)
theorem w_NoName__init (G : Fx P K mg fd cc cda) (T : Tab P w K mg base fd k) (hP : P = PySem.Challenge.pw_keepsjust_k00_errors_and_papers) : FnG P w K mg base (2 * (k + 1)) (He.ma K (He.ga K "NoName") "__init__") (fd 18) ["self", "name"] (spI K (clF (k + 1)) 18 2) := by
  obtain ⟨⟨oc, od, kV, doc, pm, ct, an, osl, e, lk⟩, hcell, hcode, ccl, cdd, vs, ccs, tf, hco, hvs⟩ := G.x_NoName__init
  subst hP
  rw [e]
  have lk2 := lk
  rw [e] at lk2
  have hN : (["self", "name", "__class__"] : List Str).Nodup := sc_NoName__init.nd
  refine fnSup_of (k := 2 * k + 1) (slf := "self") (c := "NoName") (is := [1]) (cl := clF k) (cl' := clF (k + 1)) lk2 hcode sc_NoName__init rfl G.ex_NoName.1 rfl (fun args ih => rfl) (fun L => ⟨rfl, rfl, ⟨_, _, _, _, _, rfl, lk2, _, rfl, rfl⟩, ⟨_, _, _, _, _, _, _, rfl, hco, hvs, beq_self_eq_true _⟩, G.top_, G.sup, rfl⟩) (fun A outer s H E => (.cons (i := 1) rfl rfl (by decide) rfl .nil)) (by decide) (by decide) (fun A outer s H E hg cal => ?_) (pl := ?pl) (he := ?he)
  case he => intro L; rfl
  exact (sss_one (ss_ost G.osf (se_var 1) (se_var 0)))
theorem sc_TooMany__init : NScope ["self", "what", "most", "__class__"] ["self", "what", "most"] ["__class__"] x_TooMany__init.scope := nscope_by (by decide +kernel)
theorem w_TooMany__init (G : Fx P K mg fd cc cda) (T : Tab P w K mg base fd k) (hP : P = PySem.Challenge.pw_keepsjust_k00_errors_and_papers) : FnG P w K mg base (2 * (k + 1)) (He.ma K (He.ga K "TooMany") "__init__") (fd 19) ["self", "what", "most"] (spI K (clF (k + 1)) 19 3) := by
  obtain ⟨⟨oc, od, kV, doc, pm, ct, an, osl, e, lk⟩, hcell, hcode, ccl, cdd, vs, ccs, tf, hco, hvs⟩ := G.x_TooMany__init
  subst hP
  rw [e]
  have lk2 := lk
  rw [e] at lk2
  have hN : (["self", "what", "most", "__class__"] : List Str).Nodup := sc_TooMany__init.nd
  refine fnSup_of (k := 2 * k + 1) (slf := "self") (c := "TooMany") (is := [1, 2]) (cl := clF k) (cl' := clF (k + 1)) lk2 hcode sc_TooMany__init rfl G.ex_TooMany.1 rfl (fun args ih => rfl) (fun L => ⟨rfl, rfl, ⟨_, _, _, _, _, rfl, lk2, _, rfl, rfl⟩, ⟨_, _, _, _, _, _, _, rfl, hco, hvs, beq_self_eq_true _⟩, G.top_, G.sup, rfl⟩) (fun A outer s H E => (.cons (i := 1) rfl rfl (by decide) rfl (.cons (i := 2) rfl rfl (by decide) rfl .nil))) (by decide) (by decide) (fun A outer s H E hg cal => ?_) (pl := ?pl) (he := ?he)
  case he => intro L; rfl
  exact (sss_cons (ss_ost G.osf (se_var 1) (se_var 0))
    (sss_one (ss_ost G.osf (se_var 2) (se_var 0))))
theorem sc_Nothing__init : NScope ["self", "word", "__class__"] ["self", "word"] ["__class__"] x_Nothing__init.scope := nscope_by (by decide +kernel)
theorem w_Nothing__init (G : Fx P K mg fd cc cda) (T : Tab P w K mg base fd k) (hP : P = PySem.Challenge.pw_keepsjust_k00_errors_and_papers) : FnG P w K mg base (2 * (k + 1)) (He.ma K (He.ga K "Nothing") "__init__") (fd 20) ["self", "word"] (spI K (clF (k + 1)) 20 2) := by
  obtain ⟨⟨oc, od, kV, doc, pm, ct, an, osl, e, lk⟩, hcell, hcode, ccl, cdd, vs, ccs, tf, hco, hvs⟩ := G.x_Nothing__init
  subst hP
  rw [e]
  have lk2 := lk
  rw [e] at lk2
  have hN : (["self", "word", "__class__"] : List Str).Nodup := sc_Nothing__init.nd
  refine fnSup_of (k := 2 * k + 1) (slf := "self") (c := "Nothing") (is := [1]) (cl := clF k) (cl' := clF (k + 1)) lk2 hcode sc_Nothing__init rfl G.ex_Nothing.1 rfl (fun args ih => rfl) (fun L => ⟨rfl, rfl, ⟨_, _, _, _, _, rfl, lk2, _, rfl, rfl⟩, ⟨_, _, _, _, _, _, _, rfl, hco, hvs, beq_self_eq_true _⟩, G.top_, G.sup, rfl⟩) (fun A outer s H E => (.cons (i := 1) rfl rfl (by decide) rfl .nil)) (by decide) (by decide) (fun A outer s H E hg cal => ?_) (pl := ?pl) (he := ?he)
  case he => intro L; rfl
  exact (sss_one (ss_ost G.osf (se_var 1) (se_var 0)))
theorem sc_law_pen : FnScope ["script"] ["script"] D_law_pen.scope := ⟨rfl, rfl, rfl, by decide +kernel, rfl, by decide +kernel, by decide +kernel⟩
theorem wG_law_pen (G : Fx P K mg fd cc cda) (T : Tab P w K mg base fd k) : FnG P w K mg base (2 * (k + 1)) (He.fAd K ("_law_pen", none)) (fd 21) ["script"] (spI K (clF (k + 1)) 21 1) := by
  obtain ⟨oc, od, dV, kV, doc, pm, an, cdv, ct, osl, e, lk, hcd, hD, hK⟩ := G.d_law_pen.ex
  rw [e] at lk ⊢
  have hN : (["script"] : List Str).Nodup := sc_law_pen.nd
  refine fnI_of (k := 2 * k + 1) (cl := clF k) (cl' := clF (k + 1)) lk hcd sc_law_pen rfl (fun args ih h => if_pos h) fun A outer s H E hg hr cal po => ?_
  exact (sss_one (ss_ret (se_lst (sa_cons (se_callTy call_list_of cs_list G.f_list (sa_cons (se_slice (se_var 0) sp_none (sp_some se_int)) sa_nil)) (sa_cons se_int (sa_cons se_int sa_nil))))))
theorem w_law_pen (G : Fx P K mg fd cc cda) (T : Tab P w K mg base fd k) : FnG P w K mg base (2 * (k + 1)) (He.fAd K ("_law_pen", none)) (fd 21) ["script"] (spI K (clF (k + 1)) 21 1) := wG_law_pen G T
theorem sc_law_draw : FnScope ["pen", "many", "at", "cell", "mixed", "digit", "great"] ["pen", "many"] D_law_draw.scope := ⟨rfl, rfl, rfl, by decide +kernel, rfl, by decide +kernel, by decide +kernel⟩
theorem wG_law_draw (G : Fx P K mg fd cc cda) (T : Tab P w K mg base fd k) : FnG P w K mg base (2 * (k + 1)) (He.fAd K ("_law_draw", none)) (fd 22) ["pen", "many"] (spI K (clF (k + 1)) 22 2) := by
  obtain ⟨oc, od, dV, kV, doc, pm, an, cdv, ct, osl, e, lk, hcd, hD, hK⟩ := G.d_law_draw.ex
  rw [e] at lk ⊢
  have hN : (["pen", "many", "at", "cell", "mixed", "digit", "great"] : List Str).Nodup := sc_law_draw.nd
  refine fnI_of (k := 2 * k + 1) (cl := clF k) (cl' := clF (k + 1)) lk hcd sc_law_draw rfl (fun args ih h => if_pos h) fun A outer s H E hg hr cal po => ?_
  exact (sss_gc (sss_cons (ss_if (st_cmp os_gt (se_ix (se_var 0) se_int) se_int (by first | exact nobehind _ (by decide) (by decide) | rfl)) (sss_cons (ss_set 5 hN (se_op os_mod (se_callTy call_int1 cs_int G.f_int (sa_cons (se_ix (se_var 0) se_int) sa_nil)) (se_var 1)))
    (sss_cons (ss_setI (se_op os_divW (se_callTy call_int1 cs_int G.f_int (sa_cons (se_ix (se_var 0) se_int) sa_nil)) (se_var 1)) (se_var 0) se_int)
    (sss_one (ss_ret (se_var 5))))) sss_nil)
    (sss_cons (ss_set 2 hN (se_ix (se_var 0) se_int))
    (sss_cons (ss_setI (se_op os_add (se_var 2) se_int) (se_var 0) se_int)
    (sss_cons (ss_set 3 hN (se_op os_add (se_op os_mul se_int (se_var 2)) se_int))
    (sss_cons (ss_if (st_cmp (os_neD hr.units G.sm) (se_ix (se_var 0) se_int) (se_lst sa_nil) (by first | exact nobehind _ (by decide) (by decide) | rfl)) (sss_one (ss_set 3 hN (se_ix (se_ix (se_var 0) se_int) (se_op os_mod (se_callTy call_int1 cs_int G.f_int (sa_cons (se_var 2) sa_nil)) (se_callB call_len cs_len G.f_len (sa_cons (se_ix (se_var 0) se_int) sa_nil)))))) sss_nil)
    (sss_cons (ss_if (st_w (sw_and (st_cmp os_lt (se_var 2) (se_callB call_len cs_len G.f_len (sa_cons (se_ix (se_var 0) se_int) sa_nil)) (by first | exact nobehind _ (by decide) (by decide) | rfl)) (sw_and1 (st_cmp os_ge (se_callB call_abs cs_abs G.f_abs (sa_cons (se_var 3) sa_nil)) (se_op os_pow se_int se_int) (by first | exact nobehind _ (by decide) (by decide) | rfl))))) (sss_cons (ss_set 6 hN (se_op os_add (se_op os_mul se_int (se_op os_subI (se_callB call_abs cs_abs G.f_abs (sa_cons (se_var 3) sa_nil)) (se_op os_pow se_int se_int))) (se_callTy call_int1 cs_int G.f_int (sa_cons (se_cmp os_lt (se_var 3) se_int (by first | exact nobehind _ (by decide) (by decide) | rfl)) sa_nil))))
    (sss_cons (ss_setI (se_op os_divW (se_callTy call_int1 cs_int G.f_int (sa_cons (se_var 6) sa_nil)) (se_var 1)) (se_var 0) se_int)
    (sss_one (ss_ret (se_op os_mod (se_callTy call_int1 cs_int G.f_int (sa_cons (se_var 6) sa_nil)) (se_var 1)))))) sss_nil)
    (sss_cons (ss_set 4 hN (se_op os_mod (se_callTy call_int1 cs_int G.f_int (sa_cons (se_op os_pow (se_op os_add (se_op os_add (se_op os_mod (se_callTy call_int1 cs_int G.f_int (sa_cons (se_var 3) sa_nil)) se_int) (se_op os_mul se_int (se_var 2))) se_int) se_int) sa_nil)) se_int))
    (sss_cons (ss_set 4 hN (se_op os_mod (se_callTy call_int1 cs_int G.f_int (sa_cons (se_op os_pow (se_op os_add (se_op os_add (se_op os_mul (se_var 4) (se_op os_add (se_op os_mul se_int (se_var 2)) se_int)) (se_op os_mul (se_op os_mul se_int (se_var 2)) (se_var 2))) se_int) se_int) sa_nil)) se_int))
    (sss_one (ss_ret (se_op os_mod (se_callTy call_int1 cs_int G.f_int (sa_cons (se_op os_divW (se_var 4) se_int) sa_nil)) (se_var 1)))))))))))))
theorem w_law_draw (G : Fx P K mg fd cc cda) (T : Tab P w K mg base fd k) : FnG P w K mg base (2 * (k + 1)) (He.fAd K ("_law_draw", none)) (fd 22) ["pen", "many"] (spI K (clF (k + 1)) 22 2) := wG_law_draw G T
theorem sc_law_pick : FnScope ["pen", "some"] ["pen", "some"] D_law_pick.scope := ⟨rfl, rfl, rfl, by decide +kernel, rfl, by decide +kernel, by decide +kernel⟩
theorem wG_law_pick (G : Fx P K mg fd cc cda) (T : Tab P w K mg base fd k) : FnG P w K mg base (2 * (k + 1)) (He.fAd K ("_law_pick", none)) (fd 23) ["pen", "some"] (spI K (clF (k + 1)) 23 2) := by
  obtain ⟨oc, od, dV, kV, doc, pm, an, cdv, ct, osl, e, lk, hcd, hD, hK⟩ := G.d_law_pick.ex
  rw [e] at lk ⊢
  have hN : (["pen", "some"] : List Str).Nodup := sc_law_pick.nd
  refine fnI_of (k := 2 * k + 1) (cl := clF k) (cl' := clF (k + 1)) lk hcd sc_law_pick rfl (fun args ih h => if_pos h) fun A outer s H E hg hr cal po => ?_
  exact (sss_one (ss_ret (se_ix (se_var 1) (se_call T.p_law_draw rfl cal (hr.mono (by omega)) G.g__law_draw G.k__law_draw G.b__law_draw .nil (fun _ _ => .nil) (sa_cons (se_var 0) (sa_cons (se_callB call_len cs_len G.f_len (sa_cons (se_var 1) sa_nil)) sa_nil)) (len_cons (len_cons len_nil))))))
theorem w_law_pick (G : Fx P K mg fd cc cda) (T : Tab P w K mg base fd k) : FnG P w K mg base (2 * (k + 1)) (He.fAd K ("_law_pick", none)) (fd 23) ["pen", "some"] (spI K (clF (k + 1)) 23 2) := wG_law_pick G T
theorem sc_law_any : FnScope ["pen"] ["pen"] D_law_any.scope := ⟨rfl, rfl, rfl, by decide +kernel, rfl, by decide +kernel, by decide +kernel⟩
theorem wG_law_any (G : Fx P K mg fd cc cda) (T : Tab P w K mg base fd k) : FnG P w K mg base (2 * (k + 1)) (He.fAd K ("_law_any", none)) (fd 24) ["pen"] (spI K (clF (k + 1)) 24 1) := by
  obtain ⟨oc, od, dV, kV, doc, pm, an, cdv, ct, osl, e, lk, hcd, hD, hK⟩ := G.d_law_any.ex
  rw [e] at lk ⊢
  have hN : (["pen"] : List Str).Nodup := sc_law_any.nd
  refine fnI_of (k := 2 * k + 1) (cl := clF k) (cl' := clF (k + 1)) lk hcd sc_law_any rfl (fun args ih h => if_pos h) fun A outer s H E hg hr cal po => ?_
  exact (sss_one (ss_ret (se_call T.p_law_pick rfl cal (hr.mono (by omega)) G.g__law_pick G.k__law_pick G.b__law_pick .nil (fun _ _ => .nil) (sa_cons (se_var 0) (sa_cons (se_lst (sa_cons se_non (sa_cons se_int (sa_cons (se_neg se_int) (sa_cons se_bl (sa_cons se_str (sa_cons (se_lst (sa_cons se_int (sa_cons (se_lst (sa_cons se_int sa_nil)) sa_nil))) (sa_cons (se_tup (sa_cons se_int (sa_cons (se_tup (sa_cons se_int sa_nil)) sa_nil))) (sa_cons se_dict0 (sa_cons se_str (sa_cons (se_op os_pow se_int se_int) (sa_cons (se_tup sa_nil) sa_nil)))))))))))) sa_nil)) (len_cons (len_cons len_nil)))))
theorem w_law_any (G : Fx P K mg fd cc cda) (T : Tab P w K mg base fd k) : FnG P w K mg base (2 * (k + 1)) (He.fAd K ("_law_any", none)) (fd 24) ["pen"] (spI K (clF (k + 1)) 24 1) := wG_law_any G T
theorem sc_law : FnScope ["script", "pen", "turn", "some", "more", "told", "inner", "value", "other", "third", "at", "one", "kinds", "paper", "denial", "lap", "spot"] ["script"] D_law.scope := ⟨rfl, rfl, rfl, by decide +kernel, rfl, by decide +kernel, by decide +kernel⟩
theorem wG_law (G : Fx P K mg fd cc cda) (T : Tab P w K mg base fd k) : FnG P w K mg base (2 * (k + 1)) (He.fAd K ("law", none)) (fd 25) ["script"] (spI K (clF (k + 1)) 25 1) := by
  obtain ⟨oc, od, dV, kV, doc, pm, an, cdv, ct, osl, e, lk, hcd, hD, hK⟩ := G.d_law.ex
  rw [e] at lk ⊢
  have hN : (["script", "pen", "turn", "some", "more", "told", "inner", "value", "other", "third", "at", "one", "kinds", "paper", "denial", "lap", "spot"] : List Str).Nodup := sc_law.nd
  refine fnI_of (k := 2 * k + 1) (cl := clF k) (cl' := clF (k + 1)) lk hcd sc_law rfl (fun args ih h => if_pos h) fun A outer s H E hg hr cal po => ?_
  exact (sss_cons (ss_set 1 hN (se_call T.p_law_pen rfl cal (hr.mono (by omega)) G.g__law_pen G.k__law_pen G.b__law_pen .nil (fun _ _ => .nil) (sa_cons (se_var 0) sa_nil) (len_cons len_nil)))
    (sss_cons (ss_for po rfl (si_rng1 G.f_range (sa_cons se_int sa_nil)) (sg_nm 2 hN) (sss_gc (sss_cons (ss_asgL rfl (se_lc (own := [("lap", 15)]) rfl hN (si_rng1 G.f_range (sa_cons se_int sa_nil)) (blkOk_by (by kernel_rfl)) (by decide) (fun s H C cl' fp => (sg_nm 15 hN)) (fun s H C cl' fp => spts_nil) (fun s H C cl' fp => (se_call T.p_law_any rfl cal.blk (hr.mono (by omega)) G.g__law_any G.k__law_any G.b__law_any .nil (fun _ _ => .nil) (sa_cons (se_var 1) sa_nil) (len_cons len_nil)))) (sgs_cons (sg_nm 7 hN) (sgs_cons (sg_nm 8 hN) (sgs_cons (sg_nm 9 hN) sgs_nil))))
    (sss_cons (ss_set 3 hN (se_lst (sa_cons (se_mkExc G.ex_BadProgram.1 G.ex_BadProgram.2.1 G.ex_BadProgram.2.2 T.p_BadProgram__init G.kb_BadProgram_part (fit_pm [0]) (pm_len (by decide) rfl) rfl cal hr G.g_BadProgram (sk_cons (se_var 7) sk_nil)) (sa_cons (se_mkExc G.ex_BadSchema.1 G.ex_BadSchema.2.1 G.ex_BadSchema.2.2 T.p_BadSchema__init G.kb_BadSchema_part (fit_pm [0]) (pm_len (by decide) rfl) rfl cal hr G.g_BadSchema (sk_cons (se_var 7) sk_nil)) (sa_cons (se_mkExc G.ex_BadBase.1 G.ex_BadBase.2.1 G.ex_BadBase.2.2 T.p_BadBase__init G.kb_BadBase_part (fit_pm [0]) (pm_len (by decide) rfl) rfl cal hr G.g_BadBase (sk_cons (se_var 7) sk_nil)) (sa_cons (se_mkExc G.ex_BadEvent.1 G.ex_BadEvent.2.1 G.ex_BadEvent.2.2 T.p_BadEvent__init G.kb_BadEvent_part (fit_pm [0]) (pm_len (by decide) rfl) rfl cal hr G.g_BadEvent (sk_cons (se_var 7) sk_nil)) (sa_cons (se_mkExc G.ex_BadValue.1 G.ex_BadValue.2.1 G.ex_BadValue.2.2 T.p_BadValue__init G.kb_BadValue_part (fit_pm [0]) (pm_len (by decide) rfl) rfl cal hr G.g_BadValue (sk_cons (se_var 7) sk_nil)) (sa_cons (se_mkExc G.ex_Misfit.1 G.ex_Misfit.2.1 G.ex_Misfit.2.2 T.p_Misfit__init G.kb_Misfit_part (fit_pm [0]) (pm_len (by decide) rfl) rfl cal hr G.g_Misfit (sk_cons (se_var 7) sk_nil)) sa_nil))))))))
    (sss_cons (ss_if (st_cmp (os_neD hr.units G.sm) (se_lc (own := [("one", 11)]) rfl hN (si_seq (se_var 3)) (blkOk_by (by kernel_rfl)) (by decide) (fun s H C cl' fp => (sg_nm 11 hN)) (fun s H C cl' fp => (spts_one (st_cmp (os_neD hr.units G.sm) (se_callB (cr_repr hr.units cal.blk.g G.sm) cs_G G.f_repr (sa_cons (se_fld G.at_ (se_var 11)) sa_nil)) (se_callB (cr_repr hr.units cal.blk.g G.sm) cs_G G.f_repr (sa_cons (se_var 7) sa_nil)) (by first | exact nobehind _ (by decide) (by decide) | rfl)))) (fun s H C cl' fp => (se_var 11))) (se_lst sa_nil) (by first | exact nobehind _ (by decide) (by decide) | rfl)) (sss_one (ss_ret se_bl)) sss_nil)
    (sss_cons (ss_set 4 hN (se_lst (sa_cons (se_mkExc G.ex_BadAsk.1 G.ex_BadAsk.2.1 G.ex_BadAsk.2.2 T.p_BadAsk__init G.kb_BadAsk_path (fit_pm [0]) (pm_len (by decide) rfl) rfl cal hr G.g_BadAsk (sk_cons (se_var 7) sk_nil)) (sa_cons (se_mkExc G.ex_BadStream.1 G.ex_BadStream.2.1 G.ex_BadStream.2.2 T.p_BadStream__init G.kb_BadStream_at (fit_pm [0]) (pm_len (by decide) rfl) rfl cal hr G.g_BadStream (sk_cons (se_var 7) sk_nil)) (sa_cons (se_mkExc G.ex_BadText.1 G.ex_BadText.2.1 G.ex_BadText.2.2 T.p_BadText__init G.kb_BadText_word_line (fit_pm [1, 0]) (pm_len (by decide) rfl) rfl cal hr G.g_BadText (sk_cons (se_var 8) (sk_cons (se_var 7) sk_nil))) (sa_cons (se_mkExc G.ex_BadWord.1 G.ex_BadWord.2.1 G.ex_BadWord.2.2 T.p_BadWord__init G.kb_BadWord_word (fit_pm [0]) (pm_len (by decide) rfl) rfl cal hr G.g_BadWord (sk_cons (se_var 7) sk_nil)) (sa_cons (se_mkExc G.ex_Falls.1 G.ex_Falls.2.1 G.ex_Falls.2.2 T.p_Falls__init G.kb_Falls_why_path_show (fit_pm [2, 1, 0]) (pm_len (by decide) rfl) rfl cal hr G.g_Falls (sk_cons (se_var 9) (sk_cons (se_var 8) (sk_cons (se_var 7) sk_nil)))) sa_nil)))))))
    (sss_cons (ss_set 4 hN (se_op os_add (se_var 4) (se_lst (sa_cons (se_mkExc G.ex_NoName.1 G.ex_NoName.2.1 G.ex_NoName.2.2 T.p_NoName__init G.kb_NoName_name (fit_pm [0]) (pm_len (by decide) rfl) rfl cal hr G.g_NoName (sk_cons (se_var 7) sk_nil)) (sa_cons (se_mkExc G.ex_TooMany.1 G.ex_TooMany.2.1 G.ex_TooMany.2.2 T.p_TooMany__init G.kb_TooMany_most_what (fit_pm [1, 0]) (pm_len (by decide) rfl) rfl cal hr G.g_TooMany (sk_cons (se_var 8) (sk_cons (se_var 7) sk_nil))) (sa_cons (se_mkExc G.ex_Nothing.1 G.ex_Nothing.2.1 G.ex_Nothing.2.2 T.p_Nothing__init G.kb_Nothing_word (fit_pm [0]) (pm_len (by decide) rfl) rfl cal hr G.g_Nothing (sk_cons (se_var 7) sk_nil)) sa_nil))))))
    (sss_cons (ss_set 5 hN (se_lst (sa_cons (se_fld G.at_ (se_ix (se_var 4) se_int)) (sa_cons (se_fld G.at_ (se_ix (se_var 4) se_int)) (sa_cons (se_fld G.at_ (se_ix (se_var 4) se_int)) (sa_cons (se_fld G.at_ (se_ix (se_var 4) se_int)) (sa_cons (se_fld G.at_ (se_ix (se_var 4) se_int)) (sa_cons (se_fld G.at_ (se_ix (se_var 4) se_int)) (sa_cons (se_fld G.at_ (se_ix (se_var 4) se_int)) (sa_cons (se_fld G.at_ (se_ix (se_var 4) se_int)) (sa_cons (se_fld G.at_ (se_ix (se_var 4) se_int)) (sa_cons (se_fld G.at_ (se_ix (se_var 4) se_int)) (sa_cons (se_fld G.at_ (se_ix (se_var 4) se_int)) (sa_cons (se_fld G.at_ (se_ix (se_var 4) se_int)) sa_nil))))))))))))))
    (sss_cons (ss_if (st_cmp (os_neD hr.units G.sm) (se_callB (cr_repr hr.units cal.g G.sm) cs_G G.f_repr (sa_cons (se_var 5) sa_nil)) (se_callB (cr_repr hr.units cal.g G.sm) cs_G G.f_repr (sa_cons (se_lst (sa_cons (se_var 7) (sa_cons (se_var 7) (sa_cons (se_var 7) (sa_cons (se_var 8) (sa_cons (se_var 7) (sa_cons (se_var 7) (sa_cons (se_var 8) (sa_cons (se_var 9) (sa_cons (se_var 7) (sa_cons (se_var 7) (sa_cons (se_var 8) (sa_cons (se_var 7) sa_nil))))))))))))) sa_nil)) (by first | exact nobehind _ (by decide) (by decide) | rfl)) (sss_one (ss_ret se_bl)) sss_nil)
    (sss_cons (ss_for po rfl (si_enum (sa_cons (se_op os_add (se_var 3) (se_var 4)) sa_nil) G.f_enumerate) (sg_tp rfl (sgs_cons (sg_nm 10 hN) (sgs_cons (sg_nm 11 hN) sgs_nil))) (sss_cons (ss_set 12 hN (se_lst (sa_cons (se_callB (cr_isi G.isf) cs_G G.f_isinstance (sa_cons (se_var 11) (sa_cons (se_glo G.g_BadProgram) sa_nil))) (sa_cons (se_callB (cr_isi G.isf) cs_G G.f_isinstance (sa_cons (se_var 11) (sa_cons (se_glo G.g_BadSchema) sa_nil))) (sa_cons (se_callB (cr_isi G.isf) cs_G G.f_isinstance (sa_cons (se_var 11) (sa_cons (se_glo G.g_BadBase) sa_nil))) (sa_cons (se_callB (cr_isi G.isf) cs_G G.f_isinstance (sa_cons (se_var 11) (sa_cons (se_glo G.g_BadEvent) sa_nil))) (sa_cons (se_callB (cr_isi G.isf) cs_G G.f_isinstance (sa_cons (se_var 11) (sa_cons (se_glo G.g_BadValue) sa_nil))) (sa_cons (se_callB (cr_isi G.isf) cs_G G.f_isinstance (sa_cons (se_var 11) (sa_cons (se_glo G.g_Misfit) sa_nil))) sa_nil))))))))
    (sss_cons (ss_set 12 hN (se_op os_add (se_var 12) (se_lst (sa_cons (se_callB (cr_isi G.isf) cs_G G.f_isinstance (sa_cons (se_var 11) (sa_cons (se_glo G.g_BadAsk) sa_nil))) (sa_cons (se_callB (cr_isi G.isf) cs_G G.f_isinstance (sa_cons (se_var 11) (sa_cons (se_glo G.g_BadStream) sa_nil))) (sa_cons (se_callB (cr_isi G.isf) cs_G G.f_isinstance (sa_cons (se_var 11) (sa_cons (se_glo G.g_BadText) sa_nil))) (sa_cons (se_callB (cr_isi G.isf) cs_G G.f_isinstance (sa_cons (se_var 11) (sa_cons (se_glo G.g_BadWord) sa_nil))) (sa_cons (se_callB (cr_isi G.isf) cs_G G.f_isinstance (sa_cons (se_var 11) (sa_cons (se_glo G.g_Falls) sa_nil))) sa_nil))))))))
    (sss_cons (ss_set 12 hN (se_op os_add (se_var 12) (se_lst (sa_cons (se_callB (cr_isi G.isf) cs_G G.f_isinstance (sa_cons (se_var 11) (sa_cons (se_glo G.g_NoName) sa_nil))) (sa_cons (se_callB (cr_isi G.isf) cs_G G.f_isinstance (sa_cons (se_var 11) (sa_cons (se_glo G.g_TooMany) sa_nil))) (sa_cons (se_callB (cr_isi G.isf) cs_G G.f_isinstance (sa_cons (se_var 11) (sa_cons (se_glo G.g_Nothing) sa_nil))) sa_nil))))))
    (sss_one (ss_if (st_w (sw_or (st_cmp (os_neD hr.units G.sm) (se_var 12) (se_lc (own := [("spot", 16)]) rfl hN (si_rng1 G.f_range (sa_cons se_int sa_nil)) (blkOk_by (by kernel_rfl)) (by decide) (fun s H C cl' fp => (sg_nm 16 hN)) (fun s H C cl' fp => spts_nil) (fun s H C cl' fp => (se_cmp (os_eq hr.units G.sm) (se_var 16) (se_var 10) (by first | exact nobehind _ (by decide) (by decide) | rfl)))) (by first | exact nobehind _ (by decide) (by decide) | rfl)) (sw_or (st_not (st_val (se_callB (cr_isi G.isf) cs_G G.f_isinstance (sa_cons (se_var 11) (sa_cons (se_glo G.g_KeepError) sa_nil))))) (sw_or1 (st_not (st_val (se_callB (cr_isi G.isf) cs_G G.f_isinstance (sa_cons (se_var 11) (sa_cons (se_ty G.f_ValueError) sa_nil))))))))) (sss_one (ss_ret se_bl)) sss_nil))))))
    (sss_cons (ss_set 6 hN (se_lst (sa_cons se_int (sa_cons (se_lst (sa_cons se_int (sa_cons se_int sa_nil))) sa_nil))))
    (sss_cons (ss_par 13 14 rfl hN (sa_cons (se_make G.mk_Paper T.p_Paper__init cal hr G.g_Paper (sa_cons se_str (sa_cons (se_var 6) (sa_cons (se_var 7) sa_nil)))) (sa_cons (se_make G.mk_Denial T.p_Paper__init cal hr G.g_Denial (sa_cons se_str (sa_cons (se_var 6) (sa_cons (se_var 7) sa_nil)))) sa_nil)))
    (sss_cons (ss_exp (se_append (se_ix (se_var 6) se_int) (sa_cons se_int sa_nil)))
    (sss_cons (ss_exp (se_append (se_var 6) (sa_cons se_int sa_nil)))
    (sss_cons (ss_if (st_w (sw_or (st_cmp (os_neD hr.units G.sm) (se_fld G.at_ (se_var 13)) se_str (by first | exact nobehind _ (by decide) (by decide) | rfl)) (sw_or (st_cmp (os_neD hr.units G.sm) (se_callB (cr_repr hr.units cal.g G.sm) cs_G G.f_repr (sa_cons (se_ix (se_fld G.at_ (se_var 13)) se_int) sa_nil)) (se_callB (cr_repr hr.units cal.g G.sm) cs_G G.f_repr (sa_cons (se_tup (sa_cons se_int (sa_cons (se_tup (sa_cons se_int (sa_cons se_int sa_nil))) sa_nil))) sa_nil)) (by first | exact nobehind _ (by decide) (by decide) | rfl)) (sw_or (st_not (st_own T.bo cal (hr.mono (by omega)) (se_var 13))) (sw_or (st_own T.bo cal (hr.mono (by omega)) (se_var 14)) (sw_or (st_ownE T.ow cal hr (se_var 13) (se_var 14) (by first | exact nobehind _ (by decide) (by decide) | rfl)) (sw_or1 (st_not (st_ownN T.ow cal hr (se_var 13) (se_var 14) (by first | exact nobehind _ (by decide) (by decide) | rfl)))))))))) (sss_one (ss_ret se_bl)) sss_nil)
    (sss_one (ss_if (st_w (sw_or (st_ownN T.ow cal hr (se_var 13) (se_make G.mk_Paper T.p_Paper__init cal hr G.g_Paper (sa_cons se_str (sa_cons (se_tup (sa_cons se_int (sa_cons (se_tup (sa_cons se_int (sa_cons se_int sa_nil))) sa_nil))) (sa_cons (se_var 7) sa_nil)))) (by first | exact nobehind _ (by decide) (by decide) | rfl)) (sw_or (st_ownN T.ow cal hr (se_var 14) (se_make G.mk_Denial T.p_Paper__init cal hr G.g_Denial (sa_cons se_str (sa_cons (se_lst (sa_cons se_int (sa_cons (se_lst (sa_cons se_int (sa_cons se_int sa_nil))) sa_nil))) (sa_cons (se_var 7) sa_nil)))) (by first | exact nobehind _ (by decide) (by decide) | rfl)) (sw_or (st_ownE T.ow cal hr (se_var 13) (se_make G.mk_Paper T.p_Paper__init cal hr G.g_Paper (sa_cons se_str (sa_cons (se_var 6) (sa_cons (se_var 7) sa_nil)))) (by first | exact nobehind _ (by decide) (by decide) | rfl)) (sw_or1 (st_ownE T.ow cal hr (se_var 13) (se_make G.mk_Paper T.p_Paper__init cal hr G.g_Paper (sa_cons se_str (sa_cons (se_tup (sa_cons se_int (sa_cons (se_tup (sa_cons se_int (sa_cons se_int sa_nil))) sa_nil))) (sa_cons (se_var 7) sa_nil)))) (by first | exact nobehind _ (by decide) (by decide) | rfl))))))) (sss_one (ss_ret se_bl)) sss_nil)))))))))))))))))
    (sss_one (ss_ret (se_and (se_ownN T.ow cal hr (se_make G.mk_Paper T.p_Paper__init cal hr G.g_Paper (sa_cons se_str (sa_cons se_int sa_nil))) (se_make G.mk_Paper T.p_Paper__init cal hr G.g_Paper (sa_cons se_str (sa_cons se_bl sa_nil))) (by first | exact nobehind _ (by decide) (by decide) | rfl)) (se_and (se_ownN T.ow cal hr (se_make G.mk_Paper T.p_Paper__init cal hr G.g_Paper (sa_cons se_str (sa_cons (se_lst (sa_cons se_int (sa_cons se_int sa_nil))) sa_nil))) (se_make G.mk_Paper T.p_Paper__init cal hr G.g_Paper (sa_cons se_str (sa_cons (se_lst (sa_cons se_bl (sa_cons se_int sa_nil))) sa_nil))) (by first | exact nobehind _ (by decide) (by decide) | rfl)) (se_and (se_ownN T.ow cal hr (se_make G.mk_Paper T.p_Paper__init cal hr G.g_Paper (sa_cons se_str (sa_cons se_int sa_nil))) (se_make G.mk_Paper T.p_Paper__init cal hr G.g_Paper (sa_cons se_str (sa_cons se_int (sa_cons se_int sa_nil)))) (by first | exact nobehind _ (by decide) (by decide) | rfl)) (se_and (se_callB (cr_isi G.isf) cs_G G.f_isinstance (sa_cons (se_make G.mk_Denial T.p_Paper__init cal hr G.g_Denial (sa_cons se_str sa_nil)) (sa_cons (se_glo G.g_Paper) sa_nil))) (se_one (se_cmp (os_eq hr.units G.sm) (se_fld G.at_ (se_make G.mk_Paper T.p_Paper__init cal hr G.g_Paper (sa_cons se_str sa_nil))) (se_tup sa_nil) (by first | exact nobehind _ (by decide) (by decide) | rfl)))))))))))
theorem w_law (G : Fx P K mg fd cc cda) (T : Tab P w K mg base fd k) : FnG P w K mg base (2 * (k + 1)) (He.fAd K ("law", none)) (fd 25) ["script"] (spI K (clF (k + 1)) 25 1) := wG_law G T
end
end K00
end

section
set_option Elab.async false
set_option linter.all false
set_option maxRecDepth 100000
set_option maxHeartbeats 2000000
/-! law_k00: all promises at all levels. Printed by gen_k00.py. -/
namespace K00
open PySem PySem.Spec PyProof.Rows L2 NdefX IM
section
variable {P : Program} {w : World} {K : PySem.W.Frag} {mg : Str → Option Value} {base : Heap} {fd : Fd} {cc cda : Nat → Addr} {k : Nat}
theorem zeroG {f : Addr} {fd' : FuncData} {ps : List Str} {i np j : Nat} (hn : ps.length = np) : FnG P w K mg base j f fd' ps (spI K (clF 0) i np) :=
  ⟨fun vs H Q E h => h.1.trans hn.symm, fun A outer s H args us vs Q E _ _ _ _ _ h => by
    obtain ⟨_, ι, ih, ds, S, rs, q⟩ := h
    exact q.elim⟩
theorem zeroR {f : Addr} {i j : Nat} : FnRG P w K mg base j f (spR K (clF 0) i) := fun A outer s H us vs Q E _ _ _ _ h => by
  obtain ⟨ι, ih, ds, S, rs, q⟩ := h
  exact q.elim
theorem bo_of {j : Nat} {cl : CallT} (G : Fx P K mg fd cc cda) (F1 : FnRG P w K mg base j (He.fAd K ("Paper", some "__bool__")) (spR K cl 5)) (F2 : FnRG P w K mg base j (He.fAd K ("Denial", some "__bool__")) (spR K cl 6)) : BoF P w K mg base j cl tbo :=
  boF_of G.bob fun c i h => by
    have h := PySem.mem_of_lookup h
    rcases List.mem_cons.mp h with h | h
    · cases h
      exact F1
    · rcases List.mem_cons.mp h with h | h
      · cases h
        exact F2
      · cases h
theorem tab_zero (G : Fx P K mg fd cc cda) : Tab P w K mg base fd 0 := ⟨zeroG rfl, zeroG rfl, zeroG rfl, zeroR, zeroR, zeroR, zeroR, zeroG rfl, zeroG rfl, zeroG rfl, zeroG rfl, zeroG rfl, zeroG rfl, zeroG rfl, zeroG rfl, zeroG rfl, zeroG rfl, zeroG rfl, zeroG rfl, zeroG rfl, zeroG rfl, zeroG rfl, zeroG rfl, zeroG rfl, zeroG rfl, zeroG rfl, owF_of G.owb zeroR, bo_of G zeroR zeroR⟩
theorem tab_succ (hP : P = PySem.Challenge.pw_keepsjust_k00_errors_and_papers) (G : Fx P K mg fd cc cda) (T : Tab P w K mg base fd k) : Tab P w K mg base fd (k + 1) :=
  ⟨w_is_listed G T, w_fixed G T, w_is_like G T, w_Paper__init G T, w_Paper__eq G T, w_Paper__bool G T, w_Denial__bool G T, w_BadAsk__init G T hP, w_BadProgram__init G T hP, w_BadSchema__init G T hP, w_BadBase__init G T hP, w_BadEvent__init G T hP, w_BadStream__init G T hP, w_BadValue__init G T hP, w_BadText__init G T hP, w_BadWord__init G T hP, w_Falls__init G T hP, w_Misfit__init G T hP, w_NoName__init G T hP, w_TooMany__init G T hP, w_Nothing__init G T hP, w_law_pen G T, w_law_draw G T, w_law_pick G T, w_law_any G T, w_law G T,
    owF_of G.owb (w_Paper__eq G T), bo_of G (w_Paper__bool G T) (w_Denial__bool G T)⟩
theorem tab_all (hP : P = PySem.Challenge.pw_keepsjust_k00_errors_and_papers) (G : Fx P K mg fd cc cda) : ∀ k, Tab P w K mg base fd k
  | 0 => tab_zero G
  | k + 1 => tab_succ hP G (tab_all hP G k)
end
end K00
end

section
set_option Elab.async false
set_option linter.all false
set_option maxRecDepth 100000
set_option maxHeartbeats 0
/-! law_k00: the head: what stands behind the module's top, looked up once. Printed by gen_k00.py. -/
namespace K00
open PySem PySem.Spec PyProof.Rows L2 NdefX IM
def fs : List (PySem.W.Frag → Bool) := [smB,
  isB tbl,
  isBk tbl,
  atB atl,
  osB osl,
  nmB nml,
  owB owl ("Paper", "__eq__") sbl,
  boB bol "__bool__",
  fun K => (He.Fa.free "ValueError").ok K,
  fun K => (He.Fa.free "abs").ok K,
  fun K => (He.Fa.free "all").ok K,
  fun K => (He.Fa.free "bool").ok K,
  fun K => (He.Fa.free "enumerate").ok K,
  fun K => (He.Fa.free "int").ok K,
  fun K => (He.Fa.free "isinstance").ok K,
  fun K => (He.Fa.free "len").ok K,
  fun K => (He.Fa.free "list").ok K,
  fun K => (He.Fa.free "range").ok K,
  fun K => (He.Fa.free "repr").ok K,
  fun K => (He.Fa.free "tuple").ok K,
  fun K => (He.Fa.free "zip").ok K,
  fun K => (He.Fa.free "super").ok K,
  fun K => (He.Fa.glo "BadAsk").ok K,
  fun K => (He.Fa.glo "BadBase").ok K,
  fun K => (He.Fa.glo "BadEvent").ok K,
  fun K => (He.Fa.glo "BadProgram").ok K,
  fun K => (He.Fa.glo "BadSchema").ok K,
  fun K => (He.Fa.glo "BadStream").ok K,
  fun K => (He.Fa.glo "BadText").ok K,
  fun K => (He.Fa.glo "BadValue").ok K,
  fun K => (He.Fa.glo "BadWord").ok K,
  fun K => (He.Fa.glo "Denial").ok K,
  fun K => (He.Fa.glo "Falls").ok K,
  fun K => (He.Fa.glo "KeepError").ok K,
  fun K => (He.Fa.glo "Misfit").ok K,
  fun K => (He.Fa.glo "NoName").ok K,
  fun K => (He.Fa.glo "Nothing").ok K,
  fun K => (He.Fa.glo "Paper").ok K,
  fun K => (He.Fa.glo "TooMany").ok K,
  fun K => (He.Fa.glo "_law_any").ok K,
  fun K => (He.Fa.glo "_law_draw").ok K,
  fun K => (He.Fa.glo "_law_pen").ok K,
  fun K => (He.Fa.glo "_law_pick").ok K,
  fun K => (He.Fa.glo "fixed").ok K,
  fun K => (He.Fa.glo "is_like").ok K,
  fun K => (He.Fa.glo "is_listed").ok K,
  fun K => (He.Fa.glo "law").ok K,
  fun K => PySem.W.keepIn K (.ref (He.ga K "_law_any")),
  fun K => PySem.W.keepIn K (.ref (He.ga K "_law_draw")),
  fun K => PySem.W.keepIn K (.ref (He.ga K "_law_pen")),
  fun K => PySem.W.keepIn K (.ref (He.ga K "_law_pick")),
  fun K => PySem.W.keepIn K (.ref (He.ga K "fixed")),
  fun K => PySem.W.keepIn K (.ref (He.ga K "is_like")),
  fun K => PySem.W.keepIn K (.ref (He.ga K "is_listed")),
  fun K => (He.Fa.mkr "Denial").ok K,
  fun K => decide (He.ma K (He.ga K "Denial") "__init__" = (He.fAd K ("Paper", some "__init__"))),
  fun K => (He.Fa.mkr "Paper").ok K,
  fun K => decide (He.ma K (He.ga K "Paper") "__init__" = (He.fAd K ("Paper", some "__init__"))),
  fun K => exB K "BadAsk",
  fun K => exB K "BadProgram",
  fun K => exB K "BadSchema",
  fun K => exB K "BadBase",
  fun K => exB K "BadEvent",
  fun K => exB K "BadStream",
  fun K => exB K "BadValue",
  fun K => exB K "BadText",
  fun K => exB K "BadWord",
  fun K => exB K "Falls",
  fun K => exB K "Misfit",
  fun K => exB K "NoName",
  fun K => exB K "TooMany",
  fun K => exB K "Nothing"]
def fn : List He.DefD := [D_is_listed, D_fixed, D_is_like, D_Paper__init, D_Paper__eq, D_Paper__bool, D_Denial__bool, D_law_pen, D_law_draw, D_law_pick, D_law_any, D_law]
def fx : List DefX := [x_BadAsk__init, x_BadProgram__init, x_BadSchema__init, x_BadBase__init, x_BadEvent__init, x_BadStream__init, x_BadValue__init, x_BadText__init, x_BadWord__init, x_Falls__init, x_Misfit__init, x_NoName__init, x_TooMany__init, x_Nothing__init]
def names0 : List PySem.Str := ["is_listed", "fixed", "is_like", "Paper", "Denial", "KeepError", "BadAsk", "BadProgram", "BadSchema", "BadBase", "BadEvent", "BadStream", "BadValue", "BadText", "BadWord", "Falls", "Misfit", "NoName", "TooMany", "Nothing", "_law_pen", "_law_draw", "_law_pick", "_law_any"]
def names : List PySem.Str := names0
abbrev R : PySem.W.OpenRow := PySem.W.OpenLaw.row PySem.Challenge.rw_keepsjust_k00_errors_and_papers
abbrev FlN : Str := PySem.Challenge.pw_keepsjust_k00_errors_and_papers.main.file
abbrev hk : PySem.W.Hook := hookI 5 FlN fs fn fx
def ob (s : PySem.W.SharedT) : AlI := obsIG 5 FlN fs fn fx (HandSHeadRun.getT s)
theorem ob_eq (s : PySem.W.SharedT) : ob s = hk.obs s.abs := obsIG_eq (HandSHeadRun.getT_eq s)
theorem run (w : World) : HandSHeadRun.RunEq R (PySem.W.view R.prog [28]) hk ob 20000 names w := by
  intro os
  kernel_rfl
end K00
end

section
set_option Elab.async false
set_option linter.all false
set_option maxRecDepth 100000
set_option maxHeartbeats 2000000
/-! law_k00: the facts by their names. Printed by gen_k00.py. -/
namespace K00
open PySem PySem.Spec PyProof.Rows L2 NdefX IM
theorem kb_Misfit_part {K : PySem.W.Frag} {fd : FuncData} {cc cda : Addr} (F : FunX FlN K x_Misfit__init fd cc cda) : KBn K fd ["self", "part"] 1 ["part"] (fun us ws => us ++ pm [0] ws) (fun vs zs => vs ++ pm [0] zs) := by
  obtain ⟨⟨oc, od, kV, doc, pm', ct, an, osl, e, lk⟩, _⟩ := F
  rw [e]
  exact ⟨fun s us ws X h1 h2 => match us, h1, ws, h2 with | [u], _, [a0], _ => BindsTo.of_eq (by rfl), fun r1 r2 => r1.append (pm_vals r2 _)⟩
theorem kb_BadValue_part {K : PySem.W.Frag} {fd : FuncData} {cc cda : Addr} (F : FunX FlN K x_BadValue__init fd cc cda) : KBn K fd ["self", "part"] 1 ["part"] (fun us ws => us ++ pm [0] ws) (fun vs zs => vs ++ pm [0] zs) := by
  obtain ⟨⟨oc, od, kV, doc, pm', ct, an, osl, e, lk⟩, _⟩ := F
  rw [e]
  exact ⟨fun s us ws X h1 h2 => match us, h1, ws, h2 with | [u], _, [a0], _ => BindsTo.of_eq (by rfl), fun r1 r2 => r1.append (pm_vals r2 _)⟩
theorem kb_BadEvent_part {K : PySem.W.Frag} {fd : FuncData} {cc cda : Addr} (F : FunX FlN K x_BadEvent__init fd cc cda) : KBn K fd ["self", "part"] 1 ["part"] (fun us ws => us ++ pm [0] ws) (fun vs zs => vs ++ pm [0] zs) := by
  obtain ⟨⟨oc, od, kV, doc, pm', ct, an, osl, e, lk⟩, _⟩ := F
  rw [e]
  exact ⟨fun s us ws X h1 h2 => match us, h1, ws, h2 with | [u], _, [a0], _ => BindsTo.of_eq (by rfl), fun r1 r2 => r1.append (pm_vals r2 _)⟩
theorem kb_BadBase_part {K : PySem.W.Frag} {fd : FuncData} {cc cda : Addr} (F : FunX FlN K x_BadBase__init fd cc cda) : KBn K fd ["self", "part"] 1 ["part"] (fun us ws => us ++ pm [0] ws) (fun vs zs => vs ++ pm [0] zs) := by
  obtain ⟨⟨oc, od, kV, doc, pm', ct, an, osl, e, lk⟩, _⟩ := F
  rw [e]
  exact ⟨fun s us ws X h1 h2 => match us, h1, ws, h2 with | [u], _, [a0], _ => BindsTo.of_eq (by rfl), fun r1 r2 => r1.append (pm_vals r2 _)⟩
theorem kb_BadSchema_part {K : PySem.W.Frag} {fd : FuncData} {cc cda : Addr} (F : FunX FlN K x_BadSchema__init fd cc cda) : KBn K fd ["self", "part"] 1 ["part"] (fun us ws => us ++ pm [0] ws) (fun vs zs => vs ++ pm [0] zs) := by
  obtain ⟨⟨oc, od, kV, doc, pm', ct, an, osl, e, lk⟩, _⟩ := F
  rw [e]
  exact ⟨fun s us ws X h1 h2 => match us, h1, ws, h2 with | [u], _, [a0], _ => BindsTo.of_eq (by rfl), fun r1 r2 => r1.append (pm_vals r2 _)⟩
theorem kb_BadProgram_part {K : PySem.W.Frag} {fd : FuncData} {cc cda : Addr} (F : FunX FlN K x_BadProgram__init fd cc cda) : KBn K fd ["self", "part"] 1 ["part"] (fun us ws => us ++ pm [0] ws) (fun vs zs => vs ++ pm [0] zs) := by
  obtain ⟨⟨oc, od, kV, doc, pm', ct, an, osl, e, lk⟩, _⟩ := F
  rw [e]
  exact ⟨fun s us ws X h1 h2 => match us, h1, ws, h2 with | [u], _, [a0], _ => BindsTo.of_eq (by rfl), fun r1 r2 => r1.append (pm_vals r2 _)⟩
theorem kb_Falls_why_path_show {K : PySem.W.Frag} {fd : FuncData} {cc cda : Addr} (F : FunX FlN K x_Falls__init fd cc cda) : KBn K fd ["self", "show", "path", "why"] 1 ["why", "path", "show"] (fun us ws => us ++ pm [2, 1, 0] ws) (fun vs zs => vs ++ pm [2, 1, 0] zs) := by
  obtain ⟨⟨oc, od, kV, doc, pm', ct, an, osl, e, lk⟩, _⟩ := F
  rw [e]
  exact ⟨fun s us ws X h1 h2 => match us, h1, ws, h2 with | [u], _, [a0, a1, a2], _ => BindsTo.of_eq (by rfl), fun r1 r2 => r1.append (pm_vals r2 _)⟩
theorem kb_BadWord_word {K : PySem.W.Frag} {fd : FuncData} {cc cda : Addr} (F : FunX FlN K x_BadWord__init fd cc cda) : KBn K fd ["self", "word"] 1 ["word"] (fun us ws => us ++ pm [0] ws) (fun vs zs => vs ++ pm [0] zs) := by
  obtain ⟨⟨oc, od, kV, doc, pm', ct, an, osl, e, lk⟩, _⟩ := F
  rw [e]
  exact ⟨fun s us ws X h1 h2 => match us, h1, ws, h2 with | [u], _, [a0], _ => BindsTo.of_eq (by rfl), fun r1 r2 => r1.append (pm_vals r2 _)⟩
theorem kb_BadText_word_line {K : PySem.W.Frag} {fd : FuncData} {cc cda : Addr} (F : FunX FlN K x_BadText__init fd cc cda) : KBn K fd ["self", "line", "word"] 1 ["word", "line"] (fun us ws => us ++ pm [1, 0] ws) (fun vs zs => vs ++ pm [1, 0] zs) := by
  obtain ⟨⟨oc, od, kV, doc, pm', ct, an, osl, e, lk⟩, _⟩ := F
  rw [e]
  exact ⟨fun s us ws X h1 h2 => match us, h1, ws, h2 with | [u], _, [a0, a1], _ => BindsTo.of_eq (by rfl), fun r1 r2 => r1.append (pm_vals r2 _)⟩
theorem kb_BadStream_at {K : PySem.W.Frag} {fd : FuncData} {cc cda : Addr} (F : FunX FlN K x_BadStream__init fd cc cda) : KBn K fd ["self", "at"] 1 ["at"] (fun us ws => us ++ pm [0] ws) (fun vs zs => vs ++ pm [0] zs) := by
  obtain ⟨⟨oc, od, kV, doc, pm', ct, an, osl, e, lk⟩, _⟩ := F
  rw [e]
  exact ⟨fun s us ws X h1 h2 => match us, h1, ws, h2 with | [u], _, [a0], _ => BindsTo.of_eq (by rfl), fun r1 r2 => r1.append (pm_vals r2 _)⟩
theorem kb_BadAsk_path {K : PySem.W.Frag} {fd : FuncData} {cc cda : Addr} (F : FunX FlN K x_BadAsk__init fd cc cda) : KBn K fd ["self", "path"] 1 ["path"] (fun us ws => us ++ pm [0] ws) (fun vs zs => vs ++ pm [0] zs) := by
  obtain ⟨⟨oc, od, kV, doc, pm', ct, an, osl, e, lk⟩, _⟩ := F
  rw [e]
  exact ⟨fun s us ws X h1 h2 => match us, h1, ws, h2 with | [u], _, [a0], _ => BindsTo.of_eq (by rfl), fun r1 r2 => r1.append (pm_vals r2 _)⟩
theorem kb_Nothing_word {K : PySem.W.Frag} {fd : FuncData} {cc cda : Addr} (F : FunX FlN K x_Nothing__init fd cc cda) : KBn K fd ["self", "word"] 1 ["word"] (fun us ws => us ++ pm [0] ws) (fun vs zs => vs ++ pm [0] zs) := by
  obtain ⟨⟨oc, od, kV, doc, pm', ct, an, osl, e, lk⟩, _⟩ := F
  rw [e]
  exact ⟨fun s us ws X h1 h2 => match us, h1, ws, h2 with | [u], _, [a0], _ => BindsTo.of_eq (by rfl), fun r1 r2 => r1.append (pm_vals r2 _)⟩
theorem kb_TooMany_most_what {K : PySem.W.Frag} {fd : FuncData} {cc cda : Addr} (F : FunX FlN K x_TooMany__init fd cc cda) : KBn K fd ["self", "what", "most"] 1 ["most", "what"] (fun us ws => us ++ pm [1, 0] ws) (fun vs zs => vs ++ pm [1, 0] zs) := by
  obtain ⟨⟨oc, od, kV, doc, pm', ct, an, osl, e, lk⟩, _⟩ := F
  rw [e]
  exact ⟨fun s us ws X h1 h2 => match us, h1, ws, h2 with | [u], _, [a0, a1], _ => BindsTo.of_eq (by rfl), fun r1 r2 => r1.append (pm_vals r2 _)⟩
theorem kb_NoName_name {K : PySem.W.Frag} {fd : FuncData} {cc cda : Addr} (F : FunX FlN K x_NoName__init fd cc cda) : KBn K fd ["self", "name"] 1 ["name"] (fun us ws => us ++ pm [0] ws) (fun vs zs => vs ++ pm [0] zs) := by
  obtain ⟨⟨oc, od, kV, doc, pm', ct, an, osl, e, lk⟩, _⟩ := F
  rw [e]
  exact ⟨fun s us ws X h1 h2 => match us, h1, ws, h2 with | [u], _, [a0], _ => BindsTo.of_eq (by rfl), fun r1 r2 => r1.append (pm_vals r2 _)⟩
theorem fx_of {K : PySem.W.Frag} {h : Heap} {mg : Str → Option Value} (X : K.In h) (Gn : h.Ns mainGlobals mg) (c : SaysI FlN fs fn fx K) : ∃ fd cc cda, Fx PySem.Challenge.pw_keepsjust_k00_errors_and_papers K mg fd cc cda := by
  obtain ⟨fd0, F0⟩ := c.def_ 0
  obtain ⟨fd1, F1⟩ := c.def_ 1
  obtain ⟨fd2, F2⟩ := c.def_ 2
  obtain ⟨fd3, F3⟩ := c.def_ 3
  obtain ⟨fd4, F4⟩ := c.def_ 4
  obtain ⟨fd5, F5⟩ := c.def_ 5
  obtain ⟨fd6, F6⟩ := c.def_ 6
  obtain ⟨fd21, F21⟩ := c.def_ 7
  obtain ⟨fd22, F22⟩ := c.def_ 8
  obtain ⟨fd23, F23⟩ := c.def_ 9
  obtain ⟨fd24, F24⟩ := c.def_ 10
  obtain ⟨fd25, F25⟩ := c.def_ 11
  obtain ⟨fd7, cc7, cda7, F7⟩ := c.defX 0
  obtain ⟨fd8, cc8, cda8, F8⟩ := c.defX 1
  obtain ⟨fd9, cc9, cda9, F9⟩ := c.defX 2
  obtain ⟨fd10, cc10, cda10, F10⟩ := c.defX 3
  obtain ⟨fd11, cc11, cda11, F11⟩ := c.defX 4
  obtain ⟨fd12, cc12, cda12, F12⟩ := c.defX 5
  obtain ⟨fd13, cc13, cda13, F13⟩ := c.defX 6
  obtain ⟨fd14, cc14, cda14, F14⟩ := c.defX 7
  obtain ⟨fd15, cc15, cda15, F15⟩ := c.defX 8
  obtain ⟨fd16, cc16, cda16, F16⟩ := c.defX 9
  obtain ⟨fd17, cc17, cda17, F17⟩ := c.defX 10
  obtain ⟨fd18, cc18, cda18, F18⟩ := c.defX 11
  obtain ⟨fd19, cc19, cda19, F19⟩ := c.defX 12
  obtain ⟨fd20, cc20, cda20, F20⟩ := c.defX 13
  refine ⟨fun i => match i with | 0 => fd0 | 1 => fd1 | 2 => fd2 | 3 => fd3 | 4 => fd4 | 5 => fd5 | 6 => fd6 | 7 => fd7 | 8 => fd8 | 9 => fd9 | 10 => fd10 | 11 => fd11 | 12 => fd12 | 13 => fd13 | 14 => fd14 | 15 => fd15 | 16 => fd16 | 17 => fd17 | 18 => fd18 | 19 => fd19 | 20 => fd20 | 21 => fd21 | 22 => fd22 | 23 => fd23 | 24 => fd24 | 25 => fd25 | _ => fd0,
    fun i => match i with | 7 => cc7 | 8 => cc8 | 9 => cc9 | 10 => cc10 | 11 => cc11 | 12 => cc12 | 13 => cc13 | 14 => cc14 | 15 => cc15 | 16 => cc16 | 17 => cc17 | 18 => cc18 | 19 => cc19 | 20 => cc20 | _ => 0,
    fun i => match i with | 7 => cda7 | 8 => cda8 | 9 => cda9 | 10 => cda10 | 11 => cda11 | 12 => cda12 | 13 => cda13 | 14 => cda14 | 15 => cda15 | 16 => cda16 | 17 => cda17 | 18 => cda18 | 19 => cda19 | 20 => cda20 | _ => 0, ?_⟩
  exact {
    sm := smB_ok (c.fact 0)
    isf := isF_of (c.fact 1) (c.fact 2)
    at_ := atF_of (c.fact 3)
    osf := osF_of (c.fact 4)
    nm := nmF_of (c.fact 5)
    owb := c.fact 6
    bob := c.fact 7
    top_ := by decide +kernel
    sup := He.free_ok X Gn (c.fact 21)
    f_ValueError := He.free_ok X Gn (c.fact 8)
    f_abs := He.free_ok X Gn (c.fact 9)
    f_all := He.free_ok X Gn (c.fact 10)
    f_bool := He.free_ok X Gn (c.fact 11)
    f_enumerate := He.free_ok X Gn (c.fact 12)
    f_int := He.free_ok X Gn (c.fact 13)
    f_isinstance := He.free_ok X Gn (c.fact 14)
    f_len := He.free_ok X Gn (c.fact 15)
    f_list := He.free_ok X Gn (c.fact 16)
    f_range := He.free_ok X Gn (c.fact 17)
    f_repr := He.free_ok X Gn (c.fact 18)
    f_tuple := He.free_ok X Gn (c.fact 19)
    f_zip := He.free_ok X Gn (c.fact 20)
    g_BadAsk := He.glo_ok X Gn (c.fact 22)
    g_BadBase := He.glo_ok X Gn (c.fact 23)
    g_BadEvent := He.glo_ok X Gn (c.fact 24)
    g_BadProgram := He.glo_ok X Gn (c.fact 25)
    g_BadSchema := He.glo_ok X Gn (c.fact 26)
    g_BadStream := He.glo_ok X Gn (c.fact 27)
    g_BadText := He.glo_ok X Gn (c.fact 28)
    g_BadValue := He.glo_ok X Gn (c.fact 29)
    g_BadWord := He.glo_ok X Gn (c.fact 30)
    g_Denial := He.glo_ok X Gn (c.fact 31)
    g_Falls := He.glo_ok X Gn (c.fact 32)
    g_KeepError := He.glo_ok X Gn (c.fact 33)
    g_Misfit := He.glo_ok X Gn (c.fact 34)
    g_NoName := He.glo_ok X Gn (c.fact 35)
    g_Nothing := He.glo_ok X Gn (c.fact 36)
    g_Paper := He.glo_ok X Gn (c.fact 37)
    g_TooMany := He.glo_ok X Gn (c.fact 38)
    g__law_any := He.glo_ok X Gn (c.fact 39)
    g__law_draw := He.glo_ok X Gn (c.fact 40)
    g__law_pen := He.glo_ok X Gn (c.fact 41)
    g__law_pick := He.glo_ok X Gn (c.fact 42)
    g_fixed := He.glo_ok X Gn (c.fact 43)
    g_is_like := He.glo_ok X Gn (c.fact 44)
    g_is_listed := He.glo_ok X Gn (c.fact 45)
    k__law_any := c.fact 47
    k__law_draw := c.fact 48
    k__law_pen := c.fact 49
    k__law_pick := c.fact 50
    k_fixed := c.fact 51
    k_is_like := c.fact 52
    k_is_listed := c.fact 53
    mk_Denial := by have h1 := He.mkr_ok (K := K) (x := "Denial") (c.fact 54); have e : He.ma K (He.ga K "Denial") "__init__" = (He.fAd K ("Paper", some "__init__")) := of_decide_eq_true (c.fact 55); rw [e] at h1; exact h1
    mk_Paper := by have h1 := He.mkr_ok (K := K) (x := "Paper") (c.fact 56); have e : He.ma K (He.ga K "Paper") "__init__" = (He.fAd K ("Paper", some "__init__")) := of_decide_eq_true (c.fact 57); rw [e] at h1; exact h1
    d_is_listed := F0
    d_fixed := F1
    d_is_like := F2
    d_Paper__init := F3
    d_Paper__eq := F4
    d_Paper__bool := F5
    d_Denial__bool := F6
    d_law_pen := F21
    d_law_draw := F22
    d_law_pick := F23
    d_law_any := F24
    d_law := F25
    b_is_listed := F0.bindsN fun _ _ _ _ _ _ us hl => match us, hl with | [_], _ => rfl
    b_fixed := F1.bindsN fun _ _ _ _ _ _ us hl => match us, hl with | [_], _ => rfl
    b_is_like := F2.bindsN fun _ _ _ _ _ _ us hl => match us, hl with | [_, _], _ => rfl
    b__law_pen := F21.bindsN fun _ _ _ _ _ _ us hl => match us, hl with | [_], _ => rfl
    b__law_draw := F22.bindsN fun _ _ _ _ _ _ us hl => match us, hl with | [_, _], _ => rfl
    b__law_pick := F23.bindsN fun _ _ _ _ _ _ us hl => match us, hl with | [_, _], _ => rfl
    b__law_any := F24.bindsN fun _ _ _ _ _ _ us hl => match us, hl with | [_], _ => rfl
    x_BadAsk__init := F7
    x_BadProgram__init := F8
    x_BadSchema__init := F9
    x_BadBase__init := F10
    x_BadEvent__init := F11
    x_BadStream__init := F12
    x_BadValue__init := F13
    x_BadText__init := F14
    x_BadWord__init := F15
    x_Falls__init := F16
    x_Misfit__init := F17
    x_NoName__init := F18
    x_TooMany__init := F19
    x_Nothing__init := F20
    ex_BadAsk := exB_ok (c.fact 58) F7.cell
    ex_BadProgram := exB_ok (c.fact 59) F8.cell
    ex_BadSchema := exB_ok (c.fact 60) F9.cell
    ex_BadBase := exB_ok (c.fact 61) F10.cell
    ex_BadEvent := exB_ok (c.fact 62) F11.cell
    ex_BadStream := exB_ok (c.fact 63) F12.cell
    ex_BadValue := exB_ok (c.fact 64) F13.cell
    ex_BadText := exB_ok (c.fact 65) F14.cell
    ex_BadWord := exB_ok (c.fact 66) F15.cell
    ex_Falls := exB_ok (c.fact 67) F16.cell
    ex_Misfit := exB_ok (c.fact 68) F17.cell
    ex_NoName := exB_ok (c.fact 69) F18.cell
    ex_TooMany := exB_ok (c.fact 70) F19.cell
    ex_Nothing := exB_ok (c.fact 71) F20.cell
    kb_Misfit_part := kb_Misfit_part F17
    kb_BadValue_part := kb_BadValue_part F13
    kb_BadEvent_part := kb_BadEvent_part F11
    kb_BadBase_part := kb_BadBase_part F10
    kb_BadSchema_part := kb_BadSchema_part F9
    kb_BadProgram_part := kb_BadProgram_part F8
    kb_Falls_why_path_show := kb_Falls_why_path_show F16
    kb_BadWord_word := kb_BadWord_word F15
    kb_BadText_word_line := kb_BadText_word_line F14
    kb_BadStream_at := kb_BadStream_at F12
    kb_BadAsk_path := kb_BadAsk_path F7
    kb_Nothing_word := kb_Nothing_word F20
    kb_TooMany_most_what := kb_TooMany_most_what F19
    kb_NoName_name := kb_NoName_name F18 }
end K00
end

section
set_option Elab.async false
set_option linter.all false
set_option maxRecDepth 100000
set_option maxHeartbeats 0
/-! law_k00: the plain law, the stages. Printed by gen_k00p.py. -/
namespace K00
open PySem PySem.Spec PyProof.Rows L2 NdefX IM
def u0 : DS := (dIfS (dTst (dOp gGt (dOp gIx (dVar 0) (dK (.int 2))) (dK (.int 0)))) (dSeq (dSet 5 (dOp gMod (dApp gInt (dCons (dOp gIx (dVar 0) (dK (.int 2))) dNil)) (dVar 1))) (dSeq (dSetI (dOp gDivW (dApp gInt (dCons (dOp gIx (dVar 0) (dK (.int 2))) dNil)) (dVar 1)) (dVar 0) (dK (.int 2))) (dRet (dVar 5)))) dNx)
def u1 : DS := (dSet 2 (dOp gIx (dVar 0) (dK (.int 1))))
def u2 : DS := (dSetI (dOp gAdd (dVar 2) (dK (.int 1))) (dVar 0) (dK (.int 1)))
def u3 : DS := (dSet 3 (dOp gAdd (dOp gMul (dK (.int 71011)) (dVar 2)) (dK (.int 9001))))
def u4 : DS := (dIfS (dTst (dOp gNeD (dOp gIx (dVar 0) (dK (.int 0))) (dLst dNil))) (dSet 3 (dOp gIx (dOp gIx (dVar 0) (dK (.int 0))) (dOp gMod (dApp gInt (dCons (dVar 2) dNil)) (dApp gLen (dCons (dOp gIx (dVar 0) (dK (.int 0))) dNil))))) dNx)
def u5 : DS := (dIfS (dAnd (dTst (dOp gLt (dVar 2) (dApp gLen (dCons (dOp gIx (dVar 0) (dK (.int 0))) dNil)))) (dTst (dOp gGe (dApp gAbs (dCons (dVar 3) dNil)) (dOp gPow (dK (.int 10)) (dK (.int 18)))))) (dSeq (dSet 6 (dOp gAdd (dOp gMul (dK (.int 2)) (dOp gSubI (dApp gAbs (dCons (dVar 3) dNil)) (dOp gPow (dK (.int 10)) (dK (.int 18))))) (dApp gInt (dCons (dOp gLt (dVar 3) (dK (.int 0))) dNil)))) (dSeq (dSetI (dOp gDivW (dApp gInt (dCons (dVar 6) dNil)) (dVar 1)) (dVar 0) (dK (.int 2))) (dRet (dOp gMod (dApp gInt (dCons (dVar 6) dNil)) (dVar 1))))) dNx)
def u6 : DS := (dSet 4 (dOp gMod (dApp gInt (dCons (dOp gPow (dOp gAdd (dOp gAdd (dOp gMod (dApp gInt (dCons (dVar 3) dNil)) (dK (.int 2147483549))) (dOp gMul (dK (.int 33013)) (dVar 2))) (dK (.int 6101))) (dK (.int 5))) dNil)) (dK (.int 2147483629))))
def u7 : DS := (dSet 4 (dOp gMod (dApp gInt (dCons (dOp gPow (dOp gAdd (dOp gAdd (dOp gMul (dVar 4) (dOp gAdd (dOp gMul (dK (.int 2)) (dVar 2)) (dK (.int 557)))) (dOp gMul (dOp gMul (dK (.int 8807)) (dVar 2)) (dVar 2))) (dK (.int 89))) (dK (.int 3))) dNil)) (dK (.int 2147483587))))
def u8 : DS := (dRet (dOp gMod (dApp gInt (dCons (dOp gDivW (dVar 4) (dK (.int 16))) dNil)) (dVar 1)))
theorem draw_eq : d_law_draw = dGC [] (dSeq u0 (dSeq u1 (dSeq u2 (dSeq u3 (dSeq u4 (dSeq u5 (dSeq u6 (dSeq u7 (u8))))))))) := rfl
def t0 : DS := (dAsgL [7, 8, 9] (dLc [15] (dRng1 (dCons (dK (.int 3)) dNil)) (.nm 15) dYes (dCall 24 [] (dCons (dVar 1) dNil))))
def t1 : DS := (dSet 3 (dLst (dCons (dMkExc "BadProgram" 8 (gP [0]) 1 (dCons (dVar 7) dNil)) (dCons (dMkExc "BadSchema" 9 (gP [0]) 1 (dCons (dVar 7) dNil)) (dCons (dMkExc "BadBase" 10 (gP [0]) 1 (dCons (dVar 7) dNil)) (dCons (dMkExc "BadEvent" 11 (gP [0]) 1 (dCons (dVar 7) dNil)) (dCons (dMkExc "BadValue" 13 (gP [0]) 1 (dCons (dVar 7) dNil)) (dCons (dMkExc "Misfit" 17 (gP [0]) 1 (dCons (dVar 7) dNil)) dNil))))))))
def t2 : DS := (dIfS (dTst (dOp gNeD (dLc [11] (dIter (dVar 3)) (.nm 11) (dTst (dOp gNeD (dApp gRepr (dCons (dFld ta "part" (dVar 11)) dNil)) (dApp gRepr (dCons (dVar 7) dNil)))) (dVar 11)) (dLst dNil))) (dRet (dK (.bl false))) dNx)
def t3 : DS := (dSet 4 (dLst (dCons (dMkExc "BadAsk" 7 (gP [0]) 1 (dCons (dVar 7) dNil)) (dCons (dMkExc "BadStream" 12 (gP [0]) 1 (dCons (dVar 7) dNil)) (dCons (dMkExc "BadText" 14 (gP [1, 0]) 2 (dCons (dVar 8) (dCons (dVar 7) dNil))) (dCons (dMkExc "BadWord" 15 (gP [0]) 1 (dCons (dVar 7) dNil)) (dCons (dMkExc "Falls" 16 (gP [2, 1, 0]) 3 (dCons (dVar 9) (dCons (dVar 8) (dCons (dVar 7) dNil)))) dNil)))))))
def t4 : DS := (dSet 4 (dOp gAdd (dVar 4) (dLst (dCons (dMkExc "NoName" 18 (gP [0]) 1 (dCons (dVar 7) dNil)) (dCons (dMkExc "TooMany" 19 (gP [1, 0]) 2 (dCons (dVar 8) (dCons (dVar 7) dNil))) (dCons (dMkExc "Nothing" 20 (gP [0]) 1 (dCons (dVar 7) dNil)) dNil))))))
def t5 : DS := (dSet 5 (dLst (dCons (dFld ta "path" (dOp gIx (dVar 4) (dK (.int 0)))) (dCons (dFld ta "at" (dOp gIx (dVar 4) (dK (.int 1)))) (dCons (dFld ta "line" (dOp gIx (dVar 4) (dK (.int 2)))) (dCons (dFld ta "word" (dOp gIx (dVar 4) (dK (.int 2)))) (dCons (dFld ta "word" (dOp gIx (dVar 4) (dK (.int 3)))) (dCons (dFld ta "show" (dOp gIx (dVar 4) (dK (.int 4)))) (dCons (dFld ta "path" (dOp gIx (dVar 4) (dK (.int 4)))) (dCons (dFld ta "why" (dOp gIx (dVar 4) (dK (.int 4)))) (dCons (dFld ta "name" (dOp gIx (dVar 4) (dK (.int 5)))) (dCons (dFld ta "what" (dOp gIx (dVar 4) (dK (.int 6)))) (dCons (dFld ta "most" (dOp gIx (dVar 4) (dK (.int 6)))) (dCons (dFld ta "word" (dOp gIx (dVar 4) (dK (.int 7)))) dNil))))))))))))))
def t6 : DS := (dIfS (dTst (dOp gNeD (dApp gRepr (dCons (dVar 5) dNil)) (dApp gRepr (dCons (dLst (dCons (dVar 7) (dCons (dVar 7) (dCons (dVar 7) (dCons (dVar 8) (dCons (dVar 7) (dCons (dVar 7) (dCons (dVar 8) (dCons (dVar 9) (dCons (dVar 7) (dCons (dVar 7) (dCons (dVar 8) (dCons (dVar 7) dNil))))))))))))) dNil)))) (dRet (dK (.bl false))) dNx)
def t7 : DS := (dFor (dEnum (dCons (dOp gAdd (dVar 3) (dVar 4)) dNil)) (.tp [10, 11]) (dSeq (dSet 12 (dLst (dCons (dApp (gIsi tb) (dCons (dVar 11) (dCons (dK (.glo "BadProgram")) dNil))) (dCons (dApp (gIsi tb) (dCons (dVar 11) (dCons (dK (.glo "BadSchema")) dNil))) (dCons (dApp (gIsi tb) (dCons (dVar 11) (dCons (dK (.glo "BadBase")) dNil))) (dCons (dApp (gIsi tb) (dCons (dVar 11) (dCons (dK (.glo "BadEvent")) dNil))) (dCons (dApp (gIsi tb) (dCons (dVar 11) (dCons (dK (.glo "BadValue")) dNil))) (dCons (dApp (gIsi tb) (dCons (dVar 11) (dCons (dK (.glo "Misfit")) dNil))) dNil)))))))) (dSeq (dSet 12 (dOp gAdd (dVar 12) (dLst (dCons (dApp (gIsi tb) (dCons (dVar 11) (dCons (dK (.glo "BadAsk")) dNil))) (dCons (dApp (gIsi tb) (dCons (dVar 11) (dCons (dK (.glo "BadStream")) dNil))) (dCons (dApp (gIsi tb) (dCons (dVar 11) (dCons (dK (.glo "BadText")) dNil))) (dCons (dApp (gIsi tb) (dCons (dVar 11) (dCons (dK (.glo "BadWord")) dNil))) (dCons (dApp (gIsi tb) (dCons (dVar 11) (dCons (dK (.glo "Falls")) dNil))) dNil)))))))) (dSeq (dSet 12 (dOp gAdd (dVar 12) (dLst (dCons (dApp (gIsi tb) (dCons (dVar 11) (dCons (dK (.glo "NoName")) dNil))) (dCons (dApp (gIsi tb) (dCons (dVar 11) (dCons (dK (.glo "TooMany")) dNil))) (dCons (dApp (gIsi tb) (dCons (dVar 11) (dCons (dK (.glo "Nothing")) dNil))) dNil)))))) (dIfS (dOr (dTst (dOp gNeD (dVar 12) (dLc [16] (dRng1 (dCons (dK (.int 14)) dNil)) (.nm 16) dYes (dOp gEq (dVar 16) (dVar 10))))) (dOr (dNot (dTst (dApp (gIsi tb) (dCons (dVar 11) (dCons (dK (.glo "KeepError")) dNil))))) (dNot (dTst (dApp (gIsi tb) (dCons (dVar 11) (dCons (dK (.ty "ValueError")) dNil))))))) (dRet (dK (.bl false))) dNx)))))
def t8 : DS := (dSet 6 (dLst (dCons (dK (.int 1)) (dCons (dLst (dCons (dK (.int 2)) (dCons (dK (.int 3)) dNil))) dNil))))
def t9 : DS := (dPar 13 14 (dCons (dMake "Paper" 3 (dCons (dK (.str "odd")) (dCons (dVar 6) (dCons (dVar 7) dNil)))) (dCons (dMake "Denial" 3 (dCons (dK (.str "odd")) (dCons (dVar 6) (dCons (dVar 7) dNil)))) dNil)))
def t10 : DS := (dExp (dListM gAppend (dOp gIx (dVar 6) (dK (.int 1))) (dCons (dK (.int 4)) dNil)))
def t11 : DS := (dExp (dListM gAppend (dVar 6) (dCons (dK (.int 5)) dNil)))
def t12 : DS := (dIfS (dOr (dTst (dOp gNeD (dFld ta "word" (dVar 13)) (dK (.str "odd")))) (dOr (dTst (dOp gNeD (dApp gRepr (dCons (dOp gIx (dFld ta "parts" (dVar 13)) (dK (.int 0))) dNil)) (dApp gRepr (dCons (dTup (dCons (dK (.int 1)) (dCons (dTup (dCons (dK (.int 2)) (dCons (dK (.int 3)) dNil))) dNil))) dNil)))) (dOr (dNot (dTruth tbo (dVar 13))) (dOr (dTruth tbo (dVar 14)) (dOr (dTst (dOwn te sb false (dVar 13) (dVar 14))) (dNot (dTst (dOwn te sb true (dVar 13) (dVar 14))))))))) (dRet (dK (.bl false))) dNx)
def t13 : DS := (dIfS (dOr (dTst (dOwn te sb true (dVar 13) (dMake "Paper" 3 (dCons (dK (.str "odd")) (dCons (dTup (dCons (dK (.int 1)) (dCons (dTup (dCons (dK (.int 2)) (dCons (dK (.int 3)) dNil))) dNil))) (dCons (dVar 7) dNil)))))) (dOr (dTst (dOwn te sb true (dVar 14) (dMake "Denial" 3 (dCons (dK (.str "odd")) (dCons (dLst (dCons (dK (.int 1)) (dCons (dLst (dCons (dK (.int 2)) (dCons (dK (.int 3)) dNil))) dNil))) (dCons (dVar 7) dNil)))))) (dOr (dTst (dOwn te sb false (dVar 13) (dMake "Paper" 3 (dCons (dK (.str "odd")) (dCons (dVar 6) (dCons (dVar 7) dNil)))))) (dTst (dOwn te sb false (dVar 13) (dMake "Paper" 3 (dCons (dK (.str "even")) (dCons (dTup (dCons (dK (.int 1)) (dCons (dTup (dCons (dK (.int 2)) (dCons (dK (.int 3)) dNil))) dNil))) (dCons (dVar 7) dNil))))))))) (dRet (dK (.bl false))) dNx)
def tR : DS := (dRet (dAndV (dOwn te sb true (dMake "Paper" 3 (dCons (dK (.str "p")) (dCons (dK (.int 1)) dNil))) (dMake "Paper" 3 (dCons (dK (.str "p")) (dCons (dK (.bl true)) dNil)))) (dAndV (dOwn te sb true (dMake "Paper" 3 (dCons (dK (.str "p")) (dCons (dLst (dCons (dK (.int 0)) (dCons (dK (.int 1)) dNil))) dNil))) (dMake "Paper" 3 (dCons (dK (.str "p")) (dCons (dLst (dCons (dK (.bl false)) (dCons (dK (.int 1)) dNil))) dNil)))) (dAndV (dOwn te sb true (dMake "Paper" 3 (dCons (dK (.str "p")) (dCons (dK (.int 1)) dNil))) (dMake "Paper" 3 (dCons (dK (.str "p")) (dCons (dK (.int 1)) (dCons (dK (.int 1)) dNil))))) (dAndV (dApp (gIsi tb) (dCons (dMake "Denial" 3 (dCons (dK (.str "d")) dNil)) (dCons (dK (.glo "Paper")) dNil))) (dOp gEq (dFld ta "parts" (dMake "Paper" 3 (dCons (dK (.str "p")) dNil))) (dTup dNil)))))))
def tB : DS := dSeq t1 (dSeq t2 (dSeq t3 (dSeq t4 (dSeq t5 (dSeq t6 (dSeq t7 (dSeq t8 (dSeq t9 (dSeq t10 (dSeq t11 (dSeq t12 (t13))))))))))))
theorem law_eq : d_law = dSeq ((dSet 1 (dCall 21 [] (dCons (dVar 0) dNil)))) (dSeq (dFor (dRng1 (dCons (dK (.int 6)) dNil)) (.nm 2) (dGC [1] (dSeq t0 tB))) tR) := rfl
def vals (b : Nat) : List D := [.non, .int 5, .int (-3), .bl true, .str "word", .loc (b + 1), .tup [.int 1, .tup [.int 2]], .loc (b + 2), .str "A", .int (10 ^ 30), .tup []]
def ext (b : Nat) : IH := [.lst [.int 2], .lst [.int 1, .loc b], .dic [], .lst (vals b)]
def h0 (c0 : C) (ms : List Int) (p g : Int) : IH := [c0, .lst (ms.map D.int), .lst [.loc 1, .int p, .int g]]
def h1 (c0 : C) (ms : List Int) (p g : Int) (v o t : D) : IH := h0 c0 ms p g ++ (ext 3 ++ (ext 7 ++ (ext 11 ++ [.lst [v, o, t]])))
def r1 (x : Option D) (i : Int) (v o t : D) : Sl := [x, some (.loc 2), some (.int i), none, none, none, none, some v, some o, some t, none, none, none, none, none, none, none]
def nx? : Res Fl → Option (Sl × IH)
  | .ok (.nx ρ) h => some (ρ, h)
  | _ => none
def chk (r : Res Fl) : Option (Option (Option D) × Nat × IH) := (nx? r).map fun z => (z.1[1]?, z.1.length, z.2.take 3)
def told (v o t : D) : List D := [v, v, v, o, v, v, o, t, v, v, o, v]
def xB (v o t : D) : IH := [.exc "BadProgram" (some 17), .xd [("part", v)], .exc "BadSchema" (some 19), .xd [("part", v)], .exc "BadBase" (some 21), .xd [("part", v)], .exc "BadEvent" (some 23), .xd [("part", v)], .exc "BadValue" (some 25), .xd [("part", v)], .exc "Misfit" (some 27), .xd [("part", v)], .lst [.loc 16, .loc 18, .loc 20, .loc 22, .loc 24, .loc 26], .lst [], .lst [], .exc "BadAsk" (some 32), .xd [("path", v)], .exc "BadStream" (some 34), .xd [("at", v)], .exc "BadText" (some 36), .xd [("word", o), ("line", v)], .exc "BadWord" (some 38), .xd [("word", v)], .exc "Falls" (some 40), .xd [("why", t), ("path", o), ("show", v)], .lst [.loc 31, .loc 33, .loc 35, .loc 37, .loc 39], .exc "NoName" (some 43), .xd [("name", v)], .exc "TooMany" (some 45), .xd [("most", o), ("what", v)], .exc "Nothing" (some 47), .xd [("word", v)], .lst [.loc 42, .loc 44, .loc 46], .lst [.loc 31, .loc 33, .loc 35, .loc 37, .loc 39, .loc 42, .loc 44, .loc 46], .lst [v, v, v, o, v, v, o, t, v, v, o, v]]
def hB (c0 : C) (ms : List Int) (p g : Int) (v o t : D) : IH := h1 c0 ms p g v o t ++ xB v o t
def rB (x : Option D) (i : Int) (v o t : D) : Sl := [x, some (.loc 2), some (.int i), some (.loc 28), some (.loc 49), some (.loc 50), none, some v, some o, some t, none, none, none, none, none, none, none]
def tAB : DS := dSeq t1 (dSeq t2 (dSeq t3 (dSeq t4 t5)))
def tDE : DS := dSeq t7 (dSeq t8 (dSeq t9 (dSeq t10 (dSeq t11 (dSeq t12 t13)))))
end K00
end

section
set_option Elab.async false
set_option linter.all false
set_option maxRecDepth 100000
set_option maxHeartbeats 0
/-! law_k00: the plain law, the closed runs. -/
namespace K00
open PySem PySem.Spec PyProof.Rows L2 NdefX IM
section
variable (c0 : C) (ms : List Int) (p g : Int) (x : Option D) (i : Int) (o t : D)
theorem ab0 : tAB (clF 11) (r1 x i .non o t) (h1 c0 ms p g .non o t) = .ok (.nx (rB x i .non o t)) (hB c0 ms p g .non o t) := by kernel_rfl
theorem de0 : chk (tDE (clF 11) (rB x i .non o t) (hB c0 ms p g .non o t ++ [.lst (told .non o t)])) = some (some (some (.loc 2)), 17, h0 c0 ms p g) := by kernel_rfl
theorem ab1 : tAB (clF 11) (r1 x i (.int 5) o t) (h1 c0 ms p g (.int 5) o t) = .ok (.nx (rB x i (.int 5) o t)) (hB c0 ms p g (.int 5) o t) := by kernel_rfl
theorem de1 : chk (tDE (clF 11) (rB x i (.int 5) o t) (hB c0 ms p g (.int 5) o t ++ [.lst (told (.int 5) o t)])) = some (some (some (.loc 2)), 17, h0 c0 ms p g) := by kernel_rfl
theorem ab2 : tAB (clF 11) (r1 x i (.int (-3)) o t) (h1 c0 ms p g (.int (-3)) o t) = .ok (.nx (rB x i (.int (-3)) o t)) (hB c0 ms p g (.int (-3)) o t) := by kernel_rfl
theorem de2 : chk (tDE (clF 11) (rB x i (.int (-3)) o t) (hB c0 ms p g (.int (-3)) o t ++ [.lst (told (.int (-3)) o t)])) = some (some (some (.loc 2)), 17, h0 c0 ms p g) := by kernel_rfl
theorem ab3 : tAB (clF 11) (r1 x i (.bl true) o t) (h1 c0 ms p g (.bl true) o t) = .ok (.nx (rB x i (.bl true) o t)) (hB c0 ms p g (.bl true) o t) := by kernel_rfl
theorem de3 : chk (tDE (clF 11) (rB x i (.bl true) o t) (hB c0 ms p g (.bl true) o t ++ [.lst (told (.bl true) o t)])) = some (some (some (.loc 2)), 17, h0 c0 ms p g) := by kernel_rfl
theorem ab4 : tAB (clF 11) (r1 x i (.str "word") o t) (h1 c0 ms p g (.str "word") o t) = .ok (.nx (rB x i (.str "word") o t)) (hB c0 ms p g (.str "word") o t) := by kernel_rfl
theorem de4 : chk (tDE (clF 11) (rB x i (.str "word") o t) (hB c0 ms p g (.str "word") o t ++ [.lst (told (.str "word") o t)])) = some (some (some (.loc 2)), 17, h0 c0 ms p g) := by kernel_rfl
theorem ab5 : tAB (clF 11) (r1 x i (.loc 4) o t) (h1 c0 ms p g (.loc 4) o t) = .ok (.nx (rB x i (.loc 4) o t)) (hB c0 ms p g (.loc 4) o t) := by kernel_rfl
theorem de5 : chk (tDE (clF 11) (rB x i (.loc 4) o t) (hB c0 ms p g (.loc 4) o t ++ [.lst (told (.loc 4) o t)])) = some (some (some (.loc 2)), 17, h0 c0 ms p g) := by kernel_rfl
theorem ab6 : tAB (clF 11) (r1 x i (.tup [.int 1, .tup [.int 2]]) o t) (h1 c0 ms p g (.tup [.int 1, .tup [.int 2]]) o t) = .ok (.nx (rB x i (.tup [.int 1, .tup [.int 2]]) o t)) (hB c0 ms p g (.tup [.int 1, .tup [.int 2]]) o t) := by kernel_rfl
theorem de6 : chk (tDE (clF 11) (rB x i (.tup [.int 1, .tup [.int 2]]) o t) (hB c0 ms p g (.tup [.int 1, .tup [.int 2]]) o t ++ [.lst (told (.tup [.int 1, .tup [.int 2]]) o t)])) = some (some (some (.loc 2)), 17, h0 c0 ms p g) := by kernel_rfl
theorem ab7 : tAB (clF 11) (r1 x i (.loc 5) o t) (h1 c0 ms p g (.loc 5) o t) = .ok (.nx (rB x i (.loc 5) o t)) (hB c0 ms p g (.loc 5) o t) := by kernel_rfl
theorem de7 : chk (tDE (clF 11) (rB x i (.loc 5) o t) (hB c0 ms p g (.loc 5) o t ++ [.lst (told (.loc 5) o t)])) = some (some (some (.loc 2)), 17, h0 c0 ms p g) := by kernel_rfl
theorem ab8 : tAB (clF 11) (r1 x i (.str "A") o t) (h1 c0 ms p g (.str "A") o t) = .ok (.nx (rB x i (.str "A") o t)) (hB c0 ms p g (.str "A") o t) := by kernel_rfl
theorem de8 : chk (tDE (clF 11) (rB x i (.str "A") o t) (hB c0 ms p g (.str "A") o t ++ [.lst (told (.str "A") o t)])) = some (some (some (.loc 2)), 17, h0 c0 ms p g) := by kernel_rfl
theorem ab9 : tAB (clF 11) (r1 x i (.int (10 ^ 30)) o t) (h1 c0 ms p g (.int (10 ^ 30)) o t) = .ok (.nx (rB x i (.int (10 ^ 30)) o t)) (hB c0 ms p g (.int (10 ^ 30)) o t) := by kernel_rfl
theorem de9 : chk (tDE (clF 11) (rB x i (.int (10 ^ 30)) o t) (hB c0 ms p g (.int (10 ^ 30)) o t ++ [.lst (told (.int (10 ^ 30)) o t)])) = some (some (some (.loc 2)), 17, h0 c0 ms p g) := by kernel_rfl
theorem ab10 : tAB (clF 11) (r1 x i (.tup []) o t) (h1 c0 ms p g (.tup []) o t) = .ok (.nx (rB x i (.tup []) o t)) (hB c0 ms p g (.tup []) o t) := by kernel_rfl
theorem de10 : chk (tDE (clF 11) (rB x i (.tup []) o t) (hB c0 ms p g (.tup []) o t ++ [.lst (told (.tup []) o t)])) = some (some (some (.loc 2)), 17, h0 c0 ms p g) := by kernel_rfl
end
end K00
end

section
set_option Elab.async false
set_option linter.all false
set_option maxRecDepth 100000
set_option maxHeartbeats 0
/-! law_k00: the plain law, the turn. -/
namespace K00
open PySem PySem.Spec PyProof.Rows L2 NdefX IM
def pvals : List PyData := [.none, .int 5, .int (-3), .bool true, .str "word", .list [.int 1, .list [.int 2]], .tuple [.int 1, .tuple [.int 2]], .dict [], .str "A", .int (10 ^ 30), .tuple []]
def pTold (v o t : PyData) : PyData := .list [v, v, v, o, v, v, o, t, v, v, o, v]
def shB (d : PyData) : Bool := d.showable && (decide (d.shown.length ≤ 100000) && decide (d.depth ≤ 50))
def ok1 (d : PyData) : Bool := d.showable && (decide (d.shown.length ≤ 100) && (decide (d.depth ≤ 5) && PyData.strOk d.shown))
theorem ok_all : (pvals.all ok1) = true := by kernel_rfl
theorem idx {α : Type} {f : IH → D → Option α} : ∀ (ds : List D) (qs : List α), (∀ X, ds.map (f X) = qs.map some) → ∀ d ∈ ds, ∃ q ∈ qs, ∀ X, f X d = some q
  | [], _, _, d, h => absurd h List.not_mem_nil
  | d :: ds, [], e, _, _ => by cases e []
  | d :: ds, q :: qs, e, d', h => by
    rcases List.mem_cons.mp h with h | h
    · subst h
      exact ⟨q, List.mem_cons_self, fun X => (List.cons.inj (e X)).1⟩
    · obtain ⟨q', h1, h2⟩ := idx ds qs (fun X => (List.cons.inj (e X)).2) d' h
      exact ⟨q', List.mem_cons_of_mem _ h1, h2⟩
section
variable (c0 : C) (ms : List Int) (p g : Int) (v' o' t' : D)
theorem rd3 : ∀ d ∈ vals 3, ∃ q ∈ pvals, ∀ X : IH, dataOf 39 (h1 c0 ms p g v' o' t' ++ X) d = some q := idx (vals 3) pvals fun X => by kernel_rfl
theorem rd7 : ∀ d ∈ vals 7, ∃ q ∈ pvals, ∀ X : IH, dataOf 39 (h1 c0 ms p g v' o' t' ++ X) d = some q := idx (vals 7) pvals fun X => by kernel_rfl
theorem rd11 : ∀ d ∈ vals 11, ∃ q ∈ pvals, ∀ X : IH, dataOf 39 (h1 c0 ms p g v' o' t' ++ X) d = some q := idx (vals 11) pvals fun X => by kernel_rfl
end
theorem ok_app {a b : Str} (ha : PyData.strOk a = true) (hb : PyData.strOk b = true) : PyData.strOk (a ++ b) = true := by
  unfold PyData.strOk at *
  rw [PySem.Str.cps_append, Array.all_append, ha, hb]
  rfl
theorem ok_from : ∀ (ts : List Str) (k : Nat) (acc : Str), PyData.strOk acc = true → (∀ x ∈ ts, PyData.strOk x = true) → PyData.strOk (textFrom k acc ts) = true
  | [], _, _, h, _ => h
  | y :: ts, k, acc, h, h2 => by
    refine ok_from ts (k + 1) _ (ok_app (ok_app h ?_) (h2 y List.mem_cons_self)) fun x hx => h2 x (List.mem_cons_of_mem _ hx)
    by_cases q : k > 0
    · rw [if_pos q]
      decide +kernel
    · rw [if_neg q]
      decide +kernel
theorem ok_list {ts : List Str} (h : ∀ x ∈ ts, PyData.strOk x = true) : PyData.strOk (listText ts) = true := ok_app (ok_from ts 0 _ (by decide +kernel) h) (by decide +kernel)
theorem str_ne {s : Str} (h : IH) (hs : PyData.strOk s = true) : gNeD (D.str s) (D.str s) h = .ok (D.bl false) h := by
  have e : PyData.eqv (PyData.str s) (PyData.str s) = true := by
    show (s == s) = true
    exact beq_self_eq_true s
  have e2 : SeqAt.shaped (PyData.str s) = true := by
    unfold SeqAt.shaped
    simp only [PyData.canLay0, PyData.depth]
    rw [hs]
    rfl
  show (if (SeqAt.shaped (PyData.str s) && SeqAt.shaped (PyData.str s)) = true then Res.ok (D.bl (!PyData.eqv (PyData.str s) (PyData.str s))) h else .bad) = _
  rw [e, e2]
  rfl
theorem told_ok {a b c : PyData} (ha : a ∈ pvals) (hb : b ∈ pvals) (hc : c ∈ pvals) : shB (pTold a b c) = true ∧ PyData.strOk (pTold a b c).shown = true := by
  have k : ∀ q ∈ pvals, q.showable = true ∧ q.shown.length ≤ 100 ∧ q.depth ≤ 5 ∧ PyData.strOk q.shown = true := fun q hq => by
    have z := List.all_eq_true.mp ok_all q hq
    unfold ok1 at z
    simp only [Bool.and_eq_true, decide_eq_true_eq] at z
    exact z
  obtain ⟨a1, a2, a3, a4⟩ := k a ha
  obtain ⟨b1, b2, b3, b4⟩ := k b hb
  obtain ⟨c1, c2, c3, c4⟩ := k c hc
  have L : (pTold a b c).shown.length ≤ 100000 := by
    unfold pTold
    simp only [PyData.shown, PyData.shownAll]
    refine Nat.le_trans (listText_len_le _) ?_
    simp only [List.map_cons, List.map_nil, List.sum_cons, List.sum_nil, List.length_cons, List.length_nil]
    omega
  have Dp : (pTold a b c).depth ≤ 50 := by
    unfold pTold
    simp only [PyData.depth, PyData.depthAll]
    omega
  refine ⟨?_, ?_⟩
  case refine_2 =>
    unfold pTold
    simp only [PyData.shown, PyData.shownAll]
    refine ok_list fun x hx => ?_
    simp only [List.mem_cons, List.not_mem_nil, or_false] at hx
    rcases hx with h | h | h | h | h | h | h | h | h | h | h | h <;> (rw [h]; assumption)
  unfold shB
  rw [decide_eq_true L, decide_eq_true Dp]
  unfold pTold
  simp only [PyData.showable, PyData.showableAll, a1, b1, c1, Bool.and_self]
theorem gRepr_of {d : D} {q : PyData} {h : IH} (e : dataOf 40 h d = some q) (hs : shB q = true) : gRepr [d] h = .ok (D.str q.shown) h := by
  show (match dataOf 40 h d with
    | some d => if (d.showable && (decide (d.shown.length ≤ 100000) && decide (d.depth ≤ 50))) = true then Res.ok (D.str d.shown) h else .bad
    | none => .bad) = _
  rw [e]
  exact if_pos hs
theorem told_data {h : IH} {n : Nat} {v o t : D} {pv po pt : PyData} (hn : h[n]? = some (C.lst (told v o t))) (ev : dataOf 39 h v = some pv) (eo : dataOf 39 h o = some po) (et : dataOf 39 h t = some pt) : dataOf 40 h (D.loc n) = some (pTold pv po pt) := by
  show (match h[n]? with
    | some (.lst ds) => (mapO (dataOf 39 h) ds).map PyData.list
    | some (.dic []) => some (.dict [])
    | _ => none) = _
  rw [hn]
  simp only [told, mapO, ev, eo, et, Option.map_some, pTold]
theorem lenB (c0 : C) (ms : List Int) (p g : Int) (v o t : D) : (hB c0 ms p g v o t).length = 51 := rfl
theorem sC {cl : CallT} (c0 : C) (ms : List Int) (p g : Int) (x : Option D) (i : Int) {v o t : D} (hv : v ∈ vals 3) (ho : o ∈ vals 7) (ht : t ∈ vals 11) : t6 cl (rB x i v o t) (hB c0 ms p g v o t) = .ok (.nx (rB x i v o t)) (hB c0 ms p g v o t ++ [.lst (told v o t)]) := by
  have ex : hB c0 ms p g v o t ++ [C.lst (told v o t)] = h1 c0 ms p g v o t ++ (xB v o t ++ [.lst (told v o t)]) := List.append_assoc _ _ _
  obtain ⟨pv, hpv, ev⟩ := rd3 c0 ms p g v o t v hv
  obtain ⟨po, hpo, eo⟩ := rd7 c0 ms p g v o t o ho
  obtain ⟨pt, hpt, et⟩ := rd11 c0 ms p g v o t t ht
  obtain ⟨ok, ok2⟩ := told_ok hpv hpo hpt
  have e1 : gRepr [D.loc 50] (hB c0 ms p g v o t) = .ok (D.str (pTold pv po pt).shown) (hB c0 ms p g v o t) := gRepr_of (told_data rfl (ev _) (eo _) (et _)) ok
  have e2 : gRepr [D.loc (hB c0 ms p g v o t).length] (hB c0 ms p g v o t ++ [.lst (told v o t)]) = .ok (D.str (pTold pv po pt).shown) (hB c0 ms p g v o t ++ [.lst (told v o t)]) := gRepr_of (told_data (List.getElem?_concat_length ..) (by rw [ex]; exact ev _) (by rw [ex]; exact eo _) (by rw [ex]; exact et _)) ok
  show (((gRepr [D.loc 50] (hB c0 ms p g v o t)).bind fun x ih => ((if (told v o t).length ≤ 100000 then Res.ok (D.loc ih.length) (ih ++ [C.lst (told v o t)]) else .bad).bind fun y ih => (Res.ok [y] ih).bind fun ys ih => gRepr ys ih).bind fun y ih => gNeD x y ih).bind asB).bind (fun c ih => if c = true then dRet (dK (.bl false)) cl (rB x i v o t) ih else dNx cl (rB x i v o t) ih) = _
  rw [e1]
  show (((gRepr [D.loc (hB c0 ms p g v o t).length] (hB c0 ms p g v o t ++ [.lst (told v o t)])).bind fun y ih => gNeD (D.str (pTold pv po pt).shown) y ih).bind asB).bind (fun c ih => if c = true then dRet (dK (.bl false)) cl (rB x i v o t) ih else dNx cl (rB x i v o t) ih) = _
  rw [e2]
  show ((gNeD (D.str (pTold pv po pt).shown) (D.str (pTold pv po pt).shown) (hB c0 ms p g v o t ++ [.lst (told v o t)])).bind asB).bind (fun c ih => if c = true then dRet (dK (.bl false)) cl (rB x i v o t) ih else dNx cl (rB x i v o t) ih) = _
  rw [str_ne _ ok2]
  rfl
theorem seq_nx {a b : DS} {cl : CallT} {ρ ρ' : Sl} {ih ih' : IH} (h : a cl ρ ih = .ok (.nx ρ') ih') : dSeq a b cl ρ ih = b cl ρ' ih' := by
  unfold dSeq
  rw [h]
  rfl
theorem seq_rt {a b : DS} {cl : CallT} {ρ : Sl} {v : D} {ih ih' : IH} (h : a cl ρ ih = .ok (.rt v) ih') : dSeq a b cl ρ ih = .ok (.rt v) ih' := by
  unfold dSeq
  rw [h]
  rfl
theorem seq_assoc {a b c : DS} : dSeq (dSeq a b) c = dSeq a (dSeq b c) := by
  funext cl ρ ih
  unfold dSeq
  cases a cl ρ ih with
  | ok f h => cases f <;> rfl
  | exn c n h => rfl
  | bad => rfl
theorem tB_eq : tB = dSeq tAB (dSeq t6 tDE) := by
  unfold tB tAB tDE
  simp only [seq_assoc]
theorem abde (c0 : C) (ms : List Int) (p g : Int) (x : Option D) (i : Int) {v : D} (o t : D) (hv : v ∈ vals 3) :
    tAB (clF 11) (r1 x i v o t) (h1 c0 ms p g v o t) = .ok (.nx (rB x i v o t)) (hB c0 ms p g v o t) ∧ chk (tDE (clF 11) (rB x i v o t) (hB c0 ms p g v o t ++ [.lst (told v o t)])) = some (some (some (.loc 2)), 17, h0 c0 ms p g) := by
  simp only [vals, List.mem_cons, List.not_mem_nil, or_false] at hv
  rcases hv with h | h | h | h | h | h | h | h | h | h | h
  · subst h
    exact ⟨ab0 c0 ms p g x i o t, de0 c0 ms p g x i o t⟩
  · subst h
    exact ⟨ab1 c0 ms p g x i o t, de1 c0 ms p g x i o t⟩
  · subst h
    exact ⟨ab2 c0 ms p g x i o t, de2 c0 ms p g x i o t⟩
  · subst h
    exact ⟨ab3 c0 ms p g x i o t, de3 c0 ms p g x i o t⟩
  · subst h
    exact ⟨ab4 c0 ms p g x i o t, de4 c0 ms p g x i o t⟩
  · subst h
    exact ⟨ab5 c0 ms p g x i o t, de5 c0 ms p g x i o t⟩
  · subst h
    exact ⟨ab6 c0 ms p g x i o t, de6 c0 ms p g x i o t⟩
  · subst h
    exact ⟨ab7 c0 ms p g x i o t, de7 c0 ms p g x i o t⟩
  · subst h
    exact ⟨ab8 c0 ms p g x i o t, de8 c0 ms p g x i o t⟩
  · subst h
    exact ⟨ab9 c0 ms p g x i o t, de9 c0 ms p g x i o t⟩
  · subst h
    exact ⟨ab10 c0 ms p g x i o t, de10 c0 ms p g x i o t⟩
theorem turn (c0 : C) (ms : List Int) (p g : Int) (x : Option D) (i : Int) {v o t : D} (hv : v ∈ vals 3) (ho : o ∈ vals 7) (ht : t ∈ vals 11) :
    chk (tB (clF 11) (r1 x i v o t) (h1 c0 ms p g v o t)) = some (some (some (.loc 2)), 17, h0 c0 ms p g) := by
  obtain ⟨e1, e2⟩ := abde c0 ms p g x i o t hv
  rw [tB_eq, seq_nx e1, seq_nx (sC c0 ms p g x i hv ho ht)]
  exact e2
theorem lo_ints (m : Nat) : ∀ ns : List Int, los m (ns.map D.int) = true
  | [] => rfl
  | n :: ns => by
    show (true && los m (ns.map D.int)) = true
    rw [lo_ints m ns]
    rfl
def r0 (x y : Option D) : Sl := [x, some (.loc 2), y, none, none, none, none, none, none, none, none, none, none, none, none, none, none]
theorem cons2 {α : Type} {a b : α} {as bs : List α} (h : a = b) (t : as = bs) : a :: as = b :: bs := by rw [h, t]
theorem keep_r0 {ρ : Sl} (h1 : ρ[1]? = some (some (.loc 2))) (h2 : ρ.length = 17) : keepS 3 [1] ρ = r0 none none := by
  match ρ, h1, h2 with
  | [a0, a1, a2, a3, a4, a5, a6, a7, a8, a9, a10, a11, a12, a13, a14, a15, a16], h1, _ =>
    have e : a1 = some (.loc 2) := Option.some.inj h1
    subst e
    have k : ∀ (i : Nat) (o : Option D), i ≠ 1 → (match o with
      | some d => if (decide (i ∈ [1]) && lo 3 d) = true then some d else none
      | none => none) = none := fun i o hi => by
      cases o with
      | none => rfl
      | some d =>
        have : decide (i ∈ [1]) = false := by simp [hi]
        show (if (decide (i ∈ [1]) && lo 3 d) = true then some d else none) = none
        rw [this]
        rfl
    unfold keepS
    simp only [List.mapIdx_cons, List.mapIdx_nil]
    exact (cons2 (k 0 a0 (by decide)) (cons2 rfl (cons2 (k 2 a2 (by decide)) (cons2 (k 3 a3 (by decide)) (cons2 (k 4 a4 (by decide)) (cons2 (k 5 a5 (by decide)) (cons2 (k 6 a6 (by decide)) (cons2 (k 7 a7 (by decide)) (cons2 (k 8 a8 (by decide)) (cons2 (k 9 a9 (by decide)) (cons2 (k 10 a10 (by decide)) (cons2 (k 11 a11 (by decide)) (cons2 (k 12 a12 (by decide)) (cons2 (k 13 a13 (by decide)) (cons2 (k 14 a14 (by decide)) (cons2 (k 15 a15 (by decide)) (cons2 (k 16 a16 (by decide)) rfl)))))))))))))))))
theorem gc_turn {cl : CallT} {d : DS} {c0 : C} {ms : List Int} {p g p' g' : Int} {ρ : Sl} (hc : loC 3 c0 = true) (h : chk (d cl ρ (h0 c0 ms p g)) = some (some (some (.loc 2)), 17, h0 c0 ms p' g')) :
    dGC [1] d cl ρ (h0 c0 ms p g) = .ok (.nx (r0 none none)) (h0 c0 ms p' g') := by
  unfold dGC
  cases e : d cl ρ (h0 c0 ms p g) with
  | bad => rw [e] at h; cases h
  | exn c n ih' => rw [e] at h; cases h
  | ok f ih' =>
    rw [e] at h
    cases f with
    | rt v => cases h
    | bk v => cases h
    | ct v => cases h
    | nx ρ' =>
      have h : some (ρ'[1]?, ρ'.length, ih'.take 3) = some (some (some (.loc 2)), 17, h0 c0 ms p' g') := h
      injection h with h
      injection h with ha h
      injection h with hb hd
      show gcR [1] 3 (.nx ρ') ih' = _
      unfold gcR
      rw [hd, if_pos]
      · show Res.ok (Fl.nx (keepS 3 [1] ρ')) (h0 c0 ms p' g') = _
        rw [keep_r0 ha hb]
      · show (loC 3 c0 && (los 3 (ms.map D.int) && true)) = true
        rw [hc, lo_ints]
        rfl
end K00
end

section
set_option Elab.async false
set_option linter.all false
set_option maxRecDepth 100000
set_option maxHeartbeats 0
/-! law_k00: the plain law, the draws. -/
namespace K00
open PySem PySem.Spec PyProof.Rows L2 NdefX IM
section
variable {cl : CallT} {ρ : Sl} {h h' : IH} {a b : DE} {i j : Int}
theorem o_i {c : Int → Int → Bool} {g : Int → Int → D} (ha : a cl ρ h = .ok (.int i) h) (hb : b cl ρ h = .ok (.int j) h) (hc : c i j = true) : dOp (gI c g) a b cl ρ h = .ok (g i j) h := by
  unfold dOp
  rw [ha]
  show (b cl ρ h).bind _ = _
  rw [hb]
  exact if_pos hc
theorem o_add (ha : a cl ρ h = .ok (.int i) h) (hb : b cl ρ h = .ok (.int j) h) : dOp gAdd a b cl ρ h = .ok (.int (i + j)) h := by
  unfold dOp
  rw [ha]
  show (b cl ρ h).bind _ = _
  rw [hb]
  rfl
theorem a_int (ha : a cl ρ h = .ok (.int i) h) : dApp gInt (dCons a dNil) cl ρ h = .ok (.int i) h := by
  unfold dApp dCons
  rw [ha]
  rfl
theorem a_intb {k : Bool} (ha : a cl ρ h = .ok (.bl k) h) : dApp gInt (dCons a dNil) cl ρ h = .ok (.int (if k then 1 else 0)) h := by
  unfold dApp dCons
  rw [ha]
  rfl
theorem a_abs (ha : a cl ρ h = .ok (.int i) h) : dApp gAbs (dCons a dNil) cl ρ h = .ok (.int (if i < 0 then -i else i)) h := by
  unfold dApp dCons
  rw [ha]
  rfl
theorem s_set {k : Nat} {d : D} (ha : a cl ρ h = .ok d h') : dSet k a cl ρ h = .ok (.nx (ρ.set k (some d))) h' := by
  unfold dSet
  rw [ha]
  rfl
theorem t_tst {k : Bool} (ha : a cl ρ h = .ok (.bl k) h') : dTst a cl ρ h = .ok k h' := by
  unfold dTst
  rw [ha]
  rfl
theorem i_t {c : DB} {x y : DS} (hc : c cl ρ h = .ok true h') : dIfS c x y cl ρ h = x cl ρ h' := by
  unfold dIfS
  rw [hc]
  rfl
theorem i_f {c : DB} {x y : DS} (hc : c cl ρ h = .ok false h') : dIfS c x y cl ρ h = y cl ρ h' := by
  unfold dIfS
  rw [hc]
  rfl
theorem and_t {x y : DB} {k : Bool} (hx : x cl ρ h = .ok true h) (hy : y cl ρ h = .ok k h) : dAnd x y cl ρ h = .ok k h := by
  unfold dAnd
  rw [hx]
  exact hy
theorem and_f {x y : DB} (hx : x cl ρ h = .ok false h) : dAnd x y cl ρ h = .ok false h := by
  unfold dAnd
  rw [hx]
  rfl
end
def hp (c0 : C) (ms : List Int) (p g : Int) (Y : IH) : IH := c0 :: .lst (ms.map D.int) :: .lst [.loc 1, .int p, .int g] :: Y
def r7 (a b c d e : Option D) : Sl := [some (.loc 2), some (.int 11), a, b, c, d, e]
section
variable {cl : CallT} {c0 : C} {ms : List Int} {p g : Int} {Y : IH} {ρ : Sl} {a b c d e : Option D}
theorem v0 : dVar 0 cl (r7 a b c d e) (hp c0 ms p g Y) = .ok (.loc 2) (hp c0 ms p g Y) := rfl
theorem pen0 : dOp gIx (dVar 0) (dK (.int 0)) cl (r7 a b c d e) (hp c0 ms p g Y) = .ok (.loc 1) (hp c0 ms p g Y) := rfl
theorem pen1 : dOp gIx (dVar 0) (dK (.int 1)) cl (r7 a b c d e) (hp c0 ms p g Y) = .ok (.int p) (hp c0 ms p g Y) := rfl
theorem pen2 : dOp gIx (dVar 0) (dK (.int 2)) cl (r7 a b c d e) (hp c0 ms p g Y) = .ok (.int g) (hp c0 ms p g Y) := rfl
theorem pen0l : dApp gLen (dCons (dOp gIx (dVar 0) (dK (.int 0))) dNil) cl (r7 a b c d e) (hp c0 ms p g Y) = .ok (.int (ms.map D.int).length) (hp c0 ms p g Y) := rfl
theorem set1 {v : DE} {i : Int} (hv : v cl (r7 a b c d e) (hp c0 ms p g Y) = .ok (.int i) (hp c0 ms p g Y)) : dSetI v (dVar 0) (dK (.int 1)) cl (r7 a b c d e) (hp c0 ms p g Y) = .ok (.nx (r7 a b c d e)) (hp c0 ms i g Y) := by
  unfold dSetI
  rw [hv]
  rfl
theorem set2 {v : DE} {i : Int} (hv : v cl (r7 a b c d e) (hp c0 ms p g Y) = .ok (.int i) (hp c0 ms p g Y)) : dSetI v (dVar 0) (dK (.int 2)) cl (r7 a b c d e) (hp c0 ms p g Y) = .ok (.nx (r7 a b c d e)) (hp c0 ms p i Y) := by
  unfold dSetI
  rw [hv]
  rfl
theorem u0_t (hg : 0 < g) : u0 cl (r7 a b c d e) (hp c0 ms p g Y) = .ok (.rt (.int (g % 11))) (hp c0 ms p (g / 11) Y) := by
  unfold u0
  rw [i_t (h' := hp c0 ms p g Y) (t_tst (o_i (j := 0) pen2 rfl rfl |>.trans (by rw [decide_eq_true hg])))]
  rw [seq_nx (ρ' := r7 a b c (some (.int (g % 11))) e) (s_set (o_i (j := 11) (a_int pen2) rfl rfl)), seq_nx (set2 (o_i (j := 11) (a_int pen2) rfl rfl))]
  rfl
theorem u0_f (hg : ¬ 0 < g) : u0 cl (r7 a b c d e) (hp c0 ms p g Y) = .ok (.nx (r7 a b c d e)) (hp c0 ms p g Y) := by
  unfold u0
  rw [i_f (h' := hp c0 ms p g Y) (t_tst (o_i (j := 0) pen2 rfl rfl |>.trans (by rw [decide_eq_false hg])))]
  rfl
theorem u1_r : u1 cl (r7 a b c d e) (hp c0 ms p g Y) = .ok (.nx (r7 (some (.int p)) b c d e)) (hp c0 ms p g Y) := s_set pen1
theorem u2_r {q : Int} : u2 cl (r7 (some (.int q)) b c d e) (hp c0 ms p g Y) = .ok (.nx (r7 (some (.int q)) b c d e)) (hp c0 ms (q + 1) g Y) := set1 (o_add rfl rfl)
theorem u3_r {q : Int} : u3 cl (r7 (some (.int q)) b c d e) (hp c0 ms p g Y) = .ok (.nx (r7 (some (.int q)) (some (.int (71011 * q + 9001))) c d e)) (hp c0 ms p g Y) := s_set (o_add (o_i rfl rfl rfl) rfl)
theorem map_data (n : Nat) (h : IH) : ∀ ms : List Int, mapO (dataOf (n + 1) h) (ms.map D.int) = some (ms.map PyData.int)
  | [] => rfl
  | m :: ms => by
    have e := map_data n h ms
    show (match dataOf (n + 1) h (.int m), mapO (dataOf (n + 1) h) (ms.map D.int) with
      | some x, some xs => some (x :: xs)
      | _, _ => none) = _
    rw [e]
    rfl
theorem lay_ints : ∀ ms : List Int, PyData.canLayAll0 (ms.map PyData.int) = true
  | [] => by simp only [List.map_nil, PyData.canLayAll0]
  | m :: ms => by simp only [List.map_cons, PyData.canLayAll0, PyData.canLay0, lay_ints ms, Bool.and_self]
theorem dep_ints : ∀ ms : List Int, PyData.depthAll (ms.map PyData.int) = 0
  | [] => by simp only [List.map_nil, PyData.depthAll]
  | m :: ms => by simp only [List.map_cons, PyData.depthAll, PyData.depth, dep_ints ms, Nat.max_self]
theorem shp_ints (ms : List Int) : SeqAt.shaped (.list (ms.map PyData.int)) = true := by
  unfold SeqAt.shaped
  simp only [PyData.canLay0, PyData.depth, lay_ints, dep_ints]
  rfl
theorem new_at : (hp c0 ms p g Y ++ [C.lst []])[(hp c0 ms p g Y).length]? = some (C.lst []) := List.getElem?_concat_length ..
theorem ne_pen : dOp gNeD (dOp gIx (dVar 0) (dK (.int 0))) (dLst dNil) cl (r7 a b c d e) (hp c0 ms p g Y) = .ok (.bl (!PyData.eqv (.list (ms.map PyData.int)) (.list []))) (hp c0 ms p g (Y ++ [.lst []])) := by
  show gNeD (.loc 1) (.loc (hp c0 ms p g Y).length) (hp c0 ms p g Y ++ [C.lst []]) = _
  have e1 : dataOf 40 (hp c0 ms p g Y ++ [C.lst []]) (.loc 1) = some (.list (ms.map PyData.int)) := by
    show (mapO (dataOf 39 (hp c0 ms p g Y ++ [C.lst []])) (ms.map D.int)).map PyData.list = _
    rw [map_data 38]
    rfl
  have e2 : dataOf 40 (hp c0 ms p g Y ++ [C.lst []]) (.loc (hp c0 ms p g Y).length) = some (.list []) := by
    show (match (hp c0 ms p g Y ++ [C.lst []])[(hp c0 ms p g Y).length]? with
      | some (.lst ds) => (mapO (dataOf 39 (hp c0 ms p g Y ++ [C.lst []])) ds).map PyData.list
      | some (.dic []) => some (.dict [])
      | _ => none) = _
    rw [new_at]
    rfl
  unfold gNeD
  rw [e1, e2]
  show (if (SeqAt.shaped (.list (ms.map PyData.int)) && SeqAt.shaped (.list ([].map PyData.int))) = true then _ else _) = _
  rw [shp_ints, shp_ints]
  rfl
theorem at_ms {q : Int} (hq : 0 ≤ q) (m : Int) (ns : List Int) : ∃ k : Int, atI ((m :: ns).map D.int) (q % ((m :: ns).map D.int).length) = some (.int k) := by
  have hl : ((m :: ns).map D.int).length = ns.length + 1 := by rw [List.length_map]; rfl
  have h1 : (0 : Int) < (((m :: ns).map D.int).length : Int) := by rw [hl]; omega
  have h2 := Int.emod_nonneg q (Int.ne_of_gt h1)
  have h3 := Int.emod_lt_of_pos q h1
  unfold atI ixN
  rw [if_pos h2, if_pos h3]
  have h4 : (q % ((m :: ns).map D.int).length).toNat < ((m :: ns).map D.int).length := by omega
  show ∃ k : Int, ((m :: ns).map D.int)[(q % ((m :: ns).map D.int).length).toNat]? = some (.int k)
  generalize (q % ((m :: ns).map D.int).length).toNat = z at h4
  rw [List.length_map] at h4
  exact ⟨(m :: ns)[z], by rw [List.getElem?_map, List.getElem?_eq_getElem h4]; rfl⟩
theorem u4_r {q k : Int} (hq : 0 ≤ q) : ∃ k' : Int, u4 cl (r7 (some (.int q)) (some (.int k)) c d e) (hp c0 ms p g Y) = .ok (.nx (r7 (some (.int q)) (some (.int k')) c d e)) (hp c0 ms p g (Y ++ [.lst []])) := by
  unfold u4
  cases ms with
  | nil =>
    refine ⟨k, ?_⟩
    rw [i_f (h' := hp c0 [] p g (Y ++ [.lst []])) (t_tst (ne_pen.trans ?_))]
    · rfl
    · simp only [List.map_nil, PyData.eqv, PyData.eqvAll]
      rfl
  | cons m ns =>
    obtain ⟨k', hk⟩ := at_ms hq m ns
    refine ⟨k', ?_⟩
    rw [i_t (h' := hp c0 (m :: ns) p g (Y ++ [.lst []])) (t_tst (ne_pen.trans ?_))]
    · refine s_set ?_
      have hl : (0 : Int) < (((m :: ns).map D.int).length : Int) := by rw [List.length_map]; show (0 : Int) < ((ns.length + 1 : Nat) : Int); omega
      have e1 : dOp gMod (dApp gInt (dCons (dVar 2) dNil)) (dApp gLen (dCons (dOp gIx (dVar 0) (dK (.int 0))) dNil)) cl (r7 (some (.int q)) (some (.int k)) c d e) (hp c0 (m :: ns) p g (Y ++ [.lst []])) = .ok (.int (q % ((m :: ns).map D.int).length)) (hp c0 (m :: ns) p g (Y ++ [.lst []])) := o_i (a_int rfl) pen0l (decide_eq_true hl)
      show (Res.ok (D.loc 1) (hp c0 (m :: ns) p g (Y ++ [.lst []]))).bind (fun x ih => (dOp gMod (dApp gInt (dCons (dVar 2) dNil)) (dApp gLen (dCons (dOp gIx (dVar 0) (dK (.int 0))) dNil)) cl (r7 (some (.int q)) (some (.int k)) c d e) ih).bind fun y ih => gIx x y ih) = _
      show (dOp gMod (dApp gInt (dCons (dVar 2) dNil)) (dApp gLen (dCons (dOp gIx (dVar 0) (dK (.int 0))) dNil)) cl (r7 (some (.int q)) (some (.int k)) c d e) (hp c0 (m :: ns) p g (Y ++ [.lst []]))).bind (fun y ih => gIx (.loc 1) y ih) = _
      rw [e1]
      show (match atI ((m :: ns).map D.int) (q % ((m :: ns).map D.int).length) with
        | some d => Res.ok d (hp c0 (m :: ns) p g (Y ++ [C.lst []]))
        | none => .bad) = _
      rw [hk]
    · simp only [List.map_cons, PyData.eqv, PyData.eqvAll]
      rfl
theorem c_abs {q k : Int} : dApp gAbs (dCons (dVar 3) dNil) cl (r7 (some (.int q)) (some (.int k)) c d e) (hp c0 ms p g Y) = .ok (.int (if k < 0 then -k else k)) (hp c0 ms p g Y) := a_abs rfl
theorem ten18 : dOp gPow (dK (.int 10)) (dK (.int 18)) cl ρ (hp c0 ms p g Y) = .ok (.int (10 ^ 18)) (hp c0 ms p g Y) := (o_i (i := 10) (j := 18) rfl rfl rfl).trans rfl
/-- a great cell gives its digits -/
theorem u5_r {q k : Int} (hq : 0 ≤ q) (hg : 0 ≤ g) : (∃ D' g' : Int, 0 ≤ D' ∧ D' < 11 ∧ 0 ≤ g' ∧ u5 cl (r7 (some (.int q)) (some (.int k)) c d e) (hp c0 ms p g Y) = .ok (.rt (.int D')) (hp c0 ms p g' Y)) ∨
    u5 cl (r7 (some (.int q)) (some (.int k)) c d e) (hp c0 ms p g Y) = .ok (.nx (r7 (some (.int q)) (some (.int k)) c d e)) (hp c0 ms p g Y) := by
  unfold u5
  have el : dTst (dOp gLt (dVar 2) (dApp gLen (dCons (dOp gIx (dVar 0) (dK (.int 0))) dNil))) cl (r7 (some (.int q)) (some (.int k)) c d e) (hp c0 ms p g Y) = .ok (decide (q < (ms.map D.int).length)) (hp c0 ms p g Y) := t_tst (o_i rfl pen0l rfl)
  have eg : dTst (dOp gGe (dApp gAbs (dCons (dVar 3) dNil)) (dOp gPow (dK (.int 10)) (dK (.int 18)))) cl (r7 (some (.int q)) (some (.int k)) c d e) (hp c0 ms p g Y) = .ok (decide ((10 : Int) ^ 18 ≤ if k < 0 then -k else k)) (hp c0 ms p g Y) := t_tst (o_i c_abs ten18 rfl)
  by_cases hl : q < (ms.map D.int).length
  · rw [decide_eq_true hl] at el
    by_cases hk : (10 : Int) ^ 18 ≤ if k < 0 then -k else k
    · rw [decide_eq_true hk] at eg
      left
      rw [i_t (and_t el eg)]
      have e6 : dSet 6 (dOp gAdd (dOp gMul (dK (.int 2)) (dOp gSubI (dApp gAbs (dCons (dVar 3) dNil)) (dOp gPow (dK (.int 10)) (dK (.int 18))))) (dApp gInt (dCons (dOp gLt (dVar 3) (dK (.int 0))) dNil))) cl (r7 (some (.int q)) (some (.int k)) c d e) (hp c0 ms p g Y) =
          .ok (.nx (r7 (some (.int q)) (some (.int k)) c d (some (.int (2 * ((if k < 0 then -k else k) - 10 ^ 18) + (if decide (k < 0) = true then 1 else 0)))))) (hp c0 ms p g Y) :=
        s_set (o_add (o_i rfl (o_i c_abs ten18 rfl) rfl) (a_intb (o_i (j := 0) rfl rfl rfl)))
      rw [seq_nx e6]
      have hG : (0 : Int) ≤ 2 * ((if k < 0 then -k else k) - 10 ^ 18) + (if decide (k < 0) = true then 1 else 0) := by
        generalize (if k < 0 then -k else k) = z at hk
        by_cases hh : decide (k < 0) = true
        · rw [if_pos hh]
          omega
        · rw [if_neg hh]
          omega
      generalize (2 * ((if k < 0 then -k else k) - 10 ^ 18) + (if decide (k < 0) = true then 1 else 0) : Int) = G at hG
      refine ⟨G % 11, G / 11, Int.emod_nonneg _ (by decide), Int.emod_lt_of_pos _ (by decide), Int.ediv_nonneg hG (by decide), ?_⟩
      rw [seq_nx (set2 (o_i (i := G) (j := 11) (a_int rfl) rfl rfl))]
      rfl
    · rw [decide_eq_false hk] at eg
      right
      rw [i_f (and_t el eg)]
      rfl
  · rw [decide_eq_false hl] at el
    right
    rw [i_f (and_f el)]
    rfl
theorem u6_r {q k : Int} (hq : 0 ≤ q) (hq2 : q ≤ 1000) : ∃ z : Int, 0 ≤ z ∧ z < 2147483629 ∧ u6 cl (r7 (some (.int q)) (some (.int k)) c d e) (hp c0 ms p g Y) = .ok (.nx (r7 (some (.int q)) (some (.int k)) (some (.int z)) d e)) (hp c0 ms p g Y) := by
  have h1 := Int.emod_nonneg k (show (2147483549 : Int) ≠ 0 by decide)
  have h2 := Int.emod_lt_of_pos k (show (0 : Int) < 2147483549 by decide)
  refine ⟨_, Int.emod_nonneg _ (by decide), Int.emod_lt_of_pos _ (by decide), s_set (o_i (j := 2147483629) (a_int (o_i (j := 5) (o_add (j := 6101) (o_add (o_i (i := k) (j := 2147483549) (a_int rfl) rfl rfl) (o_i (i := 33013) (j := q) rfl rfl rfl)) rfl) rfl ?_)) rfl rfl)⟩
  show (decide ((0 : Int) ≤ 5) && (decide ((5 : Int) ≤ 1000000) && decide ((k % 2147483549 + 33013 * q + 6101).natAbs < 2 ^ 64))) = true
  rw [decide_eq_true (show (k % 2147483549 + 33013 * q + 6101).natAbs < 2 ^ 64 by omega)]
  rfl
theorem u7_r {q z : Int} (hq : 0 ≤ q) (hq2 : q ≤ 1000) (hz : 0 ≤ z) (hz2 : z < 2147483629) : ∃ y : Int, 0 ≤ y ∧ u7 cl (r7 (some (.int q)) b (some (.int z)) d e) (hp c0 ms p g Y) = .ok (.nx (r7 (some (.int q)) b (some (.int y)) d e)) (hp c0 ms p g Y) := by
  have hm : 0 ≤ z * (2 * q + 557) ∧ z * (2 * q + 557) ≤ 2147483629 * 2557 := ⟨Int.mul_nonneg hz (by omega), Int.mul_le_mul (by omega) (by omega) (by omega) (by omega)⟩
  have hs : 0 ≤ 8807 * q * q ∧ 8807 * q * q ≤ 8807000 * 1000 := ⟨Int.mul_nonneg (by omega) hq, Int.mul_le_mul (by omega) hq2 hq (by omega)⟩
  refine ⟨_, Int.emod_nonneg _ (by decide), s_set (o_i (j := 2147483587) (a_int (o_i (j := 3) (o_add (j := 89) (o_add (o_i (i := z) (j := 2 * q + 557) rfl (o_add (o_i (i := 2) (j := q) rfl rfl rfl) rfl) ?_) (o_i (i := 8807 * q) (j := q) (o_i (i := 8807) (j := q) rfl rfl rfl) rfl ?_)) rfl) rfl ?_)) rfl rfl)⟩
  · show (decide (z.natAbs < 2 ^ 64) || decide ((2 * q + 557).natAbs < 2 ^ 64)) = true
    rw [decide_eq_true (show z.natAbs < 2 ^ 64 by omega)]
    rfl
  · show (decide ((8807 * q).natAbs < 2 ^ 64) || decide (q.natAbs < 2 ^ 64)) = true
    rw [decide_eq_true (show (8807 * q).natAbs < 2 ^ 64 by omega)]
    rfl
  · show (decide ((0 : Int) ≤ 3) && (decide ((3 : Int) ≤ 1000000) && decide ((z * (2 * q + 557) + 8807 * q * q + 89).natAbs < 2 ^ 64))) = true
    generalize z * (2 * q + 557) = m1 at hm
    generalize 8807 * q * q = m2 at hs
    rw [decide_eq_true (show (m1 + m2 + 89).natAbs < 2 ^ 64 by omega)]
    rfl
theorem u8_r {y : Int} : ∃ D' : Int, 0 ≤ D' ∧ D' < 11 ∧ u8 cl (r7 a b (some (.int y)) d e) (hp c0 ms p g Y) = .ok (.rt (.int D')) (hp c0 ms p g Y) := by
  refine ⟨y / 16 % 11, Int.emod_nonneg _ (by decide), Int.emod_lt_of_pos _ (by decide), ?_⟩
  have h : dOp gMod (dApp gInt (dCons (dOp gDivW (dVar 4) (dK (.int 16))) dNil)) (dVar 1) cl (r7 a b (some (.int y)) d e) (hp c0 ms p g Y) = .ok (.int (y / 16 % 11)) (hp c0 ms p g Y) := o_i (i := y / 16) (j := 11) (a_int (o_i (i := y) (j := 16) rfl rfl rfl)) rfl rfl
  unfold u8 dRet
  rw [h]
  rfl
/-- one draw, its def's body -/
theorem draw0 (hp0 : 0 ≤ p) (hp1 : p ≤ 900) (hg : 0 ≤ g) : ∃ (D' p' g' : Int) (Z : IH), 0 ≤ D' ∧ D' < 11 ∧ 0 ≤ p' ∧ p' ≤ p + 1 ∧ 0 ≤ g' ∧
    (dSeq u0 (dSeq u1 (dSeq u2 (dSeq u3 (dSeq u4 (dSeq u5 (dSeq u6 (dSeq u7 u8)))))))) cl (r7 none none none none none) (hp c0 ms p g Y) = .ok (.rt (.int D')) (hp c0 ms p' g' (Y ++ Z)) := by
  by_cases h0 : 0 < g
  · refine ⟨g % 11, p, g / 11, [], Int.emod_nonneg _ (by decide), Int.emod_lt_of_pos _ (by decide), hp0, by omega, Int.ediv_nonneg hg (by decide), ?_⟩
    rw [List.append_nil]
    exact seq_rt (u0_t h0)
  · rw [seq_nx (u0_f h0), seq_nx u1_r, seq_nx u2_r, seq_nx u3_r]
    obtain ⟨k', e4⟩ := u4_r (cl := cl) (c0 := c0) (ms := ms) (p := p + 1) (g := g) (Y := Y) (c := none) (d := none) (e := none) (q := p) (k := 71011 * p + 9001) hp0
    rw [seq_nx e4]
    rcases u5_r (cl := cl) (c0 := c0) (ms := ms) (p := p + 1) (g := g) (Y := Y ++ [.lst []]) (c := none) (d := none) (e := none) (q := p) (k := k') hp0 hg with ⟨D', g', a1, a2, a3, e5⟩ | e5
    · exact ⟨D', p + 1, g', [.lst []], a1, a2, by omega, by omega, a3, seq_rt e5⟩
    · rw [seq_nx e5]
      obtain ⟨z, z1, z2, e6⟩ := u6_r (cl := cl) (c0 := c0) (ms := ms) (p := p + 1) (g := g) (Y := Y ++ [.lst []]) (c := none) (d := none) (e := none) (q := p) (k := k') hp0 (by omega)
      rw [seq_nx e6]
      obtain ⟨y, y1, e7⟩ := u7_r (cl := cl) (c0 := c0) (ms := ms) (p := p + 1) (g := g) (Y := Y ++ [.lst []]) (b := some (.int k')) (d := none) (e := none) (q := p) (z := z) hp0 (by omega) z1 z2
      rw [seq_nx e7]
      obtain ⟨D', d1, d2, e8⟩ := u8_r (cl := cl) (c0 := c0) (ms := ms) (p := p + 1) (g := g) (Y := Y ++ [.lst []]) (a := some (.int p)) (b := some (.int k')) (d := none) (e := none) (y := y)
      exact ⟨D', p + 1, g, [.lst []], d1, d2, by omega, by omega, hg, e8⟩
/-- one draw -/
theorem draw (k : Nat) (hc : loC (Y.length + 3) c0 = true) (hY : Y.all (loC (Y.length + 3)) = true) (hp0 : 0 ≤ p) (hp1 : p ≤ 900) (hg : 0 ≤ g) : ∃ D' p' g' : Int, 0 ≤ D' ∧ D' < 11 ∧ 0 ≤ p' ∧ p' ≤ p + 1 ∧ 0 ≤ g' ∧
    clF (k + 1) 22 [.loc 2, .int 11] (hp c0 ms p g Y) = .ok (.int D') (hp c0 ms p' g' Y) := by
  obtain ⟨D', p', g', Z, d1, d2, p1, p2, g1, e⟩ := draw0 (cl := clF k) (c0 := c0) (ms := ms) (Y := Y) hp0 hp1 hg
  refine ⟨D', p', g', d1, d2, p1, p2, g1, ?_⟩
  show (d_law_draw (clF k) (r7 none none none none none) (hp c0 ms p g Y)).bind _ = _
  rw [draw_eq]
  unfold dGC
  rw [e]
  show (gcR [] (hp c0 ms p g Y).length (.rt (.int D')) (hp c0 ms p' g' (Y ++ Z))).bind _ = _
  have et : (hp c0 ms p' g' (Y ++ Z)).take (hp c0 ms p g Y).length = hp c0 ms p' g' Y := by
    show (c0 :: .lst (ms.map D.int) :: .lst [.loc 1, .int p', .int g'] :: (Y ++ Z)).take (Y.length + 3) = _
    show c0 :: C.lst (ms.map D.int) :: C.lst [.loc 1, .int p', .int g'] :: (Y ++ Z).take Y.length = _
    rw [List.take_left]
    rfl
  unfold gcR
  rw [et, if_pos]
  · rfl
  · show (loC (Y.length + 3) c0 && (los (Y.length + 3) (ms.map D.int) && ((decide (1 < Y.length + 3) && true) && Y.all (loC (Y.length + 3))))) = true
    rw [hc, lo_ints, hY, decide_eq_true (show 1 < Y.length + 3 by omega)]
    rfl
end
end K00
end

section
set_option Elab.async false
set_option linter.all false
set_option maxRecDepth 100000
set_option maxHeartbeats 0
/-! law_k00: the plain law. -/
namespace K00
open PySem PySem.Spec PyProof.Rows L2 NdefX IM
def anyR : DA := dCons (dK .non) (dCons (dK (.int 5)) (dCons (dNeg (dK (.int 3))) (dCons (dK (.bl true)) (dCons (dK (.str "word")) (dCons (dLst (dCons (dK (.int 1)) (dCons (dLst (dCons (dK (.int 2)) dNil)) dNil))) (dCons (dTup (dCons (dK (.int 1)) (dCons (dTup (dCons (dK (.int 2)) dNil)) dNil))) (dCons dDict0 (dCons (dK (.str "A")) (dCons (dOp gPow (dK (.int 10)) (dK (.int 30))) (dCons (dTup dNil) dNil))))))))))
theorem any_eq : d_law_any = dRet (dCall 23 [] (dCons (dVar 0) (dCons (dLst anyR) dNil))) := rfl
theorem any_args {cl : CallT} {ρ : Sl} (h : IH) : (dCons (dVar 0) (dCons (dLst anyR) dNil)) cl (some (.loc 2) :: ρ) h = .ok [.loc 2, .loc (h.length + 3)] (h ++ ext h.length) := by
  show Res.ok [D.loc 2, D.loc (((h ++ [C.lst [.int 2]]) ++ [C.lst [.int 1, .loc h.length]]) ++ [C.dic []]).length] ((((h ++ [C.lst [.int 2]]) ++ [C.lst [.int 1, .loc h.length]]) ++ [C.dic []]) ++ [C.lst [.non, .int 5, .int (-3), .bl true, .str "word", .loc (h ++ [C.lst [.int 2]]).length, .tup [.int 1, .tup [.int 2]], .loc ((h ++ [C.lst [.int 2]]) ++ [C.lst [.int 1, .loc h.length]]).length, .str "A", .int (10 ^ 30), .tup []]]) = _
  simp only [List.length_append, List.length_cons, List.length_nil, List.append_assoc]
  rfl
section
variable {c0 : C} {ms : List Int} {p g : Int} {Y : IH}
theorem da_cons {cl : CallT} {ρ : Sl} {h h' h'' : IH} {a : DE} {r : DA} {d : D} {ds : List D} (ha : a cl ρ h = .ok d h') (hr : r cl ρ h' = .ok ds h'') : dCons a r cl ρ h = .ok (d :: ds) h'' := by
  unfold dCons
  rw [ha]
  show (r cl ρ h').bind _ = _
  rw [hr]
  rfl
theorem at_vals : (hp c0 ms p g (Y ++ ext (Y.length + 3)))[Y.length + 3 + 3]? = some (C.lst (vals (Y.length + 3))) := by
  show (Y ++ ext (Y.length + 3))[Y.length + 3]? = _
  rw [List.getElem?_append_right (Nat.le_add_right _ _), Nat.add_sub_cancel_left]
  rfl
theorem vals_at (b : Nat) {D' : Int} (h1 : 0 ≤ D') (h2 : D' < 11) : ∃ d, d ∈ vals b ∧ atI (vals b) D' = some d := by
  have h3 : D'.toNat < (vals b).length := by show D'.toNat < 11; omega
  unfold atI ixN
  rw [if_pos h1, if_pos (show D' < ((vals b).length : Int) by show D' < ((11 : Nat) : Int); omega)]
  exact ⟨(vals b)[D'.toNat], List.getElem_mem h3, List.getElem?_eq_getElem h3⟩
theorem any_r (k : Nat) (hc : ∀ m, loC m c0 = true) (hY : (Y ++ ext (Y.length + 3)).all (loC ((Y ++ ext (Y.length + 3)).length + 3)) = true) (hp0 : 0 ≤ p) (hp1 : p ≤ 900) (hg : 0 ≤ g) : ∃ (d : D) (p' g' : Int), d ∈ vals (Y.length + 3) ∧ 0 ≤ p' ∧ p' ≤ p + 1 ∧ 0 ≤ g' ∧
    clF (k + 3) 24 [.loc 2] (hp c0 ms p g Y) = .ok d (hp c0 ms p' g' (Y ++ ext (Y.length + 3))) := by
  obtain ⟨D', p', g', d1, d2, p1, p2, g1, e⟩ := draw (c0 := c0) (ms := ms) (p := p) (g := g) (Y := Y ++ ext (Y.length + 3)) k (hc _) hY hp0 hp1 hg
  obtain ⟨d, hd, ea⟩ := vals_at (Y.length + 3) d1 d2
  refine ⟨d, p', g', hd, p1, p2, g1, ?_⟩
  show (d_law_any (clF (k + 2)) [some (.loc 2)] (hp c0 ms p g Y)).bind _ = _
  have e23 : clF (k + 2) 23 [.loc 2, .loc (Y.length + 3 + 3)] (hp c0 ms p g (Y ++ ext (Y.length + 3))) = .ok d (hp c0 ms p' g' (Y ++ ext (Y.length + 3))) := by
    show (d_law_pick (clF (k + 1)) [some (.loc 2), some (.loc (Y.length + 3 + 3))] (hp c0 ms p g (Y ++ ext (Y.length + 3)))).bind _ = _
    have el : gLen [.loc (Y.length + 3 + 3)] (hp c0 ms p g (Y ++ ext (Y.length + 3))) = .ok (.int 11) (hp c0 ms p g (Y ++ ext (Y.length + 3))) := by
      show (match (match (hp c0 ms p g (Y ++ ext (Y.length + 3)))[Y.length + 3 + 3]? with
        | some (.lst ds) => some ds
        | _ => none) with
        | some ds => Res.ok (D.int ds.length) (hp c0 ms p g (Y ++ ext (Y.length + 3)))
        | none => .bad) = _
      rw [at_vals]
      rfl
    have ex : gIx (.loc (Y.length + 3 + 3)) (.int D') (hp c0 ms p' g' (Y ++ ext (Y.length + 3))) = .ok d (hp c0 ms p' g' (Y ++ ext (Y.length + 3))) := by
      show (match (hp c0 ms p' g' (Y ++ ext (Y.length + 3)))[Y.length + 3 + 3]? with
        | some (.lst ds) => match atI ds D' with
          | some d => Res.ok d (hp c0 ms p' g' (Y ++ ext (Y.length + 3)))
          | none => .bad
        | _ => .bad) = _
      rw [at_vals]
      show (match atI (vals (Y.length + 3)) D' with
          | some d => Res.ok d (hp c0 ms p' g' (Y ++ ext (Y.length + 3)))
          | none => .bad) = _
      rw [ea]
    have eA : (dCons (dVar 0) (dCons (dApp gLen (dCons (dVar 1) dNil)) dNil)) (clF (k + 1)) [some (.loc 2), some (.loc (Y.length + 3 + 3))] (hp c0 ms p g (Y ++ ext (Y.length + 3))) = .ok [.loc 2, .int 11] (hp c0 ms p g (Y ++ ext (Y.length + 3))) :=
      da_cons rfl (da_cons el rfl)
    have eC : dCall 22 [] (dCons (dVar 0) (dCons (dApp gLen (dCons (dVar 1) dNil)) dNil)) (clF (k + 1)) [some (.loc 2), some (.loc (Y.length + 3 + 3))] (hp c0 ms p g (Y ++ ext (Y.length + 3))) = .ok (.int D') (hp c0 ms p' g' (Y ++ ext (Y.length + 3))) := by
      unfold dCall
      rw [eA]
      exact e
    have eO : dOp gIx (dVar 1) (dCall 22 [] (dCons (dVar 0) (dCons (dApp gLen (dCons (dVar 1) dNil)) dNil))) (clF (k + 1)) [some (.loc 2), some (.loc (Y.length + 3 + 3))] (hp c0 ms p g (Y ++ ext (Y.length + 3))) = .ok d (hp c0 ms p' g' (Y ++ ext (Y.length + 3))) := by
      unfold dOp
      show (dCall 22 [] (dCons (dVar 0) (dCons (dApp gLen (dCons (dVar 1) dNil)) dNil)) (clF (k + 1)) [some (.loc 2), some (.loc (Y.length + 3 + 3))] (hp c0 ms p g (Y ++ ext (Y.length + 3)))).bind _ = _
      rw [eC]
      exact ex
    unfold d_law_pick dRet
    rw [eO]
    rfl
  rw [any_eq]
  have ea : (dCons (dVar 0) (dCons (dLst anyR) dNil)) (clF (k + 2)) [some (.loc 2)] (hp c0 ms p g Y) = .ok [.loc 2, .loc (Y.length + 3 + 3)] (hp c0 ms p g (Y ++ ext (Y.length + 3))) := any_args (ρ := []) (hp c0 ms p g Y)
  unfold dRet dCall
  rw [ea]
  show ((clF (k + 2) 23 [.loc 2, .loc (Y.length + 3 + 3)] (hp c0 ms p g (Y ++ ext (Y.length + 3)))).bind fun v ih => Res.ok (Fl.rt v) ih).bind _ = _
  rw [e23]
  rfl
end
theorem t0_r {cl : CallT} {h ha hb hd : IH} {x : Option D} {i : Int} {d1 d2 d3 : D} (e1 : cl 24 [.loc 2] h = .ok d1 ha) (e2 : cl 24 [.loc 2] ha = .ok d2 hb) (e3 : cl 24 [.loc 2] hb = .ok d3 hd) :
    t0 cl (r0 x (some (.int i))) h = .ok (.nx (r1 x i d1 d2 d3)) (hd ++ [.lst [d1, d2, d3]]) := by
  have s1 : lcF cl (.rng 0 3) (.nm 15) dYes (dCall 24 [] (dCons (dVar 1) dNil)) (r0 x (some (.int i))) 4 0 [] h = lcF cl (.rng 0 3) (.nm 15) dYes (dCall 24 [] (dCons (dVar 1) dNil)) (r0 x (some (.int i))) 3 1 [d1] ha := by
    show (cl 24 [.loc 2] h).nox.bind _ = _
    rw [e1]
    rfl
  have s2 : lcF cl (.rng 0 3) (.nm 15) dYes (dCall 24 [] (dCons (dVar 1) dNil)) (r0 x (some (.int i))) 3 1 [d1] ha = lcF cl (.rng 0 3) (.nm 15) dYes (dCall 24 [] (dCons (dVar 1) dNil)) (r0 x (some (.int i))) 2 2 [d1, d2] hb := by
    show (cl 24 [.loc 2] ha).nox.bind _ = _
    rw [e2]
    rfl
  have s3 : lcF cl (.rng 0 3) (.nm 15) dYes (dCall 24 [] (dCons (dVar 1) dNil)) (r0 x (some (.int i))) 2 2 [d1, d2] hb = .ok [d1, d2, d3] hd := by
    show (cl 24 [.loc 2] hb).nox.bind _ = _
    rw [e3]
    rfl
  have s : dLc [15] (dRng1 (dCons (dK (.int 3)) dNil)) (.nm 15) dYes (dCall 24 [] (dCons (dVar 1) dNil)) cl (r0 x (some (.int i))) h = .ok (.loc hd.length) (hd ++ [.lst [d1, d2, d3]]) := by
    show (lcF cl (.rng 0 3) (.nm 15) dYes (dCall 24 [] (dCons (dVar 1) dNil)) (r0 x (some (.int i))) 4 0 [] h).bind _ = _
    rw [s1, s2, s3]
    rfl
  unfold t0 dAsgL
  rw [s]
  have q : seqOf (.loc hd.length) (hd ++ [.lst [d1, d2, d3]]) = some [d1, d2, d3] := by
    show (match (hd ++ [C.lst [d1, d2, d3]])[hd.length]? with
      | some (.lst ds) => some ds
      | _ => none) = _
    rw [List.getElem?_concat_length]
  show (match seqOf (.loc hd.length) (hd ++ [.lst [d1, d2, d3]]) with
    | some ds => match setAll [7, 8, 9] ds (r0 x (some (.int i))) with
      | some ρ' => Res.ok (Fl.nx ρ') (hd ++ [C.lst [d1, d2, d3]])
      | none => .bad
    | none => .bad) = _
  rw [q]
  rfl
section
variable {c0 : C} {ms : List Int} {p g : Int}
theorem body_r (hc : ∀ m, loC m c0 = true) (x : Option D) (i : Int) (hp0 : 0 ≤ p) (hp1 : p ≤ 800) (hg : 0 ≤ g) : ∃ p' g' : Int, 0 ≤ p' ∧ p' ≤ p + 3 ∧ 0 ≤ g' ∧
    dGC [1] (dSeq t0 tB) (clF 11) (r0 x (some (.int i))) (h0 c0 ms p g) = .ok (.nx (r0 none none)) (h0 c0 ms p' g') := by
  obtain ⟨v, p1, g1, hv, a1, b1, g1', e1⟩ := any_r (c0 := c0) (ms := ms) (p := p) (g := g) (Y := []) 8 hc (by rfl) hp0 (by omega) hg
  obtain ⟨o, p2, g2, ho, a2, b2, g2', e2⟩ := any_r (c0 := c0) (ms := ms) (p := p1) (g := g1) (Y := ext 3) 8 hc (by rfl) a1 (by omega) g1'
  obtain ⟨t, p3, g3, ht, a3, b3, g3', e3⟩ := any_r (c0 := c0) (ms := ms) (p := p2) (g := g2) (Y := ext 3 ++ ext 7) 8 hc (by rfl) a2 (by omega) g2'
  refine ⟨p3, g3, a3, by omega, g3', ?_⟩
  have et : t0 (clF 11) (r0 x (some (.int i))) (h0 c0 ms p g) = .ok (.nx (r1 x i v o t)) (h1 c0 ms p3 g3 v o t) := t0_r e1 e2 e3
  refine gc_turn (hc 3) ?_
  rw [seq_nx et]
  exact turn c0 ms p3 g3 x i hv ho ht
theorem loop_r (hc : ∀ m, loC m c0 = true) : ∀ (m i : Nat) (x y : Option D) (p g : Int), i + m = 6 → 0 ≤ p → p ≤ 3 * i → 0 ≤ g → ∃ (x' y' : Option D) (p' g' : Int),
    loopF (clF 11) (.rng 0 6) (.nm 2) (dGC [1] (dSeq t0 tB)) (m + 1) i (r0 x y) (h0 c0 ms p g) = .ok (.nx (r0 x' y')) (h0 c0 ms p' g')
  | 0, i, x, y, p, g, hi, _, _, _ => by
    have : i = 6 := by omega
    subst this
    exact ⟨x, y, p, g, rfl⟩
  | m + 1, i, x, y, p, g, hi, h0', h1', h2' => by
    obtain ⟨p', g', a1, a2, a3, e⟩ := body_r (ms := ms) hc x (0 + (i : Int)) h0' (by omega) h2'
    obtain ⟨x', y', p2, g2, e2⟩ := loop_r hc m (i + 1) none none p' g' (by omega) a1 (by omega) a3
    refine ⟨x', y', p2, g2, ?_⟩
    have hs : Src.get (.rng 0 6) (h0 c0 ms p g) i = some (some (.int (0 + (i : Int)))) := by
      show some (if i < 6 then some (D.int (0 + (i : Int))) else none) = _
      rw [if_pos (by omega)]
    unfold loopF
    rw [hs]
    show ((dGC [1] (dSeq t0 tB)) (clF 11) (r0 x (some (.int (0 + (i : Int))))) (h0 c0 ms p g)).bind _ = _
    rw [e]
    exact e2
def isT : Res Fl → Bool
  | .ok (.rt (.bl b)) _ => b
  | _ => false
theorem isT_ok {r : Res Fl} (h : isT r = true) : ∃ ih, r = .ok (.rt (.bl true)) ih := by
  cases r with
  | bad => cases h
  | exn c n ih => cases h
  | ok f ih =>
    cases f with
    | nx r => cases h
    | bk r => cases h
    | ct r => cases h
    | rt d =>
      cases d with
      | bl b =>
        have h : b = true := h
        subst h
        exact ⟨ih, rfl⟩
      | non => cases h
      | int i => cases h
      | str i => cases h
      | ty i => cases h
      | glo i => cases h
      | loc i => cases h
      | tup i => cases h
      | lit i => cases h
theorem tR_r (c0 : C) (ms : List Int) (p g : Int) (x y : Option D) : isT (tR (clF 11) (r0 x y) (h0 c0 ms p g)) = true := by kernel_rfl
end
theorem pen_r (k : Nat) (ns : List Int) : ∃ ms : List Int, clF (k + 1) 21 [.lit (ns.map D.int)] [] = .ok (.loc 2) (h0 (.lst (ms.map D.int)) ms 0 0) := by
  have e : ∃ ms : List Int, cutI (ns.map D.int) none (some 63) = ms.map D.int := by
    unfold cutI
    exact ⟨(ns.drop _).take _, by rw [List.map_take, List.map_drop]⟩
  obtain ⟨ms, e⟩ := e
  refine ⟨ms, ?_⟩
  show Res.ok (D.loc 2) [C.lst (cutI (ns.map D.int) none (some 63)), C.lst (cutI (ns.map D.int) none (some 63)), C.lst [.loc 1, .int 0, .int 0]] = _
  rw [e]
  rfl
theorem plain0 (ns : List Int) : ∃ ih', clF 12 25 [.lit (ns.map D.int)] [] = .ok (.bl true) ih' := by
  obtain ⟨ms, e1⟩ := pen_r 10 ns
  obtain ⟨x', y', p', g', e2⟩ := loop_r (c0 := .lst (ms.map D.int)) (ms := ms) (fun m => lo_ints m ms) 6 0 (some (.lit (ns.map D.int))) none 0 0 rfl (by omega) (by omega) (by omega)
  obtain ⟨ih, e3⟩ := isT_ok (tR_r (.lst (ms.map D.int)) ms p' g' x' y')
  refine ⟨ih, ?_⟩
  show (d_law (clF 11) [some (.lit (ns.map D.int)), none, none, none, none, none, none, none, none, none, none, none, none, none, none, none, none] []).bind _ = _
  rw [law_eq]
  have s1 : dSet 1 (dCall 21 [] (dCons (dVar 0) dNil)) (clF 11) [some (.lit (ns.map D.int)), none, none, none, none, none, none, none, none, none, none, none, none, none, none, none, none] [] = .ok (.nx (r0 (some (.lit (ns.map D.int))) none)) (h0 (.lst (ms.map D.int)) ms 0 0) := s_set (by
    show clF 11 21 [.lit (ns.map D.int)] [] = _
    exact e1)
  rw [seq_nx s1]
  have s2 : dFor (dRng1 (dCons (dK (.int 6)) dNil)) (.nm 2) (dGC [1] (dSeq t0 tB)) (clF 11) (r0 (some (.lit (ns.map D.int))) none) (h0 (.lst (ms.map D.int)) ms 0 0) = .ok (.nx (r0 x' y')) (h0 (.lst (ms.map D.int)) ms p' g') := e2
  rw [seq_nx s2, e3]
  rfl
end K00
end

section
set_option Elab.async false
set_option linter.all false
set_option maxRecDepth 100000
set_option maxHeartbeats 0
/-! law_k00: the end. -/
namespace K00
open PySem PySem.Spec PyProof.Rows L2 NdefX IM
abbrev KK : Nat := 12
theorem plain : ∀ ns : List Int, ns.length ≤ 63 → ∃ ih', clF KK 25 [.lit (ns.map D.int)] [] = .ok (.bl true) ih' := fun ns _ => plain0 ns
theorem facts {w : World} {K : PySem.W.Frag} {h : Heap} {mg : Str → Option Value} {fa : Addr} (X : K.In h) (Gn : h.Ns mainGlobals mg) (hfa : mg ("law" : Str) = some (.ref fa)) (c : SaysI FlN fs fn fx K) :
    ∃ fd : FuncData, (∀ (s : Shared) (u : Value), BindsTo s fd ⟨[u], []⟩ [("script", u)]) ∧ ∀ base : Heap, K.In base → base.Ns mainGlobals mg → FnG PySem.Challenge.pw_keepsjust_k00_errors_and_papers w K mg base (2 * KK) fa fd ["script"] (spI K (clF KK) 25 1) := by
  obtain ⟨fd, cc, cda, G⟩ := fx_of X Gn c
  have e := hfa.symm.trans (He.glo_ok X Gn (c.fact 46 (f := fun K => (He.Fa.glo "law").ok K) rfl))
  have e2 : fa = He.ga K "law" := by
    cases e
    rfl
  have e3 : He.fAd K ("law", none) = He.ga K "law" := rfl
  have b := FunD.bindsA (ps := ["script"]) G.d_law fun _ _ _ _ _ _ us hl => match us, hl with | [_], _ => rfl
  refine ⟨fd 25, fun s v => b s [v] rfl, fun base _ _ => ?_⟩
  rw [e2, ← e3]
  exact (tab_all rfl G KK).p_law
end K00
open PySem PySem.W PySem.Calls PyProof.Rows
theorem PySem.Challenge.cw_keepsjust_k00_errors_and_papers_holds : PySem.Challenge.rw_keepsjust_k00_errors_and_papers.Holds := by
  w_on; o_law
  refine HandSHeadRun.head_any (r := OpenLaw.row PySem.Challenge.rw_keepsjust_k00_errors_and_papers) (q := view (OpenLaw.row PySem.Challenge.rw_keepsjust_k00_errors_and_papers).prog [28]) (H := K00.hk) (ob := K00.ob) (M := 20000) (loose := K00.names) (d := HandSHeadRun.topDef (OpenLaw.row PySem.Challenge.rw_keepsjust_k00_errors_and_papers).prog 28) (kwd := []) K00.ob_eq
    (by kernel_rfl) (fun s => by kernel_rfl) K00.run (by kernel_rfl) (by kernel_rfl) (by kernel_rfl) (by rfl) (by first | assumption | decide +kernel) (by decide +kernel) ⟨rfl, rfl, rfl, rfl, rfl, by decide +kernel⟩ ?hw ?hc
  case hw => w_witness2
  case hc =>
    refine IM.walk_ofI (l := PySem.Challenge.rw_keepsjust_k00_errors_and_papers) (n := 63) (k := 2 * K00.KK) (x := "script") rfl (by decide) (by kernel_rfl) ⟨rfl, by decide, by decide⟩ ?F
    intro w mg fa h Y G hmg0
    obtain ⟨K, KX, c⟩ := Y
    have hmg : mg ("law" : PySem.Str) = some (.ref fa) := by
      have e : (HandSHeadRun.topDef (OpenLaw.row PySem.Challenge.rw_keepsjust_k00_errors_and_papers).prog 28).name = ("law" : PySem.Str) := by kernel_rfl
      rw [← e]
      exact hmg0
    obtain ⟨fd, hb, hF⟩ := K00.facts (w := w) KX G hmg c
    exact ⟨K, fd, K00.clF K00.KK, 25, KX, hb, K00.plain, hF⟩
end
