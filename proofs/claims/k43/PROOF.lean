import PyProof.Rows.All
import Wide.All
import OpenK.AllK
import Wide.FinOn
import HandS.ForMost
import HandS.ForExc
import HandS.Evl
import HandS.IsInst
import HandS.Zip
import HandS.Star
import KE.KDictKeyed
import HandS.Lambda
import HandS.Slots
import HandS.ExcCtx
import HandS.HotCalls
import HandS.TupAny
import HandS.Deep
import HandS.TupLe
import KE.DataCmp
import KE.DataEq
import HandS.Style
import KE.DataMinMax
import KE.SortCalls
import KE.SortData
import HandS.ListItems
import HandS.DictTup
import KE.KDictItemsList
import KE.KDictWalk
import HandS.More
import KE.GoesEnum
import KE.GoesZip
import KE.GoesMore
import HandS.TryMany
import HandS.ExcField
import HandS.ExcOwn
import HandS.ExcInit
import HandS.Small
import HandS.SlotsOwn
import HandS.OwnEq
import OpenK.KOps
import PyProof.AutoSeq1
import KE.KDictPairs
import HandS.FStr
import HandS.ExcIs
import HandS.ExcInitHot
import HandS.Iter
import HandS.TupSets
import HandS.SetFor
import HandS.Strs
import HandS.Flow
import HandS.TryOnly
import PyProof.WalksMore
import HandS.SortKw
import KE.DatumOrd
import KE.KDictCopyH
import HandS.DictComp
import KE.KEqDict
import KE.DataFind
import HandS.TupLen
import HandS.EndOwn
import KE.KNestM
import KE.KExcIs
import HandS.Property
import HandS.Conv
import HandS.Dict
import KE.KRevSl
import KE.GoesComp
import KE.GoesRaise
import HandS.Comp
import PyProof.SetRoads
import HandS.Text
import PyProof.StrBlock2
import HandS.ReplaceLit
import HandS.TupMul
import HandS.RaiseFrom
import PyProof.NsDelKeeps
import KE.KWithOwn
import PyProof.DictUpdate
import PyProof.DictCopy
import PyProof.FactsAll.dict_2
import HandS.ClsMeth
import PyProof.EqAt
import PyProof.NeKinds
import HandS.Finally
import PySem.Challenge.RW_ledlines_k43_texts_rejected
set_option Elab.async false
set_option linter.all false
set_option maxRecDepth 100000
/-! What a text computes, as a function: data, stores, the relation to the model's heap, the judgements. -/
namespace Vi
open PySem L2 Evl
/-! ### the run itself as a reading -/
def RunE (X : Cx) (e : Expr) : TE := fun σ H Q => ∀ (pins : List (Addr × Obj)) (s : Shared), Inv X pins σ H s → wpAny (model X.prog X.w) X.A (eval e X.env) (EP X pins σ Q) X.xe s
def RunT (X : Cx) (e : Expr) : TT := fun σ H Q => ∀ (pins : List (Addr × Obj)) (s : Shared), Inv X pins σ H s → wpAny (model X.prog X.w) X.A (isTrue e X.env (eval e X.env)) (TP X pins σ Q) X.xe s
def RunW (X : Cx) (e : Expr) : TT := fun σ H Q => ∀ (whole : Sem Value) (pins : List (Addr × Obj)) (s : Shared), Inv X pins σ H s → wpAny (model X.prog X.w) X.A (isTrue e X.env whole) (TP X pins σ Q) X.xe s
def RunA (X : Cx) (es : List Expr) : TA := fun σ H Q => ∀ (pos : Pos) (pins : List (Addr × Obj)) (s : Shared), Inv X pins σ H s → wpAny (model X.prog X.w) X.A (spliced (backTo pos (starEach es X.env))) (AP X pins σ Q) X.xe s
def RunS (X : Cx) (st : Stmt) : TS := fun D σ H => ∀ (pins : List (Addr × Obj)) (s : Shared), Inv X pins σ H s → wpAny (model X.prog X.w) X.A (exec st X.env) (SP X pins D) X.xe s
def RunB (X : Cx) (st : List Stmt) : TS := fun D σ H => ∀ (pins : List (Addr × Obj)) (s : Shared), Inv X pins σ H s → wpAny (model X.prog X.w) X.A (execs st X.env) (SP X pins D) X.xe s
def RunG (X : Cx) (tg : Expr) : TG := fun v σ H Q => ∀ (pins : List (Addr × Obj)) (s : Shared) (u : Value), Inv X pins σ H s → RelV v u → wpAny (model X.prog X.w) X.A (assign tg X.env u) (fun _ s' => ∃ σ' H', Inv X pins σ' H' s' ∧ Q σ' H') X.xe s
section
variable {X : Cx} {σ : St} {H : Hp}
theorem pe_w {e : Expr} : PE X e (RunE X e) := ⟨fun pins s _ _ _ I h => h pins s I⟩
theorem pt_w {e : Expr} : PT X e (RunT X e) := ⟨fun pins s _ _ _ I h => h pins s I⟩
theorem pw_w {e : Expr} : PW X e (RunW X e) := ⟨fun wh pins s _ _ _ I h => h wh pins s I⟩
theorem pa_w {es : List Expr} : PA X es (RunA X es) := ⟨fun pos pins s _ _ _ I h => h pos pins s I⟩
theorem ps_w {st : Stmt} : PS X st (RunS X st) := ⟨fun pins s _ _ _ I h => h pins s I⟩
theorem pb_w {st : List Stmt} : PSs X st (RunB X st) := ⟨fun pins s _ _ _ I h => h pins s I⟩
theorem pg_w {tg : Expr} : PG X tg (RunG X tg) := ⟨fun pins s _ _ _ u _ I r h => h pins s u I r⟩
theorem PEw {e : Expr} {t : TE} (h : PE X e t) {Q : VK} (q : t σ H Q) : RunE X e σ H Q := fun pins s I => h.run pins s σ H Q I q
theorem PTw {e : Expr} {t : TT} (h : PT X e t) {Q : Bool → Hp → Prop} (q : t σ H Q) : RunT X e σ H Q := fun pins s I => h.run pins s σ H Q I q
theorem PWw {e : Expr} {t : TT} (h : PW X e t) {Q : Bool → Hp → Prop} (q : t σ H Q) : RunW X e σ H Q := fun wh pins s I => h.run wh pins s σ H Q I q
theorem PAw {es : List Expr} {t : TA} (h : PA X es t) {Q : List V → Hp → Prop} (q : t σ H Q) : RunA X es σ H Q := fun pos pins s I => h.run pos pins s σ H Q I q
theorem PSw {st : Stmt} {t : TS} (h : PS X st t) {D : Ends} (q : t D σ H) : RunS X st D σ H := fun pins s I => h.run pins s σ H D I q
theorem PBw {st : List Stmt} {t : TS} (h : PSs X st t) {D : Ends} (q : t D σ H) : RunB X st D σ H := fun pins s I => h.run pins s σ H D I q
theorem PGw {tg : Expr} {g : TG} (h : PG X tg g) {v : V} {Q : St → Hp → Prop} (q : g v σ H Q) : RunG X tg v σ H Q := fun pins s u I r => h.run pins s σ H v u Q I r q
end

/-! ### data: what never changes any more -/
inductive Dt where
  | non | bl (b : Bool) | int (i : Int) | str (x : Str) | tup (l : List Dt) | lst (l : List Dt) | dct (ks vs : List Dt) | dck (ks vs : List Dt) | set (l : List Dt) | ins (c : Nat) (l : List Dt) | scr (l : List Int)
deriving Inhabited
/-- a value: data, or the n-th thing that may change -/
inductive Vl where
  | d (x : Dt) | r (n : Nat)
deriving Inhabited
/-- things that may change -/
inductive Ob where
  | lst (l : List Dt) | dct (ks : List Dt) (vs : List Vl) | dck (ks : List Dt) (vs : List Vl) | ins (c : Nat) (l : List Vl) | gone
deriving Inhabited
abbrev Hs := List Ob
abbrev En := List (Option Vl)
structure Exn where
  cls : Nat
  fs : List (Str × Dt)
inductive Res (α : Type) where
  | ok (a : α) (h : Hs) | exc (e : Exn) (h : Hs) | bad
def Res.bind {α β : Type} (r : Res α) (k : α → Hs → Res β) : Res β :=
  match r with
  | .ok a h => k a h
  | .exc e h => .exc e h
  | .bad => .bad
inductive ResS where
  | nx (ρ : En) (h : Hs) | rt (x : Vl) (h : Hs) | bk (ρ : En) (h : Hs) | ct (ρ : En) (h : Hs) | exc (e : Exn) (ρ : En) (h : Hs) | bad
def lift {α : Type} (o : Option α) (h : Hs) : Res α := match o with
  | some x => .ok x h
  | none => .bad
abbrev Den := En → Hs → Res Vl
abbrev DenD := En → Hs → Res Dt
abbrev DenT := En → Hs → Res Bool
abbrev DenA := En → Hs → Res (List Vl)
abbrev DenS := En → Hs → ResS

/-! ### the relation to the heap -/
def keyD : Key → Dt
  | .inl i => .int i
  | .inr x => .str x
/-- the layout of frozen instances: class number, class address, slots -/
abbrev Lay := Nat → List Dt → Addr → Hp → List V → List Addr → Prop
structure Lx where
  f : Lay
  P : Program
  w : World
/-! ### dicts whose keys are tuples -/
mutual
def keyN : Dt → Option NestedKey
  | .non => some .none
  | .bl b => some (.num (if b = true then 1 else 0))
  | .int i => some (.num i)
  | .str x => some (.text x)
  | .tup l => match keyNs l with
    | some ks => some (.tup ks)
    | none => none
  | _ => none
def keyNs : List Dt → Option (List NestedKey)
  | [] => some []
  | d :: ds => match keyN d, keyNs ds with
    | some k, some ks => some (k :: ks)
    | _, _ => none
end
/-- what is true of the object of such a dict: keys, where their tuples stand, values -/
def DGp (P : Program) (w : World) (a : Addr) (ps : List (NestedKey × Addr × V)) : Heap → Prop := fun h => (a == sysModules) = false ∧ ps.length ≤ sizeLine ∧ (∀ p ∈ ps, p.1.depth ≤ 8) ∧
  ∃ xs : List (NestedKey × Addr × Value), Paired (fun (p : NestedKey × Addr × V) (q : NestedKey × Addr × Value) => p.1 = q.1 ∧ p.2.1 = q.2.1 ∧ RelV p.2.2 q.2.2) ps xs ∧
    ∃ o es ep, h.get? a = some o ∧ o.ExactDict ∧ o.data = .dict es ep ∧ es.toList = xs.map (entryOfKey (nestedKind P w)) ∧ (xs.map (·.1)).Nodup
abbrev DG (P : Program) (w : World) (a : Addr) (ps : List (NestedKey × Addr × V)) : HO := .ext (DGp P w a ps)
/-- a script that the written part holds -/
def ScrK (K : PySem.W.Frag) (a : Addr) (ns : List Int) : Prop := ∃ (o : Obj) (its : Array Value) (n : Nat), K.lookup a = some o ∧ o.cls = .type "list" ∧ o.dict = none ∧ o.data = .seq its n ∧ its.size ≤ sizeLine ∧ Vals (ns.map V.int) its.toList
mutual
inductive Di (K : PySem.W.Frag) (Ly : Lx) (F : List Addr) (H : Hp) : V → Dt → Prop
  | non : Di K Ly F H .non .non
  | bl (b : Bool) : Di K Ly F H (.bl b) (.bl b)
  | int (i : Int) : Di K Ly F H (.int i) (.int i)
  | str (x : Str) : Di K Ly F H (.str x) (.str x)
  | tup {a : Addr} {xs : List V} {ds : List Dt} : H a = some (.tup xs) → Dis K Ly F H xs ds → Di K Ly F H (.ref a) (.tup ds)
  | lst {a : Addr} {xs : List V} {ds : List Dt} : H a = some (.lst xs) → a ∉ F → Dis K Ly F H xs ds → Di K Ly F H (.ref a) (.lst ds)
  | dctG {a : Addr} {ps : List (NestedKey × Addr × V)} {ks vs : List Dt} : H a = some (DG Ly.P Ly.w a ps) → a ∉ F → ks.map keyN = ps.map (fun p => some p.1) → Dis K Ly F H (ps.map fun p => .ref p.2.1) ks → Dis K Ly F H (ps.map (·.2.2)) vs → Di K Ly F H (.ref a) (.dct ks vs)
  | dctK {a : Addr} {kvs : List (Key × V)} {vs : List Dt} : H a = some (.dK kvs) → a ∉ F → Dis K Ly F H (kvs.map (·.2)) vs → Di K Ly F H (.ref a) (.dck (kvs.map fun p => keyD p.1) vs)
  | ins {a : Addr} {c : Nat} {xs : List V} {as : List Addr} {ds : List Dt} : Ly.f c ds a H xs as → a ∉ F → (∀ b ∈ as, ∃ fs, H b = some (.xd fs)) → Dis K Ly F H xs ds → Di K Ly F H (.ref a) (.ins c ds)
  | scr {a : Addr} {ns : List Int} {o : Obj} : H a = some (.frz o (.lst (ns.map V.int))) → a ∉ F → Di K Ly F H (.ref a) (.scr ns)
  | scrK {a : Addr} {ns : List Int} : ScrK K a ns → Di K Ly F H (.ref a) (.scr ns)
  | scrL {a : Addr} {ns : List Int} : H a = some (.lst (ns.map V.int)) → a ∉ F → Di K Ly F H (.ref a) (.scr ns)
  | lck {a : Addr} {o : Obj} {ps : List (NestedKey × Addr × V)} {ks vs : List Dt} : H a = some (.frz o (DG Ly.P Ly.w a ps)) → a ∉ F → ks.map keyN = ps.map (fun p => some p.1) → Dis K Ly F H (ps.map fun p => .ref p.2.1) ks → Dis K Ly F H (ps.map (·.2.2)) vs → Di K Ly F H (.ref a) (.set [.lst ks, .lst vs])
inductive Dis (K : PySem.W.Frag) (Ly : Lx) (F : List Addr) (H : Hp) : List V → List Dt → Prop
  | nil : Dis K Ly F H [] []
  | cons {v : V} {vs : List V} {d : Dt} {ds : List Dt} : Di K Ly F H v d → Dis K Ly F H vs ds → Dis K Ly F H (v :: vs) (d :: ds)
end
/-- what is laid out stays, as its addresses do -/
structure LayOk (Ly : Lx) : Prop where
  stay : ∀ c ds a H xs as H', Ly.f c ds a H xs as → (∀ b o, (b = a ∨ b ∈ as) → H b = some o → H' b = some o) → Ly.f c ds a H' xs as
  there : ∀ c ds a H xs as, Ly.f c ds a H xs as → (∃ o, H a = some o) ∧ ∀ b ∈ as, ∃ o, H b = some o
/-- from one moment to a later one: of what stood only m changes, what is new to m is new -/
structure Evo (m : List Addr) (H : Hp) (m' : List Addr) (H' : Hp) : Prop where
  keep : ∀ a o, H a = some o → a ∉ m → H' a = some o
  there : ∀ a o, H a = some o → ∃ o', H' a = some o'
  more : ∃ n, m' = m ++ n ∧ ∀ a ∈ n, H a = none
theorem Evo.refl (m : List Addr) (H : Hp) : Evo m H m H := ⟨fun _ _ h _ => h, fun _ o h => ⟨o, h⟩, [], by simp, by simp⟩
theorem Evo.ex {m : List Addr} {H H' : Hp} (e : Ex H H') : Evo m H m H' := ⟨fun a o h _ => e a o h, fun a o h => ⟨o, e a o h⟩, [], by simp, by simp⟩
theorem Evo.sub {m m' : List Addr} {H H' : Hp} (e : Evo m H m' H') {a : Addr} (h : a ∈ m) : a ∈ m' := by
  obtain ⟨n, rfl, _⟩ := e.more
  exact List.mem_append_left _ h
theorem Evo.new {m m' : List Addr} {H H' : Hp} (e : Evo m H m' H') {a : Addr} (h : a ∉ m) {o : HO} (ho : H a = some o) : a ∉ m' := by
  obtain ⟨n, rfl, hn⟩ := e.more
  intro z
  rcases List.mem_append.mp z with z | z
  · exact h z
  · rw [hn a z] at ho; cases ho
theorem Evo.get {m m' : List Addr} {H H' : Hp} (e : Evo m H m' H') {n : Nat} {a : Addr} (h : m[n]? = some a) : m'[n]? = some a := by
  obtain ⟨n, rfl, hn⟩ := e.more
  rw [List.getElem?_append_left]
  · exact h
  · obtain ⟨q, _⟩ := List.getElem?_eq_some_iff.mp h; exact q
theorem Evo.trans {m m1 m2 : List Addr} {H H1 H2 : Hp} (a : Evo m H m1 H1) (b : Evo m1 H1 m2 H2) : Evo m H m2 H2 := by
  refine ⟨fun x o h n => b.keep x o (a.keep x o h n) (a.new n h), fun x o h => ?_, ?_⟩
  · obtain ⟨o1, h1⟩ := a.there x o h
    exact b.there x o1 h1
  obtain ⟨n, rfl, hn⟩ := a.more
  obtain ⟨n2, rfl, hn2⟩ := b.more
  refine ⟨n ++ n2, by rw [List.append_assoc], fun x hx => ?_⟩
  rcases List.mem_append.mp hx with z | z
  · exact hn x z
  · cases q : H x with
    | none => rfl
    | some o =>
      obtain ⟨o1, h1⟩ := a.there x o q
      rw [hn2 x z] at h1; cases h1
/-! ### data stay -/
/-- F grows by what is new, what is not in F stays -/
structure Keeps (F : List Addr) (H : Hp) (F' : List Addr) (H' : Hp) : Prop where
  keep : ∀ a o, H a = some o → a ∉ F → H' a = some o
  tups : ∀ a xs, H a = some (.tup xs) → H' a = some (.tup xs)
  xds : ∀ a fs, H a = some (.xd fs) → H' a = some (.xd fs)
  out : ∀ a o, H a = some o → a ∉ F → a ∉ F'
mutual
theorem Di.mono {K : PySem.W.Frag} {Ly : Lx} (L : LayOk Ly) {F F' : List Addr} {H H' : Hp} (e : Keeps F H F' H') : ∀ {v : V} {d : Dt}, Di K Ly F H v d → Di K Ly F' H' v d
  | _, _, .non => .non
  | _, _, .bl b => .bl b
  | _, _, .int i => .int i
  | _, _, .str x => .str x
  | _, _, .tup h hs => .tup (e.tups _ _ h) (Dis.mono L e hs)
  | _, _, .lst h n hs => .lst (e.keep _ _ h n) (e.out _ _ h n) (Dis.mono L e hs)
  | _, _, .scr h n => .scr (e.keep _ _ h n) (e.out _ _ h n)
  | _, _, .scrK h => .scrK h
  | _, _, .scrL h n => .scrL (e.keep _ _ h n) (e.out _ _ h n)
  | _, _, .lck h n hk h1 h2 => .lck (e.keep _ _ h n) (e.out _ _ h n) hk (Dis.mono L e h1) (Dis.mono L e h2)
  | _, _, .dctG h n hk h1 h2 => .dctG (e.keep _ _ h n) (e.out _ _ h n) hk (Dis.mono L e h1) (Dis.mono L e h2)
  | _, _, .dctK h n hs => .dctK (e.keep _ _ h n) (e.out _ _ h n) (Dis.mono L e hs)
  | _, _, .ins (a := a) (as := as) h n ns hs => by
    obtain ⟨⟨o, h1⟩, h2⟩ := L.there _ _ _ _ _ _ h
    refine .ins (as := as) (L.stay _ _ _ _ _ _ H' h fun b u hb hu => ?_) (e.out _ _ h1 n) (fun b hb => ?_) (Dis.mono L e hs)
    · rcases hb with rfl | hb
      · exact e.keep b u hu n
      · obtain ⟨fs, hf⟩ := ns b hb
        rw [hf] at hu
        cases hu
        exact e.xds _ _ hf
    · obtain ⟨fs, hf⟩ := ns b hb
      exact ⟨fs, e.xds _ _ hf⟩
theorem Dis.mono {K : PySem.W.Frag} {Ly : Lx} (L : LayOk Ly) {F F' : List Addr} {H H' : Hp} (e : Keeps F H F' H') : ∀ {vs : List V} {ds : List Dt}, Dis K Ly F H vs ds → Dis K Ly F' H' vs ds
  | _, _, .nil => .nil
  | _, _, .cons h hs => .cons (Di.mono L e h) (Dis.mono L e hs)
end
theorem keeps_ex {F : List Addr} {H H' : Hp} (e : Ex H H') : Keeps F H F H' := ⟨fun a o h _ => e a o h, fun a xs h => e _ _ h, fun a xs h => e _ _ h, fun _ _ _ n => n⟩
/-- less is forbidden -/
theorem keeps_sub {F F' : List Addr} {H : Hp} (h : ∀ a, a ∈ F' → a ∈ F) : Keeps F H F' H := ⟨fun _ _ h _ => h, fun _ _ h => h, fun _ _ h => h, fun a _ _ n z => n (h a z)⟩
section
variable {K : PySem.W.Frag} {Ly : Lx} {F : List Addr} {H : Hp}
theorem Dis.length : ∀ {vs : List V} {ds : List Dt}, Dis K Ly F H vs ds → vs.length = ds.length
  | _, _, .nil => rfl
  | _, _, .cons _ hs => by rw [List.length_cons, List.length_cons, Dis.length hs]
theorem Dis.get : ∀ {vs : List V} {ds : List Dt} {i : Nat} {d : Dt}, Dis K Ly F H vs ds → ds[i]? = some d → ∃ v, vs[i]? = some v ∧ Di K Ly F H v d
  | _, _, _, _, .nil, e => by simp at e
  | _, _, 0, _, .cons h _, e => by simp at e; subst e; exact ⟨_, rfl, h⟩
  | _, _, i + 1, d, .cons _ t, e => by
    obtain ⟨u, h1, h2⟩ := Dis.get (i := i) (d := d) t (by simpa using e)
    exact ⟨u, by simpa using h1, h2⟩
theorem Dis.getv : ∀ {vs : List V} {ds : List Dt} {i : Nat} {v : V}, Dis K Ly F H vs ds → vs[i]? = some v → ∃ d, ds[i]? = some d ∧ Di K Ly F H v d
  | _, _, _, _, .nil, e => by simp at e
  | _, _, 0, _, .cons h _, e => by simp at e; subst e; exact ⟨_, rfl, h⟩
  | _, _, i + 1, v, .cons _ t, e => by
    obtain ⟨u, h1, h2⟩ := Dis.getv (i := i) (v := v) t (by simpa using e)
    exact ⟨u, by simpa using h1, h2⟩
theorem Dis.append : ∀ {vs ws : List V} {ds es : List Dt}, Dis K Ly F H vs ds → Dis K Ly F H ws es → Dis K Ly F H (vs ++ ws) (ds ++ es)
  | _, _, _, _, .nil, s => s
  | _, _, _, _, .cons h t, s => .cons h (Dis.append t s)
theorem Dis.take : ∀ {vs : List V} {ds : List Dt} (n : Nat), Dis K Ly F H vs ds → Dis K Ly F H (vs.take n) (ds.take n)
  | _, _, 0, _ => .nil
  | _, _, _ + 1, .nil => .nil
  | _, _, n + 1, .cons r t => .cons r (Dis.take n t)
theorem Dis.drop : ∀ {vs : List V} {ds : List Dt} (n : Nat), Dis K Ly F H vs ds → Dis K Ly F H (vs.drop n) (ds.drop n)
  | _, _, 0, r => r
  | _, _, _ + 1, .nil => .nil
  | _, _, n + 1, .cons _ t => Dis.drop n t
theorem Dis.set {v : V} {d : Dt} (q : Di K Ly F H v d) : ∀ {vs : List V} {ds : List Dt} (n : Nat), Dis K Ly F H vs ds → Dis K Ly F H (vs.set n v) (ds.set n d)
  | _, _, _, .nil => .nil
  | _, _, 0, .cons r t => .cons q t
  | _, _, n + 1, .cons r t => .cons r (Dis.set q n t)
theorem Di.int_inv {v : V} {i : Int} (h : Di K Ly F H v (.int i)) : v = .int i := by cases h; rfl
theorem Di.bl_inv {v : V} {b : Bool} (h : Di K Ly F H v (.bl b)) : v = .bl b := by cases h; rfl
theorem Di.non_inv {v : V} (h : Di K Ly F H v .non) : v = .non := by cases h; rfl
theorem Di.str_inv {v : V} {x : Str} (h : Di K Ly F H v (.str x)) : v = .str x := by cases h; rfl
theorem Di.tup_inv {v : V} {ds : List Dt} (h : Di K Ly F H v (.tup ds)) : ∃ a xs, v = .ref a ∧ H a = some (.tup xs) ∧ Dis K Ly F H xs ds := by
  cases h with
  | tup h hs => exact ⟨_, _, rfl, h, hs⟩
theorem Di.lst_inv {v : V} {ds : List Dt} (h : Di K Ly F H v (.lst ds)) : ∃ a xs, v = .ref a ∧ H a = some (.lst xs) ∧ a ∉ F ∧ Dis K Ly F H xs ds := by
  cases h with
  | lst h n hs => exact ⟨_, _, rfl, h, n, hs⟩
theorem dis_bls : ∀ {vs : List V} {ns : List Bool}, Dis K Ly F H vs (ns.map Dt.bl) → vs = ns.map V.bl
  | _, [], h => by cases h; rfl
  | _, n :: ns, h => by
    cases h with
    | cons h hs => rw [h.bl_inv, dis_bls hs]; rfl
theorem dis1 {vs : List V} {d : Dt} (h : Dis K Ly F H vs [d]) : ∃ v, vs = [v] ∧ Di K Ly F H v d := by
  cases h with
  | cons h1 h2 => cases h2; exact ⟨_, rfl, h1⟩
theorem dis2 {vs : List V} {d d2 : Dt} (h : Dis K Ly F H vs [d, d2]) : ∃ v w, vs = [v, w] ∧ Di K Ly F H v d ∧ Di K Ly F H w d2 := by
  cases h with
  | cons h1 h2 =>
    obtain ⟨w, rfl, h3⟩ := dis1 h2
    exact ⟨_, w, rfl, h1, h3⟩
end
/-- what may be read off a thing, be it frozen or not -/
inductive Bv (K : PySem.W.Frag) (Ly : Lx) (F : List Addr) (H : Hp) : V → Dt → Prop
  | of {v : V} {d : Dt} : Di K Ly F H v d → Bv K Ly F H v d
  | lst {a : Addr} {xs : List V} {ds : List Dt} : H a = some (.lst xs) → Dis K Ly F H xs ds → Bv K Ly F H (.ref a) (.lst ds)
  | dctG {a : Addr} {ps : List (NestedKey × Addr × V)} {ks vs : List Dt} : H a = some (DG Ly.P Ly.w a ps) → ks.map keyN = ps.map (fun p => some p.1) → Dis K Ly F H (ps.map fun p => .ref p.2.1) ks → Dis K Ly F H (ps.map (·.2.2)) vs → Bv K Ly F H (.ref a) (.dct ks vs)
  | dctK {a : Addr} {kvs : List (Key × V)} {vs : List Dt} : H a = some (.dK kvs) → Dis K Ly F H (kvs.map (·.2)) vs → Bv K Ly F H (.ref a) (.dck (kvs.map fun p => keyD p.1) vs)
section
variable {K : PySem.W.Frag} {Ly : Lx} {F : List Addr} {H : Hp}
theorem Bv.int_inv {v : V} {i : Int} (h : Bv K Ly F H v (.int i)) : v = .int i := by
  cases h with
  | of h => exact h.int_inv
theorem Bv.bl_inv {v : V} {i : Bool} (h : Bv K Ly F H v (.bl i)) : v = .bl i := by
  cases h with
  | of h => exact h.bl_inv
theorem Bv.str_inv {v : V} {i : Str} (h : Bv K Ly F H v (.str i)) : v = .str i := by
  cases h with
  | of h => exact h.str_inv
theorem Bv.tup_inv {v : V} {ds : List Dt} (h : Bv K Ly F H v (.tup ds)) : ∃ a xs, v = .ref a ∧ H a = some (.tup xs) ∧ Dis K Ly F H xs ds := by
  cases h with
  | of h => exact h.tup_inv
theorem Bv.lst_inv {v : V} {ds : List Dt} (h : Bv K Ly F H v (.lst ds)) : ∃ a xs, v = .ref a ∧ H a = some (.lst xs) ∧ Dis K Ly F H xs ds := by
  cases h with
  | of h => obtain ⟨a, xs, e, h1, _, h2⟩ := h.lst_inv; exact ⟨a, xs, e, h1, h2⟩
  | lst h1 h2 => exact ⟨_, _, rfl, h1, h2⟩
theorem Bv.mono (L : LayOk Ly) {H' : Hp} (e : Ex H H') {v : V} {d : Dt} (h : Bv K Ly F H v d) : Bv K Ly F H' v d := by
  cases h with
  | of h => exact .of (h.mono L (keeps_ex e))
  | lst h1 h2 => exact .lst (e _ _ h1) (h2.mono L (keeps_ex e))
  | dctG h1 h2 h3 h4 => exact .dctG (e _ _ h1) h2 (h3.mono L (keeps_ex e)) (h4.mono L (keeps_ex e))
  | dctK h1 h2 => exact .dctK (e _ _ h1) (h2.mono L (keeps_ex e))
end
end Vi

set_option maxRecDepth 100000
namespace Vi
open PySem L2 Evl
/-! ### values, things, slots -/
def Dv (K : PySem.W.Frag) (Ly : Lx) (Z m : List Addr) (H : Hp) (v : V) : Vl → Prop
  | .d x => Di K Ly (Z ++ m) H v x
  | .r n => ∃ a, m[n]? = some a ∧ v = .ref a
inductive Dvs (K : PySem.W.Frag) (Ly : Lx) (Z m : List Addr) (H : Hp) : List V → List Vl → Prop
  | nil : Dvs K Ly Z m H [] []
  | cons {v : V} {vs : List V} {d : Vl} {ds : List Vl} : Dv K Ly Z m H v d → Dvs K Ly Z m H vs ds → Dvs K Ly Z m H (v :: vs) (d :: ds)
theorem Evo.keeps {Z m m' : List Addr} {H H' : Hp} (e : Evo m H m' H') (t : ∀ a ∈ m, ∀ xs, H a ≠ some (.tup xs)) (t2 : ∀ a ∈ m, ∀ xs, H a ≠ some (.xd xs)) : Keeps (Z ++ m) H (Z ++ m') H' := by
  refine ⟨fun a o h n => e.keep a o h fun z => n (List.mem_append_right _ z), fun a xs h => ?_, fun a xs h => ?_, fun a o h n z => ?_⟩
  · by_cases hm : a ∈ m
    · exact absurd h (t a hm xs)
    · exact e.keep a _ h hm
  · by_cases hm : a ∈ m
    · exact absurd h (t2 a hm xs)
    · exact e.keep a _ h hm
  · rcases List.mem_append.mp z with z | z
    · exact n (List.mem_append_left _ z)
    · exact e.new (fun y => n (List.mem_append_right _ y)) h z
/-- things that belong to an instance and stay -/
inductive FixK
  | inl (x : Addr)
  | inr (fs : List (Str × V))
  | inc (c : Addr) (q : Str)
def fixO : FixK → HO
  | .inl x => .own x
  | .inr fs => .xd fs
  | .inc c q => LamX.CodeO c q
/-- no code object is what a claim tells that asks more than the data of a code object -/
theorem code_no {c : Addr} {q : Str} {f : Heap → Prop} (hf : ∀ g : Heap, (∀ a o, g.get? a = some o → ∃ vs, o.data = .fields vs) → ¬ f g) (h : HO.ext f = LamX.CodeO c q) : False := by
  unfold LamX.CodeO at h
  have e := congrFun (HO.ext.inj h) ⟨Array.replicate (c + 1) { cls := .none, data := .fields #[.none, .str q 0] }, default⟩
  refine hf ⟨Array.replicate (c + 1) { cls := .none, data := .fields #[.none, .str q 0] }, default⟩ (fun a o z => ?_) (cast e.symm ⟨{ cls := .none, data := .fields #[.none, .str q 0] }, #[.none, .str q 0], 0, ?_, rfl, rfl⟩)
  · unfold Heap.get? at z
    rw [Array.getElem?_replicate] at z
    by_cases hl : a < c + 1
    · rw [if_pos hl] at z; exact ⟨_, congrArg Obj.data (Option.some.inj z).symm⟩
    · rw [if_neg hl] at z; cases z
  · unfold Heap.get?
    rw [Array.getElem?_replicate, if_pos (Nat.lt_succ_self c)]
theorem dg_code {P : Program} {w : World} {a : Addr} {ps : List (NestedKey × Addr × V)} {c : Addr} {q : Str} (h : DG P w a ps = LamX.CodeO c q) : False := by
  refine code_no (fun g hg z => ?_) h
  obtain ⟨_, _, _, xs, _, o, es, ep, h1, _, h3, _⟩ := z
  obtain ⟨vs, e⟩ := hg _ _ h1
  rw [e] at h3; cases h3
theorem slo_code {a C dx : Addr} {vs : List (Option V)} {c : Addr} {q : Str} (h : SlX.SlO a C dx vs = LamX.CodeO c q) : False := by
  refine code_no (fun g hg z => ?_) h
  obtain ⟨sl, h1, _⟩ := z
  obtain ⟨vs, e⟩ := hg _ _ h1
  cases e
/-- an instance's own layout: class number, its class and dict, fields -/
abbrev LayM := Nat → Addr → Hp → List V → Prop
def ObD (K : PySem.W.Frag) (Ly : Lx) (Lm : LayM) (Z m : List Addr) (H : Hp) (a : Addr) : Ob → Prop
  | .lst ds => ∃ vs, H a = some (.lst vs) ∧ Dis K Ly (Z ++ m) H vs ds
  | .dct ks vs => ∃ ps : List (NestedKey × Addr × V), H a = some (DG Ly.P Ly.w a ps) ∧ (ks.map keyN = ps.map (fun p => some p.1) ∧ Dis K Ly (Z ++ m) H (ps.map fun p => .ref p.2.1) ks) ∧ Dvs K Ly Z m H (ps.map (·.2.2)) vs
  | .dck ks vs => (∃ kvs : List (Key × V), H a = some (.dK kvs) ∧ ks = (kvs.map fun p => keyD p.1) ∧ Dvs K Ly Z m H (kvs.map (·.2)) vs)
  | .ins c fs => ∃ vs, Lm c a H vs ∧ Dvs K Ly Z m H vs fs
  | .gone => ∃ o, H a = some o ∧ ∀ xs, o ≠ .tup xs
structure LayMOk (Lm : LayM) : Prop where
  notup : ∀ c a H vs, Lm c a H vs → ∃ o, H a = some o ∧ ∀ xs, o ≠ .tup xs
  stay : ∀ c a H vs H' , Lm c a H vs → H' a = H a → (∀ b o, H b = some o → (∃ x, o = fixO x) → H' b = some o) → Lm c a H' vs
/-! ### the place where code stands -/
structure Ct where
  P : Program
  w : World
  K : PySem.W.Frag
  mg : Str → Option Value
  base : Heap
  N : List Str
  sc : Scope
  lv : Nat
  fn : Bool
  calm : Bool
  ly : Lx
  lm : LayM
  lok : LayOk ly
  lyP : ly.P = P
  lyw : ly.w = w
  lmok : LayMOk lm
  xc : Nat → Value
  cd : Option (Addr × Str) := none
  dt : Value → Prop := fun _ => False
/-- what is raised: where nothing is handled, its context is None; but a class of dt may have one -/
def TakesV (dt : Value → Prop) (X : Cx) (W : WX) : Prop := L2N.Takes X W ∧ L2.Takes X fun c d σ H => dt c ∧ W c d σ H
def CXV (dt : Value → Prop) (P : Program) (w : World) (outer : List Env) (H : Hp) (s : Shared) (E : XK) (u : Value) (s' : Shared) : Prop := L2N.CX P w outer H s E u s' ∨ L2.CX P w outer H s (fun c d H => dt c ∧ E c d H) u s'
theorem xe_zc {X : Cx} {W : WX} {u : Value} {s' : Shared} (x : L2N.XE X W u s') : L2.XE X W u s' := by
  obtain ⟨a, B, sI, pins, σ, H, cls, d, e, I, nb, up, sky, na, os, ag, w⟩ := x
  refine ⟨a, B, sI, pins, σ, H, cls, d, e, I, nb, up, ?_, na, os, ag, w⟩
  have zi : ∀ {h B : Heap} {a : Addr} {Z Z' : Obj → Prop} {fl : Value}, (∀ o, Z o → Z' o) → HandSPX.TracedZ h B a Z fl → HandSPX.TracedZ h B a Z' fl := fun z x => by
    obtain ⟨oe, vs, T, oT, ts, he, hz, r⟩ := x
    exact ⟨oe, vs, T, oT, ts, he, z _ hz, r⟩
  rcases sky with ⟨hB, hn, hl, oe, vs, he, hz, hd, h1⟩ | fl | hd
  · exact .inl ⟨hB, hn, hl, oe, vs, he, hz.zc, hd, h1⟩
  · exact .inr (.inl ⟨fl.1, fl.2.1, fl.2.2.1, zi (fun o z => z.zc) fl.2.2.2⟩)
  · exact .inr (.inr ⟨hd.1, hd.2.1, hd.2.2.1, zi (fun o z => z.zc) hd.2.2.2⟩)
theorem takesV_of {dt : Value → Prop} {X : Cx} {W : WX} (t : L2.Takes X W) : TakesV dt X W := ⟨fun u s' x => t u s' (xe_zc x), fun u s' ⟨a, B, sI, pins, σ, H, cls, d, e, I, nb, up, sky, na, os, ag, w⟩ => t u s' ⟨a, B, sI, pins, σ, H, cls, d, e, I, nb, up, sky, na, os, ag, w.2⟩⟩
theorem takes0V {dt : Value → Prop} {X : Cx} : TakesV dt X (fun _ _ _ _ => False) := takesV_of LamX.takes0
theorem passAtV {dt : Value → Prop} {X : Cx} {W : WX} (tk : TakesV dt X W) (σ : St) : PassesAt (CXV dt X.prog X.w) X σ (L2.WE W σ) := fun pins H s e s' I c => c.elim (fun c => L2N.passAt tk.1 σ pins H s e s' I c) fun c => L2.passAt tk.2 σ pins H s e s' I c
theorem takes_ofV {dt : Value → Prop} {X : Cx} {E : XK} (hs : X.stack = X.env :: X.outer) (hf : X.env.frame = some X.env.locals) (hex : X.ex = []) {E₁ : Value → Shared → Prop}
    (hx : X.xe = fun e s' => wpAny (model X.prog X.w) X.A (leaving X.env e) (fun _ s'' => CXV dt X.prog X.w X.outer X.H_0 X.s_0 E e s'') E₁ s') : TakesV dt X (fun cls d _ H => E cls d H) := ⟨fun u s' x => by
  rw [hx]
  exact wpAny_mono (L2N.XE.leave (W := fun cls d _ H => E cls d H) (E := E) hs hf hex (fun _ _ _ _ h => h) x) (fun _ _ h => .inl h) (fun _ _ h => h), fun u s' x => by
  rw [hx]
  exact wpAny_mono (L2.XE.leave (W := fun cls d _ H => dt cls ∧ E cls d H) (E := fun c d H => dt c ∧ E c d H) hs hf hex (fun _ _ _ _ h => h) x) (fun _ _ h => .inr h) (fun _ _ h => h)⟩
structure Ct.Of (C : Ct) (X : Cx) : Prop where
  prog : X.prog = C.P
  w : X.w = C.w
  K : X.K = C.K
  mg : X.mg = C.mg
  base : X.base = C.base
  N : X.N = C.N
  sc : X.env.scope = C.sc
  calm : X.calm = C.calm
  units : X.A.units + 64 < cLine
  room : C.calm = true → Room C.lv X.A
  fns : C.fn = true → ∀ x, X.fn x = true
  code : ∀ c, C.cd = some c → X.env.code = .ref c.1 ∧ X.env.qual = c.2
  own : C.fn = true → X.stack = X.env :: X.outer ∧ X.env.frame = some X.env.locals ∧ X.ex = []
  rm : L2H.RoomH C.lv X.A
structure Rl (C : Ct) (Z m : List Addr) (H : Hp) (h : Hs) : Prop where
  nd : m.Nodup
  disj : ∀ a ∈ m, a ∉ Z
  len : h.length = m.length
  za : ∀ a ∈ Z, ∃ o, H a = some o
  notup : ∀ a ∈ m, ∀ xs, H a ≠ some (.tup xs)
  own : ∀ a ∈ m, ∀ x, H a ≠ some (fixO x)
  ma : ∀ a ∈ m, ∃ o, H a = some o
  ob : ∀ (i : Nat) a o, m[i]? = some a → h[i]? = some o → ObD C.K C.ly C.lm Z m H a o
structure EnvV (C : Ct) (Z m : List Addr) (H : Hp) (σ : St) (ρ : En) : Prop where
  len : σ.length = ρ.length
  get : ∀ (i : Nat) (x : Vl), ρ[i]? = some (some x) → ∃ v, σ[i]? = some (some v) ∧ Dv C.K C.ly Z m H v x
def ExR (C : Ct) (F : List Addr) (H : Hp) (e : Exn) (d : Option Addr) : Prop :=
  (e.fs = [] ∧ d = none) ∨ ∃ a fv, d = some a ∧ H a = some (.xd fv) ∧ a ∉ F ∧ fv.map Prod.fst = e.fs.map Prod.fst ∧ Dis C.K C.ly F H (fv.map Prod.snd) (e.fs.map Prod.snd) ∧ e.fs ≠ []
section
variable {C : Ct} {Z m m' : List Addr} {H H' : Hp} {σ : St} {ρ : En} {h h' : Hs}
theorem Rl.keeps (r : Rl C Z m H h) (e : Evo m H m' H') : Keeps (Z ++ m) H (Z ++ m') H' := e.keeps r.notup fun a ha fs => r.own a ha (.inr fs)
theorem Dv.mono {v : V} {x : Vl} (r : Rl C Z m H h) (e : Evo m H m' H') (q : Dv C.K C.ly Z m H v x) : Dv C.K C.ly Z m' H' v x := by
  cases x with
  | d x => exact Di.mono C.lok (r.keeps e) q
  | r n => obtain ⟨a, h1, h2⟩ := q; exact ⟨a, e.get h1, h2⟩
theorem Dvs.mono (r : Rl C Z m H h) (e : Evo m H m' H') : ∀ {vs : List V} {xs : List Vl}, Dvs C.K C.ly Z m H vs xs → Dvs C.K C.ly Z m' H' vs xs
  | _, _, .nil => .nil
  | _, _, .cons q qs => .cons (q.mono r e) (Dvs.mono r e qs)
theorem EnvV.mono (r : Rl C Z m H h) (e : Evo m H m' H') (q : EnvV C Z m H σ ρ) : EnvV C Z m' H' σ ρ := ⟨q.len, fun i x hx => by
  obtain ⟨v, h1, h2⟩ := q.get i x hx
  exact ⟨v, h1, h2.mono r e⟩⟩
theorem Rl.ex (r : Rl C Z m H h) (e : Ex H H') : Rl C Z m H' h := by
  refine ⟨r.nd, r.disj, r.len, fun a ha => ?_, fun a ha xs => ?_, fun a ha x => ?_, fun a ha => ?_, fun i a o h1 h2 => ?_⟩
  · obtain ⟨o, ho⟩ := r.za a ha; exact ⟨o, e _ _ ho⟩
  · obtain ⟨o, ho⟩ := r.ma a ha
    rw [e _ _ ho, ← ho]; exact r.notup a ha xs
  · obtain ⟨o, ho⟩ := r.ma a ha
    rw [e _ _ ho, ← ho]; exact r.own a ha x
  · obtain ⟨o, ho⟩ := r.ma a ha; exact ⟨o, e _ _ ho⟩
  · have q := r.ob i a o h1 h2
    have k : Keeps (Z ++ m) H (Z ++ m) H' := keeps_ex e
    cases o with
    | lst ds => obtain ⟨vs, q1, q2⟩ := q; exact ⟨vs, e _ _ q1, q2.mono C.lok k⟩
    | dct ks vs =>
      obtain ⟨kvs, q1, q2, q3⟩ := q
      exact ⟨kvs, e _ _ q1, ⟨q2.1, q2.2.mono C.lok k⟩, q3.mono r (Evo.ex e)⟩
    | dck ks vs =>
      obtain ⟨kvs, q1, q2, q3⟩ := q
      exact ⟨kvs, e _ _ q1, q2, q3.mono r (Evo.ex e)⟩
    | ins c fs =>
      obtain ⟨vs, q1, q2⟩ := q
      obtain ⟨u, hu⟩ := r.ma a (List.mem_of_getElem? h1)
      exact ⟨vs, C.lmok.stay _ _ _ _ H' q1 (by rw [hu, e _ _ hu]) (fun b o hb _ => e _ _ hb), q2.mono r (Evo.ex e)⟩
    | gone => obtain ⟨u, hu, hn⟩ := q; exact ⟨u, e _ _ hu, hn⟩
theorem Dv.of {v : V} {x : Dt} (q : Di C.K C.ly (Z ++ m) H v x) : Dv C.K C.ly Z m H v (.d x) := q
theorem EnvV.set {i : Nat} {v : V} {x : Vl} (e : EnvV C Z m H σ ρ) (q : Dv C.K C.ly Z m H v x) : EnvV C Z m H (σ.set i (some v)) (ρ.set i (some x)) := ⟨by rw [List.length_set, List.length_set]; exact e.len, fun j y hj => by
  by_cases hij : i = j
  · subst hij
    have hl : i < ρ.length := by
      by_cases z : i < ρ.length
      · exact z
      · rw [List.getElem?_set, if_pos rfl, if_neg z] at hj; cases hj
    refine ⟨v, by rw [List.getElem?_set_self (by rw [e.len]; exact hl)], ?_⟩
    rw [List.getElem?_set_self hl] at hj
    cases hj
    exact q
  · rw [List.getElem?_set_ne hij] at hj
    rw [List.getElem?_set_ne hij]
    exact e.get j y hj⟩
theorem EnvV.drop {i : Nat} {v : Option V} (e : EnvV C Z m H σ ρ) : EnvV C Z m H (σ.set i v) (ρ.set i none) := ⟨by rw [List.length_set, List.length_set]; exact e.len, fun j x q => by
  by_cases hj : i = j
  · subst hj
    rw [List.getElem?_set] at q
    rw [if_pos rfl] at q
    split at q <;> cases q
  · rw [List.getElem?_set_ne hj] at q
    rw [List.getElem?_set_ne hj]
    exact e.get j x q⟩
end
/-- what a new list or dict holds -/
def Fr (C : Ct) (F : List Addr) (H : Hp) (a : Addr) : Dt → Prop
  | .lst ds => ∃ vs, H a = some (.lst vs) ∧ Dis C.K C.ly F H vs ds
  | .dct ks vs => ∃ ps : List (NestedKey × Addr × V), H a = some (DG C.ly.P C.ly.w a ps) ∧ (ks.map keyN = ps.map (fun p => some p.1) ∧ Dis C.K C.ly F H (ps.map fun p => .ref p.2.1) ks) ∧ Dis C.K C.ly F H (ps.map (·.2.2)) vs
  | .dck ks vs => (∃ kvs : List (Key × V), H a = some (.dK kvs) ∧ ks = (kvs.map fun p => keyD p.1) ∧ Dis C.K C.ly F H (kvs.map (·.2)) vs)
  | _ => False
/-! ### what is asked behind a part -/
section
variable (C : Ct) (W : WX) (Z : List Addr) (σ : St)
def EOk (m : List Addr) (H : Hp) (Q : VK) : Res Vl → Prop
  | .ok x h' => ∀ v m' H', Evo m H m' H' → Rl C Z m' H' h' → Dv C.K C.ly Z m' H' v x → Q v H'
  | .exc e h' => ∀ m' H' d, Evo m H m' H' → Rl C Z m' H' h' → ExR C (Z ++ m') H' e d → W (C.xc e.cls) d σ H'
  | .bad => False
def TOk (m : List Addr) (H : Hp) (Q : Bool → Hp → Prop) : Res Bool → Prop
  | .ok x h' => ∀ m' H', Evo m H m' H' → Rl C Z m' H' h' → Q x H'
  | .exc e h' => ∀ m' H' d, Evo m H m' H' → Rl C Z m' H' h' → ExR C (Z ++ m') H' e d → W (C.xc e.cls) d σ H'
  | .bad => False
def AOk (m : List Addr) (H : Hp) (Q : List V → Hp → Prop) : Res (List Vl) → Prop
  | .ok x h' => ∀ v m' H', Evo m H m' H' → Rl C Z m' H' h' → Dvs C.K C.ly Z m' H' v x → Q v H'
  | .exc e h' => ∀ m' H' d, Evo m H m' H' → Rl C Z m' H' h' → ExR C (Z ++ m') H' e d → W (C.xc e.cls) d σ H'
  | .bad => False
/-- a new thing: its data, at an address that was free, to which nothing leads -/
def FOk (m : List Addr) (H : Hp) (Q : VK) : Res Dt → Prop
  | .ok x h' => ∀ a m' H', Evo m H m' H' → Rl C (a :: Z) m' H' h' → H a = none → Fr C (a :: Z ++ m') H' a x → Q (.ref a) H'
  | .exc e h' => ∀ m' H' d, Evo m H m' H' → Rl C Z m' H' h' → ExR C (Z ++ m') H' e d → W (C.xc e.cls) d σ H'
  | .bad => False
end
def SOk (C : Ct) (W : WX) (Z m : List Addr) (H : Hp) (D : Ends) : ResS → Prop
  | .nx ρ h' => ∀ σ' m' H', Evo m H m' H' → Rl C Z m' H' h' → EnvV C Z m' H' σ' ρ → D.nx σ' H'
  | .bk ρ h' => ∀ σ' m' H', Evo m H m' H' → Rl C Z m' H' h' → EnvV C Z m' H' σ' ρ → D.bk σ' H'
  | .ct ρ h' => ∀ σ' m' H', Evo m H m' H' → Rl C Z m' H' h' → EnvV C Z m' H' σ' ρ → D.ct σ' H'
  | .rt x h' => ∀ v m' H', Evo m H m' H' → Rl C Z m' H' h' → Dv C.K C.ly Z m' H' v x → D.rt v H'
  | .exc e ρ h' => ∀ σ' m' H' d, Evo m H m' H' → Rl C Z m' H' h' → EnvV C Z m' H' σ' ρ → ExR C (Z ++ m') H' e d → W (C.xc e.cls) d σ' H'
  | .bad => False
/-! ### the judgements -/
/-- the code stands in its own frame -/
structure Own (X : Cx) : Prop where
  pn : PassesOwn (model X.prog X.w) X.A X.env X.xe
  st : X.stack = X.env :: X.outer
  fr : X.env.frame = some X.env.locals
structure SE (C : Ct) (e : Expr) (f : Den) : Prop where
  run : ∀ X, C.Of X → ∀ W, TakesV C.dt X W → ∀ Z m σ H ρ h Q, Rl C Z m H h → EnvV C Z m H σ ρ → EOk C W Z σ m H Q (f ρ h) → RunE X e σ H Q
structure ST (C : Ct) (e : Expr) (f : DenT) : Prop where
  run : ∀ X, C.Of X → ∀ W, TakesV C.dt X W → ∀ Z m σ H ρ h Q, Rl C Z m H h → EnvV C Z m H σ ρ → TOk C W Z σ m H Q (f ρ h) → RunT X e σ H Q
structure SW (C : Ct) (e : Expr) (f : DenT) : Prop where
  run : ∀ X, C.Of X → ∀ W, TakesV C.dt X W → ∀ Z m σ H ρ h Q, Rl C Z m H h → EnvV C Z m H σ ρ → TOk C W Z σ m H Q (f ρ h) → RunW X e σ H Q
structure SA (C : Ct) (es : List Expr) (f : DenA) : Prop where
  run : ∀ X, C.Of X → ∀ W, TakesV C.dt X W → ∀ Z m σ H ρ h Q, Rl C Z m H h → EnvV C Z m H σ ρ → AOk C W Z σ m H Q (f ρ h) → RunA X es σ H Q
structure SF (C : Ct) (e : Expr) (f : DenD) : Prop where
  run : ∀ X, C.Of X → ∀ W, TakesV C.dt X W → ∀ Z m σ H ρ h Q, Rl C Z m H h → EnvV C Z m H σ ρ → FOk C W Z σ m H Q (f ρ h) → RunE X e σ H Q
structure SS (C : Ct) (st : Stmt) (f : DenS) : Prop where
  run : ∀ X, C.Of X → Own X → ∀ W, TakesV C.dt X W → ∀ Z m σ H ρ h D, Rl C Z m H h → EnvV C Z m H σ ρ → SOk C W Z m H D (f ρ h) → RunS X st D σ H
structure SB (C : Ct) (st : List Stmt) (f : DenS) : Prop where
  run : ∀ X, C.Of X → Own X → ∀ W, TakesV C.dt X W → ∀ Z m σ H ρ h D, Rl C Z m H h → EnvV C Z m H σ ρ → SOk C W Z m H D (f ρ h) → RunB X st D σ H
section
variable {C : Ct} {W : WX} {Z m m1 : List Addr} {σ : St} {H H1 : Hp}
/-- later -/
theorem EOk.at {Q : VK} {r : Res Vl} (e : Evo m H m1 H1) (q : EOk C W Z σ m H Q r) : EOk C W Z σ m1 H1 Q r := by
  cases r with
  | ok x h' => exact fun v m' H' e' => q v m' H' (e.trans e')
  | exc x h' => exact fun m' H' d e' => q m' H' d (e.trans e')
  | bad => exact q
theorem TOk.at {Q : Bool → Hp → Prop} {r : Res Bool} (e : Evo m H m1 H1) (q : TOk C W Z σ m H Q r) : TOk C W Z σ m1 H1 Q r := by
  cases r with
  | ok x h' => exact fun m' H' e' => q m' H' (e.trans e')
  | exc x h' => exact fun m' H' d e' => q m' H' d (e.trans e')
  | bad => exact q
theorem AOk.at {Q : List V → Hp → Prop} {r : Res (List Vl)} (e : Evo m H m1 H1) (q : AOk C W Z σ m H Q r) : AOk C W Z σ m1 H1 Q r := by
  cases r with
  | ok x h' => exact fun v m' H' e' => q v m' H' (e.trans e')
  | exc x h' => exact fun m' H' d e' => q m' H' d (e.trans e')
  | bad => exact q
theorem Evo.free {a : Addr} (e : Evo m H m1 H1) (h : H1 a = none) : H a = none := by
  cases q : H a with
  | none => rfl
  | some o =>
    obtain ⟨u, hu⟩ := e.there a o q
    rw [h] at hu; cases hu
theorem FOk.at {Q : VK} {r : Res Dt} (e : Evo m H m1 H1) (q : FOk C W Z σ m H Q r) : FOk C W Z σ m1 H1 Q r := by
  cases r with
  | ok x h' => exact fun a m' H' e' r n => q a m' H' (e.trans e') r (e.free n)
  | exc x h' => exact fun m' H' d e' => q m' H' d (e.trans e')
  | bad => exact q
theorem SOk.at {D : Ends} {r : ResS} (e : Evo m H m1 H1) (q : SOk C W Z m H D r) : SOk C W Z m1 H1 D r := by
  cases r with
  | nx x h' => exact fun v m' H' e' => q v m' H' (e.trans e')
  | bk x h' => exact fun v m' H' e' => q v m' H' (e.trans e')
  | ct x h' => exact fun v m' H' e' => q v m' H' (e.trans e')
  | rt x h' => exact fun v m' H' e' => q v m' H' (e.trans e')
  | exc x ρ h' => exact fun v m' H' d e' => q v m' H' d (e.trans e')
  | bad => exact q
/-- a kind of end that comes behind: what it lets through of an exception -/
structure Pass {β : Type} (P : List Addr → Hp → Res β → Prop) (C : Ct) (W : WX) (Z : List Addr) (σ : St) : Prop where
  exc : ∀ m H e h', P m H (.exc e h') → ∀ m' H' d, Evo m H m' H' → Rl C Z m' H' h' → ExR C (Z ++ m') H' e d → W (C.xc e.cls) d σ H'
  bad : ∀ m H, ¬ P m H .bad
  at' : ∀ m H m1 H1 r, Evo m H m1 H1 → P m H r → P m1 H1 r
theorem pass_e {Q : VK} : Pass (fun m H r => EOk C W Z σ m H Q r) C W Z σ := ⟨fun _ _ _ _ q => q, fun _ _ q => q, fun _ _ _ _ _ e q => q.at e⟩
theorem pass_t {Q : Bool → Hp → Prop} : Pass (fun m H r => TOk C W Z σ m H Q r) C W Z σ := ⟨fun _ _ _ _ q => q, fun _ _ q => q, fun _ _ _ _ _ e q => q.at e⟩
theorem pass_a {Q : List V → Hp → Prop} : Pass (fun m H r => AOk C W Z σ m H Q r) C W Z σ := ⟨fun _ _ _ _ q => q, fun _ _ q => q, fun _ _ _ _ _ e q => q.at e⟩
theorem pass_f {Q : VK} : Pass (fun m H r => FOk C W Z σ m H Q r) C W Z σ := ⟨fun _ _ _ _ q => q, fun _ _ q => q, fun _ _ _ _ _ e q => q.at e⟩
/-- first this, then that -/
theorem EOk.bind {β : Type} {P : List Addr → Hp → Res β → Prop} (p : Pass P C W Z σ) {r : Res Vl} {k : Vl → Hs → Res β} (q : P m H (r.bind k)) : EOk C W Z σ m H (fun v H' => ∃ m' x h', Evo m H m' H' ∧ Rl C Z m' H' h' ∧ Dv C.K C.ly Z m' H' v x ∧ P m' H' (k x h')) r := by
  cases r with
  | ok x h' => exact fun v m' H' e rl dv => ⟨m', x, h', e, rl, dv, p.at' _ _ _ _ _ e q⟩
  | exc e h' => exact p.exc _ _ _ _ q
  | bad => exact (p.bad _ _ q).elim
theorem TOk.bind {β : Type} {P : List Addr → Hp → Res β → Prop} (p : Pass P C W Z σ) {r : Res Bool} {k : Bool → Hs → Res β} (q : P m H (r.bind k)) : TOk C W Z σ m H (fun v H' => ∃ m' h', Evo m H m' H' ∧ Rl C Z m' H' h' ∧ P m' H' (k v h')) r := by
  cases r with
  | ok x h' => exact fun m' H' e rl => ⟨m', h', e, rl, p.at' _ _ _ _ _ e q⟩
  | exc e h' => exact p.exc _ _ _ _ q
  | bad => exact (p.bad _ _ q).elim
theorem AOk.bind {β : Type} {P : List Addr → Hp → Res β → Prop} (p : Pass P C W Z σ) {r : Res (List Vl)} {k : List Vl → Hs → Res β} (q : P m H (r.bind k)) : AOk C W Z σ m H (fun v H' => ∃ m' x h', Evo m H m' H' ∧ Rl C Z m' H' h' ∧ Dvs C.K C.ly Z m' H' v x ∧ P m' H' (k x h')) r := by
  cases r with
  | ok x h' => exact fun v m' H' e rl dv => ⟨m', x, h', e, rl, dv, p.at' _ _ _ _ _ e q⟩
  | exc e h' => exact p.exc _ _ _ _ q
  | bad => exact (p.bad _ _ q).elim
theorem FOk.bind {β : Type} {P : List Addr → Hp → Res β → Prop} (p : Pass P C W Z σ) {r : Res Dt} {k : Dt → Hs → Res β} (q : P m H (r.bind k)) : FOk C W Z σ m H (fun v H' => ∃ m' x h' a, v = .ref a ∧ Evo m H m' H' ∧ Rl C (a :: Z) m' H' h' ∧ H a = none ∧ Fr C (a :: Z ++ m') H' a x ∧ P m' H' (k x h')) r := by
  cases r with
  | ok x h' => exact fun a m' H' e rl n t1 => ⟨m', x, h', a, rfl, e, rl, n, t1, p.at' _ _ _ _ _ e q⟩
  | exc e h' => exact p.exc _ _ _ _ q
  | bad => exact (p.bad _ _ q).elim
/-- weaken -/
theorem EOk.imp {Q Q' : VK} {r : Res Vl} (q : EOk C W Z σ m H Q r) (k : ∀ v H', Q v H' → Q' v H') : EOk C W Z σ m H Q' r := by
  cases r with
  | ok x h' => exact fun v m' H' e r d => k _ _ (q v m' H' e r d)
  | exc x h' => exact q
  | bad => exact q
theorem TOk.imp {Q Q' : Bool → Hp → Prop} {r : Res Bool} (q : TOk C W Z σ m H Q r) (k : ∀ v H', Q v H' → Q' v H') : TOk C W Z σ m H Q' r := by
  cases r with
  | ok x h' => exact fun m' H' e r => k _ _ (q m' H' e r)
  | exc x h' => exact q
  | bad => exact q
theorem AOk.imp {Q Q' : List V → Hp → Prop} {r : Res (List Vl)} (q : AOk C W Z σ m H Q r) (k : ∀ v H', Q v H' → Q' v H') : AOk C W Z σ m H Q' r := by
  cases r with
  | ok x h' => exact fun v m' H' e r d => k _ _ (q v m' H' e r d)
  | exc x h' => exact q
  | bad => exact q
theorem FOk.imp {Q Q' : VK} {r : Res Dt} (q : FOk C W Z σ m H Q r) (k : ∀ v H', Q v H' → Q' v H') : FOk C W Z σ m H Q' r := by
  cases r with
  | ok x h' => exact fun v m' H' e r n t => k _ _ (q v m' H' e r n t)
  | exc x h' => exact q
  | bad => exact q
end
end Vi

set_option maxRecDepth 100000
namespace Vi
open PySem L2 Evl
/-! ### expressions -/
def allD : List Vl → Option (List Dt)
  | [] => some []
  | .d x :: r => match allD r with
    | some l => some (x :: l)
    | none => none
  | .r _ :: _ => none
def bor (h : Hs) : Vl → Option Dt
  | .d x => some x
  | .r n => match h[n]? with
    | some (.lst l) => some (.lst l)
    | some (.dct ks vs) => match allD vs with
      | some l => some (.dct ks l)
      | none => none
    | some (.dck ks vs) => match allD vs with
      | some l => some (.dck ks l)
      | none => none
    | _ => none
def borAll (h : Hs) : List Vl → Option (List Dt)
  | [] => some []
  | x :: r => match bor h x, borAll h r with
    | some a, some l => some (a :: l)
    | _, _ => none
def toD : Vl → Option Dt
  | .d x => some x
  | .r _ => none
def ap1 (p : Dt → Option Dt) (h : Hs) (x : Vl) : Res Vl := match bor h x with
  | some a => match p a with
    | some d => .ok (.d d) h
    | none => .bad
  | none => .bad
def ap2 (p : Dt → Dt → Option Dt) (h : Hs) (x y : Vl) : Res Vl := match bor h x, bor h y with
  | some a, some b => match p a b with
    | some d => .ok (.d d) h
    | none => .bad
  | _, _ => .bad
def isB (h : Hs) : Vl → Res Bool
  | .d (.bl b) => .ok b h
  | _ => .bad
def cI (i : Int) : Den := fun _ h => .ok (.d (.int i)) h
def cB (i : Bool) : Den := fun _ h => .ok (.d (.bl i)) h
def cN : Den := fun _ h => .ok (.d .non) h
def cS (i : Str) : Den := fun _ h => .ok (.d (.str i)) h
def vr (i : Nat) : Den := fun ρ h => match ρ[i]? with
  | some (some x) => .ok x h
  | _ => .bad
def u1 (p : Dt → Option Dt) (f : Den) : Den := fun ρ h => (f ρ h).bind fun x h1 => ap1 p h1 x
def b2 (p : Dt → Dt → Option Dt) (f g : Den) : Den := fun ρ h => (f ρ h).bind fun x h1 => (g ρ h1).bind fun y h2 => ap2 p h2 x y
def asB (f : Den) : DenT := fun ρ h => (f ρ h).bind fun x h1 => isB h1 x
def notT (f : DenT) : DenT := fun ρ h => (f ρ h).bind fun x h1 => .ok (!x) h1
def andT (f g : DenT) : DenT := fun ρ h => (f ρ h).bind fun x h1 => match x with
  | true => g ρ h1
  | false => .ok false h1
def orT (f g : DenT) : DenT := fun ρ h => (f ρ h).bind fun x h1 => match x with
  | true => .ok true h1
  | false => g ρ h1
def andV (f g : Den) : Den := fun ρ h => (f ρ h).bind fun x h1 => (isB h1 x).bind fun b h2 => match b with
  | true => g ρ h2
  | false => .ok (.d (.bl false)) h2
def orV (f g : Den) : Den := fun ρ h => (f ρ h).bind fun x h1 => (isB h1 x).bind fun b h2 => match b with
  | true => .ok (.d (.bl true)) h2
  | false => g ρ h2
def notV (f : Den) : Den := fun ρ h => (f ρ h).bind fun x h1 => (isB h1 x).bind fun b h2 => .ok (.d (.bl (!b))) h2
def ifV (c : DenT) (f g : Den) : Den := fun ρ h => (c ρ h).bind fun b h1 => match b with
  | true => f ρ h1
  | false => g ρ h1
def nilA : DenA := fun _ h => .ok [] h
def consA (f : Den) (g : DenA) : DenA := fun ρ h => (f ρ h).bind fun x h1 => (g ρ h1).bind fun xs h2 => .ok (x :: xs) h2
def seqOf : Dt → Option (List Dt)
  | .tup l => some l
  | .lst l => some l
  | _ => none
def starA (f : Den) (g : DenA) : DenA := fun ρ h => (f ρ h).bind fun x h1 => match bor h1 x with
  | some d => match seqOf d with
    | some l => (g ρ h1).bind fun xs h2 => .ok (l.map Vl.d ++ xs) h2
    | none => .bad
  | none => .bad
def tupV (f : DenA) : Den := fun ρ h => (f ρ h).bind fun xs h1 => match allD xs with
  | some l => match decide (l.length ≤ 100000) with
    | true => .ok (.d (.tup l)) h1
    | false => .bad
  | none => .bad
def lstF (f : DenA) : DenD := fun ρ h => (f ρ h).bind fun xs h1 => match allD xs with
  | some l => match decide (l.length ≤ 100000) with
    | true => .ok (.lst l) h1
    | false => .bad
  | none => .bad
def frz (f : DenD) : Den := fun ρ h => (f ρ h).bind fun x h1 => .ok (.d x) h1
/-! ### operations by values -/
def FA (F : List Addr) (H : Hp) : Prop := ∀ a ∈ F, ∃ o, H a = some o
theorem FA.out {F : List Addr} {H : Hp} (f : FA F H) {p : Addr} (h : H p = none) : p ∉ F := fun z => by
  obtain ⟨o, ho⟩ := f p z
  rw [h] at ho; cases ho
theorem Rl.fa {C : Ct} {Z m : List Addr} {H : Hp} {h : Hs} (r : Rl C Z m H h) : FA (Z ++ m) H := fun a z => by
  rcases List.mem_append.mp z with z | z
  · exact r.za a z
  · exact r.ma a z
def rP (C : Ct) (p : Dt → Dt → Option Dt) : R2 := fun x y H Q => ∃ F a b d, FA F H ∧ Bv C.K C.ly F H x a ∧ Bv C.K C.ly F H y b ∧ p a b = some d ∧ ∀ v H', Ex H H' → Di C.K C.ly F H' v d → Q v H'
structure OpP (C : Ct) (op : Operator) (p : Dt → Dt → Option Dt) : Prop where
  run : ∀ X, C.Of X → OpR X (binaryOp op) (rP C p)
structure CmpP (C : Ct) (op : CmpOp) (p : Dt → Dt → Option Dt) : Prop where
  run : ∀ X, C.Of X → OpR X (compareOp op) (rP C p)
def rU1 (C : Ct) (p : Dt → Option Dt) : V → Hp → VK → Prop := fun x H Q => ∃ F a d, FA F H ∧ Bv C.K C.ly F H x a ∧ p a = some d ∧ ∀ v H', Ex H H' → Di C.K C.ly F H' v d → Q v H'
structure UnP (C : Ct) (op : UnaryOp) (p : Dt → Option Dt) : Prop where
  run : ∀ X, C.Of X → UnR X (unaryOp op) (rU1 C p)
def GlN (C : Ct) (x : Str) : Prop := C.sc.names.lookup x = some .globalImplicit
theorem Ct.Of.gl {C : Ct} {X : Cx} (o : C.Of X) {x : Str} (h : GlN C x) : Gl X x := by
  show X.env.scope.names.lookup x = _
  rw [o.sc]; exact h
theorem Ct.Of.vis {C : Ct} {X : Cx} (o : C.Of X) {x : Str} (h : Vis C.sc x) : Vis X.env.scope x := by rw [o.sc]; exact h
theorem Ct.Of.fr {C : Ct} {X : Cx} (o : C.Of X) {x : Str} {u : Option Value} (h : C.mg x = u) : X.mg x = u := by rw [o.mg]; exact h
def NoStar (e : Expr) (es : List Expr) : Prop := ∀ env, starEach (e :: es) env = (false, eval e env) :: starEach es env
def NoStars (es : List Expr) : Prop := ∀ (pos : Pos) env, (backTo pos (starEach es env)).any (·.1) = false
def PlainT (e : Expr) : Prop := ∀ env whole, isTrue e env whole = (do let v ← whole; standAt e.pos; holding [v] (truthy v))
section
variable {C : Ct} {W : WX} {Z m m1 : List Addr} {σ : St} {H H1 : Hp} {h : Hs} {ρ : En}
theorem dvs_all : ∀ {vs : List V} {xs : List Vl} {l : List Dt}, Dvs C.K C.ly Z m H vs xs → allD xs = some l → Dis C.K C.ly (Z ++ m) H vs l
  | _, _, _, .nil, e => by cases e; exact .nil
  | _, .d x :: r, l, .cons q qs, e => by
    unfold allD at e
    cases z : allD r with
    | none => rw [z] at e; cases e
    | some l' =>
      rw [z] at e; cases e
      exact .cons q (dvs_all qs z)
  | _, .r _ :: _, _, .cons _ _, e => by cases e
theorem all_dvs : ∀ {vs : List V} {l : List Dt}, Dis C.K C.ly (Z ++ m) H vs l → Dvs C.K C.ly Z m H vs (l.map Vl.d)
  | _, _, .nil => .nil
  | _, _, .cons q qs => .cons q (all_dvs qs)
theorem Dvs.append : ∀ {vs ws : List V} {xs ys : List Vl}, Dvs C.K C.ly Z m H vs xs → Dvs C.K C.ly Z m H ws ys → Dvs C.K C.ly Z m H (vs ++ ws) (xs ++ ys)
  | _, _, _, _, .nil, s => s
  | _, _, _, _, .cons h t, s => .cons h (Dvs.append t s)
theorem Dvs.length : ∀ {vs : List V} {xs : List Vl}, Dvs C.K C.ly Z m H vs xs → vs.length = xs.length
  | _, _, .nil => rfl
  | _, _, .cons _ t => by rw [List.length_cons, List.length_cons, Dvs.length t]
/-- the thing that a place holds -/
theorem Rl.at (r : Rl C Z m H h) {n : Nat} {v : V} {o : Ob} (q : Dv C.K C.ly Z m H v (.r n)) (ho : h[n]? = some o) : ∃ a, m[n]? = some a ∧ v = .ref a ∧ ObD C.K C.ly C.lm Z m H a o := by
  obtain ⟨a, h1, h2⟩ := q
  exact ⟨a, h1, h2, r.ob n a o h1 ho⟩
theorem bor_ok (r : Rl C Z m H h) {v : V} {x : Vl} {d : Dt} (q : Dv C.K C.ly Z m H v x) (e : bor h x = some d) : Bv C.K C.ly (Z ++ m) H v d := by
  cases x with
  | d y => cases e; exact .of q
  | r n =>
    unfold bor at e
    dsimp only at e
    cases z : h[n]? with
    | none => rw [z] at e; cases e
    | some o =>
      rw [z] at e
      obtain ⟨a, h1, rfl, ob⟩ := r.at q z
      cases o with
      | lst l => cases e; obtain ⟨vs, q1, q2⟩ := ob; exact .lst q1 q2
      | dct ks vs =>
        dsimp only at e
        cases z2 : allD vs with
        | none => rw [z2] at e; cases e
        | some l =>
          rw [z2] at e; cases e
          obtain ⟨ps, q1, q2, q3⟩ := ob
          exact .dctG q1 q2.1 q2.2 (dvs_all q3 z2)
      | dck ks vs =>
        dsimp only at e
        cases z2 : allD vs with
        | none => rw [z2] at e; cases e
        | some l =>
          rw [z2] at e; cases e
          obtain ⟨kvs, q1, rfl, q3⟩ := ob
          exact .dctK q1 (dvs_all q3 z2)
      | ins c l => cases e
      | gone => cases e
theorem ap2_ok {p : Dt → Dt → Option Dt} {x y : Vl} {Q : VK} {v w : V} (r : Rl C Z m H h) (hv : Dv C.K C.ly Z m H v x) (hw : Dv C.K C.ly Z m H w y) (q : EOk C W Z σ m H Q (ap2 p h x y)) : rP C p v w H Q := by
  unfold ap2 at q
  cases e1 : bor h x with
  | none => rw [e1] at q; exact q.elim
  | some a =>
    cases e2 : bor h y with
    | none => rw [e1, e2] at q; exact q.elim
    | some b =>
      rw [e1, e2] at q
      dsimp only at q
      cases e3 : p a b with
      | none => rw [e3] at q; exact q.elim
      | some d =>
        rw [e3] at q
        exact ⟨Z ++ m, a, b, d, r.fa, bor_ok r hv e1, bor_ok r hw e2, e3, fun u H' ex du => q u m H' (Evo.ex ex) (r.ex ex) du⟩
theorem ap1_ok {p : Dt → Option Dt} {x : Vl} {Q : VK} {v : V} (r : Rl C Z m H h) (hv : Dv C.K C.ly Z m H v x) (q : EOk C W Z σ m H Q (ap1 p h x)) : rU1 C p v H Q := by
  unfold ap1 at q
  cases e1 : bor h x with
  | none => rw [e1] at q; exact q.elim
  | some a =>
    rw [e1] at q
    dsimp only at q
    cases e3 : p a with
    | none => rw [e3] at q; exact q.elim
    | some d =>
      rw [e3] at q
      exact ⟨Z ++ m, a, d, r.fa, bor_ok r hv e1, e3, fun u H' ex du => q u m H' (Evo.ex ex) (r.ex ex) du⟩
theorem isB_ok {x : Vl} {v : V} {β : Type} {P : List Addr → Hp → Res β → Prop} {k : Bool → Hs → Res β} (p : Pass P C W Z σ) (hv : Dv C.K C.ly Z m H v x) (q : P m H ((isB h x).bind k)) : ∃ b, v = .bl b ∧ P m H (k b h) := by
  cases x with
  | d y =>
    cases y with
    | bl b => exact ⟨b, Di.bl_inv hv, q⟩
    | _ => exact (p.bad _ _ q).elim
  | r n => exact (p.bad _ _ q).elim
end
section
variable {C : Ct} {a b c e : Expr} {es : List Expr} {pos : Pos} {f g k : Den} {fa ga : DenA} {ft gt : DenT}
theorem se_int {i : Int} {j : Nat} : SE C (.Constant (.int i) j pos) (cI i) := ⟨fun X o W tk Z m σ H ρ h Q r env q => PEw pe_int (q _ m H (Evo.refl _ _) r (Di.int i))⟩
theorem se_bl {i : Bool} {j : Nat} : SE C (.Constant (.bool i) j pos) (cB i) := ⟨fun X o W tk Z m σ H ρ h Q r env q => PEw pe_bl (q _ m H (Evo.refl _ _) r (Di.bl i))⟩
theorem se_non {j : Nat} : SE C (.Constant .none j pos) cN := ⟨fun X o W tk Z m σ H ρ h Q r env q => PEw pe_non (q _ m H (Evo.refl _ _) r Di.non)⟩
theorem se_str {i : Str} {j : Nat} : SE C (.Constant (.str i) j pos) (cS i) := ⟨fun X o W tk Z m σ H ρ h Q r env q => PEw pe_str (q _ m H (Evo.refl _ _) r (Di.str i))⟩
theorem se_globI {x : Str} {i : Int} {t : Tok} (hg : GlN C x) (hm : C.mg x = some (.int i t)) (hd : (x == ("__debug__" : Str)) = false) : SE C (.Name x pos) (cI i) := ⟨fun X o W tk Z m σ H ρ h Q r env q => PEw (pe_glob (v := .int i) (o.gl hg) (o.fr hm) ⟨_, rfl⟩ hd) (q _ m H (Evo.refl _ _) r (Di.int i))⟩
theorem se_globS {x : Str} {i : Str} {t : Tok} (hg : GlN C x) (hm : C.mg x = some (.str i t)) (hd : (x == ("__debug__" : Str)) = false) : SE C (.Name x pos) (cS i) := ⟨fun X o W tk Z m σ H ρ h Q r env q => PEw (pe_glob (v := .str i) (o.gl hg) (o.fr hm) ⟨_, rfl⟩ hd) (q _ m H (Evo.refl _ _) r (Di.str i))⟩
theorem se_var {x : Str} (i : Nat) (hi : C.N[i]? = some x) (hv : Vis C.sc x) (hd : (x == ("__debug__" : Str)) = false) (hcd : (x == ("__classdict__" : Str)) = false) : SE C (.Name x pos) (vr i) := ⟨fun X o W tk Z m σ H ρ h Q r env q => by
  unfold vr at q
  cases z : ρ[i]? with
  | none => rw [z] at q; exact q.elim
  | some y =>
    cases y with
    | none => rw [z] at q; exact q.elim
    | some y =>
      rw [z] at q
      obtain ⟨v, h1, h2⟩ := env.get i y z
      exact PEw (pe_var (by rw [o.N]; exact hi) (o.vis hv) hd hcd) ⟨v, h1, q v m H (Evo.refl _ _) r h2⟩⟩
theorem se_op {op : Operator} {p : Dt → Dt → Option Dt} (ho : OpP C op p) (ha : SE C a f) (hb : SE C b g) : SE C (.BinOp a op b pos) (b2 p f g) := ⟨fun X o W tk Z m σ H ρ h Q r env q =>
  PEw (pe_op (ho.run X o) pe_w pe_w) (ha.run X o W tk Z m σ H ρ h _ r env ((EOk.bind pass_e q).imp fun v1 H1 ⟨m1, x, h1, e1, r1, d1, q1⟩ =>
    hb.run X o W tk Z m1 σ H1 ρ h1 _ r1 (env.mono r e1) ((EOk.bind pass_e q1).imp fun v2 H2 ⟨m2, y, h2, e2, r2, d2, q2⟩ => ap2_ok r2 (d1.mono r1 e2) d2 q2)))⟩
theorem se_un {op : UnaryOp} {p : Dt → Option Dt} (ho : UnP C op p) (ha : SE C a f) : SE C (.UnaryOp op a pos) (u1 p f) := ⟨fun X o W tk Z m σ H ρ h Q r env q =>
  PEw (pe_un (ho.run X o) pe_w) (ha.run X o W tk Z m σ H ρ h _ r env ((EOk.bind pass_e q).imp fun v1 H1 ⟨m1, x, h1, e1, r1, d1, q1⟩ => ap1_ok r1 d1 q1))⟩
theorem se_cmp {op : CmpOp} {p : Dt → Dt → Option Dt} (ho : CmpP C op p) (ha : SE C a f) (hb : SE C b g) (hm : behindInMarks op b = false) : SE C (.Compare a [op] [b] pos) (b2 p f g) := ⟨fun X o W tk Z m σ H ρ h Q r env q =>
  PEw (pe_cmpR (ho.run X o) pe_w pe_w hm) (ha.run X o W tk Z m σ H ρ h _ r env ((EOk.bind pass_e q).imp fun v1 H1 ⟨m1, x, h1, e1, r1, d1, q1⟩ =>
    hb.run X o W tk Z m1 σ H1 ρ h1 _ r1 (env.mono r e1) ((EOk.bind pass_e q1).imp fun v2 H2 ⟨m2, y, h2, e2, r2, d2, q2⟩ => ap2_ok r2 (d1.mono r1 e2) d2 q2)))⟩
theorem bindB {m : List Addr} {H : Hp} {W : WX} {Z : List Addr} {σ : St} {r : Res Vl} {Q : Bool → Hp → Prop} (q : TOk C W Z σ m H Q (r.bind fun x h1 => isB h1 x)) : EOk C W Z σ m H (fun x H' => ∃ k, x = .bl k ∧ Q k H') r := by
  cases r with
  | ok x h' =>
    cases x with
    | d y =>
      cases y with
      | bl b => exact fun v m' H' e rl dv => ⟨b, Di.bl_inv dv, q m' H' e rl⟩
      | _ => exact q.elim
    | r n => exact q.elim
  | exc e h' => exact q
  | bad => exact q
/-- a comparison as a test -/
theorem st_cmp {op : CmpOp} {p : Dt → Dt → Option Dt} (ho : CmpP C op p) (ha : SE C a f) (hb : SE C b g) (hm : behindInMarks op b = false) : ST C (.Compare a [op] [b] pos) (asB (b2 p f g)) := ⟨fun X o W tk Z m σ H ρ h Q r env q => by
  have q' : EOk C W Z σ m H (fun x H' => ∃ k, x = .bl k ∧ Q k H') (b2 p f g ρ h) := bindB q
  exact PTw (pt_cmpR (ho.run X o) pe_w pe_w hm) (ha.run X o W tk Z m σ H ρ h _ r env ((EOk.bind pass_e q').imp fun v1 H1 ⟨m1, x, h1, e1, r1, d1, q1⟩ =>
    hb.run X o W tk Z m1 σ H1 ρ h1 _ r1 (env.mono r e1) ((EOk.bind pass_e q1).imp fun v2 H2 ⟨m2, y, h2, e2, r2, d2, q2⟩ => ap2_ok r2 (d1.mono r1 e2) d2 q2)))⟩
theorem st_val (he : PlainT e) (h : SE C e f) : ST C e (asB f) := ⟨fun X o W tk Z m σ H ρ hh Q r env q =>
  PTw (pt_val pe_w (he _)) (h.run X o W tk Z m σ H ρ hh _ r env (bindB q))⟩
/-- a op b op' c -/
def ch3 (p p' : Dt → Dt → Option Dt) (f g k : Den) : DenT := fun ρ h => (f ρ h).bind fun x h1 => (g ρ h1).bind fun y h2 => (ap2 p h2 x y).bind fun z h3 => (isB h3 z).bind fun b h4 => match b with
  | true => (k ρ h4).bind fun w h5 => (ap2 p' h5 y w).bind fun z h6 => isB h6 z
  | false => .ok false h4
def asV (f : DenT) : Den := fun ρ h => (f ρ h).bind fun b h1 => .ok (.d (.bl b)) h1
theorem ch_core {p p' : Dt → Dt → Option Dt} {R : Bool → Hp → Prop} (ha : SE C a f) (hb : SE C b g) (hc : SE C c k) {X : Cx} (o : C.Of X) {W : WX} (tk : TakesV C.dt X W) {Z m : List Addr} {σ : St} {H : Hp} {ρ : En} {h : Hs} (r : Rl C Z m H h) (env : EnvV C Z m H σ ρ) (q : TOk C W Z σ m H R (ch3 p p' f g k ρ h)) :
    RunE X a σ H fun x H1 => RunE X b σ H1 fun y H2 => rP C p x y H2 fun z H3 => ∃ i, z = .bl i ∧ if i = true then RunE X c σ H3 (fun w H4 => rP C p' y w H4 fun z H5 => ∃ j, z = .bl j ∧ R j H5) else R false H3 :=
  ha.run X o W tk Z m σ H ρ h _ r env ((EOk.bind pass_t q).imp fun v1 H1 ⟨m1, x, h1, e1, r1, d1, q1⟩ =>
    hb.run X o W tk Z m1 σ H1 ρ h1 _ r1 (env.mono r e1) ((EOk.bind pass_t q1).imp fun v2 H2 ⟨m2, y, h2, e2, r2, d2, q2⟩ => by
      refine ap2_ok r2 (d1.mono r1 e2) d2 ((EOk.bind pass_t q2).imp fun v3 H3 ⟨m3, z, h3, e3, r3, d3, q3⟩ => ?_)
      obtain ⟨i, rfl, q4⟩ := isB_ok pass_t d3 q3
      refine ⟨i, rfl, ?_⟩
      cases i with
      | false => exact iteF (q4 m3 H3 (Evo.refl _ _) r3)
      | true =>
        refine iteT (hc.run X o W tk Z m3 σ H3 ρ h3 _ r3 ((env.mono r e1).mono r1 (e2.trans e3)) ((EOk.bind pass_t q4).imp fun v4 H4 ⟨m4, w, h4, e4, r4, d4, q5⟩ => ?_))
        exact ap2_ok r4 ((d2.mono r2 e3).mono r3 e4) d4 (bindB q5)))
theorem st_chain {op op' : CmpOp} {p p' : Dt → Dt → Option Dt} (ho : CmpP C op p) (ho' : CmpP C op' p') (ha : SE C a f) (hb : SE C b g) (hc : SE C c k) (hm : lastMarks [op, op'] [b, c] = false) : ST C (.Compare a [op, op'] [b, c] pos) (ch3 p p' f g k) := ⟨fun X o W tk Z m σ H ρ h Q r env q => by
  refine PTw (pt_chain (ho.run X o) (ho'.run X o) (pe_w (e := a)) (pe_w (e := b)) (pe_w (e := c)) hm) ?_
  intro pins s I
  refine ch_core ha hb hc o tk r env q pins s I |> fun h => wpAny_mono h (fun v s' ⟨x, H1, I1, rv, q1⟩ => ⟨x, H1, I1, rv, ?_⟩) fun _ _ z => z
  intro pins s I
  refine q1 pins s I |> fun h => wpAny_mono h (fun v s' ⟨y, H2, I2, rv2, q2⟩ => ⟨y, H2, I2, rv2, ?_⟩) fun _ _ z => z
  obtain ⟨F, a1, b1, d1, k0, k1, k2, k3, k4⟩ := q2
  refine ⟨F, a1, b1, d1, k0, k1, k2, k3, fun v H' ex dv => ?_⟩
  obtain ⟨i, rfl, z⟩ := k4 v H' ex dv
  refine ⟨i, rfl, ?_⟩
  cases i with
  | true =>
    refine iteT ?_
    exact z
  | false => exact iteF ⟨false, rfl, z⟩⟩
theorem re_mono {X : Cx} {σ : St} {H : Hp} {e : Expr} {Q Q' : VK} (h : RunE X e σ H Q) (k : ∀ v H', Q v H' → Q' v H') : RunE X e σ H Q' := fun pins s I => wpAny_mono (h pins s I) (fun v s' ⟨x, H', I', r, q⟩ => ⟨x, H', I', r, k x H' q⟩) fun _ _ z => z
theorem rP_mono {p : Dt → Dt → Option Dt} {x y : V} {H : Hp} {Q Q' : VK} (h : rP C p x y H Q) (k : ∀ v H', Q v H' → Q' v H') : rP C p x y H Q' := by
  obtain ⟨F, a1, b1, d1, k0, k1, k2, k3, k4⟩ := h
  exact ⟨F, a1, b1, d1, k0, k1, k2, k3, fun v H' ex dv => k _ _ (k4 v H' ex dv)⟩
theorem asV_ok {m : List Addr} {H : Hp} {W : WX} {Z : List Addr} {σ : St} {r : Res Bool} {Q : VK} (q : EOk C W Z σ m H Q (r.bind fun b h1 => .ok (.d (.bl b)) h1)) : TOk C W Z σ m H (fun b H' => Q (.bl b) H') r := by
  cases r with
  | ok x h' => exact fun m' H' e rl => q _ m' H' e rl (Di.bl x)
  | exc e h' => exact q
  | bad => exact q
theorem se_chain {op op' : CmpOp} {p p' : Dt → Dt → Option Dt} (ho : CmpP C op p) (ho' : CmpP C op' p') (ha : SE C a f) (hb : SE C b g) (hc : SE C c k) (hm : lastMarks [op, op'] [b, c] = false) : SE C (.Compare a [op, op'] [b, c] pos) (asV (ch3 p p' f g k)) := ⟨fun X o W tk Z m σ H ρ h Q r env q => by
  refine PEw (pe_chain (ho.run X o) (ho'.run X o) (pe_w (e := a)) (pe_w (e := b)) (pe_w (e := c)) hm) ?_
  refine re_mono (ch_core ha hb hc o tk r env (asV_ok q)) fun x H1 q1 => re_mono q1 fun y H2 q2 => rP_mono q2 fun z H3 ⟨i, hi, q3⟩ => ⟨i, hi, ?_⟩
  cases i with
  | true =>
    rw [if_pos rfl] at q3
    refine iteT (re_mono q3 fun w H4 q4 => rP_mono q4 fun z H5 q5 => ?_)
    obtain ⟨j, hj, q6⟩ := q5
    rw [hj]; exact q6
  | false =>
    rw [if_neg Bool.false_ne_true] at q3
    exact iteF q3⟩
theorem st_not (h : ST C a ft) : ST C (.UnaryOp .Not a pos) (notT ft) := ⟨fun X o W tk Z m σ H ρ hh Q r env q =>
  PTw (pt_not pt_w) (h.run X o W tk Z m σ H ρ hh _ r env ((TOk.bind pass_t q).imp fun v H1 ⟨m1, h1, e1, r1, q1⟩ => q1 m1 H1 (Evo.refl _ _) r1))⟩
theorem st_w (h : SW C e ft) : ST C e ft := ⟨fun X o W tk Z m σ H ρ hh Q r env q => PTw (PW.pt pw_w) (h.run X o W tk Z m σ H ρ hh Q r env q)⟩
theorem sw_or1 (h : ST C a ft) : SW C (.BoolOp .Or [a] pos) ft := ⟨fun X o W tk Z m σ H ρ hh Q r env q => PWw (pw_or1 pt_w) (h.run X o W tk Z m σ H ρ hh Q r env q)⟩
theorem sw_or {rest : List Expr} (h : ST C a ft) (h2 : SW C (.BoolOp .Or (b :: rest) pos) gt) : SW C (.BoolOp .Or (a :: b :: rest) pos) (orT ft gt) := ⟨fun X o W tk Z m σ H ρ hh Q r env q =>
  PWw (pw_or pt_w pw_w) (h.run X o W tk Z m σ H ρ hh _ r env ((TOk.bind pass_t q).imp fun v H1 ⟨m1, h1, e1, r1, q1⟩ => by
    cases v with
    | true => exact iteT (q1 m1 H1 (Evo.refl _ _) r1)
    | false => exact iteF (h2.run X o W tk Z m1 σ H1 ρ h1 Q r1 (env.mono r e1) q1)))⟩
theorem se_one {op : BoolOp} (h : SE C a f) : SE C (.BoolOp op [a] pos) f := ⟨fun X o W tk Z m σ H ρ hh Q r env q => PEw (pe_one pe_w) (h.run X o W tk Z m σ H ρ hh Q r env q)⟩
theorem se_and {rest : List Expr} (h : SE C a f) (h2 : SE C (.BoolOp .And (b :: rest) pos) g) : SE C (.BoolOp .And (a :: b :: rest) pos) (andV f g) := ⟨fun X o W tk Z m σ H ρ hh Q r env q =>
  PEw (pe_and pe_w pe_w) (h.run X o W tk Z m σ H ρ hh _ r env ((EOk.bind pass_e q).imp fun v H1 ⟨m1, x, h1, e1, r1, d1, q1⟩ => by
    obtain ⟨i, rfl, q2⟩ := isB_ok pass_e d1 q1
    refine ⟨i, rfl, ?_⟩
    cases i with
    | true => exact iteT (h2.run X o W tk Z m1 σ H1 ρ h1 Q r1 (env.mono r e1) q2)
    | false => exact iteF (q2 _ m1 H1 (Evo.refl _ _) r1 (Di.bl _))))⟩
theorem se_or {rest : List Expr} (h : SE C a f) (h2 : SE C (.BoolOp .Or (b :: rest) pos) g) : SE C (.BoolOp .Or (a :: b :: rest) pos) (orV f g) := ⟨fun X o W tk Z m σ H ρ hh Q r env q =>
  PEw (pe_or pe_w pe_w) (h.run X o W tk Z m σ H ρ hh _ r env ((EOk.bind pass_e q).imp fun v H1 ⟨m1, x, h1, e1, r1, d1, q1⟩ => by
    obtain ⟨i, rfl, q2⟩ := isB_ok pass_e d1 q1
    refine ⟨i, rfl, ?_⟩
    cases i with
    | true => exact iteT (q2 _ m1 H1 (Evo.refl _ _) r1 (Di.bl _))
    | false => exact iteF (h2.run X o W tk Z m1 σ H1 ρ h1 Q r1 (env.mono r e1) q2)))⟩
theorem se_not (h : SE C a f) : SE C (.UnaryOp .Not a pos) (notV f) := ⟨fun X o W tk Z m σ H ρ hh Q r env q =>
  PEw (pe_not pe_w) (h.run X o W tk Z m σ H ρ hh _ r env ((EOk.bind pass_e q).imp fun v H1 ⟨m1, x, h1, e1, r1, d1, q1⟩ => by
    obtain ⟨i, rfl, q2⟩ := isB_ok pass_e d1 q1
    exact ⟨i, rfl, q2 _ m1 H1 (Evo.refl _ _) r1 (Di.bl _)⟩))⟩
theorem se_if (hc : ST C c ft) (ha : SE C a f) (hb : SE C b g) : SE C (.IfExp c a b pos) (ifV ft f g) := ⟨fun X o W tk Z m σ H ρ hh Q r env q =>
  PEw (pe_ifExp pt_w pe_w pe_w) (hc.run X o W tk Z m σ H ρ hh _ r env ((TOk.bind pass_e q).imp fun v H1 ⟨m1, h1, e1, r1, q1⟩ => by
    cases v with
    | true => exact iteT (ha.run X o W tk Z m1 σ H1 ρ h1 Q r1 (env.mono r e1) q1)
    | false => exact iteF (hb.run X o W tk Z m1 σ H1 ρ h1 Q r1 (env.mono r e1) q1)))⟩
theorem sa_nil : SA C [] nilA := ⟨fun X o W tk Z m σ H ρ hh Q r env q => PAw pa_nil (q [] m H (Evo.refl _ _) r .nil)⟩
theorem sa_cons (hs : NoStar e es) (h : SE C e f) (hr : SA C es fa) : SA C (e :: es) (consA f fa) := ⟨fun X o W tk Z m σ H ρ hh Q r env q =>
  PAw (pa_cons pe_w pa_w (hs _)) (h.run X o W tk Z m σ H ρ hh _ r env ((EOk.bind pass_a q).imp fun v H1 ⟨m1, x, h1, e1, r1, d1, q1⟩ =>
    hr.run X o W tk Z m1 σ H1 ρ h1 _ r1 (env.mono r e1) ((AOk.bind pass_a q1).imp fun vs H2 ⟨m2, xs, h2, e2, r2, d2, q2⟩ => q2 _ m2 H2 (Evo.refl _ _) r2 (.cons (d1.mono r1 e2) d2))))⟩
theorem sqL_of {K : PySem.W.Frag} {H : Hp} {a : Addr} {xs : List V} (h : H a = some (.lst xs)) : SqL K H a xs := .inl (.inl h)
theorem sqT_of {K : PySem.W.Frag} {H : Hp} {a : Addr} {xs : List V} (h : H a = some (.tup xs)) : SqT K H a xs := .inl (.inl h)
theorem se_tup {x1 : Nat} (h : SA C es fa) : SE C (.Tuple es x1 pos) (tupV fa) := ⟨fun X o W tk Z m σ H ρ hh Q r env q =>
  PEw (pe_tup pa_w) (h.run X o W tk Z m σ H ρ hh _ r env ((AOk.bind pass_e q).imp fun vs H1 ⟨m1, xs, h1, e1, r1, d1, q1⟩ => by
    cases z : allD xs with
    | none => rw [z] at q1; exact q1.elim
    | some l =>
      rw [z] at q1
      dsimp only at q1
      have k := dvs_all d1 z
      by_cases hl : l.length ≤ 100000
      · rw [decide_eq_true hl] at q1
        refine ⟨sz_of (by rw [k.length]; exact hl), fun p hp => q1 _ m1 _ (Evo.ex (Ex.new hp)) (r1.ex (Ex.new hp)) (Di.tup upd_same (k.mono C.lok (keeps_ex (Ex.new hp))))⟩
      · rw [decide_eq_false hl] at q1; exact q1.elim))⟩
theorem keeps_upd {F : List Addr} {H : Hp} {D : Addr} {o : HO} (hD : D ∈ F) (hn : ∀ xs, H D ≠ some (.tup xs)) (hn2 : ∀ xs, H D ≠ some (.xd xs)) : Keeps F H F (upd H D o) := by
  refine ⟨fun a u h n => ?_, fun a xs h => ?_, fun a xs h => ?_, fun _ _ _ n => n⟩
  · rw [upd_ne (fun z => n (by rw [z]; exact hD))]; exact h
  · rw [upd_ne (fun z => hn xs (by rw [← z]; exact h))]; exact h
  · rw [upd_ne (fun z => hn2 xs (by rw [← z]; exact h))]; exact h
end
section
variable {C : Ct} {Z m : List Addr} {H : Hp} {h : Hs}
theorem ObD.keeps {a : Addr} {o : Ob} {H' : Hp} (q : ObD C.K C.ly C.lm Z m H a o) (k : Keeps (Z ++ m) H (Z ++ m) H') (ha : H' a = H a) (hown : ∀ b u, H b = some u → (∃ x, u = fixO x) → H' b = some u) : ObD C.K C.ly C.lm Z m H' a o := by
  have kd : ∀ {v x}, Dv C.K C.ly Z m H v x → Dv C.K C.ly Z m H' v x := fun {v x} q => by
    cases x with
    | d y => exact Di.mono C.lok k q
    | r n => exact q
  have kds : ∀ {vs xs}, Dvs C.K C.ly Z m H vs xs → Dvs C.K C.ly Z m H' vs xs := fun {vs xs} q => by
    induction q with
    | nil => exact .nil
    | cons q _ ih => exact .cons (kd q) ih
  cases o with
  | lst ds => obtain ⟨vs, q1, q2⟩ := q; exact ⟨vs, by rw [ha]; exact q1, q2.mono C.lok k⟩
  | dct ks vs =>
    obtain ⟨kvs, q1, q2, q3⟩ := q
    exact ⟨kvs, by rw [ha]; exact q1, ⟨q2.1, q2.2.mono C.lok k⟩, kds q3⟩
  | dck ks vs =>
    obtain ⟨kvs, q1, q2, q3⟩ := q
    exact ⟨kvs, by rw [ha]; exact q1, q2, kds q3⟩
  | ins c fs =>
    obtain ⟨vs, q1, q2⟩ := q
    exact ⟨vs, C.lmok.stay _ _ _ _ H' q1 ha hown, kds q2⟩
  | gone => obtain ⟨u, hu, hn⟩ := q; exact ⟨u, by rw [ha]; exact hu, hn⟩
/-- what is forbidden and not of m changes -/
theorem Rl.updZ (r : Rl C Z m H h) {D : Addr} {o u : HO} (hD : D ∈ Z) (ho : H D = some u) (hn : ∀ xs, u ≠ .tup xs) (hx : ∀ x, u ≠ fixO x) : Rl C Z m (upd H D o) h := by
  have nm : ∀ a ∈ m, a ≠ D := fun a ha z => r.disj a ha (z ▸ hD)
  have k : Keeps (Z ++ m) H (Z ++ m) (upd H D o) := keeps_upd (List.mem_append_left _ hD) (fun xs z => hn xs (by rw [ho] at z; cases z; rfl)) fun xs z => hx (.inr xs) (by rw [ho] at z; cases z; rfl)
  refine ⟨r.nd, r.disj, r.len, fun a ha => ?_, fun a ha xs => ?_, fun a ha x => ?_, fun a ha => ?_, fun i a o' h1 h2 => ?_⟩
  · by_cases z : a = D
    · rw [z, upd_same]; exact ⟨_, rfl⟩
    · rw [upd_ne z]; exact r.za a ha
  · rw [upd_ne (nm a ha)]; exact r.notup a ha xs
  · rw [upd_ne (nm a ha)]; exact r.own a ha x
  · rw [upd_ne (nm a ha)]; exact r.ma a ha
  · refine (r.ob i a o' h1 h2).keeps k (upd_ne (nm a (List.mem_of_getElem? h1))) fun b w hb hw => ?_
    obtain ⟨x, rfl⟩ := hw
    rw [upd_ne]; exact hb
    rintro rfl
    rw [ho] at hb; cases hb; exact hx x rfl
/-- one more is forbidden: a new thing -/
theorem Rl.addZ (r : Rl C Z m H h) {D : Addr} {o : HO} (hD : H D = none) (hn : ∀ xs, o ≠ .tup xs) : Rl C (D :: Z) m (upd H D o) h ∧ Keeps (Z ++ m) H (D :: Z ++ m) (upd H D o) := by
  have nm : ∀ a ∈ m, a ≠ D := fun a ha z => by obtain ⟨u, hu⟩ := r.ma a ha; rw [z, hD] at hu; cases hu
  have k : Keeps (Z ++ m) H (D :: Z ++ m) (upd H D o) := by
    refine ⟨fun a u h n => ?_, fun a xs h => ?_, fun a xs h => ?_, fun a u h n z => ?_⟩
    · rw [upd_ne (fun z => by rw [z, hD] at h; cases h)]; exact h
    · rw [upd_ne (fun z => by rw [z, hD] at h; cases h)]; exact h
    · rw [upd_ne (fun z => by rw [z, hD] at h; cases h)]; exact h
    · rcases List.mem_append.mp z with z | z
      · rcases List.mem_cons.mp z with z | z
        · rw [z, hD] at h; cases h
        · exact n (List.mem_append_left _ z)
      · exact n (List.mem_append_right _ z)
  have ex : Ex H (upd H D o) := Ex.new hD
  refine ⟨⟨r.nd, fun a ha z => ?_, r.len, fun a ha => ?_, fun a ha xs => ?_, fun a ha x => ?_, fun a ha => ?_, fun i a o' h1 h2 => ?_⟩, k⟩
  · rcases List.mem_cons.mp z with z | z
    · exact nm a ha z
    · exact r.disj a ha z
  · rcases List.mem_cons.mp ha with z | z
    · rw [z, upd_same]; exact ⟨_, rfl⟩
    · obtain ⟨u, hu⟩ := r.za a z; exact ⟨u, ex _ _ hu⟩
  · rw [upd_ne (nm a ha)]; exact r.notup a ha xs
  · rw [upd_ne (nm a ha)]; exact r.own a ha x
  · rw [upd_ne (nm a ha)]; exact r.ma a ha
  · have q := r.ob i a o' h1 h2
    have e' : upd H D o a = H a := upd_ne (nm a (List.mem_of_getElem? h1))
    have kd : ∀ {v x}, Dv C.K C.ly Z m H v x → Dv C.K C.ly (D :: Z) m (upd H D o) v x := fun {v x} q => by
      cases x with
      | d y => exact Di.mono C.lok k q
      | r n => exact q
    have kds : ∀ {vs xs}, Dvs C.K C.ly Z m H vs xs → Dvs C.K C.ly (D :: Z) m (upd H D o) vs xs := fun {vs xs} q => by
      induction q with
      | nil => exact .nil
      | cons q _ ih => exact .cons (kd q) ih
    cases o' with
    | lst ds => obtain ⟨vs, q1, q2⟩ := q; exact ⟨vs, by rw [e']; exact q1, q2.mono C.lok k⟩
    | dct ks vs =>
      obtain ⟨kvs, q1, q2, q3⟩ := q
      exact ⟨kvs, by rw [e']; exact q1, ⟨q2.1, q2.2.mono C.lok k⟩, kds q3⟩
    | dck ks vs =>
      obtain ⟨kvs, q1, q2, q3⟩ := q
      exact ⟨kvs, by rw [e']; exact q1, q2, kds q3⟩
    | ins c fs =>
      obtain ⟨vs, q1, q2⟩ := q
      exact ⟨vs, C.lmok.stay _ _ _ _ _ q1 e' (fun b w hb _ => ex _ _ hb), kds q2⟩
    | gone => obtain ⟨u, hu, hn⟩ := q; exact ⟨u, by rw [e']; exact hu, hn⟩
/-- less is forbidden -/
theorem Rl.subZ {D : Addr} (r : Rl C (D :: Z) m H h) : Rl C Z m H h := by
  have k : Keeps (D :: Z ++ m) H (Z ++ m) H := keeps_sub fun a z => by
    rw [List.cons_append]; exact List.mem_cons_of_mem _ z
  have kd : ∀ {v x}, Dv C.K C.ly (D :: Z) m H v x → Dv C.K C.ly Z m H v x := fun {v x} q => by
    cases x with
    | d y => exact Di.mono C.lok k q
    | r n => exact q
  have kds : ∀ {vs xs}, Dvs C.K C.ly (D :: Z) m H vs xs → Dvs C.K C.ly Z m H vs xs := fun {vs xs} q => by
    induction q with
    | nil => exact .nil
    | cons q _ ih => exact .cons (kd q) ih
  refine ⟨r.nd, fun a ha z => r.disj a ha (List.mem_cons_of_mem _ z), r.len, fun a ha => r.za a (List.mem_cons_of_mem _ ha), r.notup, r.own, r.ma, fun i a o h1 h2 => ?_⟩
  have q := r.ob i a o h1 h2
  cases o with
  | lst ds => obtain ⟨vs, q1, q2⟩ := q; exact ⟨vs, q1, q2.mono C.lok k⟩
  | dct ks vs =>
    obtain ⟨kvs, q1, q2, q3⟩ := q
    exact ⟨kvs, q1, ⟨q2.1, q2.2.mono C.lok k⟩, kds q3⟩
  | dck ks vs =>
    obtain ⟨kvs, q1, q2, q3⟩ := q
    exact ⟨kvs, q1, q2, kds q3⟩
  | ins c fs => obtain ⟨vs, q1, q2⟩ := q; exact ⟨vs, q1, kds q2⟩
  | gone => exact q
/-- a new thing and all else -/
theorem Rl.addN (r : Rl C Z m H h) {D : Addr} {H' : Hp} {o : HO} (ex : Ex H H') (hD : H D = none) (ho : H' D = some o) (hn : ∀ xs, o ≠ .tup xs) : Rl C (D :: Z) m H' h := by
  obtain ⟨r1, k1⟩ := r.addZ (o := o) hD hn
  refine r1.ex fun a u ha => ?_
  by_cases z : a = D
  · rw [z, upd_same] at ha; cases ha; rw [z]; exact ho
  · rw [upd_ne z] at ha; exact ex _ _ ha
theorem keeps_new {F : List Addr} {H H' : Hp} {D : Addr} (ex : Ex H H') (hD : H D = none) : Keeps F H (D :: F) H' := by
  refine ⟨fun a u h n => ex _ _ h, fun a xs h => ex _ _ h, fun a xs h => ex _ _ h, fun a u h n z => ?_⟩
  rcases List.mem_cons.mp z with z | z
  · rw [z, hD] at h; cases h
  · exact n z
theorem Fr.di {C : Ct} {Z m : List Addr} {H : Hp} {h : Hs} {a : Addr} {x : Dt} (q : Fr C (a :: Z ++ m) H a x) (r : Rl C (a :: Z) m H h) (hz : a ∉ Z) : Di C.K C.ly (Z ++ m) H (.ref a) x := by
  have k : Keeps (a :: Z ++ m) H (Z ++ m) H := keeps_sub fun b z => by rw [List.cons_append]; exact List.mem_cons_of_mem _ z
  have na : a ∉ Z ++ m := fun z => by
    rcases List.mem_append.mp z with z | z
    · exact hz z
    · exact r.disj a z (List.mem_cons_self)
  cases x with
  | lst ds => obtain ⟨vs, q1, q2⟩ := q; exact .lst q1 na (q2.mono C.lok k)
  | dct ks vs =>
    obtain ⟨ps, q1, q2, q3⟩ := q
    exact .dctG q1 na q2.1 (q2.2.mono C.lok k) (q3.mono C.lok k)
  | dck ks vs =>
    obtain ⟨kvs, q1, rfl, q3⟩ := q
    exact .dctK q1 na (q3.mono C.lok k)
  | _ => exact q.elim
theorem Fr.obj {C : Ct} {F : List Addr} {H : Hp} {a : Addr} {x : Dt} (q : Fr C F H a x) : ∃ o, H a = some o ∧ (∀ xs, o ≠ .tup xs) ∧ ∀ y, o ≠ fixO y := by
  cases x with
  | lst ds => obtain ⟨vs, q1, q2⟩ := q; exact ⟨_, q1, (by intro _ z; cases z), by intro y z; cases y <;> first | cases z | exact dg_code z | exact dg_code (Option.some.inj z) | exact slo_code z | exact slo_code (Option.some.inj z)⟩
  | dct ks vs =>
    obtain ⟨kvs, q1, _, q3⟩ := q
    exact ⟨_, q1, (by intro _ z; cases z), by intro y z; cases y <;> first | cases z | exact dg_code z | exact dg_code (Option.some.inj z) | exact slo_code z | exact slo_code (Option.some.inj z)⟩
  | dck ks vs =>
    obtain ⟨kvs, q1, _, q3⟩ := q
    exact ⟨_, q1, (by intro _ z; cases z), by intro y z; cases y <;> first | cases z | exact dg_code z | exact dg_code (Option.some.inj z) | exact slo_code z | exact slo_code (Option.some.inj z)⟩
  | _ => exact q.elim
end
section
variable {C : Ct} {a b c e : Expr} {es : List Expr} {pos : Pos} {f g k : Den} {fa ga : DenA} {ft gt : DenT}
theorem Rl.fresh {C : Ct} {Z m : List Addr} {H : Hp} {h : Hs} (r : Rl C Z m H h) {p : Addr} (hp : H p = none) : p ∉ Z ++ m := fun z => by
  rcases List.mem_append.mp z with z | z
  · obtain ⟨o, ho⟩ := r.za p z; rw [hp] at ho; cases ho
  · obtain ⟨o, ho⟩ := r.ma p z; rw [hp] at ho; cases ho
theorem sf_lst (h : SA C es fa) : SF C (.List es pos) (lstF fa) := ⟨fun X o W tk Z m σ H ρ hh Q r env q =>
  PEw (pe_lst pa_w) (h.run X o W tk Z m σ H ρ hh _ r env ((AOk.bind pass_f q).imp fun vs H1 ⟨m1, xs, h1, e1, r1, d1, q1⟩ => by
    cases z : allD xs with
    | none => rw [z] at q1; exact q1.elim
    | some l =>
      rw [z] at q1
      dsimp only at q1
      have k := dvs_all d1 z
      by_cases hl : l.length ≤ 100000
      · rw [decide_eq_true hl] at q1
        refine ⟨sz_of (by rw [k.length]; exact hl), fun p hp => q1 p m1 _ (Evo.ex (Ex.new hp)) (r1.addN (Ex.new hp) hp upd_same (by intro _ z; cases z)) hp ⟨vs, upd_same, k.mono C.lok (keeps_new (Ex.new hp) hp)⟩⟩
      · rw [decide_eq_false hl] at q1; exact q1.elim))⟩
theorem se_frz {ff : DenD} (h : SF C e ff) : SE C e (frz ff) := ⟨fun X o W tk Z m σ H ρ hh Q r env q =>
  h.run X o W tk Z m σ H ρ hh Q r env ((FOk.bind pass_e q).imp fun v H1 ⟨m1, x, h1, a, hv, e1, r1, n1, fr, q1⟩ => by
    subst hv
    exact q1 _ m1 H1 (Evo.refl _ _) r1.subZ (fr.di r1 fun z => by obtain ⟨o, ho⟩ := r.za a z; rw [n1] at ho; cases ho))⟩
/-- a new list or dict that may change -/
def newOb : Dt → Option Ob
  | .lst l => some (.lst l)
  | .dct ks vs => some (.dct ks (vs.map Vl.d))
  | .dck ks vs => some (.dck ks (vs.map Vl.d))
  | _ => none
def newV (f : DenD) : Den := fun ρ h => (f ρ h).bind fun d h1 => match newOb d with
  | some o => .ok (.r h1.length) (h1 ++ [o])
  | none => .bad
theorem Rl.addM {C : Ct} {Z m : List Addr} {H : Hp} {h : Hs} {a : Addr} {x : Dt} {o : Ob} (r : Rl C (a :: Z) m H h) (fr : Fr C (a :: Z ++ m) H a x) (ho : newOb x = some o) (hz : a ∉ Z) : Rl C Z (m ++ [a]) H (h ++ [o]) := by
  have k : Keeps (a :: Z ++ m) H (Z ++ (m ++ [a])) H := keeps_sub fun b z => by
    simp only [List.mem_append, List.mem_cons, List.mem_singleton] at z ⊢
    rcases z with z | z | z
    · exact .inl (.inr z)
    · exact .inr z
    · rcases z with z | z
      · exact .inl (.inl z)
      · cases z
  have kd : ∀ {v x}, Dv C.K C.ly (a :: Z) m H v x → Dv C.K C.ly Z (m ++ [a]) H v x := fun {v x} q => by
    cases x with
    | d y => exact Di.mono C.lok k q
    | r n =>
      obtain ⟨b, q1, q2⟩ := q
      refine ⟨b, ?_, q2⟩
      rw [List.getElem?_append_left]
      · exact q1
      · obtain ⟨z, _⟩ := List.getElem?_eq_some_iff.mp q1; exact z
  have kds : ∀ {vs xs}, Dvs C.K C.ly (a :: Z) m H vs xs → Dvs C.K C.ly Z (m ++ [a]) H vs xs := fun {vs xs} q => by
    induction q with
    | nil => exact .nil
    | cons q _ ih => exact .cons (kd q) ih
  have am : a ∉ m := fun z => r.disj a z (List.mem_cons_self)
  obtain ⟨u, hu, hu1, hu2⟩ := fr.obj
  have lm := r.len
  refine ⟨?_, fun b hb z => ?_, by simp [lm], fun b hb => r.za b (List.mem_cons_of_mem _ hb), fun b hb xs => ?_, fun b hb xs => ?_, fun b hb => ?_, fun i b ob h1 h2 => ?_⟩
  · rw [List.nodup_append]
    refine ⟨r.nd, by simp, fun x hx y hy z => ?_⟩
    rw [List.mem_singleton] at hy
    exact am (by rw [← hy, ← z]; exact hx)
  · rcases List.mem_append.mp hb with hb | hb
    · exact r.disj b hb (List.mem_cons_of_mem _ z)
    · rw [List.mem_singleton] at hb; rw [hb] at z; exact hz z
  · rcases List.mem_append.mp hb with hb | hb
    · exact r.notup b hb xs
    · rw [List.mem_singleton] at hb; rw [hb, hu]; intro z; cases z; exact hu1 _ rfl
  · rcases List.mem_append.mp hb with hb | hb
    · exact r.own b hb xs
    · rw [List.mem_singleton] at hb; rw [hb, hu]; intro z; cases z; exact hu2 _ rfl
  · rcases List.mem_append.mp hb with hb | hb
    · exact r.ma b hb
    · rw [List.mem_singleton] at hb; rw [hb]; exact ⟨u, hu⟩
  · by_cases hi : i < m.length
    · rw [List.getElem?_append_left hi] at h1
      rw [List.getElem?_append_left (by omega)] at h2
      have q := r.ob i b ob h1 h2
      cases ob with
      | lst ds => obtain ⟨vs, q1, q2⟩ := q; exact ⟨vs, q1, q2.mono C.lok k⟩
      | dct ks vs =>
        obtain ⟨kvs, q1, q2, q3⟩ := q
        exact ⟨kvs, q1, ⟨q2.1, q2.2.mono C.lok k⟩, kds q3⟩
      | dck ks vs =>
        obtain ⟨kvs, q1, q2, q3⟩ := q
        exact ⟨kvs, q1, q2, kds q3⟩
      | ins c fs => obtain ⟨vs, q1, q2⟩ := q; exact ⟨vs, q1, kds q2⟩
      | gone => exact q
    · have hi2 : i = m.length := by
        obtain ⟨z, _⟩ := List.getElem?_eq_some_iff.mp h1
        rw [List.length_append, List.length_singleton] at z
        omega
      subst hi2
      rw [List.getElem?_append_right (Nat.le_refl _), Nat.sub_self] at h1
      rw [← lm, List.getElem?_append_right (Nat.le_refl _), Nat.sub_self] at h2
      cases h1; cases h2
      cases x with
      | lst l => cases ho; obtain ⟨vs, q1, q2⟩ := fr; exact ⟨vs, q1, q2.mono C.lok k⟩
      | dct ks vs =>
        cases ho
        obtain ⟨kvs, q1, q2, q3⟩ := fr
        exact ⟨kvs, q1, ⟨q2.1, q2.2.mono C.lok k⟩, all_dvs (q3.mono C.lok k)⟩
      | dck ks vs =>
        cases ho
        obtain ⟨kvs, q1, q2, q3⟩ := fr
        exact ⟨kvs, q1, q2, all_dvs (q3.mono C.lok k)⟩
      | _ => cases ho
theorem se_new {ff : DenD} (h : SF C e ff) : SE C e (newV ff) := ⟨fun X o W tk Z m σ H ρ hh Q r env q => by
  refine h.run X o W tk Z m σ H ρ hh Q r env ?_
  unfold newV at q
  cases z1 : ff ρ hh with
  | bad => rw [z1] at q; exact q
  | exc e h' => rw [z1] at q; exact q
  | ok x h1 =>
    rw [z1] at q
    dsimp only [Res.bind] at q
    cases z : newOb x with
    | none => rw [z] at q; exact q.elim
    | some ob =>
      rw [z] at q
      intro a m1 H1 e1 r1 n1 fr
      have hz : a ∉ Z := fun z => by obtain ⟨o, ho⟩ := r.za a z; rw [n1] at ho; cases ho
      refine q _ (m1 ++ [a]) H1 ?_ (r1.addM fr z hz) ⟨a, ?_, rfl⟩
      · refine ⟨e1.keep, e1.there, ?_⟩
        obtain ⟨n, rfl, hn⟩ := e1.more
        refine ⟨n ++ [a], by rw [List.append_assoc], fun b hb => ?_⟩
        rcases List.mem_append.mp hb with hb | hb
        · exact hn b hb
        · rw [List.mem_singleton] at hb; rw [hb]; exact n1
      · have := r1.len
        rw [this]; simp⟩
end
end Vi

set_option maxRecDepth 100000
namespace Vi
open PySem L2 Evl
/-! ### operators on data -/
def addP : Dt → Dt → Option Dt
  | .int i, .int j => some (.int (i + j))
  | .tup a, .tup b => match decide (a.length + b.length ≤ 100000) with
    | true => some (.tup (a ++ b))
    | false => none
  | .lst a, .lst b => match decide (a.length + b.length ≤ 100000) with
    | true => some (.lst (a ++ b))
    | false => none
  | .str a, .str b => match decide (a.length + b.length ≤ 100000) with
    | true => some (.str (a ++ b))
    | false => none
  | _, _ => none
def subP : Dt → Dt → Option Dt
  | .int i, .int j => some (.int (i - j))
  | _, _ => none
instance {i j : Int} : Decidable (CMul i j) := inferInstanceAs (Decidable (_ ∨ _))
instance {i j : Int} : Decidable (CDiv i j) := inferInstanceAs (Decidable (_ ∧ _))
instance {i j : Int} : Decidable (CPow i j) := inferInstanceAs (Decidable (_ ∧ _ ∧ _))
def mulP : Dt → Dt → Option Dt
  | .int i, .int j => match decide (CMul i j) with
    | true => some (.int (i * j))
    | false => none
  | .lst l, .int k => match decide (-1000 < k ∧ k < 1000 ∧ l.length * k.toNat ≤ 100000) with
    | true => some (.lst (List.replicate k.toNat l).flatten)
    | false => none
  | _, _ => none
def divP : Dt → Dt → Option Dt
  | .int i, .int j => match decide (CDiv i j) with
    | true => some (.int (i / j))
    | false => none
  | _, _ => none
def modP : Dt → Dt → Option Dt
  | .int i, .int j => match decide (j = 0) with
    | true => none
    | false => match decide (0 < j) with
      | true => some (.int (i % j))
      | false => some (.int (i.fmod j))
  | _, _ => none
def powP : Dt → Dt → Option Dt
  | .int i, .int j => match decide (CPow i j) with
    | true => some (.int (i ^ j.toNat))
    | false => none
  | _, _ => none
section
variable {C : Ct}
theorem vint {F : List Addr} {H : Hp} {i : Int} {Q : VK} (q : ∀ v H', Ex H H' → Di C.K C.ly F H' v (.int i) → Q v H') : Q (.int i) H := q _ H (Ex.refl H) (.int i)
theorem vbl {F : List Addr} {H : Hp} {i : Bool} {Q : VK} (q : ∀ v H', Ex H H' → Di C.K C.ly F H' v (.bl i) → Q v H') : Q (.bl i) H := q _ H (Ex.refl H) (.bl i)
theorem op_subP : OpP C .Sub subP := ⟨fun X o pins s σ H x y v u Q I rx ry h => by
  obtain ⟨F, a, b, d, fa, ha, hb, hp, q⟩ := h
  unfold subP at hp
  split at hp
  · cases hp
    rw [ha.int_inv] at rx; rw [hb.int_inv] at ry
    exact op_sub pins s σ H _ _ v u Q I rx ry ⟨_, _, rfl, rfl, vint q⟩
  · cases hp⟩
theorem op_addP : OpP C .Add addP := ⟨fun X o pins s σ H x y v u Q I rx ry h => by
  obtain ⟨F, a, b, d, fa, ha, hb, hp, q⟩ := h
  unfold addP at hp
  split at hp
  · cases hp
    rw [ha.int_inv] at rx; rw [hb.int_inv] at ry
    exact op_add pins s σ H _ _ v u Q I rx ry ⟨_, _, rfl, rfl, vint q⟩
  · rename_i l m
    by_cases hl : l.length + m.length ≤ 100000
    · rw [decide_eq_true hl] at hp
      cases hp
      obtain ⟨p, xs, rfl, h1, h2⟩ := ha.tup_inv
      obtain ⟨p', ys, rfl, h3, h4⟩ := hb.tup_inv
      refine op_catA pins s σ H _ _ v u Q I rx ry ⟨p, p', xs, ys, rfl, rfl, sqT_of h1, sqT_of h3, sz_of (by rw [h2.length, h4.length]; exact hl), fun z => ?_, fun _ z => ?_, fun _ _ r hr => ?_⟩
      · subst z; cases h2; exact q _ H (Ex.refl H) (.tup h3 h4)
      · subst z; cases h4; rw [List.append_nil] at q; exact q _ H (Ex.refl H) (.tup h1 h2)
      · exact q _ _ (Ex.new hr) (.tup upd_same ((h2.append h4).mono C.lok (keeps_ex (Ex.new hr))))
    · rw [decide_eq_false hl] at hp; cases hp
  · rename_i l m
    by_cases hl : l.length + m.length ≤ 100000
    · rw [decide_eq_true hl] at hp
      cases hp
      obtain ⟨p, xs, rfl, h1, h2⟩ := ha.lst_inv
      obtain ⟨p', ys, rfl, h3, h4⟩ := hb.lst_inv
      exact op_cat pins s σ H _ _ v u Q I rx ry ⟨p, p', xs, ys, rfl, rfl, h1, h3, sz_of (by rw [h2.length, h4.length]; exact hl), fun r hr => q _ _ (Ex.new hr) (.lst upd_same (fa.out hr) ((h2.append h4).mono C.lok (keeps_ex (Ex.new hr))))⟩
    · rw [decide_eq_false hl] at hp; cases hp
  · rename_i l m
    by_cases hl : l.length + m.length ≤ 100000
    · rw [decide_eq_true hl] at hp
      cases hp
      rw [ha.str_inv] at rx; rw [hb.str_inv] at ry
      exact op_add_str pins s σ H _ _ v u Q I rx ry ⟨_, _, rfl, rfl, sz_of hl, q _ H (Ex.refl H) (.str _)⟩
    · rw [decide_eq_false hl] at hp; cases hp
  · cases hp⟩
theorem dis_rep {K : PySem.W.Frag} {Ly : Lx} {F : List Addr} {H : Hp} {xs : List V} {ds : List Dt} (h : Dis K Ly F H xs ds) : ∀ n : Nat, Dis K Ly F H (List.replicate n xs).flatten (List.replicate n ds).flatten
  | 0 => .nil
  | n + 1 => by
    rw [List.replicate_succ, List.replicate_succ, List.flatten_cons, List.flatten_cons]
    exact h.append (dis_rep h n)
theorem op_mulP : OpP C .Mult mulP := ⟨fun X o pins s σ H x y v u Q I rx ry h => by
  obtain ⟨F, a, b, d, fa, ha, hb, hp, q⟩ := h
  unfold mulP at hp
  split at hp
  · rename_i i j
    by_cases hc : CMul i j
    · rw [decide_eq_true hc] at hp
      cases hp
      rw [ha.int_inv] at rx; rw [hb.int_inv] at ry
      exact op_mul pins s σ H _ _ v u Q I rx ry ⟨_, _, rfl, rfl, hc, vint q⟩
    · rw [decide_eq_false hc] at hp; cases hp
  · rename_i l k
    by_cases hc : -1000 < k ∧ k < 1000 ∧ l.length * k.toNat ≤ 100000
    · rw [decide_eq_true hc] at hp
      cases hp
      obtain ⟨p, xs, rfl, h1, h2⟩ := ha.lst_inv
      rw [hb.int_inv] at ry
      exact op_rep pins s σ H _ _ v u Q I rx ry ⟨p, k, xs, rfl, rfl, h1, by omega, by omega, sz_of (by rw [h2.length]; exact hc.2.2), fun r hr => q _ _ (Ex.new hr) (.lst upd_same (fa.out hr) ((dis_rep h2 _).mono C.lok (keeps_ex (Ex.new hr))))⟩
    · rw [decide_eq_false hc] at hp; cases hp
  · cases hp⟩
theorem op_divP : OpP C .FloorDiv divP := ⟨fun X o pins s σ H x y v u Q I rx ry h => by
  obtain ⟨F, a, b, d, fa, ha, hb, hp, q⟩ := h
  unfold divP at hp
  split at hp
  · rename_i i j
    by_cases hc : CDiv i j
    · rw [decide_eq_true hc] at hp
      cases hp
      rw [ha.int_inv] at rx; rw [hb.int_inv] at ry
      exact op_fdiv pins s σ H _ _ v u Q I rx ry ⟨_, _, rfl, rfl, hc, vint q⟩
    · rw [decide_eq_false hc] at hp; cases hp
  · cases hp⟩
theorem op_modP : OpP C .Mod modP := ⟨fun X o pins s σ H x y v u Q I rx ry h => by
  obtain ⟨F, a, b, d, fa, ha, hb, hp, q⟩ := h
  unfold modP at hp
  split at hp
  · rename_i i j
    by_cases hc : j = 0
    · rw [decide_eq_true hc] at hp; cases hp
    · rw [decide_eq_false hc] at hp
      dsimp only at hp
      rw [ha.int_inv] at rx; rw [hb.int_inv] at ry
      by_cases hc2 : 0 < j
      · rw [decide_eq_true hc2] at hp
        cases hp
        exact op_mod pins s σ H _ _ v u Q I rx ry ⟨_, _, rfl, rfl, hc2, vint q⟩
      · rw [decide_eq_false hc2] at hp
        cases hp
        exact op_modN pins s σ H _ _ v u Q I rx ry ⟨_, _, rfl, rfl, hc, vint q⟩
  · cases hp⟩
theorem op_powP : OpP C .Pow powP := ⟨fun X o pins s σ H x y v u Q I rx ry h => by
  obtain ⟨F, a, b, d, fa, ha, hb, hp, q⟩ := h
  unfold powP at hp
  split at hp
  · rename_i i j
    by_cases hc : CPow i j
    · rw [decide_eq_true hc] at hp
      cases hp
      rw [ha.int_inv] at rx; rw [hb.int_inv] at ry
      exact op_pow pins s σ H _ _ v u Q I rx ry ⟨_, _, rfl, rfl, hc, vint q⟩
    · rw [decide_eq_false hc] at hp; cases hp
  · cases hp⟩
def negP : Dt → Option Dt
  | .int i => some (.int (-i))
  | _ => none
theorem un_negP : UnP C .USub negP := ⟨fun X o pins s σ H x v Q I rx h => by
  obtain ⟨F, a, d, fa, ha, hp, q⟩ := h
  unfold negP at hp
  split at hp
  · cases hp
    rw [ha.int_inv] at rx
    exact un_neg pins s σ H _ v Q I rx ⟨_, rfl, vint q⟩
  · cases hp⟩
/-! ### == of data -/
mutual
def Dt.py : Dt → PyData
  | .non => .none
  | .bl b => .bool b
  | .int i => .int i
  | .str x => .str x
  | .tup l => .tuple (pyAll l)
  | .lst l => .list (pyAll l)
  | _ => .none
def pyAll : List Dt → List PyData
  | [] => []
  | d :: ds => d.py :: pyAll ds
end
def okD : Nat → Dt → Bool
  | _, .non => true
  | _, .bl _ => true
  | _, .int _ => true
  | _, .str _ => true
  | n + 1, .tup l => l.all (okD n)
  | n + 1, .lst l => l.all (okD n)
  | _, _ => false
theorem okD_lay : ∀ (n : Nat) (d : Dt), okD n d = true → d.py.plain = true ∧ d.py.depth ≤ n
  | n, .non, h => by cases n <;> exact ⟨rfl, Nat.zero_le _⟩
  | n, .bl _, h => by cases n <;> exact ⟨rfl, Nat.zero_le _⟩
  | n, .int _, h => by cases n <;> exact ⟨rfl, Nat.zero_le _⟩
  | n, .str x, h => by cases n <;> exact ⟨h, Nat.zero_le _⟩
  | 0, .tup _, h => by cases h
  | 0, .lst _, h => by cases h
  | n + 1, .tup l, h => by
    have h' : l.all (okD n) = true := h
    have all : ∀ l : List Dt, l.all (okD n) = true → PyData.plainAll (pyAll l) = true ∧ PyData.depthAll (pyAll l) ≤ n := by
      intro l
      induction l with
      | nil => intro _; exact ⟨rfl, Nat.zero_le _⟩
      | cons d ds ih =>
        intro hl
        rw [List.all_cons, Bool.and_eq_true] at hl
        obtain ⟨h1, h2⟩ := okD_lay n d hl.1
        obtain ⟨h3, h4⟩ := ih hl.2
        refine ⟨?_, ?_⟩
        · show (d.py.plain && PyData.plainAll (pyAll ds)) = true
          rw [h1, h3] <;> rfl
        · show max d.py.depth (PyData.depthAll (pyAll ds)) ≤ n
          omega
    obtain ⟨h1, h2⟩ := all l h'
    refine ⟨h1, ?_⟩
    show PyData.depthAll (pyAll l) + 1 ≤ n + 1
    omega
  | n + 1, .lst l, h => by
    have h' : l.all (okD n) = true := h
    have all : ∀ l : List Dt, l.all (okD n) = true → PyData.plainAll (pyAll l) = true ∧ PyData.depthAll (pyAll l) ≤ n := by
      intro l
      induction l with
      | nil => intro _; exact ⟨rfl, Nat.zero_le _⟩
      | cons d ds ih =>
        intro hl
        rw [List.all_cons, Bool.and_eq_true] at hl
        obtain ⟨h1, h2⟩ := okD_lay n d hl.1
        obtain ⟨h3, h4⟩ := ih hl.2
        refine ⟨?_, ?_⟩
        · show (d.py.plain && PyData.plainAll (pyAll ds)) = true
          rw [h1, h3] <;> rfl
        · show max d.py.depth (PyData.depthAll (pyAll ds)) ≤ n
          omega
    obtain ⟨h1, h2⟩ := all l h'
    refine ⟨h1, ?_⟩
    show PyData.depthAll (pyAll l) + 1 ≤ n + 1
    omega
  | n, .dct _ _, h => by cases n <;> cases h
  | n, .dck _ _, h => by cases n <;> cases h
  | n, .set _, h => by cases n <;> cases h
  | n, .ins _ _, h => by cases n <;> cases h
  | n, .scr _, h => by cases n <;> cases h
theorem okDs_lay {n : Nat} : ∀ (l : List Dt), l.all (okD n) = true → PyData.plainAll (pyAll l) = true ∧ PyData.depthAll (pyAll l) ≤ n
  | [], _ => ⟨rfl, Nat.zero_le _⟩
  | d :: ds, hl => by
    rw [List.all_cons, Bool.and_eq_true] at hl
    obtain ⟨h1, h2⟩ := okD_lay n d hl.1
    obtain ⟨h3, h4⟩ := okDs_lay ds hl.2
    refine ⟨?_, ?_⟩
    · show (d.py.plain && PyData.plainAll (pyAll ds)) = true
      rw [h1, h3] <;> rfl
    · show max d.py.depth (PyData.depthAll (pyAll ds)) ≤ n
      omega
mutual
theorem di_dp {K : PySem.W.Frag} {Ly : Lx} {F : List Addr} {H : Hp} : ∀ {v : V} {d : Dt} {n : Nat}, Di K Ly F H v d → okD n d = true → Dp K H v d.py
  | _, _, _, .non, _ => .non
  | _, _, _, .bl b, _ => .bl b
  | _, _, _, .int i, _ => .int i
  | _, _, _, .str x, _ => .str x
  | _, _, 0, .tup h hs, q => by cases q
  | _, _, n + 1, .tup h hs, q => .tup (sqT_of h) (dis_dp (n := n) hs q)
  | _, _, 0, .lst h _ hs, q => by cases q
  | _, _, n + 1, .lst h _ hs, q => .lst (sqL_of h) (dis_dp (n := n) hs q)
  | _, _, n, .dctG _ _ _ _ _, q => by cases n <;> cases q
  | _, _, n, .dctK _ _ _, q => by cases n <;> cases q
  | _, _, n, .ins _ _ _ _, q => by cases n <;> cases q
  | _, _, n, .scr _ _, q => by cases n <;> cases q
  | _, _, n, .scrK _, q => by cases n <;> cases q
  | _, _, n, .scrL _ _, q => by cases n <;> cases q
  | _, _, n, .lck _ _ _ _ _, q => by cases n <;> cases q
theorem dis_dp {K : PySem.W.Frag} {Ly : Lx} {F : List Addr} {H : Hp} : ∀ {vs : List V} {ds : List Dt} {n : Nat}, Dis K Ly F H vs ds → ds.all (okD n) = true → DpAll K H vs (pyAll ds)
  | _, _, _, .nil, _ => .nil
  | _, _, n, .cons h hs, q => by
    rw [List.all_cons, Bool.and_eq_true] at q
    exact .cons (di_dp (n := n) h q.1) (dis_dp (n := n) hs q.2)
end
theorem bv_dp {K : PySem.W.Frag} {Ly : Lx} {F : List Addr} {H : Hp} {v : V} {d : Dt} {n : Nat} (h : Bv K Ly F H v d) (q : okD n d = true) : Dp K H v d.py := by
  cases h with
  | of h => exact di_dp h q
  | lst h hs =>
    cases n with
    | zero => cases q
    | succ n => exact .lst (sqL_of h) (dis_dp (n := n) hs q)
  | dctG _ _ _ _ => cases n <;> cases q
  | dctK _ _ => cases n <;> cases q
section
variable {X : Cx} {pins : List (Addr × Obj)} {σ : St} {H : Hp} {s : Shared}
theorem reads_both (o : C.Of X) (I : Inv X pins σ H s) {F : List Addr} {x y : V} {v u : Value} {a b : Dt} (ha : Bv C.K C.ly F H x a) (hb : Bv C.K C.ly F H y b) (rx : RelV x v) (ry : RelV y u) (h1 : okD 20 a = true) (h2 : okD 20 b = true) :
    ∃ as bs, Reads s.heap v a.py as ∧ Reads s.heap u b.py bs ∧ X.A.units + min a.py.depth b.py.depth < cLine := by
  obtain ⟨as, r1⟩ := Dp.reads I a.py x v (by rw [o.K]; exact bv_dp ha h1) rx
  obtain ⟨bs, r2⟩ := Dp.reads I b.py y u (by rw [o.K]; exact bv_dp hb h2) ry
  refine ⟨as, bs, r1, r2, ?_⟩
  have := (okD_lay 20 a h1).2
  have := o.units
  omega
end
def Dt.eq (a b : Dt) : Bool := PyData.eqv a.py b.py
def eqP (a b : Dt) : Option Dt := match okD 20 a && okD 20 b with
  | true => some (.bl (a.eq b))
  | false => none
def neP (a b : Dt) : Option Dt := match okD 20 a && okD 20 b with
  | true => some (.bl (!a.eq b))
  | false => none
theorem cmp_eqP : CmpP C .Eq eqP := ⟨fun X o pins s σ H x y v u Q I rx ry h => by
  obtain ⟨F, a, b, d, fa, ha, hb, hp, q⟩ := h
  unfold eqP at hp
  cases hk : okD 20 a && okD 20 b with
  | false => rw [hk] at hp; cases hp
  | true =>
    rw [hk] at hp
    cases hp
    rw [Bool.and_eq_true] at hk
    obtain ⟨as, bs, r1, r2, hu⟩ := reads_both o I ha hb rx ry hk.1 hk.2
    exact SeqAt.eq_plain r1 r2 (okD_lay 20 a hk.1).1 (okD_lay 20 b hk.2).1 hu ⟨.bl _, H, I, rfl, vbl q⟩⟩
theorem cmp_neP : CmpP C .NotEq neP := ⟨fun X o pins s σ H x y v u Q I rx ry h => by
  obtain ⟨F, a, b, d, fa, ha, hb, hp, q⟩ := h
  unfold neP at hp
  cases hk : okD 20 a && okD 20 b with
  | false => rw [hk] at hp; cases hp
  | true =>
    rw [hk] at hp
    cases hp
    rw [Bool.and_eq_true] at hk
    obtain ⟨as, bs, r1, r2, hu⟩ := reads_both o I ha hb rx ry hk.1 hk.2
    exact SeqAt.ne_plain r1 r2 (okD_lay 20 a hk.1).1 (okD_lay 20 b hk.2).1 hu ⟨.bl _, H, I, rfl, vbl q⟩⟩
/-! ### is None -/
def Dt.isN : Dt → Bool
  | .non => true
  | _ => false
theorem Bv.isN {K : PySem.W.Frag} {Ly : Lx} {F : List Addr} {H : Hp} {v : V} {d : Dt} (h : Bv K Ly F H v d) : decide (v = .non) = d.isN := by
  cases h with
  | of h => cases h <;> first | rfl | exact decide_eq_false (fun z => nomatch z)
  | lst _ _ => exact decide_eq_false (fun z => nomatch z)
  | dctG _ _ _ _ => exact decide_eq_false (fun z => nomatch z)
  | dctK _ _ => exact decide_eq_false (fun z => nomatch z)
def isP : Dt → Dt → Option Dt
  | a, .non => some (.bl a.isN)
  | _, _ => none
def isnP : Dt → Dt → Option Dt
  | a, .non => some (.bl (!a.isN))
  | _, _ => none
theorem cmp_isP : CmpP C .Is isP := ⟨fun X o pins s σ H x y v u Q I rx ry h => by
  obtain ⟨F, a, b, d, fa, ha, hb, hp, q⟩ := h
  unfold isP at hp
  split at hp
  · cases hp
    have : y = .non := by cases hb with | of h => exact h.non_inv
    subst this
    refine op_isN pins s σ H _ _ v u Q I rx ry ⟨rfl, ?_⟩
    rw [ha.isN]; exact vbl q
  · cases hp⟩
theorem cmp_isnP : CmpP C .IsNot isnP := ⟨fun X o pins s σ H x y v u Q I rx ry h => by
  obtain ⟨F, a, b, d, fa, ha, hb, hp, q⟩ := h
  unfold isnP at hp
  split at hp
  · cases hp
    have : y = .non := by cases hb with | of h => exact h.non_inv
    subst this
    refine op_notN pins s σ H _ _ v u Q I rx ry ⟨rfl, ?_⟩
    rw [ha.isN]; exact vbl q
  · cases hp⟩
/-! ### order of data -/
def ltP : Dt → Dt → Option Dt
  | .int i, .int j => some (.bl (decide (i < j)))
  | a, b => match okD 20 a && okD 20 b && PySem.W.alike a.py b.py && !a.isN with
    | true => some (.bl (PySem.W.dataLt a.py b.py))
    | false => none
def gtP : Dt → Dt → Option Dt
  | .int i, .int j => some (.bl (decide (j < i)))
  | a, b => match okD 20 a && okD 20 b && PySem.W.alike a.py b.py && !a.isN with
    | true => some (.bl (PySem.W.dataLt b.py a.py))
    | false => none
def leP : Dt → Dt → Option Dt
  | .int i, .int j => some (.bl (decide (i ≤ j)))
  | a, b => match okD 20 a && okD 20 b && PySem.W.alike a.py b.py && !a.isN with
    | true => some (.bl (!PySem.W.dataLt b.py a.py))
    | false => none
def geP : Dt → Dt → Option Dt
  | .int i, .int j => some (.bl (decide (j ≤ i)))
  | a, b => match okD 20 a && okD 20 b && PySem.W.alike a.py b.py && !a.isN with
    | true => some (.bl (!PySem.W.dataLt a.py b.py))
    | false => none
theorem py_non {a : Dt} {n : Nat} (h : okD n a = true) (hn : a.isN = false) : a.py ≠ .none := by
  cases a with
  | non => cases hn
  | bl b => intro z; cases z
  | int b => intro z; cases z
  | str b => intro z; cases z
  | tup b => intro z; cases z
  | lst b => intro z; cases z
  | dct _ _ => cases n <;> cases h
  | dck _ _ => cases n <;> cases h
  | set _ => cases n <;> cases h
  | ins _ _ => cases n <;> cases h
  | scr _ => cases n <;> cases h
theorem four {a b c d : Bool} (h : (a && b && c && d) = true) : a = true ∧ b = true ∧ c = true ∧ d = true := by
  cases a <;> cases b <;> cases c <;> cases d <;> simp_all
theorem cmp_ltP : CmpP C .Lt ltP := ⟨fun X o pins s σ H x y v u Q I rx ry h => by
  obtain ⟨F, a, b, d, fa, ha, hb, hp, q⟩ := h
  unfold ltP at hp
  split at hp
  · cases hp
    rw [ha.int_inv] at rx; rw [hb.int_inv] at ry
    exact op_lt pins s σ H _ _ v u Q I rx ry ⟨_, _, rfl, rfl, vbl q⟩
  · split at hp
    · rename_i hk
      cases hp
      obtain ⟨h1, h2, h3, h4⟩ := four hk
      obtain ⟨as, bs, r1, r2, hu⟩ := reads_both o I ha hb rx ry h1 h2
      exact PySem.W.lt_data r1 r2 h3 (py_non h1 (by simpa using h4)) hu ⟨.bl _, H, I, rfl, vbl q⟩
    · cases hp⟩
theorem cmp_gtP : CmpP C .Gt gtP := ⟨fun X o pins s σ H x y v u Q I rx ry h => by
  obtain ⟨F, a, b, d, fa, ha, hb, hp, q⟩ := h
  unfold gtP at hp
  split at hp
  · cases hp
    rw [ha.int_inv] at rx; rw [hb.int_inv] at ry
    exact op_gt pins s σ H _ _ v u Q I rx ry ⟨_, _, rfl, rfl, vbl q⟩
  · split at hp
    · rename_i hk
      cases hp
      obtain ⟨h1, h2, h3, h4⟩ := four hk
      obtain ⟨as, bs, r1, r2, hu⟩ := reads_both o I ha hb rx ry h1 h2
      exact PySem.W.gt_data r1 r2 h3 (py_non h1 (by simpa using h4)) hu ⟨.bl _, H, I, rfl, vbl q⟩
    · cases hp⟩
theorem cmp_leP : CmpP C .LtE leP := ⟨fun X o pins s σ H x y v u Q I rx ry h => by
  obtain ⟨F, a, b, d, fa, ha, hb, hp, q⟩ := h
  unfold leP at hp
  split at hp
  · cases hp
    rw [ha.int_inv] at rx; rw [hb.int_inv] at ry
    exact op_le pins s σ H _ _ v u Q I rx ry ⟨_, _, rfl, rfl, vbl q⟩
  · split at hp
    · rename_i hk
      cases hp
      obtain ⟨h1, h2, h3, h4⟩ := four hk
      obtain ⟨as, bs, r1, r2, hu⟩ := reads_both o I ha hb rx ry h1 h2
      exact PySem.W.le_data r1 r2 h3 (py_non h1 (by simpa using h4)) hu ⟨.bl _, H, I, rfl, vbl q⟩
    · cases hp⟩
theorem cmp_geP : CmpP C .GtE geP := ⟨fun X o pins s σ H x y v u Q I rx ry h => by
  obtain ⟨F, a, b, d, fa, ha, hb, hp, q⟩ := h
  unfold geP at hp
  split at hp
  · cases hp
    rw [ha.int_inv] at rx; rw [hb.int_inv] at ry
    exact op_ge pins s σ H _ _ v u Q I rx ry ⟨_, _, rfl, rfl, vbl q⟩
  · split at hp
    · rename_i hk
      cases hp
      obtain ⟨h1, h2, h3, h4⟩ := four hk
      obtain ⟨as, bs, r1, r2, hu⟩ := reads_both o I ha hb rx ry h1 h2
      exact PySem.W.ge_data r1 r2 h3 (py_non h1 (by simpa using h4)) hu ⟨.bl _, H, I, rfl, vbl q⟩
    · cases hp⟩
end
end Vi

set_option maxRecDepth 100000
namespace Vi
open PySem L2 Evl
/-! ### subscripts, slices, in -/
def ixP : Dt → Dt → Option Dt
  | .tup l, .int i => atI l i
  | .lst l, .int i => atI l i
  | .scr l, .int i => match atI l i with
    | some n => some (.int n)
    | none => none
  | .str z, .int i => match decide (z.length ≤ 100000) with
    | true => match atI z.cps.toList i with
      | some c => some (.str ⟨#[c]⟩)
      | none => none
    | false => none
  | _, _ => none
structure IxP (C : Ct) (p : Dt → Dt → Option Dt) : Prop where
  run : ∀ X, C.Of X → IxR X (rP C p)
section
variable {C : Ct}
theorem atI_dis {K : PySem.W.Frag} {Ly : Lx} {F : List Addr} {H : Hp} {vs : List V} {ds : List Dt} {i : Int} {d : Dt} (h : Dis K Ly F H vs ds) (ha : atI ds i = some d) : ∃ v, atI vs i = some v ∧ Di K Ly F H v d := by
  unfold atI at ha ⊢
  rw [h.length]
  cases q : ixN ds.length i with
  | none => rw [q] at ha; cases ha
  | some j =>
    rw [q] at ha
    exact h.get ha
theorem ix_P : IxP C ixP := ⟨fun X o value slice pins s σ H x y v u Q I rx ry h hs => by
  obtain ⟨F, a, b, d, fa, ha, hb, hp, q⟩ := h
  unfold ixP at hp
  split at hp
  · obtain ⟨p, xs, rfl, h1, h2⟩ := ha.tup_inv
    rw [hb.int_inv] at ry
    obtain ⟨w, hw, dw⟩ := atI_dis h2 hp
    exact ix_tup value slice pins s σ H _ _ v u Q I rx ry ⟨p, xs, _, w, rfl, rfl, sqT_of h1, hw, q w H (Ex.refl H) dw⟩ hs
  · obtain ⟨p, xs, rfl, h1, h2⟩ := ha.lst_inv
    rw [hb.int_inv] at ry
    obtain ⟨w, hw, dw⟩ := atI_dis h2 hp
    exact ix_list value slice pins s σ H _ _ v u Q I rx ry ⟨p, xs, _, w, rfl, rfl, sqL_of h1, hw, q w H (Ex.refl H) dw⟩ hs
  · rename_i l i
    rw [hb.int_inv] at ry
    cases ha with
    | of ha =>
      cases ha with
      | scr h1 h2 =>
        split at hp
        · rename_i n hn
          cases hp
          refine ix_list value slice pins s σ H _ _ v u Q I rx ry ⟨_, l.map V.int, i, .int n, rfl, rfl, .inl (.inr ⟨_, h1⟩), ?_, q _ H (Ex.refl H) (.int n)⟩ hs
          unfold atI at hn ⊢
          rw [List.length_map]
          cases z : ixN l.length i with
          | none => rw [z] at hn; cases hn
          | some j =>
            rw [z] at hn
            show (l.map V.int)[j]? = _
            rw [List.getElem?_map, show l[j]? = some n from hn]; rfl
        · cases hp
      | scrK h1 =>
        split at hp
        · rename_i n hn
          cases hp
          refine ix_list value slice pins s σ H _ _ v u Q I rx ry ⟨_, l.map V.int, i, .int n, rfl, rfl, .inr (by rw [o.K]; exact h1), ?_, q _ H (Ex.refl H) (.int n)⟩ hs
          unfold atI at hn ⊢
          rw [List.length_map]
          cases z : ixN l.length i with
          | none => rw [z] at hn; cases hn
          | some j =>
            rw [z] at hn
            show (l.map V.int)[j]? = _
            rw [List.getElem?_map, show l[j]? = some n from hn]; rfl
        · cases hp
      | scrL h1 h2 =>
        split at hp
        · rename_i n hn
          cases hp
          refine ix_list value slice pins s σ H _ _ v u Q I rx ry ⟨_, l.map V.int, i, .int n, rfl, rfl, .inl (.inl h1), ?_, q _ H (Ex.refl H) (.int n)⟩ hs
          unfold atI at hn ⊢
          rw [List.length_map]
          cases z : ixN l.length i with
          | none => rw [z] at hn; cases hn
          | some j =>
            rw [z] at hn
            show (l.map V.int)[j]? = _
            rw [List.getElem?_map, show l[j]? = some n from hn]; rfl
        · cases hp
  · rename_i z i
    rw [ha.str_inv] at rx; rw [hb.int_inv] at ry
    by_cases hz : z.length ≤ 100000
    · rw [decide_eq_true hz] at hp
      dsimp only at hp
      split at hp
      · rename_i c hc
        cases hp
        exact ix_str value slice pins s σ H _ _ v u Q I rx ry ⟨z, i, c, rfl, rfl, sz_of hz, hc, q _ H (Ex.refl H) (.str _)⟩ hs
      · cases hp
    · rw [decide_eq_false hz] at hp; cases hp
  · cases hp⟩
theorem se_ix {a b : Expr} {f g : Den} {pos : Pos} {p : Dt → Dt → Option Dt} (ho : IxP C p) (ha : SE C a f) (hb : SE C b g) (hs : PlainIx b) : SE C (.Subscript a b pos) (b2 p f g) := ⟨fun X o W tk Z m σ H ρ h Q r env q =>
  PEw (pe_ix (ho.run X o) pe_w pe_w hs) (ha.run X o W tk Z m σ H ρ h _ r env ((EOk.bind pass_e q).imp fun v1 H1 ⟨m1, x, h1, e1, r1, d1, q1⟩ =>
    hb.run X o W tk Z m1 σ H1 ρ h1 _ r1 (env.mono r e1) ((EOk.bind pass_e q1).imp fun v2 H2 ⟨m2, y, h2, e2, r2, d2, q2⟩ => ap2_ok r2 (d1.mono r1 e2) d2 q2)))⟩
def cutD (xs : List Dt) (lo hi : Option Int) : List Dt := (xs.drop (HT.sIx xs.length 0 lo)).take (HT.sIx xs.length xs.length hi - HT.sIx xs.length 0 lo)
theorem dis_cut {K : PySem.W.Frag} {Ly : Lx} {F : List Addr} {H : Hp} {vs : List V} {ds : List Dt} (h : Dis K Ly F H vs ds) (lo hi : Option Int) : Dis K Ly F H (cutV vs lo hi) (cutD ds lo hi) := by
  unfold cutV cutD
  rw [h.length]
  exact (h.drop _).take _
/-- an optional part of a slice -/
def DenO := En → Hs → Res (Option Int)
def noneO : DenO := fun _ h => .ok none h
def someO (f : Den) : DenO := fun ρ h => (f ρ h).bind fun x h1 => match x with
  | .d (.int i) => .ok (some i) h1
  | _ => .bad
def OOk (C : Ct) (W : WX) (Z : List Addr) (σ : St) (m : List Addr) (H : Hp) (Q : Option Int → Hp → Prop) : Res (Option Int) → Prop
  | .ok x h' => ∀ m' H', Evo m H m' H' → Rl C Z m' H' h' → Q x H'
  | .exc e h' => ∀ m' H' d, Evo m H m' H' → Rl C Z m' H' h' → ExR C (Z ++ m') H' e d → W (C.xc e.cls) d σ H'
  | .bad => False
theorem pass_o {W : WX} {Z : List Addr} {σ : St} {Q : Option Int → Hp → Prop} : Pass (fun m H r => OOk C W Z σ m H Q r) C W Z σ := ⟨fun _ _ _ _ q => q, fun _ _ q => q, fun _ _ _ _ r e q => by
  cases r with
  | ok x h' => exact fun m' H' e' => q m' H' (e.trans e')
  | exc x h' => exact fun m' H' d e' => q m' H' d (e.trans e')
  | bad => exact q⟩
theorem OOk.bind {W : WX} {Z m : List Addr} {σ : St} {H : Hp} {β : Type} {P : List Addr → Hp → Res β → Prop} (p : Pass P C W Z σ) {r : Res (Option Int)} {k : Option Int → Hs → Res β} (q : P m H (r.bind k)) : OOk C W Z σ m H (fun v H' => ∃ m' h', Evo m H m' H' ∧ Rl C Z m' H' h' ∧ P m' H' (k v h')) r := by
  cases r with
  | ok x h' => exact fun m' H' e rl => ⟨m', h', e, rl, p.at' _ _ _ _ _ e q⟩
  | exc e h' => exact p.exc _ _ _ _ q
  | bad => exact (p.bad _ _ q).elim
structure SO (C : Ct) (e : Option Expr) (f : DenO) : Prop where
  run : ∀ X, C.Of X → ∀ W, TakesV C.dt X W → ∃ t, PO X e t ∧ ∀ Z m σ H ρ h Q, Rl C Z m H h → EnvV C Z m H σ ρ → OOk C W Z σ m H Q (f ρ h) → t σ H Q
theorem so_none : SO C none noneO := ⟨fun X o W tk => ⟨_, po_none, fun Z m σ H ρ h Q r env q => q m H (Evo.refl _ _) r⟩⟩
theorem so_some {e : Expr} {f : Den} (hf : SE C e f) : SO C (some e) (someO f) := ⟨fun X o W tk => ⟨_, po_some pe_w, fun Z m σ H ρ h Q r env q => by
  refine hf.run X o W tk Z m σ H ρ h _ r env ((EOk.bind pass_o q).imp fun v H1 ⟨m1, x, h1, e1, r1, d1, q1⟩ => ?_)
  cases x with
  | d y =>
    cases y with
    | int i => exact ⟨i, Di.int_inv d1, q1 m1 H1 (Evo.refl _ _) r1⟩
    | _ => exact q1.elim
  | r n => exact q1.elim⟩⟩
def slP (lo hi : Option Int) : Dt → Option Dt
  | .tup l => some (.tup (cutD l lo hi))
  | .lst l => some (.lst (cutD l lo hi))
  | .str z => match decide (z.length ≤ 100000) with
    | true => some (.str (cutS z lo hi))
    | false => none
  | _ => none
def slV (f : Den) (lo hi : DenO) : Den := fun ρ h => (f ρ h).bind fun x h1 => (lo ρ h1).bind fun l h2 => (hi ρ h2).bind fun u h3 => ap1 (slP l u) h3 x
def rS (C : Ct) : V → Option Int → Option Int → Hp → VK → Prop := fun x lo hi H Q => rU1 C (slP lo hi) x H Q
theorem sl_P {X : Cx} (o : C.Of X) : SlR X (rS C) := fun pins s σ H x v vl vu lo hi sl Q I rx hs pl pu h => by
  obtain ⟨F, a, d, fa, ha, hp, q⟩ := h
  unfold slP at hp
  split at hp
  · cases hp
    obtain ⟨p, xs, rfl, h1, h2⟩ := ha.tup_inv
    refine sl_tupA pins s σ H _ v vl vu lo hi sl Q I rx hs pl pu ⟨p, xs, rfl, sqT_of h1, fun z => ?_, fun z r hr => q _ _ (Ex.new hr) (.tup upd_same ((dis_cut h2 lo hi).mono C.lok (keeps_ex (Ex.new hr))))⟩
    have e : ∀ {α : Type} (l : List α), HT.sIx l.length 0 lo = 0 ∧ HT.sIx l.length l.length hi = l.length → (l.drop (HT.sIx l.length 0 lo)).take (HT.sIx l.length l.length hi - HT.sIx l.length 0 lo) = l := fun l z => by
      rw [z.1, z.2]; simp
    have z' := z
    rw [h2.length] at z'
    have := q (.ref p) H (Ex.refl H) (by unfold cutD; rw [e _ z']; exact .tup h1 h2)
    exact this
  · cases hp
    obtain ⟨p, xs, rfl, h1, h2⟩ := ha.lst_inv
    exact sl_list pins s σ H _ v vl vu lo hi sl Q I rx hs pl pu ⟨p, xs, rfl, sqL_of h1, fun r hr => q _ _ (Ex.new hr) (.lst upd_same (fa.out hr) ((dis_cut h2 lo hi).mono C.lok (keeps_ex (Ex.new hr))))⟩
  · rename_i z
    by_cases hz : z.length ≤ 100000
    · rw [decide_eq_true hz] at hp
      cases hp
      rw [ha.str_inv] at rx
      exact sl_str pins s σ H _ v vl vu lo hi sl Q I rx hs pl pu ⟨z, rfl, sz_of hz, q _ H (Ex.refl H) (.str _)⟩
    · rw [decide_eq_false hz] at hp; cases hp
  · cases hp
theorem se_sl {a : Expr} {f : Den} {lo hi : Option Expr} {l u : DenO} {p2 pos : Pos} (ha : SE C a f) (h1 : SO C lo l) (h2 : SO C hi u) : SE C (.Subscript a (.Slice lo hi none p2) pos) (slV f l u) := ⟨fun X o W tk Z m σ H ρ h Q r env q => by
  obtain ⟨tl, pl, kl⟩ := h1.run X o W tk
  obtain ⟨tu, pu, ku⟩ := h2.run X o W tk
  refine PEw (pe_slice (sl_P o) pe_w pl pu) (ha.run X o W tk Z m σ H ρ h _ r env ((EOk.bind pass_e q).imp fun v1 H1 ⟨m1, x, h1, e1, r1, d1, q1⟩ => ?_))
  have n1 := env.mono r e1
  refine kl Z m1 σ H1 ρ h1 _ r1 n1 ?_
  have q1' := OOk.bind pass_e q1
  revert q1'
  generalize l ρ h1 = rr
  intro q1'
  cases rr with
  | ok y h' =>
    intro m' H' e2 r2
    obtain ⟨m2, h2, e2', r2', q2⟩ := q1' m' H' e2 r2
    refine ku Z m2 σ H' ρ h2 _ r2' (n1.mono r1 e2') ?_
    have q2' := OOk.bind pass_e q2
    revert q2'
    generalize u ρ h2 = rr2
    intro q2'
    cases rr2 with
    | ok y2 h2' =>
      intro m'' H'' e3 r3
      obtain ⟨m3, h3, e3', r3', q3⟩ := q2' m'' H'' e3 r3
      exact ap1_ok r3' ((d1.mono r1 e2').mono r2' e3') q3
    | exc e h' => exact q2'
    | bad => exact q2'
  | exc e h' => exact q1'
  | bad => exact q1'⟩
/-! ### in -/
def inP : Dt → Dt → Option Dt
  | x, .lst l => match okD 20 x && l.all (okD 20) with
    | true => some (.bl (l.any fun z => z.eq x))
    | false => none
  | x, .tup l => match okD 20 x && l.all (okD 20) with
    | true => some (.bl (l.any fun z => z.eq x))
    | false => none
  | _, _ => none
def ninP (a b : Dt) : Option Dt := match inP a b with
  | some (.bl b) => some (.bl (!b))
  | _ => none
theorem any_py (l : List Dt) (x : Dt) : ((pyAll l).any fun z => PyData.eqv z x.py) = l.any fun z => z.eq x := by
  induction l with
  | nil => rfl
  | cons d l ih =>
    show (PyData.eqv d.py x.py || (pyAll l).any _) = _
    rw [ih]; rfl
theorem okDs_fit {l : List Dt} (h : l.all (okD 20) = true) : PyData.plainAll (pyAll l) = true ∧ PyData.depthAll (pyAll l) ≤ 20 := okDs_lay l h
theorem bv_rd {X : Cx} {pins : List (Addr × Obj)} {σ : St} {H : Hp} {s : Shared} (o : C.Of X) (I : Inv X pins σ H s) {F : List Addr} {x : V} {v : Value} {a : Dt} {n : Nat} (ha : Bv C.K C.ly F H x a) (rx : RelV x v) (h1 : okD n a = true) : ∃ as, Reads s.heap v a.py as :=
  Dp.reads I a.py x v (by rw [o.K]; exact bv_dp ha h1) rx
theorem cmp_inP : CmpP C .In inP := ⟨fun X o pins s σ H x y v u Q I rx ry h => by
  obtain ⟨F, a, b, d, fa, ha, hb, hp, q⟩ := h
  unfold inP at hp
  have hu0 := o.units
  split at hp
  · rename_i x l
    split at hp
    · rename_i hk
      cases hp
      rw [Bool.and_eq_true] at hk
      obtain ⟨as, r1⟩ := bv_rd o I ha rx hk.1
      obtain ⟨bs, r2⟩ := bv_rd (n := 21) o I hb ry hk.2
      have h3 := okDs_fit hk.2
      refine SeqAt.in_list_data r2 r1 h3.1 (okD_lay 20 _ hk.1).1 (by omega) ⟨.bl _, H, I, rfl, ?_⟩
      rw [any_py]; exact vbl q
    · cases hp
  · rename_i x l
    split at hp
    · rename_i hk
      cases hp
      rw [Bool.and_eq_true] at hk
      obtain ⟨as, r1⟩ := bv_rd o I ha rx hk.1
      obtain ⟨bs, r2⟩ := bv_rd (n := 21) o I hb ry hk.2
      have h3 := okDs_fit hk.2
      refine SeqAt.in_tuple_data r2 r1 h3.1 (okD_lay 20 _ hk.1).1 (by omega) ⟨.bl _, H, I, rfl, ?_⟩
      rw [any_py]; exact vbl q
    · cases hp
  · cases hp⟩
end
end Vi

set_option maxRecDepth 100000
namespace Vi
open PySem L2 Evl
/-! ### calls of built-ins -/
inductive Bvs (K : PySem.W.Frag) (Ly : Lx) (F : List Addr) (H : Hp) : List V → List Dt → Prop
  | nil : Bvs K Ly F H [] []
  | cons {v : V} {vs : List V} {d : Dt} {ds : List Dt} : Bv K Ly F H v d → Bvs K Ly F H vs ds → Bvs K Ly F H (v :: vs) (d :: ds)
def rC (C : Ct) (p : List Dt → Option Dt) : List V → Hp → VK → Prop := fun vs H Q => ∃ F ds d, FA F H ∧ Bvs C.K C.ly F H vs ds ∧ p ds = some d ∧ ∀ v H', Ex H H' → Di C.K C.ly F H' v d → Q v H'
/-- .. that give something new -/
def rCF (C : Ct) (p : List Dt → Option Dt) : List V → Hp → VK → Prop := fun vs H Q => ∃ F ds d, FA F H ∧ Bvs C.K C.ly F H vs ds ∧ p ds = some d ∧ ∀ a H', Ex H H' → H a = none → Fr C (a :: F) H' a d → Q (.ref a) H'
structure CallP (C : Ct) (f : Value) (p : List Dt → Option Dt) : Prop where
  run : ∀ X, C.Of X → CallR X f (rC C p)
structure CallF (C : Ct) (f : Value) (p : List Dt → Option Dt) : Prop where
  run : ∀ X, C.Of X → CallR X f (rCF C p)
def apN (p : List Dt → Option Dt) (h : Hs) (xs : List Vl) : Res Vl := match borAll h xs with
  | some ds => match p ds with
    | some d => .ok (.d d) h
    | none => .bad
  | none => .bad
def apF (p : List Dt → Option Dt) (h : Hs) (xs : List Vl) : Res Dt := match borAll h xs with
  | some ds => match p ds with
    | some d => .ok d h
    | none => .bad
  | none => .bad
def cl (p : List Dt → Option Dt) (fa : DenA) : Den := fun ρ h => (fa ρ h).bind fun xs h1 => apN p h1 xs
def clF (p : List Dt → Option Dt) (fa : DenA) : DenD := fun ρ h => (fa ρ h).bind fun xs h1 => apF p h1 xs
section
variable {C : Ct} {W : WX} {Z m : List Addr} {σ : St} {H : Hp} {h : Hs}
theorem borAll_ok (r : Rl C Z m H h) : ∀ {vs : List V} {xs : List Vl} {ds : List Dt}, Dvs C.K C.ly Z m H vs xs → borAll h xs = some ds → Bvs C.K C.ly (Z ++ m) H vs ds
  | _, _, _, .nil, e => by cases e; exact .nil
  | _, x :: xs, ds, .cons q qs, e => by
    unfold borAll at e
    cases z1 : bor h x with
    | none => rw [z1] at e; cases e
    | some a =>
      cases z2 : borAll h xs with
      | none => rw [z1, z2] at e; cases e
      | some l =>
        rw [z1, z2] at e; cases e
        exact .cons (bor_ok r q z1) (borAll_ok r qs z2)
theorem apN_ok {p : List Dt → Option Dt} {xs : List Vl} {Q : VK} {vs : List V} (r : Rl C Z m H h) (hv : Dvs C.K C.ly Z m H vs xs) (q : EOk C W Z σ m H Q (apN p h xs)) : rC C p vs H Q := by
  unfold apN at q
  cases e1 : borAll h xs with
  | none => rw [e1] at q; exact q.elim
  | some ds =>
    rw [e1] at q
    dsimp only at q
    cases e3 : p ds with
    | none => rw [e3] at q; exact q.elim
    | some d =>
      rw [e3] at q
      exact ⟨Z ++ m, ds, d, r.fa, borAll_ok r hv e1, e3, fun u H' ex du => q u m H' (Evo.ex ex) (r.ex ex) du⟩
end
section
variable {C : Ct} {e : Expr} {es : List Expr} {fa : DenA} {p : List Dt → Option Dt} {pos ps : Pos} {x : Str}
theorem se_callB {id : String} (hc : CallP C (.builtin id) p) (hg : GlN C x) (hm : C.mg x = none) (hv : bootBuiltins x = some (.builtin id)) (hn : x ≠ "__name__") (hdb : (x == ("__debug__" : Str)) = false) (hs : NoStar e es) (hpl : NoStars es) (ha : SA C (e :: es) fa) : SE C (.Call (.Name x ps) (e :: es) [] pos) (cl p fa) := ⟨fun X o W tk Z m σ H ρ h Q r env q =>
  PEw (pe_callB (hc.run X o) (o.gl hg) (o.fr hm) hv pa_w hn hdb (hs _) (hpl _ _)) (ha.run X o W tk Z m σ H ρ h _ r env ((AOk.bind pass_e q).imp fun v1 H1 ⟨m1, xs, h1, e1, r1, d1, q1⟩ => apN_ok r1 d1 q1))⟩
theorem se_callT {T : String} (hc : CallP C (.type T) p) (hg : GlN C x) (hm : C.mg x = none) (hv : bootBuiltins x = some (.type T)) (hn : x ≠ "__name__") (hdb : (x == ("__debug__" : Str)) = false) (hs : NoStar e es) (hpl : NoStars es) (ha : SA C (e :: es) fa) : SE C (.Call (.Name x ps) (e :: es) [] pos) (cl p fa) := ⟨fun X o W tk Z m σ H ρ h Q r env q =>
  PEw (pe_callTy (hc.run X o) (o.gl hg) (o.fr hm) hv pa_w hn hdb (hs _) (hpl _ _)) (ha.run X o W tk Z m σ H ρ h _ r env ((AOk.bind pass_e q).imp fun v1 H1 ⟨m1, xs, h1, e1, r1, d1, q1⟩ => apN_ok r1 d1 q1))⟩
end
/-! ### the built-ins -/
section
variable {C : Ct}
theorem bvs1 {K : PySem.W.Frag} {Ly : Lx} {F : List Addr} {H : Hp} {vs : List V} {d : Dt} (h : Bvs K Ly F H vs [d]) : ∃ v, vs = [v] ∧ Bv K Ly F H v d := by
  cases h with
  | cons h1 h2 => cases h2; exact ⟨_, rfl, h1⟩
theorem bvs2 {K : PySem.W.Frag} {Ly : Lx} {F : List Addr} {H : Hp} {vs : List V} {d e : Dt} (h : Bvs K Ly F H vs [d, e]) : ∃ v w, vs = [v, w] ∧ Bv K Ly F H v d ∧ Bv K Ly F H w e := by
  cases h with
  | cons h1 h2 => obtain ⟨w, rfl, h3⟩ := bvs1 h2; exact ⟨_, w, rfl, h1, h3⟩
def absP : List Dt → Option Dt
  | [.int i] => some (.int (if i < 0 then -i else i))
  | _ => none
theorem c_abs : CallP C (.builtin "abs") absP := ⟨fun X o pins s σ H xs us Q I r h => by
  obtain ⟨F, ds, d, fa, hb, hp, q⟩ := h
  unfold absP at hp
  split at hp
  · cases hp
    obtain ⟨v, rfl, h1⟩ := bvs1 hb
    rw [h1.int_inv] at r
    exact call_abs pins s σ H _ us Q I r ⟨_, rfl, vint q⟩
  · cases hp⟩
def lenP : List Dt → Option Dt
  | [.tup l] => some (.int l.length)
  | [.lst l] => some (.int l.length)
  | [.scr l] => some (.int l.length)
  | [.str z] => match decide (z.length ≤ 100000) with
    | true => some (.int z.length)
    | false => none
  | _ => none
theorem c_len : CallP C (.builtin "len") lenP := ⟨fun X o pins s σ H xs us Q I r h => by
  obtain ⟨F, ds, d, fa, hb, hp, q⟩ := h
  unfold lenP at hp
  split at hp
  · cases hp
    obtain ⟨v, rfl, h1⟩ := bvs1 hb
    obtain ⟨a, xs, rfl, h2, h3⟩ := h1.tup_inv
    rw [← h3.length] at q
    exact call_len_seq pins s σ H _ us Q I r ⟨a, xs, rfl, .inr (sqT_of h2), vint q⟩
  · cases hp
    obtain ⟨v, rfl, h1⟩ := bvs1 hb
    obtain ⟨a, xs, rfl, h2, h3⟩ := h1.lst_inv
    rw [← h3.length] at q
    exact call_len_seq pins s σ H _ us Q I r ⟨a, xs, rfl, .inl (sqL_of h2), vint q⟩
  · rename_i l
    cases hp
    obtain ⟨v, rfl, h1⟩ := bvs1 hb
    cases h1 with
    | of h1 =>
      cases h1 with
      | scr h1 h2 =>
        have e : ((l.map V.int).length : Int) = (l.length : Int) := by rw [List.length_map]
        rw [← e] at q
        exact call_len_seq pins s σ H _ us Q I r ⟨_, _, rfl, .inl (.inl (.inr ⟨_, h1⟩)), vint q⟩
      | scrK h1 =>
        have e : ((l.map V.int).length : Int) = (l.length : Int) := by rw [List.length_map]
        rw [← e] at q
        exact call_len_seq pins s σ H _ us Q I r ⟨_, _, rfl, .inl (.inr (by rw [o.K]; exact h1)), vint q⟩
      | scrL h1 h2 =>
        have e : ((l.map V.int).length : Int) = (l.length : Int) := by rw [List.length_map]
        rw [← e] at q
        exact call_len_seq pins s σ H _ us Q I r ⟨_, _, rfl, .inl (.inl (.inl h1)), vint q⟩
  · rename_i z
    by_cases hz : z.length ≤ 100000
    · rw [decide_eq_true hz] at hp
      cases hp
      obtain ⟨v, rfl, h1⟩ := bvs1 hb
      rw [h1.str_inv] at r
      exact call_len_str pins s σ H _ us Q I r ⟨z, rfl, sz_of hz, vint q⟩
    · rw [decide_eq_false hz] at hp; cases hp
  · cases hp⟩
def intP : List Dt → Option Dt
  | [.int i] => some (.int i)
  | _ => none
theorem c_int : CallP C (.type "int") intP := ⟨fun X o pins s σ H xs us Q I r h => by
  obtain ⟨F, ds, d, fa, hb, hp, q⟩ := h
  unfold intP at hp
  split at hp
  · cases hp
    obtain ⟨v, rfl, h1⟩ := bvs1 hb
    rw [h1.int_inv] at r
    exact call_int1 pins s σ H _ us Q I r (.inl ⟨_, rfl, vint q⟩)
  · cases hp⟩
def strP : List Dt → Option Dt
  | [.int i] => match decide (i.natAbs.log2 < 1920) with
    | true => some (.str (toString i))
    | false => none
  | _ => none
theorem c_str : CallP C (.type "str") strP := ⟨fun X o pins s σ H xs us Q I r h => by
  obtain ⟨F, ds, d, fa, hb, hp, q⟩ := h
  unfold strP at hp
  split at hp
  · rename_i i
    by_cases hz : i.natAbs.log2 < 1920
    · rw [decide_eq_true hz] at hp
      cases hp
      obtain ⟨v, rfl, h1⟩ := bvs1 hb
      rw [h1.int_inv] at r
      exact call_str_int pins s σ H _ us Q I r ⟨i, rfl, hz, q _ H (Ex.refl H) (.str _)⟩
    · rw [decide_eq_false hz] at hp; cases hp
  · cases hp⟩
def blsOf : List Dt → Option (List Bool)
  | [] => some []
  | .bl b :: r => match blsOf r with
    | some l => some (b :: l)
    | none => none
  | _ => none
theorem blsOf_map : ∀ {l : List Dt} {bs : List Bool}, blsOf l = some bs → l = bs.map Dt.bl
  | [], bs, h => by cases h; rfl
  | .bl b :: r, bs, h => by
    unfold blsOf at h
    cases z : blsOf r with
    | none => rw [z] at h; cases h
    | some l => rw [z] at h; cases h; rw [blsOf_map z]; rfl
  | .non :: r, bs, h => by cases h
  | .int _ :: r, bs, h => by cases h
  | .str _ :: r, bs, h => by cases h
  | .tup _ :: r, bs, h => by cases h
  | .lst _ :: r, bs, h => by cases h
  | .dct _ _ :: r, bs, h => by cases h
  | .dck _ _ :: r, bs, h => by cases h
  | .set _ :: r, bs, h => by cases h
  | .ins _ _ :: r, bs, h => by cases h
  | .scr _ :: r, bs, h => by cases h
def intsOf : List Dt → Option (List Int)
  | [] => some []
  | .int b :: r => match intsOf r with
    | some l => some (b :: l)
    | none => none
  | _ => none
def allP : List Dt → Option Dt
  | [.lst l] => match blsOf l with
    | some bs => some (.bl (bs.all id))
    | none => none
  | _ => none
def anyP : List Dt → Option Dt
  | [.lst l] => match blsOf l with
    | some bs => some (.bl (bs.any id))
    | none => none
  | _ => none
def sumP : List Dt → Option Dt
  | [.lst l] => match intsOf l with
    | some bs => some (.int bs.sum)
    | none => none
  | _ => none
theorem c_all (hc : C.calm = true) : CallP C (.builtin "all") allP := ⟨fun X o pins s σ H xs us Q I r h => by
  obtain ⟨F, ds, d, fa, hb, hp, q⟩ := h
  unfold allP at hp
  split at hp
  · split at hp
    · rename_i l bs hl
      cases hp
      obtain ⟨v, rfl, h1⟩ := bvs1 hb
      obtain ⟨a, xs, rfl, h2, h3⟩ := h1.lst_inv
      rw [blsOf_map hl] at h3
      rw [dis_bls h3] at h2
      exact cr_all (by rw [o.calm]; exact hc) pins s σ H _ us Q I r ⟨a, bs, rfl, sqL_of h2, vbl q⟩
    · cases hp
  · cases hp⟩
theorem c_any (hc : C.calm = true) : CallP C (.builtin "any") anyP := ⟨fun X o pins s σ H xs us Q I r h => by
  obtain ⟨F, ds, d, fa, hb, hp, q⟩ := h
  unfold anyP at hp
  split at hp
  · split at hp
    · rename_i l bs hl
      cases hp
      obtain ⟨v, rfl, h1⟩ := bvs1 hb
      obtain ⟨a, xs, rfl, h2, h3⟩ := h1.lst_inv
      rw [blsOf_map hl] at h3
      rw [dis_bls h3] at h2
      exact cr_any (by rw [o.calm]; exact hc) pins s σ H _ us Q I r ⟨a, bs, rfl, sqL_of h2, vbl q⟩
    · cases hp
  · cases hp⟩
def tupleP : List Dt → Option Dt
  | [.lst l] => some (.tup l)
  | [.tup l] => some (.tup l)
  | _ => none
theorem c_tuple : CallP C (.type "tuple") tupleP := ⟨fun X o pins s σ H xs us Q I r h => by
  obtain ⟨F, ds, d, fa, hb, hp, q⟩ := h
  unfold tupleP at hp
  split at hp
  · cases hp
    obtain ⟨v, rfl, h1⟩ := bvs1 hb
    obtain ⟨a, xs, rfl, h2, h3⟩ := h1.lst_inv
    exact call_tuple_of pins s σ H _ us Q I r ⟨a, xs, rfl, .inl ⟨sqL_of h2, fun p hp => q _ _ (Ex.new hp) (.tup upd_same (h3.mono C.lok (keeps_ex (Ex.new hp))))⟩⟩
  · cases hp
    obtain ⟨v, rfl, h1⟩ := bvs1 hb
    obtain ⟨a, xs, rfl, h2, h3⟩ := h1.tup_inv
    exact call_tuple_of pins s σ H _ us Q I r ⟨a, xs, rfl, .inr ⟨sqT_of h2, q _ H (Ex.refl H) (.tup h2 h3)⟩⟩
  · cases hp⟩
def listP : List Dt → Option Dt
  | [.lst l] => some (.lst l)
  | [.tup l] => some (.lst l)
  | _ => none
end
end Vi

set_option maxRecDepth 100000
namespace Vi
open PySem L2 Evl
/-! ### what is walked -/
inductive Src where
  | fx (ds : List Dt) | rf (n len : Nat)
abbrev DenI := En → Hs → Res Src
/-- an iterator over what stays, and over a list that may change -/
def ItV (C : Ct) (Z m : List Addr) (H : Hp) (J : It) : Src → Prop
  | .fx ds => ∀ Z' m' H' h', (∀ a ∈ Z', a ∈ Z ∨ H a = none) → Evo m H m' H' → Rl C Z' m' H' h' → ∀ i : Nat,
      (∀ d, ds[i]? = some d → J.go i H' ∧ ∀ x H'', J.yld i H' x H'' → Ex H' H'' ∧ Di C.K C.ly (Z' ++ m') H'' x d) ∧ (ds.length ≤ i → J.stop i H')
  | .rf n len => ∀ Z' m' H' h' l, (∀ a ∈ Z', a ∈ Z ∨ H a = none) → Evo m H m' H' → Rl C Z' m' H' h' → h'[n]? = some (.lst l) → ∀ i : Nat,
      (∀ d, l[i]? = some d → J.go i H' ∧ ∀ x H'', J.yld i H' x H'' → Ex H' H'' ∧ Di C.K C.ly (Z' ++ m') H'' x d) ∧ (l.length ≤ i → J.stop i H')
def IOk (C : Ct) (W : WX) (Z : List Addr) (σ : St) (m : List Addr) (H : Hp) (R : It → Hp → Prop) : Res Src → Prop
  | .ok x h' => ∀ J m' H', Evo m H m' H' → Rl C Z m' H' h' → ItV C Z m' H' J x → R J H'
  | .exc e h' => ∀ m' H' d, Evo m H m' H' → Rl C Z m' H' h' → ExR C (Z ++ m') H' e d → W (C.xc e.cls) d σ H'
  | .bad => False
theorem Rl.keepsZ {C : Ct} {Z Z' m m' : List Addr} {H H' : Hp} {h : Hs} (r : Rl C Z m H h) (hz : ∀ a ∈ Z', a ∈ Z ∨ H a = none) (e : Evo m H m' H') : Keeps (Z ++ m) H (Z' ++ m') H' := by
  have k := r.keeps e
  refine ⟨k.keep, k.tups, k.xds, fun a o ho n z => ?_⟩
  rcases List.mem_append.mp z with z | z
  · rcases hz a z with z | z
    · exact n (List.mem_append_left _ z)
    · rw [z] at ho; cases ho
  · exact k.out a o ho n (List.mem_append_right _ z)
theorem pass_i {C : Ct} {W : WX} {Z : List Addr} {σ : St} {R : It → Hp → Prop} : Pass (fun m H r => IOk C W Z σ m H R r) C W Z σ := ⟨fun _ _ _ _ q => q, fun _ _ q => q, fun _ _ _ _ r e q => by
  cases r with
  | ok x h' => exact fun J m' H' e' => q J m' H' (e.trans e')
  | exc x h' => exact fun m' H' d e' => q m' H' d (e.trans e')
  | bad => exact q⟩
structure SI (C : Ct) (tg it : Expr) (f : DenI) : Prop where
  run : ∀ X, C.Of X → ∀ W, TakesV C.dt X W → ∃ wi : TI, PI X tg it wi ∧ ∀ Z m σ H ρ h R, Rl C Z m H h → EnvV C Z m H σ ρ → IOk C W Z σ m H R (f ρ h) → wi σ H R
theorem PI.or {X : Cx} {tg it : Expr} {w1 w2 : TI} (h1 : PI X tg it w1) (h2 : PI X tg it w2) : PI X tg it fun σ H R => w1 σ H R ∨ w2 σ H R := ⟨fun pins s σ H R I q => by
  rcases q with q | q
  · exact h1.run pins s σ H R I q
  · exact h2.run pins s σ H R I q⟩
def seqI (f : Den) : DenI := fun ρ h => (f ρ h).bind fun x h1 => match x with
  | .d (.lst l) => .ok (.fx l) h1
  | .d (.tup l) => .ok (.fx l) h1
  | .r n => match h1[n]? with
    | some (.lst l) => .ok (.rf n l.length) h1
    | _ => .bad
  | _ => .bad
section
variable {C : Ct} {tg it : Expr} {f : Den}
theorem it_lst {Z m : List Addr} {H : Hp} {a : Addr} {vs : List V} {ds : List Dt} (h : H a = some (.lst vs)) (n : a ∉ Z ++ m) (d : Dis C.K C.ly (Z ++ m) H vs ds) (r : Rl C Z m H h0) : ItV C Z m H (Itl C.K a) (.fx ds) := fun Z' m' H' h' hz e r' i => by
  have k := r.keepsZ hz e
  have h1 : H' a = some (.lst vs) := k.keep _ _ h n
  have inj : ∀ ys, SqL C.K H' a ys → ys = vs ∨ True := fun _ _ => .inr trivial
  refine ⟨fun x hx => ?_, fun hl => ⟨vs, sqL_of h1, by rw [d.length]; exact hl⟩⟩
  obtain ⟨v, hv, dv⟩ := d.get hx
  refine ⟨⟨vs, v, sqL_of h1, hv⟩, fun x H'' y => ?_⟩
  obtain ⟨rfl, hy⟩ := y
  have := (hy vs (sqL_of h1)).symm.trans hv
  cases this
  exact ⟨Ex.refl _, dv.mono C.lok k⟩
theorem it_tup {Z m : List Addr} {H : Hp} {a : Addr} {vs : List V} {ds : List Dt} (h : H a = some (.tup vs)) (d : Dis C.K C.ly (Z ++ m) H vs ds) (r : Rl C Z m H h0) : ItV C Z m H (Itt C.K a) (.fx ds) := fun Z' m' H' h' hz e r' i => by
  have k := r.keepsZ hz e
  have h1 : H' a = some (.tup vs) := k.tups _ _ h
  refine ⟨fun x hx => ?_, fun hl => ⟨vs, sqT_of h1, by rw [d.length]; exact hl⟩⟩
  obtain ⟨v, hv, dv⟩ := d.get hx
  refine ⟨⟨vs, v, sqT_of h1, hv⟩, fun x H'' y => ?_⟩
  obtain ⟨rfl, hy⟩ := y
  have := (hy vs (sqT_of h1)).symm.trans hv
  cases this
  exact ⟨Ex.refl _, dv.mono C.lok k⟩
theorem it_ref {Z m : List Addr} {H : Hp} {a : Addr} {n len : Nat} (h : m[n]? = some a) : ItV C Z m H (Itl C.K a) (.rf n len) := fun Z' m' H' h' l hz e r' hn i => by
  obtain ⟨vs, h1, d⟩ := r'.ob n a (.lst l) (e.get h) hn
  refine ⟨fun x hx => ?_, fun hl => ⟨vs, sqL_of h1, by rw [d.length]; exact hl⟩⟩
  obtain ⟨v, hv, dv⟩ := d.get hx
  refine ⟨⟨vs, v, sqL_of h1, hv⟩, fun x H'' y => ?_⟩
  obtain ⟨rfl, hy⟩ := y
  have := (hy vs (sqL_of h1)).symm.trans hv
  cases this
  exact ⟨Ex.refl _, dv⟩
theorem si_seq (hf : SE C it f) : SI C tg it (seqI f) := ⟨fun X o W tk => ⟨_, PI.or (pi_list pe_w) (pi_tup pe_w), fun Z m σ H ρ h R r env q => by
  have q' := EOk.bind pass_i q
  cases z : f ρ h with
  | ok x h1 =>
    rw [z] at q'
    cases x with
    | d y =>
      cases y with
      | lst l =>
        refine .inl (hf.run X o W tk Z m σ H ρ h _ r env ?_)
        rw [z]
        intro v m' H' e' r' d'
        obtain ⟨m1, x1, h1', e1, r1, d1, q1⟩ := q' v m' H' e' r' d'
        obtain ⟨a, vs, rfl, k1, k2, k3⟩ := Di.lst_inv d'
        refine ⟨a, rfl, ⟨vs, sqL_of k1⟩, ?_⟩
        have q2 := q
        unfold seqI at q2
        rw [z] at q2
        have := q2 (Itl X.K a) m' H' e' r' (by rw [o.K]; exact it_lst k1 k2 k3 r')
        exact this
      | tup l =>
        refine .inr (hf.run X o W tk Z m σ H ρ h _ r env ?_)
        rw [z]
        intro v m' H' e' r' d'
        obtain ⟨a, vs, rfl, k1, k3⟩ := Di.tup_inv d'
        refine ⟨a, rfl, ⟨vs, sqT_of k1⟩, ?_⟩
        have q2 := q
        unfold seqI at q2
        rw [z] at q2
        exact q2 (Itt X.K a) m' H' e' r' (by rw [o.K]; exact it_tup k1 k3 r')
      | _ => unfold seqI at q; rw [z] at q; exact q.elim
    | r n =>
      unfold seqI at q
      rw [z] at q
      dsimp only [Res.bind] at q
      cases z2 : h1[n]? with
      | none => rw [z2] at q; exact q.elim
      | some ob =>
        rw [z2] at q
        cases ob with
        | lst l =>
          refine .inl (hf.run X o W tk Z m σ H ρ h _ r env ?_)
          rw [z]
          intro v m' H' e' r' d'
          obtain ⟨a, k1, rfl⟩ := d'
          obtain ⟨vs, k2, k3⟩ := r'.ob n a _ k1 z2
          exact ⟨a, rfl, ⟨vs, sqL_of k2⟩, q (Itl X.K a) m' H' e' r' (by rw [o.K]; exact it_ref k1)⟩
        | _ => exact q.elim
  | exc e h' =>
    refine .inl (hf.run X o W tk Z m σ H ρ h _ r env ?_)
    unfold seqI at q
    rw [z] at q ⊢
    exact q
  | bad => unfold seqI at q; rw [z] at q; exact q.elim⟩⟩
/-- lo, lo + 1, .. -/
def rngD (lo : Int) (n : Nat) : List Dt := (List.range n).map fun (i : Nat) => Dt.int (lo + (i : Int))
theorem rngD_get {lo : Int} {n i : Nat} {d : Dt} (h : (rngD lo n)[i]? = some d) : i < n ∧ d = .int (lo + (i : Int)) := by
  unfold rngD at h
  rw [List.getElem?_map] at h
  by_cases hi : i < n
  · rw [List.getElem?_range hi] at h
    cases h
    exact ⟨hi, rfl⟩
  · rw [List.getElem?_eq_none (by simpa using hi)] at h
    cases h
theorem rngD_len (lo : Int) (n : Nat) : (rngD lo n).length = n := by unfold rngD; simp
theorem it_rng {Z m : List Addr} {H : Hp} {lo : Int} {n : Nat} : ItV C Z m H (Itr lo n) (.fx (rngD lo n)) := fun Z' m' H' h' _ e' _ i => by
  refine ⟨fun d hd => ?_, fun hl => by rw [rngD_len] at hl; exact hl⟩
  obtain ⟨h1, rfl⟩ := rngD_get hd
  refine ⟨h1, fun x H'' y => ?_⟩
  obtain ⟨rfl, rfl⟩ := y
  exact ⟨Ex.refl _, .int _⟩
def r62 (n : Int) : Bool := decide (-(2 ^ 62) ≤ n) && decide (n < 2 ^ 62)
theorem r62_ok {n : Int} (h : r62 n = true) : -(2 ^ 62) ≤ n ∧ n < 2 ^ 62 := by
  unfold r62 at h
  rw [Bool.and_eq_true] at h
  exact ⟨of_decide_eq_true h.1, of_decide_eq_true h.2⟩
def rng1 (f : Den) : DenI := fun ρ h => (f ρ h).bind fun x h1 => match x with
  | .d (.int n) => match r62 n with
    | true => .ok (.fx (rngD 0 n.toNat)) h1
    | false => .bad
  | _ => .bad
def rng2 (f g : Den) : DenI := fun ρ h => (f ρ h).bind fun x h1 => (g ρ h1).bind fun y h2 => match x, y with
  | .d (.int i), .d (.int j) => match r62 i && r62 j with
    | true => .ok (.fx (rngD i (j - i).toNat)) h2
    | false => .bad
  | _, _ => .bad
theorem si_r1 {a : Expr} {p pos : Pos} (hs : NoStar a []) (hg : GlN C "range") (hm : C.mg "range" = none) (hf : SE C a f) : SI C tg (.Call (.Name "range" p) [a] [] pos) (rng1 f) := ⟨fun X o W tk => ⟨_, pi_range1 (o.gl hg) (o.fr hm) (pa_cons pe_w pa_nil (hs _)) (hs _), fun Z m σ H ρ h R r env q => by
  refine hf.run X o W tk Z m σ H ρ h _ r env ((EOk.bind pass_i q).imp fun v H1 ⟨m1, x, h1, e1, r1, d1, q1⟩ => ?_)
  cases x with
  | d y =>
    cases y with
    | int n =>
      dsimp only at q1
      cases z : r62 n with
      | false => rw [z] at q1; exact q1.elim
      | true =>
        rw [z] at q1
        rw [Di.int_inv d1]
        exact ⟨n, rfl, (r62_ok z).1, (r62_ok z).2, q1 _ m1 H1 (Evo.refl _ _) r1 it_rng⟩
    | _ => exact q1.elim
  | r n => exact q1.elim⟩⟩
end
end Vi

set_option maxRecDepth 100000
namespace Vi
open PySem L2 Evl
/-! ### targets -/
abbrev Tgt := Vl → En → Option En
structure SG (C : Ct) (tg : Expr) (ws : List Nat) (g : Tgt) : Prop where
  run : ∀ X, C.Of X → ∀ Z m v σ H ρ h x Q ρ', Rl C Z m H h → EnvV C Z m H σ ρ → Dv C.K C.ly Z m H v x → g x ρ = some ρ' → (∀ σ', EnvV C Z m H σ' ρ' → σ'.length = σ.length → (∀ j, j ∉ ws → σ'[j]? = σ[j]?) → Q σ' H) → RunG X tg v σ H Q
structure SGs (C : Ct) (tgs : List Expr) (ws : List Nat) (g : List Vl → En → Option En) : Prop where
  run : ∀ X, C.Of X → ∃ t, PGs X tgs t ∧ ∀ Z m vs σ H ρ h xs Q ρ', Rl C Z m H h → EnvV C Z m H σ ρ → Dvs C.K C.ly Z m H vs xs → g xs ρ = some ρ' → (∀ σ', EnvV C Z m H σ' ρ' → σ'.length = σ.length → (∀ j, j ∉ ws → σ'[j]? = σ[j]?) → Q σ' H) → t vs σ H Q
def gN (i : Nat) : Tgt := fun x ρ => some (ρ.set i (some x))
def gsNil : List Vl → En → Option En := fun xs ρ => match xs with
  | [] => some ρ
  | _ => none
def gsCons (g : Tgt) (gs : List Vl → En → Option En) : List Vl → En → Option En := fun xs ρ => match xs with
  | x :: r => match g x ρ with
    | some ρ1 => gs r ρ1
    | none => none
  | [] => none
def gT (gs : List Vl → En → Option En) : Tgt := fun x ρ => match x with
  | .d (.tup l) => gs (l.map Vl.d) ρ
  | _ => none
def LocN (C : Ct) (x : Str) : Prop := C.sc.names.lookup x = some .local
section
variable {C : Ct} {pos : Pos}
theorem sg_name {i : Nat} {x : Str} (nd : C.N.Nodup) (hi : C.N[i]? = some x) (hx : LocN C x) : SG C (.Name x pos) [i] (gN i) := ⟨fun X o Z m v σ H ρ h y Q ρ' r env hv e k => by
  cases e
  exact PGw (pg_name (by rw [o.N]; exact nd) (by rw [o.N]; exact hi) (.inl (by rw [o.sc]; exact hx)) (.inr (by rw [o.sc]; exact hx))) (k _ (env.set hv) (by rw [List.length_set]) (fun j hj => List.getElem?_set_ne (fun z => hj (by simp [z]))))⟩
theorem sg_nameC {i : Nat} {x : Str} (nd : C.N.Nodup) (hi : C.N[i]? = some x) (hx : C.sc.names.lookup x = some .cell) (hf : C.fn = true) : SG C (.Name x pos) [i] (gN i) := ⟨fun X o Z m v σ H ρ h y Q ρ' r env hv e k => by
  cases e
  exact PGw (pg_name (by rw [o.N]; exact nd) (by rw [o.N]; exact hi) (.inr (by rw [o.sc]; exact hx)) (.inl (o.fns hf x))) (k _ (env.set hv) (by rw [List.length_set]) (fun j hj => List.getElem?_set_ne (fun z => hj (by simp [z]))))⟩
theorem sgs_nil : SGs C [] [] gsNil := ⟨fun X o => ⟨_, pgs_nil, fun Z m vs σ H ρ h xs Q ρ' r env hv e k => by
  cases hv with
  | nil => cases e; exact ⟨rfl, k σ env rfl fun _ _ => rfl⟩
  | cons _ _ => cases e⟩⟩
theorem sgs_cons {t : Expr} {ts : List Expr} {ws1 ws2 : List Nat} {g : Tgt} {gs : List Vl → En → Option En} (hs : ∀ env, (assignEach (t :: ts) env).map (·.2) = assign t env :: (assignEach ts env).map (·.2)) (h1 : SG C t ws1 g) (h2 : SGs C ts ws2 gs) : SGs C (t :: ts) (ws1 ++ ws2) (gsCons g gs) := ⟨fun X o => by
  obtain ⟨t2, p2, k2⟩ := h2.run X o
  refine ⟨_, pgs_cons pg_w p2 (hs _), fun Z m vs σ H ρ h xs Q ρ' r env hv e k => ?_⟩
  cases hv with
  | nil => cases e
  | @cons v vs x xs q qs =>
    refine ⟨v, vs, rfl, ?_⟩
    unfold gsCons at e
    dsimp only at e
    cases z : g x ρ with
    | none => rw [z] at e; cases e
    | some ρ1 =>
      rw [z] at e
      refine h1.run X o Z m v σ H ρ h x _ ρ1 r env q z fun σ1 en1 l1 w1 => ?_
      exact k2 Z m vs σ1 H ρ1 h xs Q ρ' r en1 qs e fun σ2 en2 l2 w2 => k σ2 en2 (l2.trans l1) fun j hj => by rw [w2 j (fun z => hj (List.mem_append_right _ z)), w1 j (fun z => hj (List.mem_append_left _ z))]⟩
/-- how many targets there are -/
def gT' (n : Nat) (gs : List Vl → En → Option En) : Tgt := fun x ρ => match x with
  | .d (.tup l) => match decide (l.length = n) with
    | true => gs (l.map Vl.d) ρ
    | false => none
  | _ => none
theorem sg_tup {ts : List Expr} {k n : Nat} {ws : List Nat} {gs : List Vl → En → Option En} (hc : C.calm = true) (hn : ∀ env, (assignEach ts env).length = n) (hst : ∀ env, (assignEach ts env).findIdx? (·.1) = none) (h : SGs C ts ws gs) : SG C (.Tuple ts k pos) ws (gT' n gs) := ⟨fun X o Z m v σ H ρ hh x Q ρ' r env hv e kk => by
  obtain ⟨t, p, k2⟩ := h.run X o
  refine PGw (pg_tup (n := n) (by rw [o.calm]; exact hc) p (hn _) (hst _)) ?_
  cases x with
  | r n => cases e
  | d y =>
    cases y with
    | tup l =>
      unfold gT' at e
      dsimp only at e
      by_cases hl : l.length = n
      · rw [decide_eq_true hl] at e
        obtain ⟨a, xs, rfl, h1, h2⟩ := Di.tup_inv hv
        exact ⟨a, xs, rfl, sqT_of h1, by rw [h2.length]; exact hl, k2 Z m xs σ H ρ hh _ Q ρ' r env (all_dvs h2) e kk⟩
      · rw [decide_eq_false hl] at e; cases e
    | _ => cases e⟩
end
/-! ### comprehensions -/
def rl (scope sc : Scope) : Scope := { scope with names := scope.names.map fun (n, k) => if (k == .free && sc.kind == .function && sc.names.lookup n == some .cell) then (n, .cell) else (n, k) }
def wipeR (ρ : En) : List Nat → En
  | [] => ρ
  | v :: vs => (wipeR ρ vs).set v none
theorem env_wipe {C : Ct} {Z m : List Addr} {H : Hp} {σ : St} {ρ : En} (e : EnvV C Z m H σ ρ) : ∀ vs : List Nat, EnvV C Z m H (wipe σ vs) (wipeR ρ vs)
  | [] => e
  | v :: vs => (env_wipe e vs).drop
def Ct.blk (C : Ct) (scope : Scope) : Ct := { C with sc := rl scope C.sc, fn := false }
theorem of_blk {C : Ct} {X : Cx} (o : C.Of X) (s : Shared) (H : Hp) (scope : Scope) (cl : List (Str × Addr)) (Cc : Addr) (fp : List Addr) : (C.blk scope).Of (X.blk s H scope (compEnvC scope cl Cc X.env) fp) := by
  refine ⟨o.prog, o.w, o.K, o.mg, o.base, o.N, ?_, o.calm, o.units, o.room, (fun z => nomatch z), o.code, (fun z => nomatch z), o.rm⟩
  show relabel scope X.env = rl scope C.sc
  rw [← o.sc] <;> rfl
/-- the relations do not look at the scope -/
theorem Rl.blk {C : Ct} {scope : Scope} {Z m : List Addr} {H : Hp} {h : Hs} (r : Rl C Z m H h) : Rl (C.blk scope) Z m H h := ⟨r.nd, r.disj, r.len, r.za, r.notup, r.own, r.ma, r.ob⟩
theorem Rl.unblk {C : Ct} {scope : Scope} {Z m : List Addr} {H : Hp} {h : Hs} (r : Rl (C.blk scope) Z m H h) : Rl C Z m H h := ⟨r.nd, r.disj, r.len, r.za, r.notup, r.own, r.ma, r.ob⟩
theorem EnvV.blk {C : Ct} {scope : Scope} {Z m : List Addr} {H : Hp} {σ : St} {ρ : En} (e : EnvV C Z m H σ ρ) : EnvV (C.blk scope) Z m H σ ρ := ⟨e.len, e.get⟩
theorem EnvV.unblk {C : Ct} {scope : Scope} {Z m : List Addr} {H : Hp} {σ : St} {ρ : En} (e : EnvV (C.blk scope) Z m H σ ρ) : EnvV C Z m H σ ρ := ⟨e.len, e.get⟩
/-- tests of a comprehension -/
def RunTs (X : Cx) (ifs : List Expr) : TT := fun σ H Q => ∀ (pins : List (Addr × Obj)) (s : Shared), Inv X pins σ H s →
    wpAny (model X.prog X.w) X.A (forIn ifs true fun c r => if r = true then do let ok ← isTrue c X.env (eval c X.env); pure (ForInStep.yield ok) else pure (ForInStep.yield r)) (TP X pins σ Q) X.xe s
theorem PTsw {X : Cx} {ifs : List Expr} {t : TT} (h : PTs X ifs t) {σ : St} {H : Hp} {Q : Bool → Hp → Prop} (q : t σ H Q) : RunTs X ifs σ H Q := fun pins s I => h.run pins s σ H Q I q
structure SIf (C : Ct) (ifs : List Expr) (f : DenT) : Prop where
  run : ∀ X, C.Of X → ∀ W, TakesV C.dt X W → ∀ Z m σ H ρ h Q, Rl C Z m H h → EnvV C Z m H σ ρ → TOk C W Z σ m H Q (f ρ h) → RunTs X ifs σ H Q
def yesT : DenT := fun _ h => .ok true h
theorem sif_nil {C : Ct} : SIf C [] yesT := ⟨fun X o W tk Z m σ H ρ h Q r env q => PTsw pts_nil (q m H (Evo.refl _ _) r)⟩
def lcL (g : Tgt) (t : DenT) (f : Den) (ρ : En) : List Dt → Hs → Res (List Dt)
  | [], h => .ok [] h
  | d :: ds, h => match g (.d d) ρ with
    | none => .bad
    | some ρ1 => match t ρ1 h with
      | .ok true h1 => match f ρ1 h1 with
        | .ok (.d y) h2 => match lcL g t f ρ ds h2 with
          | .ok ys h3 => .ok (y :: ys) h3
          | _ => .bad
        | _ => .bad
      | .ok false h1 => lcL g t f ρ ds h1
      | _ => .bad
/-- .. over a list that may change -/
def lcR (n : Nat) (g : Tgt) (t : DenT) (f : Den) (ρ : En) : Nat → Nat → Hs → Res (List Dt)
  | 0, i, h => match h[n]? with
    | some (.lst l) => match decide (l.length ≤ i) with
      | true => .ok [] h
      | false => .bad
    | _ => .bad
  | k + 1, i, h => match h[n]? with
    | some (.lst l) => match l[i]? with
      | none => .bad
      | some d => match g (.d d) ρ with
        | none => .bad
        | some ρ1 => match t ρ1 h with
          | .ok true h1 => match f ρ1 h1 with
            | .ok (.d y) h2 => match lcR n g t f ρ k (i + 1) h2 with
              | .ok ys h3 => .ok (y :: ys) h3
              | _ => .bad
            | _ => .bad
          | .ok false h1 => lcR n g t f ρ k (i + 1) h1
          | _ => .bad
    | _ => .bad
def lcF (vs : List Nat) (src : DenI) (g : Tgt) (t : DenT) (f : Den) : DenD := fun ρ h => (src ρ h).bind fun s h1 => match s with
  | .fx ds => match decide (ds.length ≤ 100000) with
    | true => match lcL g t f (wipeR ρ vs) ds h1 with
      | .ok ys h2 => .ok (.lst ys) h2
      | _ => .bad
    | false => .bad
  | .rf n len => match decide (len ≤ 100000) with
    | true => match lcR n g t f (wipeR ρ vs) len 0 h1 with
      | .ok ys h2 => .ok (.lst ys) h2
      | _ => .bad
    | false => .bad
section
variable {C : Ct} {Z m : List Addr} {H : Hp} {h : Hs}
theorem EnvV.keeps {Z' m' : List Addr} {H' : Hp} {σ : St} {ρ : En} (e : EnvV C Z m H σ ρ) (k : Keeps (Z ++ m) H (Z' ++ m') H') (hm : ∀ (n : Nat) (a : Addr), m[n]? = some a → m'[n]? = some a) : EnvV C Z' m' H' σ ρ := ⟨e.len, fun i x hx => by
  obtain ⟨v, h1, h2⟩ := e.get i x hx
  refine ⟨v, h1, ?_⟩
  cases x with
  | d y => exact Di.mono C.lok k h2
  | r n => obtain ⟨a, q1, q2⟩ := h2; exact ⟨a, hm n a q1, q2⟩⟩
end
theorem wipe_get {σ : St} {j : Nat} : ∀ vs : List Nat, (wipe σ vs)[j]? = if j ∈ vs ∧ j < σ.length then some none else σ[j]?
  | [] => by simp [wipe]
  | v :: vs => by
    unfold wipe
    rw [List.getElem?_set, wipe_length, wipe_get vs]
    by_cases h1 : v = j
    · subst h1
      by_cases h2 : v < σ.length
      · simp [h2]
      · simp [h2, List.getElem?_eq_none (Nat.le_of_not_lt h2)]
    · have h3 : ¬ j = v := fun z => h1 z.symm
      simp [h1, h3]
theorem wipe_eq {σ σ' : St} {ws vs : List Nat} (hl : σ'.length = (wipe σ vs).length) (h : ∀ j, j ∉ ws → σ'[j]? = (wipe σ vs)[j]?) (hw : ∀ j ∈ ws, j ∈ vs) : wipe σ' vs = wipe σ vs := by
  have hl' : σ'.length = σ.length := by rw [hl, wipe_length]
  refine List.ext_getElem? fun j => ?_
  rw [wipe_get, wipe_get, hl']
  by_cases hj : j ∈ vs ∧ j < σ.length
  · rw [if_pos hj, if_pos hj]
  · rw [if_neg hj, if_neg hj]
    by_cases hv : j ∈ vs
    · have : ¬ j < σ.length := fun z => hj ⟨hv, z⟩
      rw [List.getElem?_eq_none (by rw [hl']; omega), List.getElem?_eq_none (by omega)]
    · rw [h j (fun z => hv (hw j z)), wipe_get, if_neg hj]
def NoFold (it : Expr) : Prop := ∀ env x, foldedSetIterable it env x = pure x
section
variable {C : Ct} {elt tg it : Expr} {ifs : List Expr} {scope : Scope} {own : List (Str × Nat)} {pos : Pos} {src : DenI} {g : Tgt} {t : DenT} {f : Den} {ws : List Nat}
/-- the turns of a comprehension -/
theorem lc_turns {X : Cx} (o : C.Of X) (hws : ∀ j ∈ ws, j ∈ own.map (·.2)) (hg : SG (C.blk scope) tg ws g) (ht : SIf (C.blk scope) ifs t) (hf : SE (C.blk scope) elt f) {Z m : List Addr} {σ : St} {H : Hp} {ρ : En} {h : Hs} {J : It} {ds ys : List Dt} {h2 : Hs} {Q : VK}
    (r : Rl C Z m H h) (env : EnvV C Z m H σ ρ) (itd : ItV C Z m H J (.fx ds)) (hz : ds.length ≤ 100000) (hl : lcL g t f (wipeR ρ (own.map (·.2))) ds h = .ok ys h2)
    (q : ∀ a m' H', Evo m H m' H' → Rl C (a :: Z) m' H' h2 → H a = none → Fr C (a :: Z ++ m') H' a (.lst ys) → Q (.ref a) H') :
    ∀ D, H D = none → ∃ W : Nat → Nat → Hp → Prop, (∃ m, W 0 m (upd H D (.lst []))) ∧ ∀ i m H, W i m H →
      (J.stop i H ∧ Q (.ref D) H) ∨ (J.go i H ∧ ∃ Nx : Hp → Prop, (∀ H', Nx H' → ∃ m', m' < m ∧ W (i + 1) m' H') ∧ ∀ x H', J.yld i H x H' → (∀ s Hh Cc cl fp, RunG (X.blk s Hh scope (compEnvC scope cl Cc X.env) fp) tg x (wipe σ (own.map (·.2))) H' fun σ2 H2 => wipe σ2 (own.map (·.2)) = wipe σ (own.map (·.2)) ∧
        (∀ s Hh Cc cl fp, RunTs (X.blk s Hh scope (compEnvC scope cl Cc X.env) fp) ifs σ2 H2 fun b H3 =>
          if b = true then (∀ s Hh Cc cl fp, RunE (X.blk s Hh scope (compEnvC scope cl Cc X.env) fp) elt σ2 H3 fun y H4 => ∃ acc, H4 D = some (.lst acc) ∧ acc.length < sizeLine ∧ Nx (upd H4 D (.lst (acc ++ [y])))) else Nx H3))) := by
  intro D hD
  obtain ⟨r0, k0⟩ := r.addZ (o := .lst []) hD (by intro xs z; cases z)
  have zz : ∀ a ∈ D :: Z, a ∈ Z ∨ H a = none := fun a ha => by
    rcases List.mem_cons.mp ha with z | z
    · rw [z]; exact .inr hD
    · exact .inl z
  refine ⟨fun i mm H' => mm = ds.length - i ∧ i ≤ ds.length ∧ ∃ m' h' acc accD rest, Evo m H m' H' ∧ Rl C (D :: Z) m' H' h' ∧ H' D = some (.lst acc) ∧ Dis C.K C.ly (D :: Z ++ m') H' acc accD ∧ lcL g t f (wipeR ρ (own.map (·.2))) (ds.drop i) h' = .ok rest h2 ∧ ys = accD ++ rest ∧ accD.length ≤ i,
    ⟨ds.length, by simp, Nat.zero_le _, m, h, [], [], ys, Evo.ex (Ex.new hD), r0, upd_same, .nil, by rw [List.drop_zero]; exact hl, rfl, Nat.le_refl _⟩, ?_⟩
  rintro i mm H' ⟨rfl, hle, m', h', acc, accD, rest, e', r', hD', dacc, hrest, hys, hacc⟩
  obtain ⟨i1, i2⟩ := itd (D :: Z) m' H' h' zz e' r' i
  by_cases hlt : i < ds.length
  · obtain ⟨go, yl⟩ := i1 ds[i] (by simp [hlt])
    rw [List.drop_eq_getElem_cons hlt] at hrest
    unfold lcL at hrest
    cases z1 : g (.d ds[i]) (wipeR ρ (own.map (·.2))) with
    | none => rw [z1] at hrest; cases hrest
    | some ρ1 =>
      rw [z1] at hrest
      dsimp only at hrest
      refine .inr ⟨go, fun H5 => ∃ m5 h5 acc5 accD5 rest5, Evo m H m5 H5 ∧ Rl C (D :: Z) m5 H5 h5 ∧ H5 D = some (.lst acc5) ∧ Dis C.K C.ly (D :: Z ++ m5) H5 acc5 accD5 ∧ lcL g t f (wipeR ρ (own.map (·.2))) (ds.drop (i + 1)) h5 = .ok rest5 h2 ∧ ys = accD5 ++ rest5 ∧ accD5.length ≤ i + 1, fun H5 p5 => ⟨ds.length - (i + 1), by omega, rfl, hlt, p5⟩, fun x H'' y s Hh Cc cl fp => ?_⟩
      obtain ⟨ex, dx⟩ := yl x H'' y
      have o1 := of_blk o s Hh scope cl Cc fp
      have r1 := (r'.ex ex).blk (scope := scope)
      have en0 : EnvV C (D :: Z) m' H'' σ ρ := env.keeps (r.keepsZ zz (e'.trans (Evo.ex ex))) fun n a hn => (e'.trans (Evo.ex ex)).get hn
      have en1 : EnvV (C.blk scope) (D :: Z) m' H'' (wipe σ (own.map (·.2))) (wipeR ρ (own.map (·.2))) := (env_wipe en0 _).blk
      refine hg.run _ o1 (D :: Z) m' x _ H'' _ h' (.d ds[i]) _ ρ1 r1 en1 dx z1 fun σ2 en2 l2 w2 => ⟨wipe_eq l2 w2 hws, fun s Hh Cc cl fp => ?_⟩
      have o2 := of_blk o s Hh scope cl Cc fp
      refine ht.run _ o2 _ takes0V (D :: Z) m' σ2 H'' ρ1 h' _ r1 en2 ?_
      have hDx : H'' D = some (.lst acc) := ex _ _ hD'
      have dacc1 : Dis C.K C.ly (D :: Z ++ m') H'' acc accD := dacc.mono C.lok (keeps_ex ex)
      cases z2 : t ρ1 h' with
      | bad => rw [z2] at hrest; cases hrest
      | exc e1 h1 => rw [z2] at hrest; cases hrest
      | ok b h1 =>
        rw [z2] at hrest
        intro m3 H3 e3 r3
        have nD3 : D ∉ m' := fun z => r'.disj D z (List.mem_cons_self)
        have hD3 : H3 D = some (.lst acc) := e3.keep _ _ hDx nD3
        have dacc3 : Dis C.K C.ly (D :: Z ++ m3) H3 acc accD := dacc1.mono C.lok ((r1.unblk).keeps e3)
        cases b with
        | false => exact iteF ⟨m3, h1, acc, accD, rest, (e'.trans (Evo.ex ex)).trans e3, r3.unblk, hD3, dacc3, hrest, hys, by omega⟩
        | true =>
          refine iteT fun s Hh Cc cl fp => ?_
          have o3 := of_blk o s Hh scope cl Cc fp
          dsimp only at hrest
          refine hf.run _ o3 _ takes0V (D :: Z) m3 σ2 H3 ρ1 h1 _ r3 (en2.mono r1 e3) ?_
          cases z3 : f ρ1 h1 with
          | bad => rw [z3] at hrest; cases hrest
          | exc e1 h1' => rw [z3] at hrest; cases hrest
          | ok yv h4 =>
            rw [z3] at hrest
            cases yv with
            | r n => cases hrest
            | d yd =>
              dsimp only at hrest
              intro v m4 H4 e4 r4 d4
              have nD4 : D ∉ m3 := fun z => r3.disj D z (List.mem_cons_self)
              have hD4 : H4 D = some (.lst acc) := e4.keep _ _ hD3 nD4
              have dacc4 : Dis C.K C.ly (D :: Z ++ m4) H4 acc accD := dacc3.mono C.lok (r3.unblk.keeps e4)
              have kk : Keeps (D :: Z ++ m4) H4 (D :: Z ++ m4) (upd H4 D (.lst (acc ++ [v]))) := keeps_upd (by simp) (fun xs z => by rw [hD4] at z; cases z) fun xs z => by rw [hD4] at z; cases z
              have hlen : acc.length = accD.length := dacc4.length
              cases z4 : lcL g t f (wipeR ρ (own.map (·.2))) (ds.drop (i + 1)) h4 with
              | bad => rw [z4] at hrest; cases hrest
              | exc e1 h1' => rw [z4] at hrest; cases hrest
              | ok rest' h5 =>
                rw [z4] at hrest
                cases hrest
                have d4' : Di C.K C.ly (D :: Z ++ m4) H4 v yd := d4
                have eall : Evo m H m4 H4 := ((e'.trans (Evo.ex ex)).trans e3).trans e4
                have eu : Evo m H m4 (upd H4 D (.lst (acc ++ [v]))) := by
                  refine ⟨fun a u ha na => ?_, fun a u ha => ?_, eall.more⟩
                  · rw [upd_ne (fun z => by rw [z, hD] at ha; cases ha)]; exact eall.keep a u ha na
                  · by_cases z : a = D
                    · rw [z, upd_same]; exact ⟨_, rfl⟩
                    · rw [upd_ne z]; exact eall.there a u ha
                refine ⟨acc, hD4, sz_lt (by rw [hlen]; omega), m4, h4, acc ++ [v], accD ++ [yd], rest', eu, r4.unblk.updZ (List.mem_cons_self) hD4 (by intro xs z; cases z) (by intro y z; cases y <;> first | cases z | exact dg_code z | exact dg_code (Option.some.inj z) | exact slo_code z | exact slo_code (Option.some.inj z)), upd_same, (dacc4.append (.cons d4' .nil)).mono C.lok kk, z4, by rw [hys, List.append_assoc]; rfl, by rw [List.length_append]; show accD.length + 1 ≤ i + 1; omega⟩
  · have e : i = ds.length := by omega
    subst e
    rw [List.drop_length] at hrest
    cases hrest
    rw [List.append_nil] at hys
    subst hys
    exact .inl ⟨i2 (Nat.le_refl _), q D m' H' e' r' hD ⟨acc, hD', dacc⟩⟩
theorem lc_turnsR {X : Cx} (o : C.Of X) (hws : ∀ j ∈ ws, j ∈ own.map (·.2)) (hg : SG (C.blk scope) tg ws g) (ht : SIf (C.blk scope) ifs t) (hf : SE (C.blk scope) elt f) {Z m : List Addr} {σ : St} {H : Hp} {ρ : En} {h : Hs} {J : It} {n len : Nat} {ys : List Dt} {h2 : Hs} {Q : VK}
    (r : Rl C Z m H h) (env : EnvV C Z m H σ ρ) (itd : ItV C Z m H J (.rf n len)) (hz : len ≤ 100000) (hl : lcR n g t f (wipeR ρ (own.map (·.2))) len 0 h = .ok ys h2)
    (q : ∀ a m' H', Evo m H m' H' → Rl C (a :: Z) m' H' h2 → H a = none → Fr C (a :: Z ++ m') H' a (.lst ys) → Q (.ref a) H') :
    ∀ D, H D = none → ∃ W : Nat → Nat → Hp → Prop, (∃ m, W 0 m (upd H D (.lst []))) ∧ ∀ i m H, W i m H →
      (J.stop i H ∧ Q (.ref D) H) ∨ (J.go i H ∧ ∃ Nx : Hp → Prop, (∀ H', Nx H' → ∃ m', m' < m ∧ W (i + 1) m' H') ∧ ∀ x H', J.yld i H x H' → (∀ s Hh Cc cl fp, RunG (X.blk s Hh scope (compEnvC scope cl Cc X.env) fp) tg x (wipe σ (own.map (·.2))) H' fun σ2 H2 => wipe σ2 (own.map (·.2)) = wipe σ (own.map (·.2)) ∧
        (∀ s Hh Cc cl fp, RunTs (X.blk s Hh scope (compEnvC scope cl Cc X.env) fp) ifs σ2 H2 fun b H3 =>
          if b = true then (∀ s Hh Cc cl fp, RunE (X.blk s Hh scope (compEnvC scope cl Cc X.env) fp) elt σ2 H3 fun y H4 => ∃ acc, H4 D = some (.lst acc) ∧ acc.length < sizeLine ∧ Nx (upd H4 D (.lst (acc ++ [y])))) else Nx H3))) := by
  intro D hD
  obtain ⟨r0, k0⟩ := r.addZ (o := .lst []) hD (by intro xs z; cases z)
  have zz : ∀ a ∈ D :: Z, a ∈ Z ∨ H a = none := fun a ha => by
    rcases List.mem_cons.mp ha with z | z
    · rw [z]; exact .inr hD
    · exact .inl z
  refine ⟨fun i mm H' => mm = len - i ∧ i ≤ len ∧ ∃ m' h' acc accD rest, Evo m H m' H' ∧ Rl C (D :: Z) m' H' h' ∧ H' D = some (.lst acc) ∧ Dis C.K C.ly (D :: Z ++ m') H' acc accD ∧ lcR n g t f (wipeR ρ (own.map (·.2))) (len - i) i h' = .ok rest h2 ∧ ys = accD ++ rest ∧ accD.length ≤ i,
    ⟨len, by simp, Nat.zero_le _, m, h, [], [], ys, Evo.ex (Ex.new hD), r0, upd_same, .nil, hl, rfl, Nat.le_refl _⟩, ?_⟩
  rintro i mm H' ⟨rfl, hle, m', h', acc, accD, rest, e', r', hD', dacc, hrest, hys, hacc⟩
  by_cases hlt : i < len
  · obtain ⟨kk0, hkk⟩ : ∃ kk, len - i = kk + 1 := ⟨len - i - 1, by omega⟩
    have hk2 : len - (i + 1) = kk0 := by omega
    rw [hkk] at hrest
    unfold lcR at hrest
    cases z0 : h'[n]? with
    | none => rw [z0] at hrest; cases hrest
    | some ob =>
    rw [z0] at hrest
    cases ob with
    | dct _ _ => cases hrest
    | dck _ _ => cases hrest
    | ins _ _ => cases hrest
    | gone => cases hrest
    | lst l =>
    dsimp only at hrest
    obtain ⟨i1, i2⟩ := itd (D :: Z) m' H' h' l zz e' r' z0 i
    cases z9 : l[i]? with
    | none => rw [z9] at hrest; cases hrest
    | some dd =>
    rw [z9] at hrest
    dsimp only at hrest
    obtain ⟨go, yl⟩ := i1 dd z9
    cases z1 : g (.d dd) (wipeR ρ (own.map (·.2))) with
    | none => rw [z1] at hrest; cases hrest
    | some ρ1 =>
      rw [z1] at hrest
      dsimp only at hrest
      refine .inr ⟨go, fun H5 => ∃ m5 h5 acc5 accD5 rest5, Evo m H m5 H5 ∧ Rl C (D :: Z) m5 H5 h5 ∧ H5 D = some (.lst acc5) ∧ Dis C.K C.ly (D :: Z ++ m5) H5 acc5 accD5 ∧ lcR n g t f (wipeR ρ (own.map (·.2))) kk0 (i + 1) h5 = .ok rest5 h2 ∧ ys = accD5 ++ rest5 ∧ accD5.length ≤ i + 1, fun H5 p5 => ⟨len - (i + 1), by omega, rfl, hlt, by rw [hk2]; exact p5⟩, fun x H'' y s Hh Cc cl fp => ?_⟩
      obtain ⟨ex, dx⟩ := yl x H'' y
      have o1 := of_blk o s Hh scope cl Cc fp
      have r1 := (r'.ex ex).blk (scope := scope)
      have en0 : EnvV C (D :: Z) m' H'' σ ρ := env.keeps (r.keepsZ zz (e'.trans (Evo.ex ex))) fun n a hn => (e'.trans (Evo.ex ex)).get hn
      have en1 : EnvV (C.blk scope) (D :: Z) m' H'' (wipe σ (own.map (·.2))) (wipeR ρ (own.map (·.2))) := (env_wipe en0 _).blk
      refine hg.run _ o1 (D :: Z) m' x _ H'' _ h' (.d dd) _ ρ1 r1 en1 dx z1 fun σ2 en2 l2 w2 => ⟨wipe_eq l2 w2 hws, fun s Hh Cc cl fp => ?_⟩
      have o2 := of_blk o s Hh scope cl Cc fp
      refine ht.run _ o2 _ takes0V (D :: Z) m' σ2 H'' ρ1 h' _ r1 en2 ?_
      have hDx : H'' D = some (.lst acc) := ex _ _ hD'
      have dacc1 : Dis C.K C.ly (D :: Z ++ m') H'' acc accD := dacc.mono C.lok (keeps_ex ex)
      cases z2 : t ρ1 h' with
      | bad => rw [z2] at hrest; cases hrest
      | exc e1 h1 => rw [z2] at hrest; cases hrest
      | ok b h1 =>
        rw [z2] at hrest
        intro m3 H3 e3 r3
        have nD3 : D ∉ m' := fun z => r'.disj D z (List.mem_cons_self)
        have hD3 : H3 D = some (.lst acc) := e3.keep _ _ hDx nD3
        have dacc3 : Dis C.K C.ly (D :: Z ++ m3) H3 acc accD := dacc1.mono C.lok ((r1.unblk).keeps e3)
        cases b with
        | false => exact iteF ⟨m3, h1, acc, accD, rest, (e'.trans (Evo.ex ex)).trans e3, r3.unblk, hD3, dacc3, hrest, hys, by omega⟩
        | true =>
          refine iteT fun s Hh Cc cl fp => ?_
          have o3 := of_blk o s Hh scope cl Cc fp
          dsimp only at hrest
          refine hf.run _ o3 _ takes0V (D :: Z) m3 σ2 H3 ρ1 h1 _ r3 (en2.mono r1 e3) ?_
          cases z3 : f ρ1 h1 with
          | bad => rw [z3] at hrest; cases hrest
          | exc e1 h1' => rw [z3] at hrest; cases hrest
          | ok yv h4 =>
            rw [z3] at hrest
            cases yv with
            | r n => cases hrest
            | d yd =>
              dsimp only at hrest
              intro v m4 H4 e4 r4 d4
              have nD4 : D ∉ m3 := fun z => r3.disj D z (List.mem_cons_self)
              have hD4 : H4 D = some (.lst acc) := e4.keep _ _ hD3 nD4
              have dacc4 : Dis C.K C.ly (D :: Z ++ m4) H4 acc accD := dacc3.mono C.lok (r3.unblk.keeps e4)
              have kk : Keeps (D :: Z ++ m4) H4 (D :: Z ++ m4) (upd H4 D (.lst (acc ++ [v]))) := keeps_upd (by simp) (fun xs z => by rw [hD4] at z; cases z) fun xs z => by rw [hD4] at z; cases z
              have hlen : acc.length = accD.length := dacc4.length
              cases z4 : lcR n g t f (wipeR ρ (own.map (·.2))) kk0 (i + 1) h4 with
              | bad => rw [z4] at hrest; cases hrest
              | exc e1 h1' => rw [z4] at hrest; cases hrest
              | ok rest' h5 =>
                rw [z4] at hrest
                cases hrest
                have d4' : Di C.K C.ly (D :: Z ++ m4) H4 v yd := d4
                have eall : Evo m H m4 H4 := ((e'.trans (Evo.ex ex)).trans e3).trans e4
                have eu : Evo m H m4 (upd H4 D (.lst (acc ++ [v]))) := by
                  refine ⟨fun a u ha na => ?_, fun a u ha => ?_, eall.more⟩
                  · rw [upd_ne (fun z => by rw [z, hD] at ha; cases ha)]; exact eall.keep a u ha na
                  · by_cases z : a = D
                    · rw [z, upd_same]; exact ⟨_, rfl⟩
                    · rw [upd_ne z]; exact eall.there a u ha
                refine ⟨acc, hD4, sz_lt (by rw [hlen]; omega), m4, h4, acc ++ [v], accD ++ [yd], rest', eu, r4.unblk.updZ (List.mem_cons_self) hD4 (by intro xs z; cases z) (by intro y z; cases y <;> first | cases z | exact dg_code z | exact dg_code (Option.some.inj z) | exact slo_code z | exact slo_code (Option.some.inj z)), upd_same, (dacc4.append (.cons d4' .nil)).mono C.lok kk, z4, by rw [hys, List.append_assoc]; rfl, by rw [List.length_append]; show accD.length + 1 ≤ i + 1; omega⟩
  · have e : i = len := by omega
    subst e
    rw [Nat.sub_self] at hrest
    unfold lcR at hrest
    cases z0 : h'[n]? with
    | none => rw [z0] at hrest; cases hrest
    | some ob =>
    rw [z0] at hrest
    cases ob with
    | dct _ _ => cases hrest
    | dck _ _ => cases hrest
    | ins _ _ => cases hrest
    | gone => cases hrest
    | lst l =>
    dsimp only at hrest
    obtain ⟨i1, i2⟩ := itd (D :: Z) m' H' h' l zz e' r' z0 i
    by_cases hl9 : l.length ≤ i
    case neg => rw [decide_eq_false hl9] at hrest; cases hrest
    rw [decide_eq_true hl9] at hrest
    cases hrest
    rw [List.append_nil] at hys
    subst hys
    exact .inl ⟨i2 hl9, q D m' H' e' r' hD ⟨acc, hD', dacc⟩⟩
theorem sf_lc (hc : C.calm = true) (nd : C.N.Nodup) (nf : NoFold it) (ok : BlkOk C.N C.sc scope own) (hws : ∀ j ∈ ws, j ∈ own.map (·.2)) (hi : SI C tg it src) (hg : SG (C.blk scope) tg ws g) (ht : SIf (C.blk scope) ifs t) (hf : SE (C.blk scope) elt f) : SF C (.ListComp elt [⟨tg, it, ifs, 0⟩] scope pos) (lcF (own.map (·.2)) src g t f) := ⟨fun X o W tk Z m σ H ρ h Q r env q => by
  obtain ⟨wi, pi, hwi⟩ := hi.run X o W tk
  refine PEw (pe_lc (own := own) (wi := wi) (g := fun x σ H Q => ∀ s Hh Cc cl fp, RunG (X.blk s Hh scope (compEnvC scope cl Cc X.env) fp) tg x σ H Q) (tt := fun σ H Q => ∀ s Hh Cc cl fp, RunTs (X.blk s Hh scope (compEnvC scope cl Cc X.env) fp) ifs σ H Q)
    (te := fun σ H Q => ∀ s Hh Cc cl fp, RunE (X.blk s Hh scope (compEnvC scope cl Cc X.env) fp) elt σ H Q) (by rw [o.calm]; exact hc) (by rw [o.N]; exact nd) pi (by rw [o.N, o.sc]; exact ok) (fun s Hh Cc cl fp => ⟨fun pins s1 σ1 H2 v1 u Q1 I r h => h s Hh Cc cl fp pins s1 u I r⟩)
    (fun s Hh Cc cl fp => ⟨fun pins s1 σ1 H2 Q1 I h => h s Hh Cc cl fp pins s1 I⟩) (fun s Hh Cc cl fp => ⟨fun pins s1 σ1 H2 Q1 I h => h s Hh Cc cl fp pins s1 I⟩) (nf _)) ?_
  refine hwi Z m σ H ρ h _ r env ?_
  unfold lcF at q
  cases z : src ρ h with
  | bad => rw [z] at q; exact q.elim
  | exc e h' => rw [z] at q; exact q
  | ok s h1 =>
    rw [z] at q
    dsimp only [Res.bind] at q
    cases s with
    | rf n len =>
      dsimp only at q
      by_cases hl : len ≤ 100000
      · rw [decide_eq_true hl] at q
        dsimp only at q
        intro J m1 H1 e1 r1 itd
        have en1 := env.mono r e1
        cases z2 : lcR n g t f (wipeR ρ (own.map (·.2))) len 0 h1 with
        | bad => rw [z2] at q; exact q.elim
        | exc e h' => rw [z2] at q; exact q.elim
        | ok ys h2 =>
          rw [z2] at q
          exact lc_turnsR o hws hg ht hf r1 en1 itd hl z2 fun a m' H' e' r' n fr => q a m' H' (e1.trans e') r' (e1.free n) fr
      · rw [decide_eq_false hl] at q; exact q.elim
    | fx ds =>
      dsimp only at q
      by_cases hl : ds.length ≤ 100000
      · rw [decide_eq_true hl] at q
        dsimp only at q
        intro J m1 H1 e1 r1 itd
        have en1 := env.mono r e1
        cases z2 : lcL g t f (wipeR ρ (own.map (·.2))) ds h1 with
        | bad => rw [z2] at q; exact q.elim
        | exc e h' => rw [z2] at q; exact q.elim
        | ok ys h2 =>
          rw [z2] at q
          exact lc_turns o hws hg ht hf r1 en1 itd hl z2 fun a m' H' e' r' n fr => q a m' H' (e1.trans e') r' (e1.free n) fr
      · rw [decide_eq_false hl] at q; exact q.elim⟩
end
end Vi

set_option maxRecDepth 100000
namespace Vi
open PySem L2 Evl
/-! ### statements -/
def bindS {α : Type} (r : Res α) (ρ : En) (k : α → Hs → ResS) : ResS := match r with
  | .ok x h1 => k x h1
  | .exc e h1 => .exc e ρ h1
  | .bad => .bad
def seqS (f g : DenS) : DenS := fun ρ h => match f ρ h with
  | .nx ρ1 h1 => g ρ1 h1
  | .rt x h1 => .rt x h1
  | .bk ρ1 h1 => .bk ρ1 h1
  | .ct ρ1 h1 => .ct ρ1 h1
  | .exc e ρ1 h1 => .exc e ρ1 h1
  | .bad => .bad
def skipS : DenS := fun ρ h => .nx ρ h
def brkS : DenS := fun ρ h => .bk ρ h
def contS : DenS := fun ρ h => .ct ρ h
def exprS (f : Den) : DenS := fun ρ h => bindS (f ρ h) ρ fun _ h1 => .nx ρ h1
def retS (f : Den) : DenS := fun ρ h => bindS (f ρ h) ρ fun x h1 => .rt x h1
def retNS : DenS := fun _ h => .rt (.d .non) h
def setS (i : Nat) (f : Den) : DenS := fun ρ h => bindS (f ρ h) ρ fun x h1 => .nx (ρ.set i (some x)) h1
def asgS (g : Tgt) (f : Den) : DenS := fun ρ h => bindS (f ρ h) ρ fun x h1 => match g x ρ with
  | some ρ1 => .nx ρ1 h1
  | none => .bad
def par2 (i j : Nat) (f g : Den) : DenS := fun ρ h => bindS (f ρ h) ρ fun x h1 => bindS (g ρ h1) ρ fun y h2 => .nx ((ρ.set i (some x)).set j (some y)) h2
def par3 (i j l : Nat) (f g k : Den) : DenS := fun ρ h => bindS (f ρ h) ρ fun x h1 => bindS (g ρ h1) ρ fun y h2 => bindS (k ρ h2) ρ fun z h3 => .nx (((ρ.set i (some x)).set j (some y)).set l (some z)) h3
def ifS (t : DenT) (f g : DenS) : DenS := fun ρ h => bindS (t ρ h) ρ fun b h1 => match b with
  | true => f ρ h1
  | false => g ρ h1
def forL (g : Tgt) (body : DenS) : List Dt → En → Hs → ResS
  | [], ρ, h => .nx ρ h
  | d :: ds, ρ, h => match g (.d d) ρ with
    | none => .bad
    | some ρ1 => match body ρ1 h with
      | .nx ρ2 h2 => forL g body ds ρ2 h2
      | .ct ρ2 h2 => forL g body ds ρ2 h2
      | .bk ρ2 h2 => .nx ρ2 h2
      | .rt x h2 => .rt x h2
      | .exc e ρ2 h2 => .exc e ρ2 h2
      | .bad => .bad
def forR (n : Nat) (g : Tgt) (body : DenS) : Nat → Nat → En → Hs → ResS
  | 0, i, ρ, h => match h[n]? with
    | some (.lst l) => match decide (l.length ≤ i) with
      | true => .nx ρ h
      | false => .bad
    | _ => .bad
  | k + 1, i, ρ, h => match h[n]? with
    | some (.lst l) => match l[i]? with
      | some d => match g (.d d) ρ with
        | none => .bad
        | some ρ1 => match body ρ1 h with
          | .nx ρ2 h2 => forR n g body k (i + 1) ρ2 h2
          | .ct ρ2 h2 => forR n g body k (i + 1) ρ2 h2
          | .bk ρ2 h2 => .nx ρ2 h2
          | .rt x h2 => .rt x h2
          | .exc e ρ2 h2 => .exc e ρ2 h2
          | .bad => .bad
      | none => .nx ρ h
    | _ => .bad
def forS (src : DenI) (g : Tgt) (body : DenS) : DenS := fun ρ h => bindS (src ρ h) ρ fun s h1 => match s with
  | .fx ds => forL g body ds ρ h1
  | .rf n len => forR n g body len 0 ρ h1
def whL (t : DenT) (body : DenS) : Nat → En → Hs → ResS
  | 0, _, _ => .bad
  | n + 1, ρ, h => match t ρ h with
    | .ok true h1 => match body ρ h1 with
      | .nx ρ2 h2 => whL t body n ρ2 h2
      | .ct ρ2 h2 => whL t body n ρ2 h2
      | .bk ρ2 h2 => .nx ρ2 h2
      | .rt x h2 => .rt x h2
      | .exc e ρ2 h2 => .exc e ρ2 h2
      | .bad => .bad
    | .ok false h1 => .nx ρ h1
    | .exc e h1 => .exc e ρ h1
    | .bad => .bad
/-- turns by the size of the int in a slot -/
def fuI (i : Nat) : En → Nat := fun ρ => match ρ[i]? with
  | some (some (Vl.d (Dt.int n))) => n.natAbs + 1
  | _ => 0
def whS (fu : En → Nat) (t : DenT) (body : DenS) : DenS := fun ρ h => whL t body (fu ρ) ρ h
section
variable {C : Ct} {W : WX} {Z m : List Addr} {H : Hp} {σ : St} {ρ : En} {h : Hs} {D : Ends}
theorem EOk.toS {r : Res Vl} {k : Vl → Hs → ResS} (rl : Rl C Z m H h) (env : EnvV C Z m H σ ρ) (q : SOk C W Z m H D (bindS r ρ k)) : EOk C W Z σ m H (fun v H' => ∃ m' x h', Evo m H m' H' ∧ Rl C Z m' H' h' ∧ Dv C.K C.ly Z m' H' v x ∧ SOk C W Z m' H' D (k x h')) r := by
  cases r with
  | ok x h' => exact fun v m' H' e r d => ⟨m', x, h', e, r, d, q.at e⟩
  | exc e h' => exact fun m' H' d e r x => q σ m' H' d e r (env.mono rl e) x
  | bad => exact q
theorem TOk.toS {r : Res Bool} {k : Bool → Hs → ResS} (rl : Rl C Z m H h) (env : EnvV C Z m H σ ρ) (q : SOk C W Z m H D (bindS r ρ k)) : TOk C W Z σ m H (fun b H' => ∃ m' h', Evo m H m' H' ∧ Rl C Z m' H' h' ∧ SOk C W Z m' H' D (k b h')) r := by
  cases r with
  | ok x h' => exact fun m' H' e r => ⟨m', h', e, r, q.at e⟩
  | exc e h' => exact fun m' H' d e r x => q σ m' H' d e r (env.mono rl e) x
  | bad => exact q
theorem IOk.toS {r : Res Src} {k : Src → Hs → ResS} (rl : Rl C Z m H h) (env : EnvV C Z m H σ ρ) (q : SOk C W Z m H D (bindS r ρ k)) : IOk C W Z σ m H (fun J H' => ∃ m' x h', Evo m H m' H' ∧ Rl C Z m' H' h' ∧ ItV C Z m' H' J x ∧ SOk C W Z m' H' D (k x h')) r := by
  cases r with
  | ok x h' => exact fun J m' H' e r i => ⟨m', x, h', e, r, i, q.at e⟩
  | exc e h' => exact fun m' H' d e r x => q σ m' H' d e r (env.mono rl e) x
  | bad => exact q
end
section
variable {C : Ct} {a b c e : Expr} {pos : Pos} {f g k : Den} {t : DenT} {st : Stmt} {rest bd el : List Stmt} {fs gs : DenS}
theorem sb_nil : SB C [] skipS := ⟨fun X o pn W tk Z m σ H ρ h D r env q => PBw pss_nil (q σ m H (Evo.refl _ _) r env)⟩
theorem sb_one (hs : SS C st fs) : SB C [st] fs := ⟨fun X o pn W tk Z m σ H ρ h D r env q => PBw (pss_one ps_w) (hs.run X o pn W tk Z m σ H ρ h D r env q)⟩
theorem sb_cons (hs : SS C st fs) (hr : SB C rest gs) : SB C (st :: rest) (seqS fs gs) := ⟨fun X o pn W tk Z m σ H ρ h D r env q => by
  refine PBw (pss_cons ps_w pb_w) (hs.run X o pn W tk Z m σ H ρ h _ r env ?_)
  unfold seqS at q
  cases z : fs ρ h with
  | nx ρ1 h1 =>
    rw [z] at q
    exact fun σ' m' H' e' r' env' => hr.run X o pn W tk Z m' σ' H' ρ1 h1 D r' env' (q.at e')
  | rt x h1 => rw [z] at q; exact q
  | bk x h1 => rw [z] at q; exact q
  | ct x h1 => rw [z] at q; exact q
  | exc e ρ1 h1 => rw [z] at q; exact q
  | bad => rw [z] at q; exact q⟩
theorem ss_expr (hq : ∀ env, swapsWith e none pos.line env = pure false) (he : SE C e f) : SS C (.Expr e pos) (exprS f) := ⟨fun X o pn W tk Z m σ H ρ h D r env q =>
  PSw (ps_expr pe_w (hq _)) (he.run X o W tk Z m σ H ρ h _ r env ((EOk.toS r env q).imp fun v H1 ⟨m1, x, h1, e1, r1, d1, q1⟩ => q1 σ m1 H1 (Evo.refl _ _) r1 (env.mono r e1)))⟩
theorem ss_ret (he : SE C e f) : SS C (.Return (some e) pos) (retS f) := ⟨fun X o pn W tk Z m σ H ρ h D r env q =>
  PSw (ps_ret pe_w) (he.run X o W tk Z m σ H ρ h _ r env ((EOk.toS r env q).imp fun v H1 ⟨m1, x, h1, e1, r1, d1, q1⟩ => q1 v m1 H1 (Evo.refl _ _) r1 d1))⟩
theorem ss_set {i : Nat} {x : Str} {pos' : Pos} (nd : C.N.Nodup) (hi : C.N[i]? = some x) (hx : LocN C x) (hs : ∀ env, swapsWith e (some (.Name x pos')) pos.line env = pure false) (he : SE C e f) : SS C (.Assign [.Name x pos'] e pos) (setS i f) := ⟨fun X o pn W tk Z m σ H ρ h D r env q =>
  PSw (ps_set (by rw [o.N]; exact nd) (by rw [o.N]; exact hi) (.inl (by rw [o.sc]; exact hx)) pe_w (hs _) (.inr (by rw [o.sc]; exact hx))) (he.run X o W tk Z m σ H ρ h _ r env ((EOk.toS r env q).imp fun v H1 ⟨m1, x, h1, e1, r1, d1, q1⟩ => q1 _ m1 H1 (Evo.refl _ _) r1 ((env.mono r e1).set d1)))⟩
theorem ss_setC {i : Nat} {x : Str} {pos' : Pos} (nd : C.N.Nodup) (hi : C.N[i]? = some x) (hx : C.sc.names.lookup x = some .cell) (hf : C.fn = true) (hs : ∀ env, swapsWith e (some (.Name x pos')) pos.line env = pure false) (he : SE C e f) : SS C (.Assign [.Name x pos'] e pos) (setS i f) := ⟨fun X o pn W tk Z m σ H ρ h D r env q =>
  PSw (ps_set (by rw [o.N]; exact nd) (by rw [o.N]; exact hi) (.inr (by rw [o.sc]; exact hx)) pe_w (hs _) (.inl (o.fns hf x))) (he.run X o W tk Z m σ H ρ h _ r env ((EOk.toS r env q).imp fun v H1 ⟨m1, x, h1, e1, r1, d1, q1⟩ => q1 _ m1 H1 (Evo.refl _ _) r1 ((env.mono r e1).set d1)))⟩
theorem ss_asg {tg : Expr} {ws : List Nat} {gt : Tgt} (hs : ∀ env : Env, env.scope = C.sc → swapsWithSole [tg] e pos.line env = pure false) (hw : ∀ env : Env, env.scope = C.sc → swappedStores [tg] e env = pure none) (h1 : ∀ env, (assignEach [tg] env).map (·.2) = [assign tg env]) (he : SE C e f) (hg : SG C tg ws gt) : SS C (.Assign [tg] e pos) (asgS gt f) := ⟨fun X o pn W tk Z m σ H ρ h D r env q =>
  PSw (ps_asg pe_w pg_w (hs _ o.sc) (hw _ o.sc) (h1 _)) (he.run X o W tk Z m σ H ρ h _ r env ((EOk.toS r env q).imp fun v H1 ⟨m1, x, h1, e1, r1, d1, q1⟩ => by
    cases z : gt x ρ with
    | none => rw [z] at q1; exact q1.elim
    | some ρ1 =>
      rw [z] at q1
      exact hg.run X o Z m1 v σ H1 ρ h1 x _ ρ1 r1 (env.mono r e1) d1 z fun σ' en' _ _ => q1 σ' m1 H1 (Evo.refl _ _) r1 en'))⟩
theorem ss_par2 {i j : Nat} {x y : Str} {px py pt : Pos} {kt k2 : Nat} {pt2 : Pos} (hc : C.calm = true) (nd : C.N.Nodup) (hi : C.N[i]? = some x) (hj : C.N[j]? = some y) (hij : i ≠ j) (hx : LocN C x) (hy : LocN C y)
    (hw : ∀ env : Env, env.scope = C.sc → swappedStores [.Tuple [.Name x px, .Name y py] kt pt] (.Tuple [a, b] k2 pt2) env = pure (some [x, y])) (hs : ∀ env : Env, env.scope = C.sc → swapsWithSole [.Tuple [.Name x px, .Name y py] kt pt] (.Tuple [a, b] k2 pt2) pos.line env = pure false)
    (hs1 : NoStar a [b]) (hs2 : NoStar b []) (ha : SE C a f) (hb : SE C b g) : SS C (.Assign [.Tuple [.Name x px, .Name y py] kt pt] (.Tuple [a, b] k2 pt2) pos) (par2 i j f g) := ⟨fun X o pn W tk Z m σ H ρ h D r env q =>
  PSw (ps_par (by rw [o.calm]; exact hc) (by rw [o.N]; exact nd) (by rw [o.N]; exact hi) (by rw [o.N]; exact hj) hij (by rw [o.sc]; exact hx) (by rw [o.sc]; exact hy) (pa_cons pe_w (pa_cons pe_w pa_nil (hs2 _)) (hs1 _)) (hw _ o.sc) (hs _ o.sc)) (ha.run X o W tk Z m σ H ρ h _ r env ((EOk.toS r env q).imp fun v H1 ⟨m1, x, h1, e1, r1, d1, q1⟩ =>
    hb.run X o W tk Z m1 σ H1 ρ h1 _ r1 (env.mono r e1) ((EOk.toS r1 (env.mono r e1) q1).imp fun w H2 ⟨m2, y, h2, e2, r2, d2, q2⟩ => ⟨v, w, rfl, q2 _ m2 H2 (Evo.refl _ _) r2 ((((env.mono r e1).mono r1 e2).set (d1.mono r1 e2)).set d2)⟩)))⟩
theorem ss_if (hc : ST C c t) (ha : SB C bd fs) (hb : SB C el gs) : SS C (.If c bd el pos) (ifS t fs gs) := ⟨fun X o pn W tk Z m σ H ρ h D r env q =>
  PSw (ps_if pt_w pb_w pb_w) (hc.run X o W tk Z m σ H ρ h _ r env ((TOk.toS r env q).imp fun b H1 ⟨m1, h1, e1, r1, q1⟩ => by
    cases b with
    | true => exact iteT (ha.run X o pn W tk Z m1 σ H1 ρ h1 D r1 (env.mono r e1) q1)
    | false => exact iteF (hb.run X o pn W tk Z m1 σ H1 ρ h1 D r1 (env.mono r e1) q1)))⟩
theorem loop_ok {Z m : List Addr} {H : Hp} {W : WX} {D : Ends} {N : St → Hp → Prop} {r : ResS} {next : En → Hs → ResS} (hN : ∀ σ' m' H' ρ' h', Evo m H m' H' → Rl C Z m' H' h' → EnvV C Z m' H' σ' ρ' → SOk C W Z m' H' D (next ρ' h') → N σ' H')
    (q : SOk C W Z m H D (match r with
      | .nx ρ2 h2 => next ρ2 h2
      | .ct ρ2 h2 => next ρ2 h2
      | .bk ρ2 h2 => .nx ρ2 h2
      | .rt x h2 => .rt x h2
      | .exc e ρ2 h2 => .exc e ρ2 h2
      | .bad => .bad)) : SOk C W Z m H { D with nx := N, ct := N, bk := D.nx } r := by
  cases r with
  | nx ρ2 h2 => exact fun σ' m' H' e' r' en' => hN σ' m' H' ρ2 h2 e' r' en' (q.at e')
  | ct ρ2 h2 => exact fun σ' m' H' e' r' en' => hN σ' m' H' ρ2 h2 e' r' en' (q.at e')
  | bk ρ2 h2 => exact q
  | rt x h2 => exact q
  | exc e ρ2 h2 => exact q
  | bad => exact q
theorem ss_for {tg it : Expr} {ws : List Nat} {gt : Tgt} {src : DenI} (hc : C.calm = true) (nf : NoFold it) (hi : SI C tg it src) (hg : SG C tg ws gt) (hb : SB C bd fs) : SS C (.For tg it bd [] pos) (forS src gt fs) := ⟨fun X o pn W tk Z m σ H ρ h D r env q => by
  obtain ⟨wi, pi, hwi⟩ := hi.run X o W tk
  refine PSw (ps_for pn.pn (by rw [o.calm]; exact hc) pi pg_w pb_w (nf _)) ?_
  refine hwi Z m σ H ρ h _ r env ?_
  have q' := IOk.toS r env q
  cases z : src ρ h with
  | bad => rw [z] at q'; exact q'
  | exc e h' => rw [z] at q'; exact q'
  | ok s h0 =>
    rw [z] at q'
    intro J m0 H0 e0 r0 it0
    obtain ⟨m1, s1, h1, e1, r1, it1, q1⟩ := q' J m0 H0 e0 r0 it0
    have en1 := env.mono r e1
    cases s1 with
    | fx ds =>
      refine ⟨fun i mm σ' H' => mm = ds.length - i ∧ i ≤ ds.length ∧ ∃ m' h' ρ', Evo m1 H0 m' H' ∧ Rl C Z m' H' h' ∧ EnvV C Z m' H' σ' ρ' ∧ SOk C W Z m' H' D (forL gt fs (ds.drop i) ρ' h'), ⟨ds.length, by simp, Nat.zero_le _, m1, h1, ρ, Evo.refl _ _, r1, en1, by rw [List.drop_zero]; exact q1⟩, ?_⟩
      rintro i mm σ' H' ⟨rfl, hle, m', h', ρ', e', r', en', q2⟩
      obtain ⟨i1, i2⟩ := it1 Z m' H' h' (fun a ha => .inl ha) e' r' i
      by_cases hlt : i < ds.length
      · obtain ⟨go, yl⟩ := i1 ds[i] (by simp [hlt])
        rw [List.drop_eq_getElem_cons hlt] at q2
        unfold forL at q2
        cases z1 : gt (.d ds[i]) ρ' with
        | none => rw [z1] at q2; exact q2.elim
        | some ρ1 =>
          rw [z1] at q2
          dsimp only at q2
          refine .inr ⟨go, fun σ5 H5 => ∃ m5 h5 ρ5, Evo m1 H0 m5 H5 ∧ Rl C Z m5 H5 h5 ∧ EnvV C Z m5 H5 σ5 ρ5 ∧ SOk C W Z m5 H5 D (forL gt fs (ds.drop (i + 1)) ρ5 h5), fun σ5 H5 p5 => ⟨ds.length - (i + 1), by omega, rfl, hlt, p5⟩, fun x H'' y => ?_⟩
          obtain ⟨ex, dx⟩ := yl x H'' y
          refine hg.run X o Z m' x σ' H'' ρ' h' (.d ds[i]) _ ρ1 (r'.ex ex) (en'.mono r' (Evo.ex ex)) dx z1 fun σ2 en2 _ _ => ?_
          refine hb.run X o pn W tk Z m' σ2 H'' ρ1 h' _ (r'.ex ex) en2 (loop_ok (next := fun ρ2 h2 => forL gt fs (ds.drop (i + 1)) ρ2 h2) ?_ (q2.at (Evo.ex ex)))
          intro σ5 m5 H5 ρ5 h5 e5 r5 en5 q5
          exact ⟨m5, h5, ρ5, (e'.trans (Evo.ex ex)).trans e5, r5, en5, q5⟩
      · have e : i = ds.length := by omega
        subst e
        rw [List.drop_length] at q2
        exact .inl ⟨i2 (Nat.le_refl _), q2 σ' m' H' (Evo.refl _ _) r' en'⟩
    | rf n len =>
      refine ⟨fun i mm σ' H' => mm = len - i ∧ i ≤ len ∧ ∃ m' h' ρ', Evo m1 H0 m' H' ∧ Rl C Z m' H' h' ∧ EnvV C Z m' H' σ' ρ' ∧ SOk C W Z m' H' D (forR n gt fs (len - i) i ρ' h'), ⟨len, by simp, Nat.zero_le _, m1, h1, ρ, Evo.refl _ _, r1, en1, q1⟩, ?_⟩
      rintro i mm σ' H' ⟨rfl, hle, m', h', ρ', e', r', en', q2⟩
      by_cases hlt : i < len
      · obtain ⟨kk, hkk⟩ : ∃ kk, len - i = kk + 1 := ⟨len - i - 1, by omega⟩
        rw [hkk] at q2
        unfold forR at q2
        cases z0 : h'[n]? with
        | none => rw [z0] at q2; exact q2.elim
        | some ob =>
          rw [z0] at q2
          cases ob with
          | lst l =>
            dsimp only at q2
            obtain ⟨i1, i2⟩ := it1 Z m' H' h' l (fun a ha => .inl ha) e' r' z0 i
            cases z2 : l[i]? with
            | none =>
              rw [z2] at q2
              exact .inl ⟨i2 (List.getElem?_eq_none_iff.mp z2), q2 σ' m' H' (Evo.refl _ _) r' en'⟩
            | some d =>
              rw [z2] at q2
              dsimp only at q2
              obtain ⟨go, yl⟩ := i1 d z2
              cases z1 : gt (.d d) ρ' with
              | none => rw [z1] at q2; exact q2.elim
              | some ρ1 =>
                rw [z1] at q2
                dsimp only at q2
                refine .inr ⟨go, fun σ5 H5 => ∃ m5 h5 ρ5, Evo m1 H0 m5 H5 ∧ Rl C Z m5 H5 h5 ∧ EnvV C Z m5 H5 σ5 ρ5 ∧ SOk C W Z m5 H5 D (forR n gt fs (len - (i + 1)) (i + 1) ρ5 h5), fun σ5 H5 p5 => ⟨len - (i + 1), by omega, rfl, hlt, p5⟩, fun x H'' y => ?_⟩
                obtain ⟨ex, dx⟩ := yl x H'' y
                refine hg.run X o Z m' x σ' H'' ρ' h' (.d d) _ ρ1 (r'.ex ex) (en'.mono r' (Evo.ex ex)) dx z1 fun σ2 en2 _ _ => ?_
                refine hb.run X o pn W tk Z m' σ2 H'' ρ1 h' _ (r'.ex ex) en2 (loop_ok (next := fun ρ2 h2 => forR n gt fs kk (i + 1) ρ2 h2) ?_ (q2.at (Evo.ex ex)))
                intro σ5 m5 H5 ρ5 h5 e5 r5 en5 q5
                refine ⟨m5, h5, ρ5, (e'.trans (Evo.ex ex)).trans e5, r5, en5, ?_⟩
                rw [show len - (i + 1) = kk by omega]
                exact q5
          | _ => exact q2.elim
      · have e : i = len := by omega
        subst e
        rw [Nat.sub_self] at q2
        unfold forR at q2
        cases z0 : h'[n]? with
        | none => rw [z0] at q2; exact q2.elim
        | some ob =>
          rw [z0] at q2
          cases ob with
          | lst l =>
            dsimp only at q2
            by_cases hl : l.length ≤ i
            · rw [decide_eq_true hl] at q2
              obtain ⟨i1, i2⟩ := it1 Z m' H' h' l (fun a ha => .inl ha) e' r' z0 i
              exact .inl ⟨i2 hl, q2 σ' m' H' (Evo.refl _ _) r' en'⟩
            · rw [decide_eq_false hl] at q2; exact q2.elim
          | _ => exact q2.elim⟩
theorem ss_while (fu : En → Nat) (ht : ST C c t) (hb : SB C bd fs) : SS C (.While c bd [] pos) (whS fu t fs) := ⟨fun X o pn W tk Z m σ H ρ h D r env q => by
  refine PSw (ps_while pn.pn pt_w pb_w) ⟨fun k σ' H' => ∃ m' h' ρ', Evo m H m' H' ∧ Rl C Z m' H' h' ∧ EnvV C Z m' H' σ' ρ' ∧ SOk C W Z m' H' D (whL t fs k ρ' h'), ⟨fu ρ, m, h, ρ, Evo.refl _ _, r, env, q⟩, ?_⟩
  rintro k σ' H' ⟨m', h', ρ', e', r', en', q2⟩
  cases k with
  | zero => exact q2.elim
  | succ k =>
    unfold whL at q2
    refine ht.run X o W tk Z m' σ' H' ρ' h' _ r' en' ?_
    cases z : t ρ' h' with
    | bad => rw [z] at q2; exact q2.elim
    | exc e h1 => rw [z] at q2; exact fun m1 H1 d e1 r1 x1 => q2 σ' m1 H1 d e1 r1 (en'.mono r' e1) x1
    | ok b h1 =>
      rw [z] at q2
      intro m1 H1 e1 r1
      cases b with
      | false => exact iteF (q2 σ' m1 H1 e1 r1 (en'.mono r' e1))
      | true =>
        refine iteT ⟨fun σ5 H5 => ∃ m5 h5 ρ5, Evo m H m5 H5 ∧ Rl C Z m5 H5 h5 ∧ EnvV C Z m5 H5 σ5 ρ5 ∧ SOk C W Z m5 H5 D (whL t fs k ρ5 h5), fun σ5 H5 p5 => ⟨k, Nat.lt_succ_self k, p5⟩, ?_⟩
        dsimp only at q2
        refine hb.run X o pn W tk Z m1 σ' H1 ρ' h1 _ r1 (en'.mono r' e1) (loop_ok (next := fun ρ2 h2 => whL t fs k ρ2 h2) ?_ (q2.at e1))
        intro σ5 m5 H5 ρ5 h5 e5 r5 en5 q5
        exact ⟨m5, h5, ρ5, (e'.trans e1).trans e5, r5, en5, q5⟩⟩
end
end Vi

set_option maxRecDepth 100000
namespace Vi
open PySem L2 Evl
/-! ### defs: from data to data -/
inductive PRes where
  | ok (d : Dt) | exc (e : Exn) | bad
abbrev Pf := List Dt → PRes
def fz1 (h : Hs) : Vl → Option Dt
  | .d x => some x
  | .r n => match h[n]? with
    | some (.lst l) => some (.lst l)
    | _ => none
def fzAll (h : Hs) : List Vl → Option (List Dt)
  | [] => some []
  | x :: r => match fz1 h x, fzAll h r with
    | some d, some l => some (d :: l)
    | _, _ => none
/-- frozen, at the end of a def -/
def fzn (h : Hs) : Vl → Option Dt
  | .d x => some x
  | .r n => match h[n]? with
    | some (.lst l) => some (.lst l)
    | some (.dct ks vs) => match fzAll h vs with
      | some l => some (.dct ks l)
      | none => none
    | some (.dck ks vs) => match fzAll h vs with
      | some l => some (.dck ks l)
      | none => none
    | _ => none
def runP (nn : Nat) (B : DenS) : Pf := fun ds => match B (ds.map (fun d => some (Vl.d d)) ++ List.replicate (nn - ds.length) none) [] with
  | .rt x h => match fzn h x with
    | some d => .ok d
    | none => .bad
  | .nx _ _ => .ok .non
  | .exc e _ _ => .exc e
  | _ => .bad
def POk (C : Ct) (Z : List Addr) (H : Hp) (Q : VK) (E : XK) : PRes → Prop
  | .ok d => ∀ v H', Ex H H' → Di C.K C.ly Z H' v d → Q v H'
  | .exc e => ∀ d H', Ex H H' → ExR C Z H' e d → E (C.xc e.cls) d H'
  | .bad => False
/-- as Fun.okX, for any CX -/
theorem funOkV {P : Program} {w : World} {K : PySem.W.Frag} {mg : Str → Option Value} {base : Heap} {CX : CXT} {x qual : Str} {st : Stmt} {f : Addr} {fd : FuncData} {N ps : List Str} {k : Nat} {sp : Sp} (F : Fun K x qual st f fd) (S : FnScope N ps (defScope st)) (len : ∀ vs H Q E, sp vs H Q E → vs.length = ps.length)
    (hbody : ∀ (cdv : Value) (A : Around) (outer : List Env) (s : Shared) (H : Hp) (vs : List V) (Q : VK) (E : XK), Room k (A.deeper (PyProof.Rows.envOfC qual (defScope st) s.heap.objs.size f cdv)) → sp vs H Q E →
      ∃ t, PSs (cxOf CX P w K mg base N qual (defScope st) f cdv A outer s H E) (defBody st) t ∧ t { nx := fun _ H' => Q .non H', rt := Q } (start N vs) H) : FnOk P w K mg base CX (k + 1) f fd ps sp := by
  obtain ⟨oc, od, kV, doc, pm, an, cdv, ct, osl, rfl, lk, hcd⟩ := F.ex
  exact fn_of lk hcd S len fun A outer s H vs Q E hr hsp => hbody cdv A outer s H vs Q E hr hsp
/-- what all places have in common -/
structure Cg where
  P : Program
  w : World
  K : PySem.W.Frag
  mg : Str → Option Value
  base : Heap
  ly : Lx
  lm : LayM
  lok : LayOk ly
  lyP : ly.P = P
  lyw : ly.w = w
  lmok : LayMOk lm
  xc : Nat → Value
  dt : Value → Prop := fun _ => False
/-- the place of a def's body -/
def Cg.at (G : Cg) (N : List Str) (sc : Scope) (lv : Nat) : Ct := { P := G.P, w := G.w, K := G.K, mg := G.mg, base := G.base, N := N, sc := sc, lv := lv, fn := true, calm := true, ly := G.ly, lm := G.lm, lok := G.lok, lyP := G.lyP, lyw := G.lyw, lmok := G.lmok, xc := G.xc, dt := G.dt }
def Cg.ct (G : Cg) : Ct := G.at [] default 0
def Ct.g (C : Ct) : Cg := { P := C.P, w := C.w, K := C.K, mg := C.mg, base := C.base, ly := C.ly, lm := C.lm, lok := C.lok, lyP := C.lyP, lyw := C.lyw, lmok := C.lmok, xc := C.xc, dt := C.dt }
def SpP (G : Cg) (n : Nat) (g : Pf) : Sp := fun vs H Q E => ∃ Z ds, FA Z H ∧ Dis G.K G.ly Z H vs ds ∧ ds.length = n ∧ POk G.ct Z H Q E (g ds)
structure FnP (G : Cg) (k : Nat) (x : Str) (n : Nat) (g : Pf) : Prop where
  ex : ∃ f fd ps, FnOk G.P G.w G.K G.mg G.base (CXV G.dt G.P G.w) k f fd ps (SpP G n g) ∧ G.mg x = some (.ref f) ∧ PySem.W.keepIn G.K (.ref f) = true ∧ Binds G.K fd ps []
section
variable {G : Cg}
theorem env_start {C : Ct} {Z : List Addr} {H : Hp} {N : List Str} {vs : List V} {ds : List Dt} (h : Dis C.K C.ly Z H vs ds) : EnvV C Z [] H (L2.start N vs) (ds.map (fun d => some (Vl.d d)) ++ List.replicate (N.length - ds.length) none) := by
  have hl := h.length
  refine ⟨by unfold L2.start; simp [hl], fun i x q => ?_⟩
  unfold L2.start
  by_cases hi : i < ds.length
  · rw [List.getElem?_append_left (by simpa using hi), List.getElem?_map] at q
    cases e : ds[i]? with
    | none => rw [e] at q; cases q
    | some y =>
      rw [e] at q
      cases q
      obtain ⟨v, h1, h2⟩ := h.get e
      refine ⟨v, by rw [List.getElem?_append_left (by simpa [hl] using hi), List.getElem?_map, h1]; rfl, ?_⟩
      show Di C.K C.ly (Z ++ []) H v y
      rw [List.append_nil]; exact h2
  · rw [List.getElem?_append_right (by simpa using hi), List.getElem?_replicate] at q
    split at q <;> cases q
theorem fz1_ok {C : Ct} {Z m : List Addr} {H : Hp} {h : Hs} (r : Rl C Z m H h) {v : V} {x : Vl} {d : Dt} (q : Dv C.K C.ly Z m H v x) (e : fz1 h x = some d) : Di C.K C.ly Z H v d := by
  have k : Keeps (Z ++ m) H Z H := keeps_sub fun a z => List.mem_append_left _ z
  cases x with
  | d y => cases e; exact Di.mono C.lok k q
  | r n =>
    unfold fz1 at e
    dsimp only at e
    cases z : h[n]? with
    | none => rw [z] at e; cases e
    | some ob =>
      rw [z] at e
      cases ob with
      | lst l =>
        cases e
        obtain ⟨a, h1, rfl, vs, q1, q2⟩ := r.at q z
        exact .lst q1 (r.disj a (List.mem_of_getElem? h1)) (q2.mono C.lok k)
      | _ => cases e
theorem fzAll_ok {C : Ct} {Z m : List Addr} {H : Hp} {h : Hs} (r : Rl C Z m H h) : ∀ {vs : List V} {xs : List Vl} {ds : List Dt}, Dvs C.K C.ly Z m H vs xs → fzAll h xs = some ds → Dis C.K C.ly Z H vs ds
  | _, _, _, .nil, e => by cases e; exact .nil
  | _, x :: xs, ds, .cons q qs, e => by
    unfold fzAll at e
    cases z1 : fz1 h x with
    | none => rw [z1] at e; cases e
    | some d =>
      cases z2 : fzAll h xs with
      | none => rw [z1, z2] at e; cases e
      | some l => rw [z1, z2] at e; cases e; exact .cons (fz1_ok r q z1) (fzAll_ok r qs z2)
theorem fzn_ok {C : Ct} {Z m : List Addr} {H : Hp} {h : Hs} (r : Rl C Z m H h) {v : V} {x : Vl} {d : Dt} (q : Dv C.K C.ly Z m H v x) (e : fzn h x = some d) : Di C.K C.ly Z H v d := by
  have k : Keeps (Z ++ m) H Z H := keeps_sub fun a z => List.mem_append_left _ z
  cases x with
  | d y => cases e; exact Di.mono C.lok k q
  | r n =>
    unfold fzn at e
    dsimp only at e
    cases z : h[n]? with
    | none => rw [z] at e; cases e
    | some ob =>
      rw [z] at e
      obtain ⟨a, h1, rfl, ob'⟩ := r.at q z
      have na := r.disj a (List.mem_of_getElem? h1)
      cases ob with
      | lst l =>
        cases e
        obtain ⟨vs, q1, q2⟩ := ob'
        exact .lst q1 na (q2.mono C.lok k)
      | dct ks vs =>
        dsimp only at e
        cases z2 : fzAll h vs with
        | none => rw [z2] at e; cases e
        | some l =>
          rw [z2] at e; cases e
          obtain ⟨ps, q1, q2, q3⟩ := ob'
          exact .dctG q1 na q2.1 (q2.2.mono C.lok k) (fzAll_ok r q3 z2)
      | dck ks vs =>
        dsimp only at e
        cases z2 : fzAll h vs with
        | none => rw [z2] at e; cases e
        | some l =>
          rw [z2] at e; cases e
          obtain ⟨kvs, q1, rfl, q3⟩ := ob'
          exact .dctK q1 na (fzAll_ok r q3 z2)
      | _ => cases e
theorem of_cx {CX : CXT} {N : List Str} {qual : Str} {sc : Scope} {f : Addr} {cdv : Value} {A : Around} {outer : List Env} {s : Shared} {H : Hp} {E : XK} {k : Nat} (hr : Room k (A.deeper (PyProof.Rows.envOfC qual sc s.heap.objs.size f cdv))) :
    (G.at N sc k).Of (cxOf CX G.P G.w G.K G.mg G.base N qual sc f cdv A outer s H E) := ⟨rfl, rfl, rfl, rfl, rfl, rfl, rfl, rfl, hr.units, fun _ => hr, fun _ _ => rfl, (by intro c z; cases z), fun _ => ⟨rfl, rfl, rfl⟩, L2H.roomH_of hr⟩
theorem Rl.start {C : Ct} {Z : List Addr} {H : Hp} (fa : FA Z H) : Rl C Z [] H [] := ⟨List.nodup_nil, by simp, rfl, fa, by simp, by simp, by simp, by simp⟩
theorem Evo.ex' {H H' : Hp} {m' : List Addr} (e : Evo [] H m' H') : Ex H H' := fun a o h => e.keep a o h (by simp)
/-- a def whose text computes B -/
theorem fn_mk {x qual : Str} {st : Stmt} {f : Addr} {fd : FuncData} {N ps : List Str} {k : Nat} {B : DenS} (F : Fun G.K x qual st f fd) (S : FnScope N ps (defScope st)) (b : Binds G.K fd ps []) (gm : G.mg x = some (.ref f))
    (body : SB (G.at N (defScope st) k) (defBody st) B) : FnP G (k + 1) x ps.length (runP N.length B) := by
  refine ⟨f, fd, ps, funOkV F S (fun vs H Q E h => ?_) (fun cdv A outer s H vs Q E hr h => ?_), gm, F.kp, b⟩
  · obtain ⟨Z, ds, _, h1, h2, _⟩ := h
    rw [h1.length, h2]
  · obtain ⟨Z, ds, fa, h1, h2, h3⟩ := h
    refine ⟨_, pb_w, body.run _ (of_cx hr) ⟨passes_of rfl, rfl, rfl⟩ _ (takes_ofV (E := E) rfl rfl rfl rfl) Z [] _ H (ds.map (fun d => some (Vl.d d)) ++ List.replicate (N.length - ds.length) none) [] _ (Rl.start fa) (env_start h1) ?_⟩
    unfold runP at h3
    cases z : B (ds.map (fun d => some (Vl.d d)) ++ List.replicate (N.length - ds.length) none) [] with
    | nx ρ h =>
      rw [z] at h3
      exact fun σ' m' H' e' r' en' => h3 .non H' e'.ex' .non
    | rt y h =>
      rw [z] at h3
      dsimp only at h3
      cases z2 : fzn h y with
      | none => rw [z2] at h3; exact h3.elim
      | some d =>
        rw [z2] at h3
        exact fun v m' H' e' r' dv => h3 v H' e'.ex' (fzn_ok r' dv z2)
    | bk ρ h => rw [z] at h3; exact h3.elim
    | ct ρ h => rw [z] at h3; exact h3.elim
    | bad => rw [z] at h3; exact h3.elim
    | exc e ρ h =>
      rw [z] at h3
      intro σ' m' H' d e' r' en' ex
      refine h3 d H' e'.ex' ?_
      rcases ex with ex | ⟨a, fv, q1, q2, q3, q4, q5⟩
      · exact .inl ex
      · exact .inr ⟨a, fv, q1, q2, fun z => q3 (List.mem_append_left _ z), q4, q5.1.mono G.lok (keeps_sub fun b z => List.mem_append_left _ z), q5.2⟩
end
/-! ### calls of defs -/
def callP (n : Nat) (g : Pf) (fa : DenA) : Den := fun ρ h => (fa ρ h).bind fun xs h1 => match allD xs with
  | some ds => match decide (ds.length = n) with
    | true => match g ds with
      | .ok d => .ok (.d d) h1
      | .exc e => .exc e h1
      | .bad => .bad
    | false => .bad
  | none => .bad
theorem callP_ok {C : Ct} {W : WX} {Z m : List Addr} {σ : St} {H : Hp} {h : Hs} {Q : VK} {n : Nat} {g : Pf} {xs : List Vl} {vs : List V} (r1 : Rl C Z m H h) (d1 : Dvs C.K C.ly Z m H vs xs) (q1 : EOk C W Z σ m H Q (match allD xs with
  | some ds => match decide (ds.length = n) with
    | true => match g ds with
      | .ok d => .ok (.d d) h
      | .exc e => .exc e h
      | .bad => .bad
    | false => .bad
  | none => .bad)) : SpP C.g n g vs H Q (L2.WE W σ) := by
  cases z : allD xs with
  | none => rw [z] at q1; exact q1.elim
  | some ds =>
    rw [z] at q1
    dsimp only at q1
    have dd : Dis C.K C.ly (Z ++ m) H vs ds := dvs_all d1 z
    by_cases hl : ds.length = n
    · rw [decide_eq_true hl] at q1
      dsimp only at q1
      refine ⟨Z ++ m, ds, r1.fa, dd, hl, ?_⟩
      cases z2 : g ds with
      | bad => rw [z2] at q1; exact q1.elim
      | ok d =>
        rw [z2] at q1
        exact fun v H' ex di => q1 v m H' (Evo.ex ex) (r1.ex ex) di
      | exc e =>
        rw [z2] at q1
        exact fun d H' ex xr => q1 m H' d (Evo.ex ex) (r1.ex ex) xr
    · rw [decide_eq_false hl] at q1; exact q1.elim
section
variable {C : Ct} {e : Expr} {es : List Expr} {fa : DenA} {pos p : Pos} {x : Str} {k n : Nat} {g : Pf}
theorem se_call (F : FnP C.g k x n g) (hk : k ≤ C.lv) (hc : C.calm = true) (hg : GlN C x) (hd : (x == ("__debug__" : Str)) = false) (hs : NoStar e es) (hpl : NoStars es) (ha : SA C (e :: es) fa) : SE C (.Call (.Name x p) (e :: es) [] pos) (callP n g fa) := ⟨fun X o W tk Z m σ H ρ h Q r env q => by
  obtain ⟨f, fd, ps, G, hm, kp, b⟩ := F.ex
  have G' : FnOk X.prog X.w X.K X.mg X.base (CXV C.dt X.prog X.w) k f fd ps (SpP C.g n g) := by rw [o.prog, o.w, o.K, o.mg, o.base]; exact G
  refine PEw (pe_callS (E := L2.WE W) G' ((o.room hc).mono hk) (o.gl hg) (o.fr hm) (by rw [o.K]; exact kp) (by rw [o.K]; exact b) (fun σ => passAtV tk σ) pa_w hd (hs _) (hpl _ _)) (ha.run X o W tk Z m σ H ρ h _ r env ((AOk.bind pass_e q).imp fun vs H1 ⟨m1, xs, h1, e1, r1, d1, q1⟩ => ?_))
  exact callP_ok r1 d1 q1⟩
end
end Vi

set_option maxRecDepth 100000
namespace Vi
open PySem L2 Evl
/-! ### changing things -/
theorem nd_inj {α : Type} : ∀ {l : List α} {i j : Nat} {a : α}, l.Nodup → l[i]? = some a → l[j]? = some a → i = j
  | [], i, j, a, _, h1, _ => by simp at h1
  | x :: l, 0, 0, a, _, _, _ => rfl
  | x :: l, 0, j + 1, a, nd, h1, h2 => by
    simp at h1 h2
    subst h1
    exact absurd (List.mem_of_getElem? h2) (List.nodup_cons.mp nd).1
  | x :: l, i + 1, 0, a, nd, h1, h2 => by
    simp at h1 h2
    subst h2
    exact absurd (List.mem_of_getElem? h1) (List.nodup_cons.mp nd).1
  | x :: l, i + 1, j + 1, a, nd, h1, h2 => by
    simp at h1 h2
    rw [nd_inj (List.nodup_cons.mp nd).2 h1 h2]
section
variable {C : Ct} {Z m : List Addr} {H : Hp} {h : Hs}
theorem Rl.setO (r : Rl C Z m H h) {n : Nat} {a : Addr} {o : HO} {ob : Ob} (hn : m[n]? = some a) (h1 : ∀ xs, o ≠ .tup xs) (h2 : ∀ x, o ≠ fixO x) (hob : ObD C.K C.ly C.lm Z m (upd H a o) a ob) : Rl C Z m (upd H a o) (h.set n ob) ∧ Evo m H m (upd H a o) := by
  have am : a ∈ m := List.mem_of_getElem? hn
  have nt := r.notup a am
  have no := r.own a am
  have k : Keeps (Z ++ m) H (Z ++ m) (upd H a o) := keeps_upd (List.mem_append_right _ am) nt fun fs => no (.inr fs)
  have inj : ∀ i, m[i]? = some a → i = n := fun i hi => by
    exact nd_inj r.nd hi hn
  refine ⟨⟨r.nd, r.disj, by rw [List.length_set]; exact r.len, fun b hb => ?_, fun b hb xs => ?_, fun b hb x => ?_, fun b hb => ?_, fun i b ob' q1 q2 => ?_⟩, ⟨fun b u hb nb => ?_, fun b u hb => ?_, [], by simp, by simp⟩⟩
  · by_cases z : b = a
    · rw [z, upd_same]; exact ⟨_, rfl⟩
    · rw [upd_ne z]; exact r.za b hb
  · by_cases z : b = a
    · rw [z, upd_same]; intro q; cases q; exact h1 _ rfl
    · rw [upd_ne z]; exact r.notup b hb xs
  · by_cases z : b = a
    · rw [z, upd_same]; intro q; cases q; exact h2 _ rfl
    · rw [upd_ne z]; exact r.own b hb x
  · by_cases z : b = a
    · rw [z, upd_same]; exact ⟨_, rfl⟩
    · rw [upd_ne z]; exact r.ma b hb
  · by_cases hi : i = n
    · subst hi
      rw [hn] at q1
      cases q1
      rw [List.getElem?_set_self (by rw [r.len]; exact (List.getElem?_eq_some_iff.mp hn).1)] at q2
      cases q2
      exact hob
    · rw [List.getElem?_set_ne (Ne.symm hi)] at q2
      have hb : b ≠ a := fun z => hi (inj i (by rw [← z]; exact q1))
      refine (r.ob i b ob' q1 q2).keeps k (upd_ne hb) fun b' w hb' hw => ?_
      obtain ⟨x, rfl⟩ := hw
      rw [upd_ne]; exact hb'
      rintro rfl
      exact no x hb'
  · rw [upd_ne (fun z => nb (by rw [z]; exact am))]; exact hb
  · by_cases z : b = a
    · rw [z, upd_same]; exact ⟨_, rfl⟩
    · rw [upd_ne z]; exact ⟨u, hb⟩
theorem Rl.setL (r : Rl C Z m H h) {n : Nat} {a : Addr} {vs : List V} {l : List Dt} {us : List V} (hn : m[n]? = some a) (d : Dis C.K C.ly (Z ++ m) H vs l) : Rl C Z m (upd H a (.lst vs)) (h.set n (.lst l)) ∧ Evo m H m (upd H a (.lst vs)) :=
  r.setO hn (by intro _ z; cases z) (by intro y z; cases y <;> first | cases z | exact dg_code z | exact dg_code (Option.some.inj z) | exact slo_code z | exact slo_code (Option.some.inj z)) ⟨vs, upd_same, d.mono C.lok (keeps_upd (List.mem_append_right _ (List.mem_of_getElem? hn)) (r.notup a (List.mem_of_getElem? hn)) fun fs => r.own a (List.mem_of_getElem? hn) (.inr fs))⟩
end
/-- xs.append(y) -/
def appV (f g : Den) : Den := fun ρ h => (f ρ h).bind fun x h1 => match x with
  | .r n => match h1[n]? with
    | some (.lst _) => (g ρ h1).bind fun y h2 => match y, h2[n]? with
      | .d y, some (.lst l) => match decide (l.length < 100000) with
        | true => .ok (.d .non) (h2.set n (.lst (l ++ [y])))
        | false => .bad
      | _, _ => .bad
    | _ => .bad
  | _ => .bad
/-- xs.extend(ys) -/
def extV (f g : Den) : Den := fun ρ h => (f ρ h).bind fun x h1 => match x with
  | .r n => match h1[n]? with
    | some (.lst _) => (g ρ h1).bind fun y h2 => match y, h2[n]? with
      | .d (.tup l2), some (.lst l) => match decide (l.length + l2.length ≤ 100000) with
        | true => .ok (.d .non) (h2.set n (.lst (l ++ l2)))
        | false => .bad
      | .d (.lst l2), some (.lst l) => match decide (l.length + l2.length ≤ 100000) with
        | true => .ok (.d .non) (h2.set n (.lst (l ++ l2)))
        | false => .bad
      | _, _ => .bad
    | _ => .bad
  | _ => .bad
/-- what a method call asks of the text -/
def Few (p2 : Pos) (es : List Expr) : Prop := ∀ env, ((backTo p2 (starEach es env)).all (fun x => !x.1) && (backToKw p2 (keywordEach [] env)).all (fun x => x.1.isSome) && decide (es.length + ([] : List Keyword).length + (if ([] : List Keyword).isEmpty then 0 else 1) < 30)) = true
section
variable {C : Ct} {a e : Expr} {f g : Den} {p1 p2 : Pos}
theorem se_append (hb : ∀ env, attributeBase a "append" env (eval a env) = eval a env) (hfew : Few p2 [e]) (hs : NoStar e []) (hline : (p1.endLine == p2.line) = true) (ha : SE C a f) (he : SE C e g) : SE C (.Call (.Attribute a "append" p1) [e] [] p2) (appV f g) := ⟨fun X o W tk Z m σ H ρ h Q r env q => by
  refine PEw (pe_bm PySem.F.plainAttrs_list PySem.F.slot_list_append PySem.F.type_list_append mt_append pe_w (pa_cons pe_w pa_nil (hs _)) (hb _) (hfew _) hline (hs _) rfl) ?_
  refine ha.run X o W tk Z m σ H ρ h _ r env ((EOk.bind pass_e q).imp fun v H1 ⟨m1, x, h1, e1, r1, d1, q1⟩ => ?_)
  cases x with
  | d y => exact q1.elim
  | r n =>
    dsimp only at q1
    cases z : h1[n]? with
    | none => rw [z] at q1; exact q1.elim
    | some ob =>
      rw [z] at q1
      cases ob with
      | lst l0 =>
        dsimp only at q1
        obtain ⟨ad, k1, rfl, vs0, k2, k3⟩ := r1.at d1 z
        refine ⟨.inl ⟨rfl, vs0, sqL_of k2⟩, ?_⟩
        refine he.run X o W tk Z m1 σ H1 ρ h1 _ r1 (env.mono r e1) ((EOk.bind pass_e q1).imp fun w H2 ⟨m2, y, h2, e2, r2, d2, q2⟩ => ?_)
        cases y with
        | r n' => exact q2.elim
        | d y =>
          cases z2 : h2[n]? with
          | none => rw [z2] at q2; exact q2.elim
          | some ob2 =>
            rw [z2] at q2
            cases ob2 with
            | lst l =>
              dsimp only at q2
              by_cases hl : l.length < 100000
              · rw [decide_eq_true hl] at q2
                have k1' := e2.get k1
                obtain ⟨vs, k4, k5⟩ := r2.ob n ad _ k1' z2
                obtain ⟨r3, e3⟩ := r2.setL (us := []) k1' (k5.append (.cons d2 .nil))
                exact ⟨ad, vs, w, rfl, rfl, k4, sz_lt (by rw [k5.length]; exact hl), q2 _ m2 _ e3 r3 Di.non⟩
              · rw [decide_eq_false hl] at q2; exact q2.elim
            | _ => exact q2.elim
      | _ => exact q1.elim⟩
end
/-! ### isinstance of data and a built-in class -/
def tyD : Dt → Option String
  | .non => some "NoneType"
  | .bl _ => some "bool"
  | .int _ => some "int"
  | .str _ => some "str"
  | .tup _ => some "tuple"
  | _ => none
theorem tyX_of {K : PySem.W.Frag} {Ly : Lx} {F : List Addr} {H : Hp} {v : V} {d : Dt} {T : String} (h : Bv K Ly F H v d) (ht : tyD d = some T) : TyX K H v (.type T) := by
  cases h with
  | of h =>
    cases h with
    | non => cases ht; exact .base .non
    | bl b => cases ht; exact .base (.bl b)
    | int i => cases ht; exact .base (.int i)
    | str x => cases ht; exact .base (.str x)
    | tup h hs => cases ht; exact .base (.tup h)
    | _ => cases ht
  | _ => cases ht
/-- which data are of the class D -/
structure KitP (D : String) (p : Dt → Option Dt) : Prop where
  ok : ∀ d e, p d = some e → ∃ T r, tyD d = some T ∧ kitB T D = some r ∧ e = .bl r
def isInt : Dt → Option Dt
  | .int _ => some (.bl true)
  | .bl _ => some (.bl true)
  | .non => some (.bl false)
  | .str _ => some (.bl false)
  | .tup _ => some (.bl false)
  | _ => none
def isBool : Dt → Option Dt
  | .int _ => some (.bl false)
  | .bl _ => some (.bl true)
  | .non => some (.bl false)
  | .str _ => some (.bl false)
  | .tup _ => some (.bl false)
  | _ => none
def isTup : Dt → Option Dt
  | .int _ => some (.bl false)
  | .bl _ => some (.bl false)
  | .non => some (.bl false)
  | .str _ => some (.bl false)
  | .tup _ => some (.bl true)
  | _ => none
def isStr : Dt → Option Dt
  | .int _ => some (.bl false)
  | .bl _ => some (.bl false)
  | .non => some (.bl false)
  | .str _ => some (.bl true)
  | .tup _ => some (.bl false)
  | _ => none
theorem kit_int : KitP "int" isInt := ⟨fun d e h => by
  cases d <;> cases h <;> exact ⟨_, _, rfl, by decide +kernel, rfl⟩⟩
theorem kit_bool : KitP "bool" isBool := ⟨fun d e h => by
  cases d <;> cases h <;> exact ⟨_, _, rfl, by decide +kernel, rfl⟩⟩
theorem kit_tuple : KitP "tuple" isTup := ⟨fun d e h => by
  cases d <;> cases h <;> exact ⟨_, _, rfl, by decide +kernel, rfl⟩⟩
theorem boot_isi' : bootBuiltins ("isinstance" : Str) = some (.builtin "isinstance") := by decide +kernel
section
variable {C : Ct}
theorem se_isi {D : String} {p : Dt → Option Dt} {a : Expr} {f : Den} {x : Str} {pn p' pos : Pos} (kp : KitP D p) (hs : NoStar a [.Name x p']) (hg : GlN C "isinstance") (hm : C.mg "isinstance" = none) (hgC : GlN C x) (hmC : C.mg x = none) (hv : bootBuiltins x = some (.type D)) (hx : x ≠ "__name__") (hx2 : (x == ("__debug__" : Str)) = false) (ha : SE C a f) : SE C (.Call (.Name "isinstance" pn) [a, .Name x p'] [] pos) (u1 p f) := ⟨fun X o W tk Z m σ H ρ h Q r env q =>
  PEw (pe_callB call_isi (o.gl hg) (o.fr hm) boot_isi' (pa_cons pe_w (pa_cons (pe_bltn (o.gl hgC) (o.fr hmC) hv (v := .ty D) rfl hx hx2) pa_nil rfl) (hs _)) (by decide +kernel) (by decide +kernel) (hs _) rfl) (ha.run X o W tk Z m σ H ρ h _ r env ((EOk.bind pass_e q).imp fun v H1 ⟨m1, y, h1, e1, r1, d1, q1⟩ => by
    obtain ⟨F, a1, d2, fa, hb, hp, k⟩ := ap1_ok r1 d1 q1
    obtain ⟨T, rr, ht, hk, rfl⟩ := kp.ok _ _ hp
    exact ⟨v, .ty D, .type T, .type D, rr, rfl, .ty D, (by rw [o.K]; exact tyX_of hb ht), kit_ty hk, k _ H1 (Ex.refl H1) (.bl rr)⟩))⟩
end
/-! ### min and max -/
section
variable {C : Ct}
def max2P : List Dt → Option Dt
  | [.int i, .int j] => some (.int (if j > i then j else i))
  | _ => none
def min2P : List Dt → Option Dt
  | [.int i, .int j] => some (.int (if j < i then j else i))
  | _ => none
theorem c_max2 (hc : C.calm = true) : CallP C (.builtin "max") max2P := ⟨fun X o pins s σ H xs us Q I r h => by
  obtain ⟨F, ds, d, fa, hb, hp, q⟩ := h
  unfold max2P at hp
  split at hp
  · cases hp
    obtain ⟨v, w, rfl, h1, h2⟩ := bvs2 hb
    rw [h1.int_inv, h2.int_inv] at r
    exact call_max2 (by rw [o.calm]; exact hc) pins s σ H _ us Q I r ⟨_, _, rfl, vint q⟩
  · cases hp⟩
theorem c_min2 (hc : C.calm = true) : CallP C (.builtin "min") min2P := ⟨fun X o pins s σ H xs us Q I r h => by
  obtain ⟨F, ds, d, fa, hb, hp, q⟩ := h
  unfold min2P at hp
  split at hp
  · cases hp
    obtain ⟨v, w, rfl, h1, h2⟩ := bvs2 hb
    rw [h1.int_inv, h2.int_inv] at r
    exact call_min2 (by rw [o.calm]; exact hc) pins s σ H _ us Q I r ⟨_, _, rfl, vint q⟩
  · cases hp⟩
end
end Vi

set_option maxRecDepth 100000
namespace Vi
open PySem L2 Evl
mutual
theorem py_inj : ∀ {n : Nat} {a b : Dt}, okD n a = true → okD n b = true → a.py = b.py → a = b
  | n, .non, b, h1, h2, e => by cases b <;> first | rfl | (cases e; done) | (cases n <;> cases h2)
  | n, .bl x, b, h1, h2, e => by cases b <;> first | (cases e; rfl) | (cases e; done) | (cases n <;> cases h2)
  | n, .int x, b, h1, h2, e => by cases b <;> first | (cases e; rfl) | (cases e; done) | (cases n <;> cases h2)
  | n, .str x, b, h1, h2, e => by cases b <;> first | (cases e; rfl) | (cases e; done) | (cases n <;> cases h2)
  | 0, .tup l, b, h1, h2, e => by cases h1
  | 0, .lst l, b, h1, h2, e => by cases h1
  | n + 1, .tup l, b, h1, h2, e => by
    cases b with
    | tup m =>
      have e' : pyAll l = pyAll m := by injection e
      rw [pyAll_inj (n := n) h1 h2 e']
    | _ => first | (cases e; done) | (cases h2; done)
  | n + 1, .lst l, b, h1, h2, e => by
    cases b with
    | lst m =>
      have e' : pyAll l = pyAll m := by injection e
      rw [pyAll_inj (n := n) h1 h2 e']
    | _ => first | (cases e; done) | (cases h2; done)
  | n, .dct _ _, b, h1, h2, e => by cases n <;> cases h1
  | n, .dck _ _, b, h1, h2, e => by cases n <;> cases h1
  | n, .set _, b, h1, h2, e => by cases n <;> cases h1
  | n, .ins _ _, b, h1, h2, e => by cases n <;> cases h1
  | n, .scr _, b, h1, h2, e => by cases n <;> cases h1
theorem pyAll_inj : ∀ {n : Nat} {l m : List Dt}, l.all (okD n) = true → m.all (okD n) = true → pyAll l = pyAll m → l = m
  | n, [], [], _, _, _ => rfl
  | n, [], _ :: _, _, _, e => by cases e
  | n, _ :: _, [], _, _, e => by cases e
  | n, a :: l, b :: m, h1, h2, e => by
    rw [List.all_cons, Bool.and_eq_true] at h1 h2
    have e1 : a.py = b.py := by injection e
    have e2 : pyAll l = pyAll m := by injection e
    rw [py_inj (n := n) h1.1 h2.1 e1, pyAll_inj (n := n) h1.2 h2.2 e2]
end
theorem pyAll_map : ∀ l : List Dt, pyAll l = l.map Dt.py
  | [] => rfl
  | d :: l => by show d.py :: pyAll l = _; rw [pyAll_map l]; rfl
def alikeL (l : List Dt) : Bool := l.all fun a => !a.isN && l.all fun b => PySem.W.alike a.py b.py
theorem alikeL_ok {l : List Dt} {n : Nat} (h : alikeL l = true) (ho : l.all (okD n) = true) : PySem.W.AlikeAll (pyAll l) := by
  rw [pyAll_map]
  have h1 := List.all_eq_true.mp h
  have h2 := List.all_eq_true.mp ho
  refine ⟨fun x hx y hy => ?_, fun x hx => ?_⟩
  · obtain ⟨a, ha, rfl⟩ := List.mem_map.mp hx
    obtain ⟨b, hb, rfl⟩ := List.mem_map.mp hy
    have := h1 a ha
    rw [Bool.and_eq_true] at this
    exact List.all_eq_true.mp this.2 b hb
  · obtain ⟨a, ha, rfl⟩ := List.mem_map.mp hx
    have := h1 a ha
    rw [Bool.and_eq_true] at this
    exact py_non (h2 a ha) (by simpa using this.1)
def minF (x : Dt) (xs : List Dt) : Dt := xs.foldl (fun a y => match PySem.W.dataLt y.py a.py with | true => y | false => a) x
def maxF (x : Dt) (xs : List Dt) : Dt := xs.foldl (fun a y => match PySem.W.dataLt a.py y.py with | true => y | false => a) x
theorem minF_py : ∀ (xs : List Dt) (x : Dt), (minF x xs).py = PySem.W.minD x.py (pyAll xs)
  | [], x => rfl
  | y :: xs, x => by
    show (minF (match PySem.W.dataLt y.py x.py with | true => y | false => x) xs).py = PySem.W.minD (if PySem.W.dataLt y.py x.py = true then y.py else x.py) (pyAll xs)
    rw [minF_py xs]
    cases PySem.W.dataLt y.py x.py <;> rfl
theorem maxF_py : ∀ (xs : List Dt) (x : Dt), (maxF x xs).py = PySem.W.maxD x.py (pyAll xs)
  | [], x => rfl
  | y :: xs, x => by
    show (maxF (match PySem.W.dataLt x.py y.py with | true => y | false => x) xs).py = PySem.W.maxD (if PySem.W.dataLt x.py y.py = true then y.py else x.py) (pyAll xs)
    rw [maxF_py xs]
    cases PySem.W.dataLt x.py y.py <;> rfl
theorem minF_mem : ∀ (xs : List Dt) (x : Dt), minF x xs ∈ x :: xs
  | [], x => List.mem_cons_self
  | y :: xs, x => by
    have := minF_mem xs (match PySem.W.dataLt y.py x.py with | true => y | false => x)
    show minF (match PySem.W.dataLt y.py x.py with | true => y | false => x) xs ∈ _
    revert this
    cases PySem.W.dataLt y.py x.py <;> intro this <;> rcases List.mem_cons.mp this with z | z <;> simp_all
theorem maxF_mem : ∀ (xs : List Dt) (x : Dt), maxF x xs ∈ x :: xs
  | [], x => List.mem_cons_self
  | y :: xs, x => by
    have := maxF_mem xs (match PySem.W.dataLt x.py y.py with | true => y | false => x)
    show maxF (match PySem.W.dataLt x.py y.py with | true => y | false => x) xs ∈ _
    revert this
    cases PySem.W.dataLt x.py y.py <;> intro this <;> rcases List.mem_cons.mp this with z | z <;> simp_all
def minP : List Dt → Option Dt
  | [.lst (x :: xs)] => match (x :: xs).all (okD 20) && alikeL (x :: xs) with
    | true => some (minF x xs)
    | false => none
  | a => min2P a
def maxP : List Dt → Option Dt
  | [.lst (x :: xs)] => match (x :: xs).all (okD 20) && alikeL (x :: xs) with
    | true => some (maxF x xs)
    | false => none
  | a => max2P a
section
variable {C : Ct}
/-- the item of a list that reads as such data -/
theorem item_is {X : Cx} {pins : List (Addr × Obj)} {σ : St} {H : Hp} {s : Shared} (o : C.Of X) (I : Inv X pins σ H s) {F : List Addr} {xs : List V} {its : List Value} {ds : List Dt} {d : Dt} (dd : Dis C.K C.ly F H xs ds) (rv : Vals xs its) (ho : ds.all (okD 20) = true) (hd : d ∈ ds)
    {i : Nat} {v : Value} {h' : Heap} {bs : List Addr} (hv : its.toArray[i]? = some v) (hr : Reads h' v d.py bs) (hk : ∀ b o, s.heap.get? b = some o → h'.get? b = some o) : ∃ w, RelV w v ∧ Di C.K C.ly F H w d := by
  have hi : i < its.length := by
    rw [List.getElem?_toArray] at hv
    exact (List.getElem?_eq_some_iff.mp hv).1
  have hv' : its[i]? = some v := by rw [List.getElem?_toArray] at hv; exact hv
  have hl := rv.length
  obtain ⟨u, hu, ru⟩ := rv.get (i := i) (x := xs[i]) (List.getElem?_eq_getElem (by omega))
  rw [hv'] at hu; cases hu
  obtain ⟨e, he, de⟩ := dd.getv (i := i) (v := xs[i]) (List.getElem?_eq_getElem (by omega))
  have oe : okD 20 e = true := List.all_eq_true.mp ho e (List.mem_of_getElem? he)
  have od : okD 20 d = true := List.all_eq_true.mp ho d hd
  obtain ⟨as, re⟩ := Dp.reads I e.py xs[i] v (by rw [o.K]; exact di_dp de oe) ru
  have := SeqAt.plain_unique e.py d.py v as bs (okD_lay 20 e oe).1 (PySem.W.reads_keeps hk re) hr
  rw [py_inj oe od this] at de
  exact ⟨xs[i], ru, de⟩
theorem c_min (hc : C.calm = true) : CallP C (.builtin "min") minP := ⟨fun X o pins s σ H xs us Q I r h => by
  obtain ⟨F, ds, d, fa, hb, hp, q⟩ := h
  unfold minP at hp
  split at hp
  · rename_i y ys
    split at hp
    · rename_i hk
      cases hp
      rw [Bool.and_eq_true] at hk
      obtain ⟨v, rfl, h1⟩ := bvs1 hb
      obtain ⟨a, vs, rfl, h2, h3⟩ := h1.lst_inv
      obtain ⟨u, rfl, ru⟩ := r.one
      cases ru
      obtain ⟨its, rv, ⟨ob, hpl⟩, hz⟩ := I.list (sqL_of h2)
      obtain ⟨as, hr⟩ := Dp.readsAll I (pyAll (y :: ys)) vs its (by rw [o.K]; exact dis_dp (n := 20) h3 hk.1) rv
      have hu := o.units
      have hdp := (okDs_fit hk.1).2
      refine PySem.W.min_list_data (I.ok.hd (by rw [o.calm]; exact hc)) (PlainL.isList ⟨ob, hpl⟩) hr (alikeL_ok hk.2 hk.1) (by have : PyData.depthAll (y.py :: pyAll ys) ≤ 20 := hdp; omega) fun i v h' tk bs hv hrd hkp => ?_
      rw [← minF_py] at hrd
      obtain ⟨w, rw', dw⟩ := item_is o I h3 rv hk.1 (minF_mem ys y) hv hrd hkp
      exact ⟨w, H, I.kept hkp, rw', q w H (Ex.refl H) dw⟩
    · cases hp
  · exact (c_min2 hc).run X o pins s σ H xs us Q I r ⟨F, _, d, fa, hb, hp, q⟩⟩
theorem c_max (hc : C.calm = true) : CallP C (.builtin "max") maxP := ⟨fun X o pins s σ H xs us Q I r h => by
  obtain ⟨F, ds, d, fa, hb, hp, q⟩ := h
  unfold maxP at hp
  split at hp
  · rename_i y ys
    split at hp
    · rename_i hk
      cases hp
      rw [Bool.and_eq_true] at hk
      obtain ⟨v, rfl, h1⟩ := bvs1 hb
      obtain ⟨a, vs, rfl, h2, h3⟩ := h1.lst_inv
      obtain ⟨u, rfl, ru⟩ := r.one
      cases ru
      obtain ⟨its, rv, ⟨ob, hpl⟩, hz⟩ := I.list (sqL_of h2)
      obtain ⟨as, hr⟩ := Dp.readsAll I (pyAll (y :: ys)) vs its (by rw [o.K]; exact dis_dp (n := 20) h3 hk.1) rv
      have hu := o.units
      have hdp := (okDs_fit hk.1).2
      refine PySem.W.max_list_data (I.ok.hd (by rw [o.calm]; exact hc)) (PlainL.isList ⟨ob, hpl⟩) hr (alikeL_ok hk.2 hk.1) (by have : PyData.depthAll (y.py :: pyAll ys) ≤ 20 := hdp; omega) fun i v h' tk bs hv hrd hkp => ?_
      rw [← maxF_py] at hrd
      obtain ⟨w, rw', dw⟩ := item_is o I h3 rv hk.1 (maxF_mem ys y) hv hrd hkp
      exact ⟨w, H, I.kept hkp, rw', q w H (Ex.refl H) dw⟩
    · cases hp
  · exact (c_max2 hc).run X o pins s σ H xs us Q I r ⟨F, _, d, fa, hb, hp, q⟩⟩
end
theorem call_max_twoH {prog : Program} {w : World} {A : Around} {E : Value → Shared → Prop} {s : Shared} {a b : Value} {Q : Value → Shared → Prop}
    (h : wpAny (model prog w) A.in1 (pyIter (.ref s.heap.objs.size)) (fun it s₂ => ∃ I fp wr G n P St H bt, it = .ref I ∧ WalksS prog w A.in1 I fp wr G n P St ∧ St 0 s₂ ∧ (∀ b ∈ fp, b < s₂.heap.objs.size) ∧ 0 < n ∧
      (∀ b o, H.get? b = some o → b ∉ wr) ∧ (∀ b o, H.get? b = some o → s₂.heap.get? b = some o) ∧ CmpIn prog w A.in1 .Gt H P bt ∧ ∀ v s', P (argBest bt (n - 1)) v → Moved wr G s₂ s' → Q v s') E { s with heap := s.heap.push { cls := .type "tuple", data := .seq #[a, b] } }) :
    wpAny (model prog w) A (call (.builtin "max") [a, b]) Q E s := by
  have hname : (toString "max" ++ toString ".loop" : String) = "max.loop" := by decide
  refine call_function_tree F.kind_max F.plain_max F.entry_max (F.args_max2 _ _) ?_
  show wpAny _ A.in1 (Builtin.Builtins.bindParams "max" ["key", "default"] 0 ⟨[], []⟩ >>= _) _ _ s
  refine wpAny_bind (wpAny_of_eq (show Builtin.Builtins.bindParams "max" ["key", "default"] 0 ⟨[], []⟩ = pure [none, none] from rfl) ?_)
  show wpAny _ A.in1 (newTuple [a, b] >>= _) _ _ s
  refine wpAny_bind (wpAny_newObj_type ?_)
  refine wpAny_bind (wpAny_mono h (fun it s₂ h₂ => ?_) fun _ _ e => e)
  obtain ⟨I, fp, wr, G, n, P, St, H, bt, rfl, W, hst, hfp, hn, hw, hkeep, hcmp, hQ⟩ := h₂
  refine wpAny_bind (wpAny_newObj_type ?_)
  have hSf : s₂.heap.objs.size ∉ fp := fun hm => Nat.lt_irrefl _ (hfp _ hm)
  rw [hname]
  refine wpAny_pure ⟨plainId_quiet F.plain_max_loop _, codeAny_max_loop_firstH W H hw bt hcmp s₂.heap.objs.size hSf (fresh_in hkeep) _ hn (fun b o e => Heap.get?_push_of_some _ (hkeep b o e)) (W.frame 0 s₂ _ s₂.toks hst (Nat.le_refl _) fun b _ o e => Heap.get?_push_of_some _ e) (Heap.get?_push_size _ rfl) fun v s' hP hm => ?_⟩
  exact hQ v s' hP (Moved.drop_new (tk := s₂.toks) hm (Nat.le_refl _))
theorem max_two_data {prog : Program} {w : World} {A : Around} {E : Value → Shared → Prop} {s : Shared} {a b : Value} {da db : PyData} {as bs : List Addr} {Q : Value → Shared → Prop} (hh : A.handled = none) (ra : Reads s.heap a da as) (rb : Reads s.heap b db bs) (ha : PySem.W.AlikeAll [da, db]) (hu : A.units + 1 + PyData.depthAll [da, db] < cLine)
    (h : ∀ v h' tk, (v = if PySem.W.dataLt da db = true then b else a) → (∀ b o, s.heap.get? b = some o → h'.get? b = some o) → Q v { s with heap := h', toks := tk }) :
    wpAny (model prog w) A (call (.builtin "max") [a, b]) Q E s := by
  have k1 : ∀ c o, s.heap.get? c = some o → (s.heap.push { cls := .type "tuple", data := .seq #[a, b] }).get? c = some o := fun c o e => Heap.get?_push_of_some _ e
  refine call_max_twoH (PySem.W.iter_tupleW (A := A.in1) (s := { s with heap := s.heap.push { cls := .type "tuple", data := .seq #[a, b] } }) (l := s.heap.objs.size) (vs := #[a, b]) hh ⟨_, Heap.get?_push_size _ rfl, rfl, _, rfl⟩ fun s₂ e W st hfp hw hk => ?_)
  have hr : ReadsAll (s.heap.push { cls := .type "tuple", data := .seq #[a, b] }) (#[a, b] : Array Value).toList [da, db] (as ++ (bs ++ [])) := .cons (PySem.W.reads_keeps k1 ra) (.cons (PySem.W.reads_keeps k1 rb) .nil)
  refine ⟨_, _, _, _, _, _, _, _, _, rfl, W, st, hfp, by show 0 < 2; decide, hw, hk, PySem.W.cmpIn_gt (A := A.in1) (s := { s with heap := s.heap.push { cls := .type "tuple", data := .seq #[a, b] } }) hr ha (by show A.units + 1 + _ < _; exact hu), fun v s' hP m => ?_⟩
  obtain ⟨h', tk, rfl, hk'⟩ := PySem.W.moved_old e rfl m
  refine h v h' tk ?_ (fun c o eo => hk' c o (k1 c o eo))
  revert hP
  show (#[a, b] : Array Value)[argBest _ 1]? = some v → _
  unfold argBest
  show (#[a, b] : Array Value)[if PySem.W.dataLt da db = true then 1 else 0]? = some v → _
  by_cases z : PySem.W.dataLt da db = true
  · rw [if_pos z, if_pos z]; intro q; cases q; rfl
  · rw [if_neg z, if_neg z]; intro q; cases q; rfl
theorem call_min_twoH {prog : Program} {w : World} {A : Around} {E : Value → Shared → Prop} {s : Shared} {a b : Value} {Q : Value → Shared → Prop}
    (h : wpAny (model prog w) A.in1 (pyIter (.ref s.heap.objs.size)) (fun it s₂ => ∃ I fp wr G n P St H bt, it = .ref I ∧ WalksS prog w A.in1 I fp wr G n P St ∧ St 0 s₂ ∧ (∀ b ∈ fp, b < s₂.heap.objs.size) ∧ 0 < n ∧
      (∀ b o, H.get? b = some o → b ∉ wr) ∧ (∀ b o, H.get? b = some o → s₂.heap.get? b = some o) ∧ CmpIn prog w A.in1 .Lt H P bt ∧ ∀ v s', P (argBest bt (n - 1)) v → Moved wr G s₂ s' → Q v s') E { s with heap := s.heap.push { cls := .type "tuple", data := .seq #[a, b] } }) :
    wpAny (model prog w) A (call (.builtin "min") [a, b]) Q E s := by
  have hname : (toString "min" ++ toString ".loop" : String) = "min.loop" := by decide
  refine call_function_tree F.kind_min F.plain_min F.entry_min (F.args_min2 _ _) ?_
  show wpAny _ A.in1 (Builtin.Builtins.bindParams "min" ["key", "default"] 0 ⟨[], []⟩ >>= _) _ _ s
  refine wpAny_bind (wpAny_of_eq (show Builtin.Builtins.bindParams "min" ["key", "default"] 0 ⟨[], []⟩ = pure [none, none] from rfl) ?_)
  show wpAny _ A.in1 (newTuple [a, b] >>= _) _ _ s
  refine wpAny_bind (wpAny_newObj_type ?_)
  refine wpAny_bind (wpAny_mono h (fun it s₂ h₂ => ?_) fun _ _ e => e)
  obtain ⟨I, fp, wr, G, n, P, St, H, bt, rfl, W, hst, hfp, hn, hw, hkeep, hcmp, hQ⟩ := h₂
  refine wpAny_bind (wpAny_newObj_type ?_)
  have hSf : s₂.heap.objs.size ∉ fp := fun hm => Nat.lt_irrefl _ (hfp _ hm)
  rw [hname]
  refine wpAny_pure ⟨plainId_quiet F.plain_min_loop _, codeAny_min_loop_firstH W H hw bt hcmp s₂.heap.objs.size hSf (fresh_in hkeep) _ hn (fun b o e => Heap.get?_push_of_some _ (hkeep b o e)) (W.frame 0 s₂ _ s₂.toks hst (Nat.le_refl _) fun b _ o e => Heap.get?_push_of_some _ e) (Heap.get?_push_size _ rfl) fun v s' hP hm => ?_⟩
  exact hQ v s' hP (Moved.drop_new (tk := s₂.toks) hm (Nat.le_refl _))
theorem min_two_data {prog : Program} {w : World} {A : Around} {E : Value → Shared → Prop} {s : Shared} {a b : Value} {da db : PyData} {as bs : List Addr} {Q : Value → Shared → Prop} (hh : A.handled = none) (ra : Reads s.heap a da as) (rb : Reads s.heap b db bs) (ha : PySem.W.AlikeAll [da, db]) (hu : A.units + 1 + PyData.depthAll [da, db] < cLine)
    (h : ∀ v h' tk, (v = if PySem.W.dataLt db da = true then b else a) → (∀ b o, s.heap.get? b = some o → h'.get? b = some o) → Q v { s with heap := h', toks := tk }) :
    wpAny (model prog w) A (call (.builtin "min") [a, b]) Q E s := by
  have k1 : ∀ c o, s.heap.get? c = some o → (s.heap.push { cls := .type "tuple", data := .seq #[a, b] }).get? c = some o := fun c o e => Heap.get?_push_of_some _ e
  refine call_min_twoH (PySem.W.iter_tupleW (A := A.in1) (s := { s with heap := s.heap.push { cls := .type "tuple", data := .seq #[a, b] } }) (l := s.heap.objs.size) (vs := #[a, b]) hh ⟨_, Heap.get?_push_size _ rfl, rfl, _, rfl⟩ fun s₂ e W st hfp hw hk => ?_)
  have hr : ReadsAll (s.heap.push { cls := .type "tuple", data := .seq #[a, b] }) (#[a, b] : Array Value).toList [da, db] (as ++ (bs ++ [])) := .cons (PySem.W.reads_keeps k1 ra) (.cons (PySem.W.reads_keeps k1 rb) .nil)
  refine ⟨_, _, _, _, _, _, _, _, _, rfl, W, st, hfp, by show 0 < 2; decide, hw, hk, PySem.W.cmpIn_lt (A := A.in1) (s := { s with heap := s.heap.push { cls := .type "tuple", data := .seq #[a, b] } }) hr ha (by show A.units + 1 + _ < _; exact hu), fun v s' hP m => ?_⟩
  obtain ⟨h', tk, rfl, hk'⟩ := PySem.W.moved_old e rfl m
  refine h v h' tk ?_ (fun c o eo => hk' c o (k1 c o eo))
  revert hP
  show (#[a, b] : Array Value)[argBest _ 1]? = some v → _
  unfold argBest
  show (#[a, b] : Array Value)[if PySem.W.dataLt db da = true then 1 else 0]? = some v → _
  by_cases z : PySem.W.dataLt db da = true
  · rw [if_pos z, if_pos z]; intro q; cases q; rfl
  · rw [if_neg z, if_neg z]; intro q; cases q; rfl
def max2T : List Dt → Option Dt
  | [.tup x, .tup y] => match okD 20 (.tup x) && okD 20 (.tup y) && alikeL [.tup x, .tup y] with
    | true => match PySem.W.dataLt (Dt.py (.tup x)) (Dt.py (.tup y)) with
      | true => some (.tup y)
      | false => some (.tup x)
    | false => none
  | a => maxP a
theorem c_maxA {C : Ct} (hc : C.calm = true) : CallP C (.builtin "max") max2T := ⟨fun X o pins s σ H xs us Q I r h => by
  obtain ⟨F, ds, d, fa, hb, hp, q⟩ := h
  unfold max2T at hp
  split at hp
  · rename_i x y
    split at hp
    · rename_i hk
      rw [Bool.and_eq_true, Bool.and_eq_true] at hk
      obtain ⟨⟨k1, k2⟩, k3⟩ := hk
      obtain ⟨v, w, rfl, h1, h2⟩ := bvs2 hb
      cases r with
      | @cons _ u1 _ _ r1 rr =>
      cases rr with
      | @cons _ u2 _ _ r2 rr =>
      cases rr
      obtain ⟨as, bs, ra, rb, hu⟩ := reads_both o I h1 h2 r1 r2 k1 k2
      have hu0 := o.units
      have e1 := (okD_lay 20 _ k1).2
      have e2 := (okD_lay 20 _ k2).2
      have hall : PySem.W.AlikeAll (pyAll [.tup x, .tup y]) := alikeL_ok (n := 20) k3 (by rw [List.all_cons, List.all_cons, k1, k2]; rfl)
      have dep : PyData.depthAll [Dt.py (.tup x), Dt.py (.tup y)] ≤ 20 := (okDs_lay (n := 20) [.tup x, .tup y] (by rw [List.all_cons, List.all_cons, k1, k2]; rfl)).2
      refine max_two_data (I.ok.hd (by rw [o.calm]; exact hc)) ra rb hall (by omega) fun v' h' tk hv hkp => ?_
      cases h1 with
      | of h1 =>
      cases h2 with
      | of h2 =>
      cases z : PySem.W.dataLt (Dt.py (.tup x)) (Dt.py (.tup y)) with
      | true =>
        rw [z] at hp; cases hp
        rw [z, if_pos rfl] at hv
        subst hv
        exact ⟨w, H, I.kept hkp, r2, q w H (Ex.refl H) h2⟩
      | false =>
        rw [z] at hp; cases hp
        rw [z, if_neg Bool.false_ne_true] at hv
        subst hv
        exact ⟨v, H, I.kept hkp, r1, q v H (Ex.refl H) h1⟩
    · cases hp
  · exact (c_max hc).run X o pins s σ H xs us Q I r ⟨F, _, d, fa, hb, hp, q⟩⟩
def min2T : List Dt → Option Dt
  | [.tup x, .tup y] => match okD 20 (.tup x) && okD 20 (.tup y) && alikeL [.tup x, .tup y] with
    | true => match PySem.W.dataLt (Dt.py (.tup y)) (Dt.py (.tup x)) with
      | true => some (.tup y)
      | false => some (.tup x)
    | false => none
  | a => minP a
theorem c_minA {C : Ct} (hc : C.calm = true) : CallP C (.builtin "min") min2T := ⟨fun X o pins s σ H xs us Q I r h => by
  obtain ⟨F, ds, d, fa, hb, hp, q⟩ := h
  unfold min2T at hp
  split at hp
  · rename_i x y
    split at hp
    · rename_i hk
      rw [Bool.and_eq_true, Bool.and_eq_true] at hk
      obtain ⟨⟨k1, k2⟩, k3⟩ := hk
      obtain ⟨v, w, rfl, h1, h2⟩ := bvs2 hb
      cases r with
      | @cons _ u1 _ _ r1 rr =>
      cases rr with
      | @cons _ u2 _ _ r2 rr =>
      cases rr
      obtain ⟨as, bs, ra, rb, hu⟩ := reads_both o I h1 h2 r1 r2 k1 k2
      have hu0 := o.units
      have e1 := (okD_lay 20 _ k1).2
      have e2 := (okD_lay 20 _ k2).2
      have hall : PySem.W.AlikeAll (pyAll [.tup x, .tup y]) := alikeL_ok (n := 20) k3 (by rw [List.all_cons, List.all_cons, k1, k2]; rfl)
      have dep : PyData.depthAll [Dt.py (.tup x), Dt.py (.tup y)] ≤ 20 := (okDs_lay (n := 20) [.tup x, .tup y] (by rw [List.all_cons, List.all_cons, k1, k2]; rfl)).2
      refine min_two_data (I.ok.hd (by rw [o.calm]; exact hc)) ra rb hall (by omega) fun v' h' tk hv hkp => ?_
      cases h1 with
      | of h1 =>
      cases h2 with
      | of h2 =>
      cases z : PySem.W.dataLt (Dt.py (.tup y)) (Dt.py (.tup x)) with
      | true =>
        rw [z] at hp; cases hp
        rw [z, if_pos rfl] at hv
        subst hv
        exact ⟨w, H, I.kept hkp, r2, q w H (Ex.refl H) h2⟩
      | false =>
        rw [z] at hp; cases hp
        rw [z, if_neg Bool.false_ne_true] at hv
        subst hv
        exact ⟨v, H, I.kept hkp, r1, q v H (Ex.refl H) h1⟩
    · cases hp
  · exact (c_min hc).run X o pins s σ H xs us Q I r ⟨F, _, d, fa, hb, hp, q⟩⟩
end Vi

set_option maxRecDepth 100000
namespace Vi
open PySem L2 Evl
/-! ### sorted -/
def leD (a b : Dt) : Bool := !PySem.W.dataLt b.py a.py
def insD (a : Dt) : List Dt → List Dt
  | [] => [a]
  | b :: r => match leD a b with
    | true => a :: b :: r
    | false => b :: insD a r
def isortD : List Dt → List Dt
  | [] => []
  | a :: l => insD a (isortD l)
def sortableL (l : List Dt) : Bool := (l.all fun d => match d with | .tup (_ :: _) => true | _ => false) || (l.all fun d => match d with | .tup _ => false | .non => false | _ => true)
def alikeQ (l : List Dt) : Bool := l.all fun a => l.all fun b => PySem.W.alike a.py b.py
def sortP : List Dt → Option Dt
  | [.lst l] => match l.all (okD 20) && alikeQ l && sortableL l && decide (l.length ≤ 100000) with
    | true => some (.lst (isortD l))
    | false => none
  | _ => none
section
variable {C : Ct} {X : Cx} {pins : List (Addr × Obj)} {σ : St} {H : Hp} {s : Shared}
end
end Vi

set_option maxRecDepth 100000
namespace Vi
open PySem L2 Evl
/-! ### dicts whose keys are tuples -/
section
variable {C : Ct} {X : Cx} {pins : List (Addr × Obj)} {σ : St} {H : Hp} {s : Shared} {F : List Addr}
mutual
theorem nested_of (I : Inv X pins σ H s) : ∀ {d : Dt} {v : V} {u : Value} {k : NestedKey}, Di C.K C.ly F H v d → RelV v u → keyN d = some k → NestedIs s.heap k u
  | .non, _, _, _, h, r, e => by cases h; cases e; cases r; exact .none
  | .bl b, _, _, _, h, r, e => by cases h; cases e; cases r; exact .bool rfl
  | .int i, _, _, _, h, r, e => by cases h; cases e; obtain ⟨t, rfl⟩ := r; exact .int i t
  | .str x, _, _, _, h, r, e => by cases h; cases e; obtain ⟨t, rfl⟩ := r; exact .text x t
  | .tup l, _, _, k, h, r, e => by
    obtain ⟨a, xs, rfl, h1, h2⟩ := h.tup_inv
    cases r
    unfold keyN at e
    cases z : keyNs l with
    | none => rw [z] at e; cases e
    | some ks =>
      rw [z] at e; cases e
      obtain ⟨its, rv, ⟨o, ho, hc, n, hd⟩, _⟩ := I.tuple (sqT_of h1)
      exact .tup ho hc hd (nesteds_of I h2 rv z)
  | .lst _, _, _, _, _, _, e => by cases e
  | .dct _ _, _, _, _, _, _, e => by cases e
  | .dck _ _, _, _, _, _, _, e => by cases e
  | .set _, _, _, _, _, _, e => by cases e
  | .ins _ _, _, _, _, _, _, e => by cases e
  | .scr _, _, _, _, _, _, e => by cases e
theorem nesteds_of (I : Inv X pins σ H s) : ∀ {l : List Dt} {xs : List V} {us : List Value} {ks : List NestedKey}, Dis C.K C.ly F H xs l → Vals xs us → keyNs l = some ks → NestedAll s.heap ks us
  | [], _, _, _, h, r, e => by cases h; cases r; cases e; exact .nil
  | d :: l, _, _, ks, h, r, e => by
    cases h with
    | cons h hs =>
      cases r with
      | cons r rs =>
        unfold keyNs at e
        cases z1 : keyN d with
        | none => rw [z1] at e; cases e
        | some k =>
          cases z2 : keyNs l with
          | none => rw [z1, z2] at e; cases e
          | some kk =>
            rw [z1, z2] at e; cases e
            exact .cons (nested_of I h r z1) (nesteds_of I hs rs z2)
end
/-- a dict opened: its entries -/
structure DOpen (X : Cx) (s : Shared) (a : Addr) (ps : List (NestedKey × Addr × V)) (xs : List (NestedKey × Addr × Value)) : Prop where
  pr : Paired (fun (p : NestedKey × Addr × V) (q : NestedKey × Addr × Value) => p.1 = q.1 ∧ p.2.1 = q.2.1 ∧ RelV p.2.2 q.2.2) ps xs
  d : s.heap.DictOfH (nestedKind X.prog X.w) a xs
  sys : (a == sysModules) = false
  len : ps.length ≤ sizeLine
theorem keys_is (I : Inv X pins σ H s) : ∀ {ps : List (NestedKey × Addr × V)} {ks : List Dt} {xs : List (NestedKey × Addr × Value)}, Paired (fun (p : NestedKey × Addr × V) (q : NestedKey × Addr × Value) => p.1 = q.1 ∧ p.2.1 = q.2.1 ∧ RelV p.2.2 q.2.2) ps xs → (∀ p ∈ ps, p.1.depth ≤ 8) → ks.map keyN = ps.map (fun p => some p.1) → Dis C.K C.ly F H (ps.map fun p => .ref p.2.1) ks →
    ∀ x ∈ xs, (nestedKind X.prog X.w).is s.heap x.1 x.2.1
  | _, _, _, .nil, _, _, _ => by simp
  | p :: ps, k :: ks, q :: xs, .cons r rs, hd, hk, h => by
    intro x hx
    cases h with
    | cons h hs =>
      rw [List.map_cons, List.map_cons] at hk
      have hk1 : keyN k = some p.1 := by injection hk
      have hk2 : ks.map keyN = ps.map (fun p => some p.1) := by injection hk
      rcases List.mem_cons.mp hx with z | z
      · subst z
        refine ⟨?_, ?_⟩
        · rw [← r.1, ← r.2.1]; exact nested_of I h rfl hk1
        · rw [← r.1]; exact hd p List.mem_cons_self
      · exact keys_is I rs (fun p hp => hd p (List.mem_cons_of_mem _ hp)) hk2 hs x z
  | p :: ps, [], q :: xs, .cons r rs, hd, hk, h => by cases h
theorem dg_open (o : C.Of X) (I : Inv X pins σ H s) {a : Addr} {ps : List (NestedKey × Addr × V)} {ks : List Dt} (h : H a = some (DG C.ly.P C.ly.w a ps)) (hk : ks.map keyN = ps.map (fun p => some p.1)) (hd : Dis C.K C.ly F H (ps.map fun p => .ref p.2.1) ks) : ∃ xs, DOpen X s a ps xs := by
  obtain ⟨⟨h1, h2, h3, xs, h4, ob, es, ep, h5, h6, h7, h8, h9⟩, _, _⟩ := I.hok a _ h
  rw [C.lyP, C.lyw, ← o.prog, ← o.w] at h8
  exact ⟨xs, h4, ⟨ob, es, ep, h5, h6, h7, h8, keys_is I h4 h3 hk hd, h9⟩, h1, h2⟩
/-- keys by == -/
def eqK (a b : Dt) : Bool := match keyN a, keyN b with
  | some x, some y => NestedKey.beq x y
  | _, _ => false
def lookD : List Dt → List Dt → Dt → Option Dt
  | k :: ks, v :: vs, x => match eqK k x with
    | true => some v
    | false => lookD ks vs x
  | _, _, _ => none
def lookV : List Dt → List Vl → Dt → Option Vl
  | k :: ks, v :: vs, x => match eqK k x with
    | true => some v
    | false => lookV ks vs x
  | _, _, _ => none
/-- where a key stands -/
def findK : List Dt → Dt → Option Nat
  | [], _ => none
  | k :: ks, x => match eqK k x with
    | true => some 0
    | false => match findK ks x with
      | some i => some (i + 1)
      | none => none
theorem eqK_of {a b : Dt} {x y : NestedKey} (ha : keyN a = some x) (hb : keyN b = some y) : eqK a b = decide (x = y) := by
  unfold eqK
  rw [ha, hb, NestedKey.decide_eq]
theorem find_at : ∀ {ps : List (NestedKey × Addr × V)} {ks : List Dt} {xs : List (NestedKey × Addr × Value)} {x : Dt} {k : NestedKey}, Paired (fun (p : NestedKey × Addr × V) (q : NestedKey × Addr × Value) => p.1 = q.1 ∧ p.2.1 = q.2.1 ∧ RelV p.2.2 q.2.2) ps xs → ks.map keyN = ps.map (fun p => some p.1) → keyN x = some k →
    (findK ks x = none ∧ atKey xs k = none) ∨ ∃ i p q, findK ks x = some i ∧ ps[i]? = some p ∧ atKey xs k = some q ∧ p.2.1 = q.1 ∧ RelV p.2.2 q.2
  | _, [], _, x, k, .nil, _, _ => .inl ⟨rfl, rfl⟩
  | p :: ps, c :: ks, q :: xs, x, k, .cons r rs, hk, hx => by
    rw [List.map_cons, List.map_cons] at hk
    have hk1 : keyN c = some p.1 := by injection hk
    have hk2 : ks.map keyN = ps.map (fun p => some p.1) := by injection hk
    have e := eqK_of hk1 hx
    unfold findK
    by_cases z : p.1 = k
    · rw [e, decide_eq_true z]
      refine .inr ⟨0, p, q.2, rfl, rfl, ?_, r.2.1, r.2.2⟩
      have z' : q.1 = k := by rw [← r.1]; exact z
      simp [atKey, z']
    · rw [e, decide_eq_false z]
      have ea : atKey (q :: xs) k = atKey xs k := by
        have z' : ¬ q.1 = k := by rw [← r.1]; exact z
        simp [atKey, z']
      rcases find_at rs hk2 hx with ⟨h1, h2⟩ | ⟨i, p', q', h1, h2, h3, h4, h5⟩
      · rw [h1]; exact .inl ⟨rfl, by rw [ea]; exact h2⟩
      · rw [h1]; exact .inr ⟨i + 1, p', q', rfl, h2, by rw [ea]; exact h3, h4, h5⟩
  | _ :: _, [], _ :: _, _, _, .cons _ _, hk, _ => by cases hk
  | [], _ :: _, [], _, _, .nil, hk, _ => by cases hk
/-- a key: a tuple, not too deep -/
def keyOk (x : Dt) : Bool := match x, keyN x with
  | .tup _, some k => decide (k.depth ≤ 8)
  | _, _ => false
theorem keyOk_inv {x : Dt} (h : keyOk x = true) : ∃ l k, x = .tup l ∧ keyN x = some k ∧ k.depth ≤ 8 := by
  cases x with
  | tup l =>
    unfold keyOk at h
    cases z : keyN (.tup l) with
    | none => rw [z] at h; cases h
    | some k => rw [z] at h; exact ⟨l, k, rfl, rfl, of_decide_eq_true h⟩
  | _ => cases h
theorem key_is (I : Inv X pins σ H s) {x : Dt} {v : V} {u : Value} (h : Di C.K C.ly F H v x) (r : RelV v u) (hk : keyOk x = true) : ∃ b k, v = .ref b ∧ u = .ref b ∧ keyN x = some k ∧ k.depth ≤ 8 ∧ (nestedKind X.prog X.w).is s.heap k b := by
  obtain ⟨l, k, rfl, h1, h2⟩ := keyOk_inv hk
  obtain ⟨b, xs, rfl, h3, h4⟩ := h.tup_inv
  have r' : u = .ref b := r
  refine ⟨b, k, rfl, r', h1, h2, ?_, h2⟩
  have := nested_of I h r h1
  rw [r'] at this
  exact this
theorem dict_fits (o : C.Of X) : (nestedKind X.prog X.w).room X.A.in1 := by
  show X.A.units + 1 + 8 < cLine
  have := o.units
  omega
end
def inP2 : Dt → Dt → Option Dt
  | x, .dct ks _ => match keyOk x with
    | true => some (.bl (findK ks x).isSome)
    | false => none
  | x, y => inP x y
def ninP2 : Dt → Dt → Option Dt
  | x, .dct ks _ => match keyOk x with
    | true => some (.bl (!(findK ks x).isSome))
    | false => none
  | x, y => ninP x y
section
variable {C : Ct}
theorem Bv.tupDi {K : PySem.W.Frag} {Ly : Lx} {F : List Addr} {H : Hp} {v : V} {l : List Dt} (h : Bv K Ly F H v (.tup l)) : Di K Ly F H v (.tup l) := by
  cases h with
  | of h => exact h
theorem Bv.keyDi {K : PySem.W.Frag} {Ly : Lx} {F : List Addr} {H : Hp} {v : V} {x : Dt} (h : Bv K Ly F H v x) (hk : keyOk x = true) : Di K Ly F H v x := by
  obtain ⟨l, k, rfl, _, _⟩ := keyOk_inv hk
  exact h.tupDi
theorem Bv.dctG_inv {K : PySem.W.Frag} {Ly : Lx} {F : List Addr} {H : Hp} {v : V} {ks vs : List Dt} (h : Bv K Ly F H v (.dct ks vs)) : ∃ a ps, v = .ref a ∧ H a = some (DG Ly.P Ly.w a ps) ∧ ks.map keyN = ps.map (fun p => some p.1) ∧ Dis K Ly F H (ps.map fun p => .ref p.2.1) ks ∧ Dis K Ly F H (ps.map (·.2.2)) vs := by
  cases h with
  | of h =>
    cases h with
    | dctG h n hk h1 h2 => exact ⟨_, _, rfl, h, hk, h1, h2⟩
  | dctG h hk h1 h2 => exact ⟨_, _, rfl, h, hk, h1, h2⟩
theorem Bv.dctK_inv {K : PySem.W.Frag} {Ly : Lx} {F : List Addr} {H : Hp} {v : V} {ks vs : List Dt} (h : Bv K Ly F H v (.dck ks vs)) : ∃ a kvs, v = .ref a ∧ H a = some (.dK kvs) ∧ ks = kvs.map (fun p => keyD p.1) ∧ Dis K Ly F H (kvs.map (·.2)) vs := by
  cases h with
  | of h =>
    cases h with
    | dctK h n h2 => exact ⟨_, _, rfl, h, rfl, h2⟩
  | dctK h h2 => exact ⟨_, _, rfl, h, rfl, h2⟩
theorem cmp_inP2 : CmpP C .In inP2 := ⟨fun X o pins s σ H x y v u Q I rx ry h => by
  obtain ⟨F, a, b, d, fa, ha, hb, hp, q⟩ := h
  unfold inP2 at hp
  split at hp
  · rename_i ks vs
    split at hp
    · rename_i hk
      cases hp
      obtain ⟨kb, k, rfl, rfl, hk1, hk2, his⟩ := key_is (C := C) I (ha.keyDi hk) rx hk
      obtain ⟨ad, ps, rfl, h1, h2, h3, h4⟩ := hb.dctG_inv
      cases ry
      obtain ⟨xs, D⟩ := dg_open o I h1 h2 h3
      refine wpAny_in_heap (dict_fits o) his D.sys D.d ⟨.bl _, H, I.tok _, rfl, ?_⟩
      rcases find_at D.pr h2 hk1 with ⟨e1, e2⟩ | ⟨i, p, q', e1, _, e2, _⟩
      · rw [e1] at q; rw [e2]; exact vbl q
      · rw [e1] at q; rw [e2]; exact vbl q
    · cases hp
  · exact cmp_inP.run X o pins s σ H x y v u Q I rx ry ⟨F, a, b, d, fa, ha, hb, hp, q⟩⟩
/-! d[k], d.get(k, x) -/
def ixP2 : Dt → Dt → Option Dt
  | .dct ks vs, x => match keyOk x with
    | true => match findK ks x with
      | some i => vs[i]?
      | none => none
    | false => none
  | a, b => ixP a b
theorem val_at {K : PySem.W.Frag} {Ly : Lx} {F : List Addr} {H : Hp} {ps : List (NestedKey × Addr × V)} {vs : List Dt} {i : Nat} {p : NestedKey × Addr × V} (h : Dis K Ly F H (ps.map (·.2.2)) vs) (hi : ps[i]? = some p) : ∃ d, vs[i]? = some d ∧ Di K Ly F H p.2.2 d := h.getv (i := i) (v := p.2.2) (by rw [List.getElem?_map, hi]; rfl)
theorem ix_P2 : IxP C ixP2 := ⟨fun X o value slice pins s σ H x y v u Q I rx ry h hs => by
  obtain ⟨F, a, b, d, fa, ha, hb, hp, q⟩ := h
  unfold ixP2 at hp
  split at hp
  · rename_i ks vs
    split at hp
    · rename_i hk
      obtain ⟨kb, k, rfl, rfl, hk1, hk2, his⟩ := key_is (C := C) I (hb.keyDi hk) ry hk
      obtain ⟨ad, ps, rfl, h1, h2, h3, h4⟩ := ha.dctG_inv
      cases rx
      obtain ⟨xs, D⟩ := dg_open o I h1 h2 h3
      rcases find_at D.pr h2 hk1 with ⟨e1, e2⟩ | ⟨i, p, q', e1, e3, e2, e4, e5⟩
      · rw [e1] at hp; cases hp
      · rw [e1] at hp
        dsimp only at hp
        obtain ⟨d', hd', dd⟩ := val_at h4 e3
        rw [hp] at hd'; cases hd'
        exact PyProof.Rows.tail_any D.d.typeIs PySem.F.slot_dict_getitem.lookup (wpAny_getItem_heap (dict_fits o) his D.d e2 ⟨p.2.2, H, I.tok _, e5, q _ H (Ex.refl H) dd⟩) hs
    · cases hp
  · exact ix_P.run X o value slice pins s σ H x y v u Q I rx ry ⟨F, a, b, d, fa, ha, hb, hp, q⟩ hs⟩
/-! {} -/
theorem dgp_stay {P : Program} {w : World} {a : Addr} {ps : List (NestedKey × Addr × V)} : ∀ h1 h2 : Heap, DGp P w a ps h1 → (∀ o, h1.get? a = some o → h2.get? a = some o) → DGp P w a ps h2 := fun h1 h2 h k => by
  obtain ⟨z1, z2, z3, xs, z4, ob, es, ep, z5, z6⟩ := h
  exact ⟨z1, z2, z3, xs, z4, ob, es, ep, k _ z5, z6⟩
theorem dg_ok {P : Program} {w : World} {a : Addr} {ps : List (NestedKey × Addr × V)} {H : Hp} {h : Heap} (x : DGp P w a ps h) : ObjOk P w H h a (DG P w a ps) := by
  refine ⟨x, ?_, dgp_stay⟩
  obtain ⟨z1, z2, z3, xs, z4, ob, es, ep, z5, z6⟩ := x
  exact ⟨ob, z5⟩
def dct0 : DenD := fun _ h => .ok (.dct [] []) h
theorem sf_dict0 {pos : Pos} : SF C (.Dict [] [] pos) dct0 := ⟨fun X o W tk Z m σ H ρ h Q r env q => fun pins s I => by
  have hn : H s.heap.objs.size = none := I.hok.fresh (Nat.le_refl _)
  have big := I.big
  refine wpAny_Dict_empty ⟨.ref s.heap.objs.size, _, I.laid (a := s.heap.objs.size) (o := DG C.ly.P C.ly.w s.heap.objs.size []) (t' := s.toks) (fun _ _ q => Heap.get?_push_of_some _ q) (Nat.le_refl _) ?_, rfl, q _ m _ (Evo.ex (Ex.new hn)) (r.addN (Ex.new hn) hn upd_same (by intro _ z; cases z)) hn ⟨[], upd_same, ⟨rfl, .nil⟩, .nil⟩⟩
  rw [C.lyP, C.lyw, ← o.prog, ← o.w]
  exact dg_ok ⟨beq_eq_false_iff_ne.mpr (Nat.ne_of_gt big), Nat.zero_le _, by simp, [], .nil, _, #[], 0, Heap.get?_push_size _ rfl, ⟨rfl, rfl, rfl⟩, rfl, rfl, List.nodup_nil⟩⟩
end
end Vi

set_option maxRecDepth 100000
namespace Vi
open PySem L2 Evl
/-! ### stores into dicts -/
abbrev Ent := NestedKey × Addr × V
abbrev EntR : Ent → (NestedKey × Addr × Value) → Prop := fun p q => p.1 = q.1 ∧ p.2.1 = q.2.1 ∧ RelV p.2.2 q.2.2
def putE (k : NestedKey) (v : V) (p : Ent) : Ent := if p.1 = k then (p.1, p.2.1, v) else p
theorem putE_paired {k : NestedKey} {v : V} {u : Value} (r : RelV v u) : ∀ {ps : List Ent} {xs : List (NestedKey × Addr × Value)}, Paired EntR ps xs → Paired EntR (ps.map (putE k v)) (xs.map (putAt k u))
  | _, _, .nil => .nil
  | p :: ps, q :: xs, .cons h t => by
    refine .cons ?_ (putE_paired r t)
    unfold putE putAt
    by_cases z : p.1 = k
    · rw [if_pos z, if_pos (by rw [← h.1]; exact z)]; exact ⟨h.1, h.2.1, r⟩
    · rw [if_neg z, if_neg (by rw [← h.1]; exact z)]; exact h
theorem ent_keys : ∀ {ps : List Ent} {xs : List (NestedKey × Addr × Value)}, Paired EntR ps xs → ps.map (·.1) = xs.map (·.1)
  | _, _, .nil => rfl
  | _, _, .cons h t => by rw [List.map_cons, List.map_cons, h.1, ent_keys t]
theorem paired_app {α β : Type} {R : α → β → Prop} : ∀ {a c : List α} {b d : List β}, Paired R a b → Paired R c d → Paired R (a ++ c) (b ++ d)
  | _, _, _, _, .nil, h => h
  | _, _, _, _, .cons r t, h => .cons r (paired_app t h)
theorem putE_keys (k : NestedKey) (v : V) (ps : List Ent) : (ps.map (putE k v)).map (fun p => some p.1) = ps.map (fun p => some p.1) := by
  rw [List.map_map]
  refine List.map_congr_left fun p _ => ?_
  show some (putE k v p).1 = _
  unfold putE
  split <;> rfl
theorem putE_refs (k : NestedKey) (v : V) (ps : List Ent) : (ps.map (putE k v)).map (fun p => V.ref p.2.1) = ps.map (fun p => V.ref p.2.1) := by
  rw [List.map_map]
  refine List.map_congr_left fun p _ => ?_
  show V.ref (putE k v p).2.1 = _
  unfold putE
  split <;> rfl
theorem putE_none {k : NestedKey} {v : V} : ∀ {ps : List Ent}, k ∉ ps.map (·.1) → ps.map (putE k v) = ps
  | [], _ => rfl
  | p :: ps, h => by
    rw [List.map_cons, List.mem_cons, not_or] at h
    rw [List.map_cons, putE_none h.2]
    unfold putE
    rw [if_neg (fun z => h.1 z.symm)]
/-- where the key stands the value is put -/
theorem putE_at {k : NestedKey} {v : V} {x : Dt} (hx : keyN x = some k) : ∀ {ps : List Ent} {ks : List Dt} {i : Nat}, ks.map keyN = ps.map (fun p => some p.1) → (ps.map (·.1)).Nodup → findK ks x = some i → (ps.map (putE k v)).map (·.2.2) = (ps.map (·.2.2)).set i v
  | [], [], i, _, _, h => by cases h
  | p :: ps, c :: ks, i, hk, nd, h => by
    rw [List.map_cons, List.map_cons] at hk
    have hk1 : keyN c = some p.1 := by injection hk
    have hk2 : ks.map keyN = ps.map (fun p => some p.1) := by injection hk
    have e := eqK_of hk1 hx
    rw [List.map_cons, List.nodup_cons] at nd
    unfold findK at h
    by_cases z : p.1 = k
    · rw [e, decide_eq_true z] at h
      cases h
      rw [List.map_cons, List.map_cons, List.map_cons, List.set_cons_zero, putE_none (by rw [← z]; exact nd.1)]
      unfold putE
      rw [if_pos z]
    · rw [e, decide_eq_false z] at h
      dsimp only at h
      cases z2 : findK ks x with
      | none => rw [z2] at h; cases h
      | some j =>
        rw [z2] at h
        cases h
        rw [List.map_cons, List.map_cons, List.map_cons, List.set_cons_succ, putE_at hx hk2 nd.2 z2]
        unfold putE
        rw [if_neg z]
  | [], _ :: _, _, hk, _, _ => by cases hk
  | _ :: _, [], _, hk, _, _ => by cases hk
def stE (ks : List Dt) (x : Dt) (k : NestedKey) (b : Addr) (v : V) (ps : List Ent) : List Ent := match findK ks x with
  | some _ => ps.map (putE k v)
  | none => ps ++ [(k, b, v)]
section
variable {C : Ct} {X : Cx} {pins : List (Addr × Obj)} {σ : St} {H : Hp} {s : Shared} {F : List Addr}
/-- behind a store -/
theorem dg_stored (o : C.Of X) (I : Inv X pins σ H s) {a b : Addr} {ps : List Ent} {ks : List Dt} {xs : List (NestedKey × Addr × Value)} {x : Dt} {k : NestedKey} {v : V} {u : Value} {h' : Heap} {t' : Nat} (h : H a = some (DG C.ly.P C.ly.w a ps)) (hk : ks.map keyN = ps.map (fun p => some p.1)) (D : DOpen X s a ps xs) (hx : keyN x = some k) (hd : k.depth ≤ 8) (r : RelV v u) (hl : ps.length < 100000)
    (hm : h'.DictOfH (nestedKind X.prog X.w) a (storedH xs k b u)) (hs : Heap.SameBut a s.heap h') : Inv X pins σ (upd H a (DG C.ly.P C.ly.w a (stE ks x k b v ps))) { s with heap := h', toks := t' } := by
  have hdep : ∀ p ∈ ps, p.1.depth ≤ 8 := by
    obtain ⟨⟨_, _, z, _⟩, _, _⟩ := I.hok a _ h
    exact z
  obtain ⟨ob, es, ep, m1, m2, m3, m4, m5, m6⟩ := hm
  refine I.write (x := a) (e := a) (by rw [h]; exact trivial) (.inl rfl) (fun c w hc hw => (hs.2 c hc).trans hw) ⟨ob, m1⟩ ?_
  rw [C.lyP, C.lyw, ← o.prog, ← o.w]
  refine dg_ok ⟨D.sys, ?_, ?_, storedH xs k b u, ?_, ob, es, ep, m1, m2, m3, m4, m6⟩
  · unfold stE
    split
    · rw [List.length_map]; exact sz_of (by omega)
    · rw [List.length_append, List.length_singleton]; exact sz_of (by omega)
  · unfold stE
    split
    · intro p hp
      obtain ⟨p', hp', rfl⟩ := List.mem_map.mp hp
      have := hdep p' hp'
      unfold putE
      split <;> exact this
    · intro p hp
      rcases List.mem_append.mp hp with z | z
      · exact hdep p z
      · rw [List.mem_singleton] at z; rw [z]; exact hd
  · unfold stE
    rcases find_at D.pr hk hx with ⟨e1, e2⟩ | ⟨i, p, q', e1, _, e2, _⟩
    · rw [e1, storedH_new e2]
      exact paired_app D.pr (.cons ⟨rfl, rfl, r⟩ .nil)
    · rw [e1, storedH_old e2]
      exact putE_paired r D.pr
theorem ent_nodup {a : Addr} {ps : List Ent} {xs : List (NestedKey × Addr × Value)} (D : DOpen X s a ps xs) : (ps.map (·.1)).Nodup := by
  rw [ent_keys D.pr]
  obtain ⟨_, _, _, _, _, _, _, _, z⟩ := D.d
  exact z
end
def putK (ks : List Dt) (x : Dt) : List Dt := match findK ks x with
  | some _ => ks
  | none => ks ++ [x]
def putV (ks : List Dt) (vs : List Vl) (x : Dt) (y : Vl) : List Vl := match findK ks x with
  | some i => vs.set i y
  | none => vs ++ [y]
theorem Dvs.set {K : PySem.W.Frag} {Ly : Lx} {Z m : List Addr} {H : Hp} {v : V} {x : Vl} (q : Dv K Ly Z m H v x) : ∀ {vs : List V} {xs : List Vl} (n : Nat), Dvs K Ly Z m H vs xs → Dvs K Ly Z m H (vs.set n v) (xs.set n x)
  | _, _, _, .nil => .nil
  | _, _, 0, .cons r t => .cons q t
  | _, _, n + 1, .cons r t => .cons r (Dvs.set q n t)
section
variable {C : Ct} {Z m : List Addr} {H : Hp} {h : Hs} {X : Cx} {pins : List (Addr × Obj)} {σ : St} {s : Shared}
theorem Dv.keepsM {H' : Hp} (k : Keeps (Z ++ m) H (Z ++ m) H') {v : V} {x : Vl} (q : Dv C.K C.ly Z m H v x) : Dv C.K C.ly Z m H' v x := by
  cases x with
  | d y => exact Di.mono C.lok k q
  | r n => exact q
theorem Dvs.keepsM {H' : Hp} (k : Keeps (Z ++ m) H (Z ++ m) H') : ∀ {vs : List V} {xs : List Vl}, Dvs C.K C.ly Z m H vs xs → Dvs C.K C.ly Z m H' vs xs
  | _, _, .nil => .nil
  | _, _, .cons q t => .cons (q.keepsM k) (Dvs.keepsM k t)
/-- the relation behind a store -/
theorem Rl.setD (r : Rl C Z m H h) {n : Nat} {a b : Addr} {ps : List Ent} {xs : List (NestedKey × Addr × Value)} {ks : List Dt} {vs : List Vl} {x : Dt} {y : Vl} {k : NestedKey} {v : V} (hn : m[n]? = some a) (D : DOpen X s a ps xs) (hk : ks.map keyN = ps.map (fun p => some p.1)) (dk : Dis C.K C.ly (Z ++ m) H (ps.map fun p => .ref p.2.1) ks) (dv : Dvs C.K C.ly Z m H (ps.map (·.2.2)) vs)
    (hx : keyN x = some k) (dx : Di C.K C.ly (Z ++ m) H (.ref b) x) (dy : Dv C.K C.ly Z m H v y) : Rl C Z m (upd H a (DG C.ly.P C.ly.w a (stE ks x k b v ps))) (h.set n (.dct (putK ks x) (putV ks vs x y))) ∧ Evo m H m (upd H a (DG C.ly.P C.ly.w a (stE ks x k b v ps))) := by
  have am := List.mem_of_getElem? hn
  have kk : Keeps (Z ++ m) H (Z ++ m) (upd H a (DG C.ly.P C.ly.w a (stE ks x k b v ps))) := keeps_upd (List.mem_append_right _ am) (r.notup a am) fun fs => r.own a am (.inr fs)
  refine r.setO hn (by intro _ z; cases z) (by intro y z; cases y <;> first | cases z | exact dg_code z | exact dg_code (Option.some.inj z) | exact slo_code z | exact slo_code (Option.some.inj z)) ⟨stE ks x k b v ps, upd_same, ⟨?_, ?_⟩, ?_⟩
  · unfold putK stE
    cases z : findK ks x with
    | some i => show ks.map keyN = _; rw [putE_keys]; exact hk
    | none => show (ks ++ [x]).map keyN = _; rw [List.map_append, List.map_append, hk]; simp [hx]
  · refine Dis.mono C.lok kk ?_
    unfold putK stE
    cases z : findK ks x with
    | some i => show Dis _ _ _ _ ((ps.map (putE k v)).map _) ks; rw [putE_refs]; exact dk
    | none => show Dis _ _ _ _ ((ps ++ [(k, b, v)]).map _) (ks ++ [x]); rw [List.map_append]; exact dk.append (.cons dx .nil)
  · refine Dvs.keepsM kk ?_
    unfold putV stE
    cases z : findK ks x with
    | some i => show Dvs _ _ _ _ _ ((ps.map (putE k v)).map _) (vs.set i y); rw [putE_at hx hk (ent_nodup D) z]; exact Dvs.set dy i dv
    | none => show Dvs _ _ _ _ _ ((ps ++ [(k, b, v)]).map _) (vs ++ [y]); rw [List.map_append]; exact dv.append (.cons dy .nil)
end
/-! d[k] = v -/
def setItS (f g k : Den) : DenS := fun ρ h => bindS (f ρ h) ρ fun y h1 => bindS (g ρ h1) ρ fun d h2 => bindS (k ρ h2) ρ fun x h3 => match d, x with
  | .r n, .d x => match h3[n]? with
    | some (.dct ks vs) => match keyOk x && decide (ks.length < 100000) with
      | true => .nx ρ (h3.set n (.dct (putK ks x) (putV ks vs x y)))
      | false => .bad
    | some (.lst l) => match y, x with
      | .d y, .int i => match ixN l.length i with
        | some j => .nx ρ (h3.set n (.lst (l.set j y)))
        | none => .bad
      | _, _ => .bad
    | _ => .bad
  | _, _ => .bad
def rSetG (C : Ct) (X : Cx) : TSet := fun o i v H Q => (∃ a b ps ks F x k, o = .ref a ∧ i = .ref b ∧ H a = some (DG C.ly.P C.ly.w a ps) ∧ ks.map keyN = ps.map (fun p => some p.1) ∧ Dis C.K C.ly F H (ps.map fun p => .ref p.2.1) ks ∧ Di C.K C.ly F H (.ref b) x ∧ keyOk x = true ∧ keyN x = some k ∧ ps.length < 100000 ∧
  ∀ (s : Shared) xs, DOpen X s a ps xs → Q (upd H a (DG C.ly.P C.ly.w a (stE ks x k b v ps)))) ∨ rSetL o i v H Q
theorem set_G {C : Ct} {X : Cx} (o : C.Of X) : PSet X (rSetG C X) := by
  intro pins s σ H ov iv v oV iV u Q I ro ri rv h
  rcases h with ⟨a, b, ps, ks, F, x, k, rfl, rfl, h1, h2, h3, h4, h5, h6, h7, q⟩ | h
  · cases ro
    obtain ⟨b', k', e1, e2, e3, e4, his⟩ := key_is (C := C) I h4 ri h5
    cases e1
    rw [h6] at e3; cases e3
    cases ri
    obtain ⟨xs, D⟩ := dg_open o I h1 h2 h3
    have hlen : xs.length = ps.length := (Paired.length D.pr).symm
    exact wpAny_setItem_heap (hsz := by rw [hlen]; exact D.len) (dict_fits o) his D.d fun h' hm hs => ⟨_, dg_stored o I h1 h2 D h6 e4 rv h7 hm hs, q s xs D⟩
  · exact set_list pins s σ H ov iv v oV iV u Q I ro ri rv h
section
variable {C : Ct} {a b e : Expr} {f g k : Den} {pos p' : Pos}
def PlainSet (a b : Expr) (p' : Pos) : Prop := ∀ env v, assign (.Subscript a b p') env v = (do
      let ov ← holding [v] (eval a env)
      let iv ← holding [v, ov] (eval b env)
      standAt p'
      holding [v, ov, iv] (setItem ov iv v)
      release [v, ov, iv] [])
theorem ss_setIt (hs : ∀ env, swapsWithSole [.Subscript a b p'] e pos.line env = pure false) (hw : ∀ env, swappedStores [.Subscript a b p'] e env = pure none) (h1 : ∀ env, (assignEach [.Subscript a b p'] env).map (·.2) = [assign (.Subscript a b p') env]) (hpl : PlainSet a b p')
    (he : SE C e f) (ha : SE C a g) (hb : SE C b k) : SS C (.Assign [.Subscript a b p'] e pos) (setItS f g k) := ⟨fun X o pn W tk Z m σ H ρ h D r env q => by
  refine PSw (ps_asg pe_w (pg_sub pe_w pe_w (set_G o) (hpl _)) (hs _) (hw _) (h1 _)) ?_
  refine he.run X o W tk Z m σ H ρ h _ r env ((EOk.toS r env q).imp fun v H1 ⟨m1, y, h1, e1, r1, d1, q1⟩ => ?_)
  have n1 := env.mono r e1
  refine ha.run X o W tk Z m1 σ H1 ρ h1 _ r1 n1 ((EOk.toS r1 n1 q1).imp fun vd H2 ⟨m2, d, h2, e2, r2, d2, q2⟩ => ?_)
  have n2 := n1.mono r1 e2
  refine hb.run X o W tk Z m2 σ H2 ρ h2 _ r2 n2 ((EOk.toS r2 n2 q2).imp fun vk H3 ⟨m3, x, h3, e3, r3, d3, q3⟩ => ?_)
  have n3 := n2.mono r2 e3
  have dy := (d1.mono r1 e2).mono r2 e3
  have dd := d2.mono r2 e3
  cases d with
  | d _ => exact q3.elim
  | r n =>
    cases x with
    | r _ => exact q3.elim
    | d x =>
      dsimp only at q3
      cases z : h3[n]? with
      | none => rw [z] at q3; exact q3.elim
      | some ob =>
        rw [z] at q3
        cases ob with
        | dct ks vs =>
          dsimp only at q3
          cases z2 : keyOk x && decide (ks.length < 100000) with
          | false => rw [z2] at q3; exact q3.elim
          | true =>
            rw [z2] at q3
            rw [Bool.and_eq_true] at z2
            obtain ⟨ad, k1, rfl, ps, k2, k3, k4⟩ := r3.at dd z
            obtain ⟨l, kk, rfl, hx, hdep⟩ := keyOk_inv z2.1
            obtain ⟨b, xs, rfl, k5, k6⟩ := Di.tup_inv d3
            have hlen : ps.length = ks.length := by
              have := congrArg List.length k3.1
              simpa using this.symm
            refine .inl ⟨ad, b, ps, ks, Z ++ m3, _, kk, rfl, rfl, k2, k3.1, k3.2, d3, z2.1, hx, by rw [hlen]; exact of_decide_eq_true z2.2, fun s xs Do => ?_⟩
            obtain ⟨r4, e4⟩ := r3.setD k1 Do k3.1 k3.2 k4 hx d3 dy
            exact q3 σ m3 _ e4 r4 (n3.mono r3 e4)
        | lst l =>
          dsimp only at q3
          cases y with
          | r _ => exact q3.elim
          | d y =>
            cases x with
            | int i =>
              dsimp only at q3
              cases z2 : ixN l.length i with
              | none => rw [z2] at q3; exact q3.elim
              | some j =>
                rw [z2] at q3
                obtain ⟨ad, k1, rfl, vs, k2, k3⟩ := r3.at dd z
                have d3' : vk = .int i := Di.int_inv d3
                subst d3'
                obtain ⟨r4, e4⟩ := r3.setL (us := []) k1 (k3.set (show Di C.K C.ly (Z ++ m3) H3 v y from dy) j)
                exact .inr ⟨ad, vs, i, j, rfl, rfl, k2, by rw [k3.length]; exact z2, q3 σ m3 _ e4 r4 (n3.mono r3 e4)⟩
            | _ => exact q3.elim
        | _ => exact q3.elim⟩
end
end Vi

set_option maxRecDepth 100000
namespace Vi
open PySem L2 Evl PyProof.Rows
/-! ### methods of built-in types, whatever is known of the receiver -/
def TyQ (X : Cx) (T : String) (x : V) (H : Hp) : Prop := ∀ pins σ s v, Inv X pins σ H s → RelV x v → s.TypeIs v T ∧ ∀ a, v = .ref a → ∃ ob, s.heap.get? a = some ob ∧ ob.dict = none
def tBMq (X : Cx) (T : String) (r : V → List V → Hp → VK → Prop) (to : TE) (t : TA) : TE := fun σ H Q => to σ H fun x H1 => TyQ X T x H1 ∧ t σ H1 fun xs H2 => r x xs H2 Q
section
variable {X : Cx} {o e : Expr} {es : List Expr} {to : TE} {t : TA} {name : Str} {apos cpos : Pos} {T id : String} {r : V → List V → Hp → VK → Prop}
end
section
variable {C : Ct}
end
/-! d.setdefault(k, x) -/
def sdV (f k g : Den) : Den := fun ρ h => (f ρ h).bind fun d h1 => match d with
  | .r n => match h1[n]? with
    | some (.dct _ _) => (k ρ h1).bind fun x h2 => (g ρ h2).bind fun y h3 => match x, h3[n]? with
      | .d x, some (.dct ks vs) => match keyOk x && decide (ks.length < 100000) with
        | true => match findK ks x with
          | some i => match vs[i]? with
            | some w => .ok w h3
            | none => .bad
          | none => .ok y (h3.set n (.dct (putK ks x) (putV ks vs x y)))
        | false => .bad
      | _, _ => .bad
    | _ => .bad
  | _ => .bad
def rSd (C : Ct) (X : Cx) : V → List V → Hp → VK → Prop := fun o as H Q => ∃ a b v ps ks F x k, o = .ref a ∧ as = [.ref b, v] ∧ H a = some (DG C.ly.P C.ly.w a ps) ∧ ks.map keyN = ps.map (fun p => some p.1) ∧ Dis C.K C.ly F H (ps.map fun p => .ref p.2.1) ks ∧ Di C.K C.ly F H (.ref b) x ∧ keyOk x = true ∧ keyN x = some k ∧ ps.length < 100000 ∧
  (∀ i p, findK ks x = some i → ps[i]? = some p → Q p.2.2 H) ∧ (findK ks x = none → ∀ (s : Shared) xs, DOpen X s a ps xs → Q v (upd H a (DG C.ly.P C.ly.w a (stE ks x k b v ps))))
section
variable {C : Ct} {a b e : Expr} {f g k : Den} {p1 p2 : Pos}
theorem Dvs.getv {K : PySem.W.Frag} {Ly : Lx} {Z m : List Addr} {H : Hp} : ∀ {vs : List V} {xs : List Vl} {i : Nat} {x : Vl}, Dvs K Ly Z m H vs xs → xs[i]? = some x → ∃ v, vs[i]? = some v ∧ Dv K Ly Z m H v x
  | _, _, _, _, .nil, e => by simp at e
  | _, _, 0, _, .cons h _, e => by simp at e; subst e; exact ⟨_, rfl, h⟩
  | _, _, i + 1, x, .cons _ t, e => by
    obtain ⟨u, h1, h2⟩ := Dvs.getv (i := i) (x := x) t (by simpa using e)
    exact ⟨u, by simpa using h1, h2⟩
end
end Vi

set_option maxRecDepth 100000
namespace Vi
open PySem L2 Evl PyProof.Rows
/-! ### many new tuples at once -/
def putTs (H : Hp) : List Addr → List (List V) → Hp
  | a :: as, x :: xs => upd (putTs H as xs) a (.tup x)
  | _, _ => H
section
variable {X : Cx} {pins : List (Addr × Obj)} {σ : L2.St} {H : Hp} {s : Shared}
end
/-! list(d.items()) -/
def itemsD (ks vs : List Dt) : List Dt := (ks.zip vs).map fun p => .tup [p.1, p.2]
def itemsF (f : Den) : DenD := fun ρ h => (f ρ h).bind fun x h1 => match bor h1 x with
  | some (.dct ks vs) => .ok (.lst (itemsD ks vs)) h1
  | _ => .bad
section
variable {C : Ct} {e : Expr} {f : Den} {p apos cpos pos : Pos}
end
end Vi

set_option maxRecDepth 100000
namespace Vi
open PySem L2 Evl PyProof.Rows
section
variable {C : Ct} {X : Cx} {pins : List (Addr × Obj)} {σ : L2.St} {H : Hp} {s : Shared}
end
def listP2 : List Dt → Option Dt
  | [.dct ks _] => some (.lst ks)
  | a => listP a
def sortP2 : List Dt → Option Dt
  | [.dct ks _] => sortP [.lst ks]
  | a => sortP a
end Vi

set_option maxRecDepth 100000
set_option maxHeartbeats 1000000
/-! ### enumerate; zip of two and three, of lists and tuples as they come -/
namespace PySem
theorem vi_enumerate_new {v : Value} {o : Obj} {H : Heap → Prop} (B : Begins v o H) :
    Meets (Builtin.«enumerate.__new__» ⟨[.type "enumerate", v], []⟩) (fun _ R s => H s.heap ∧
      R (.ok (.ret (.ref (s.heap.push o).objs.size))) { s with heap := (s.heap.push o).push { cls := .type "enumerate", data := .fields #[.none, .bool false, .ref s.heap.objs.size, rawInt 0, .none, .none] } }) :=
  .of_wp fun prog w A R s h => by
    obtain ⟨hp, g, d, tk, os⟩ := s; obtain ⟨h1, h⟩ := h
    have hsub := sub_enumerate
    have q1 : ∀ {A' : Around} {E : Value → Shared → Prop} {Q : Value → Shared → Prop}, Q (.ref hp.objs.size) ⟨hp.push o, g, d, tk, os⟩ → wpAny (model prog w) A' (pyIter v) Q E ⟨hp, g, d, tk, os⟩ :=
      fun q => B.iter prog w _ _ ⟨hp, g, d, tk, os⟩ _ h1 q
    wp_walk using q1
    refine wpAny_stack_any fun st => wpAny_pure ?_
    split
    · rename_i c _ _ _ _ _
      cases (c == Value.type "enumerate")
      · wp_walk using q1
        exact ⟨_, rfl, h⟩
      · wp_walk using q1
        exact ⟨_, rfl, h⟩
    · wp_walk using q1
      exact ⟨_, rfl, h⟩
section
variable {prog : Program} {w : World} {A : Around} {E : Value → Shared → Prop} {s : Shared}
theorem vi_enum_begins {v : Value} {o : Obj} {H : Heap → Prop} {Q : Value → Shared → Prop} (B : Begins v o H) (h1 : H s.heap)
    (h : ∀ h', IsEnum h' (s.heap.objs.size + 1) s.heap.objs.size 0 .none → h'.get? s.heap.objs.size = some o → h'.objs.size = s.heap.objs.size + 2 →
      (∀ b o, s.heap.get? b = some o → h'.get? b = some o) → Q (.ref (s.heap.objs.size + 1)) { s with heap := h' }) :
    wpAny (model prog w) A (call (.type "enumerate") [v]) Q E s := by
  refine callType_new F.called_enumerate (by decide) (F.typeCall_enumerate_1 _) (F.newCall_enumerate_1 _) (fun obj => F.args_object_init_2 obj _) F.entry_enumerate_new
    (vi_enumerate_new B) ⟨h1, ?_⟩
  have hz : (s.heap.push o).objs.size = s.heap.objs.size + 1 := Heap.size_push ..
  show _ ∧ _
  rw [hz]
  have he : IsEnum ((s.heap.push o).push { cls := .type "enumerate", data := .fields #[.none, .bool false, .ref s.heap.objs.size, rawInt 0, .none, .none] }) (s.heap.objs.size + 1) s.heap.objs.size 0 .none := by
    have := Heap.get?_push_size (s.heap.push o) (o := { cls := .type "enumerate", data := .fields #[.none, .bool false, .ref s.heap.objs.size, rawInt 0, .none, .none] }) rfl
    rw [hz] at this; exact this
  refine ⟨⟨_, he, rfl⟩, h _ he (Heap.get?_push_of_some _ (Heap.get?_push_size _ B.free)) (by rw [Heap.size_push, hz]) fun b o x => Heap.get?_push_of_some _ (Heap.get?_push_of_some _ x)⟩
end
end PySem
namespace Vi
open PySem PySem.Spec PyProof.Rows L2 Evl
/-- a tuple (true) or a list -/
def HSq (t : Bool) (H : Hp) (a : Addr) (xs : List V) : Prop := match t with
  | true => H a = some (.tup xs)
  | false => H a = some (.lst xs)
def PIt (t : Bool) (h : Heap) (it a : Addr) (i : Nat) : Prop := match t with
  | true => h.IsTupleIter it a i
  | false => h.IsListIter it a i
def PSq (t : Bool) (h : Heap) (a : Addr) (its : Array Value) : Prop := match t with
  | true => h.IsTuple a its
  | false => h.IsList a its
def OIt (t : Bool) (a : Addr) : Obj := match t with
  | true => { cls := .type "tuple_iterator", data := .fields #[.ref a, .int 0 0] }
  | false => { cls := .type "list_iterator", data := .fields #[.ref a, .int 0 0] }
theorem HSq.inj {t : Bool} {H : Hp} {a : Addr} {xs ys : List V} (h : HSq t H a xs) (h' : HSq t H a ys) : xs = ys := by
  cases t
  · have := Eq.trans (Eq.symm h) h'; cases this; rfl
  · have := Eq.trans (Eq.symm h) h'; cases this; rfl
theorem HSq.some {t : Bool} {H : Hp} {a : Addr} {xs : List V} (h : HSq t H a xs) : ∃ o, H a = some o := by
  cases t
  · exact ⟨_, h⟩
  · exact ⟨_, h⟩
theorem PIt.live {t : Bool} {h : Heap} {it a : Addr} {i : Nat} (p : PIt t h it a i) : ∃ o, h.get? it = some o ∧ ∀ v, o.data ≠ .cell v := by
  cases t
  · obtain ⟨o, e, _, d⟩ := p; exact ⟨o, e, fun v q => by rw [d] at q; cases q⟩
  · obtain ⟨o, e, _, d⟩ := p; exact ⟨o, e, fun v q => by rw [d] at q; cases q⟩
theorem PIt.to {t : Bool} {h h' : Heap} {it a : Addr} {i : Nat} (p : PIt t h it a i) (k : ∀ o, h.get? it = some o → h'.get? it = some o) : PIt t h' it a i := by
  cases t
  · exact Heap.IsListIter.at p k
  · exact Heap.IsTupleIter.at p k
theorem PIt.of {t : Bool} {h : Heap} {it a : Addr} (e : h.get? it = some (OIt t a)) : PIt t h it a 0 := by
  cases t
  · exact ⟨_, e, rfl, rfl⟩
  · exact ⟨_, e, rfl, rfl⟩
theorem PSq.lt {t : Bool} {h : Heap} {a : Addr} {its : Array Value} (p : PSq t h a its) : a < h.objs.size := by
  cases t
  · obtain ⟨o, ho, _⟩ := id p; exact Heap.lt_size ho
  · obtain ⟨o, ho, _⟩ := id p; exact Heap.lt_size ho
theorem sq_inv {X : Cx} {pins : List (Addr × Obj)} {σ : L2.St} {H : Hp} {s : Shared} {t : Bool} {a : Addr} {xs : List V} (I : Inv X pins σ H s) (h : HSq t H a xs) : ∃ its : List Value, Vals xs its ∧ PSq t s.heap a its.toArray := by
  cases t
  · obtain ⟨its, rv, p, _⟩ := I.list (sqL_of h); exact ⟨its, rv, p.isList⟩
  · obtain ⟨its, rv, p, _⟩ := I.tuple (sqT_of h); exact ⟨its, rv, p⟩
theorem begins_sq (t : Bool) (a : Addr) (its : Array Value) : Begins (.ref a) (OIt t a) fun h => PSq t h a its := by
  cases t
  · exact begins_list a its
  · exact begins_tuple a its
section
variable {prog : Program} {w : World} {A : Around}
theorem draws_sq (t : Bool) (hh : A.handled = none) (it a : Addr) (hne : a ≠ it) (its : Array Value) : Draws prog w A it [it, a] its.size (fun i v => its[i]? = some v) (fun i h => PIt t h it a i ∧ PSq t h a its) := by
  cases t
  · exact Draws.list hh it a hne its
  · exact Draws.tuple hh it a hne its
theorem draws_end (t : Bool) (hh : A.handled = none) (it a : Addr) (hne : a ≠ it) (its : Array Value) (n : Nat) (hn : its.size ≤ n) : Draws prog w A it [it, a] n (fun i v => False) (fun i h => (PIt t h it a i ∧ PSq t h a its) ∧ i = n) where
  live := fun i h st => (draws_sq (prog := prog) (w := w) t hh it a hne its).live i h st.1
  frame := fun i h h' st hk => ⟨(draws_sq (prog := prog) (w := w) t hh it a hne its).frame i h h' st.1 hk, st.2⟩
  item := fun i s Q E hi st _ => absurd st.2 (Nat.ne_of_lt hi)
  done := fun s Q E st hE => by
    cases t
    · exact wpAny_nextOf_list_end hh st.1.1 st.1.2 (by simpa using hn) hE
    · exact wpAny_nextOf_tuple_end hh st.1.1 st.1.2 (by simpa using hn) hE
theorem draws_any (t : Bool) (hh : A.handled = none) (it a : Addr) (hne : a ≠ it) (its : Array Value) (i : Nat) (h : Heap) (p : PIt t h it a i) (q : PSq t h a its) :
    ∃ n P St, Draws prog w A it [it, a] n P St ∧ St i h ∧ i ≤ n ∧ (its.size ≤ i → i = n) := by
  by_cases hi : i ≤ its.size
  · exact ⟨_, _, _, draws_sq t hh it a hne its, ⟨p, q⟩, hi, fun z => Nat.le_antisymm hi z⟩
  · exact ⟨_, _, _, draws_end t hh it a hne its i (by omega), ⟨⟨p, q⟩, rfl⟩, Nat.le_refl _, fun _ => rfl⟩
end
/-! enumerate -/
def IteS (t : Bool) (a : Addr) : It :=
  ⟨fun i H => ∃ (xs : List V) (x : V), HSq t H a xs ∧ xs[i]? = some x, fun i H v H' => ∃ T x, v = .ref T ∧ H T = none ∧ H' = upd H T (.tup [.int (i : Nat), x]) ∧ ∀ xs, HSq t H a xs → xs[i]? = some x, fun i H => ∃ xs : List V, HSq t H a xs ∧ xs.length ≤ i⟩
theorem turn_enumS {P : Program} {w : World} {K : PySem.W.Frag} {elts : List Expr} {kk : Nat} {tpos : Pos} (t : Bool) (a e it : Addr) :
    Turn P w K (.Tuple elts kk tpos) (IteS t a) [e, it] e (fun i h => (∃ old, IsEnum h e it ((i : Nat) : Int) old) ∧ PIt t h it a i ∧ e ≠ it) where
  mem := by simp
  obj := fun i h st b hb => by
    obtain ⟨⟨old, he⟩, hi, _⟩ := st
    have e' : b = e ∨ b = it := by simpa using hb
    rcases e' with z | z
    · rw [z]; exact ⟨_, he, fun v q => nomatch q⟩
    · rw [z]; exact hi.live
  keep := fun i h h' st k => let ⟨⟨old, he⟩, hi, hne⟩ := st; ⟨⟨old, k e (by simp) _ he⟩, hi.to fun o q => k it (by simp) o q, hne⟩
  item := by
    intro X hP hw hK hc i pins s σ H E I hf st hg
    subst hP hw hK
    obtain ⟨⟨old, he⟩, hit, hne⟩ := st
    obtain ⟨xs, x, hq, hx⟩ := hg
    obtain ⟨its, rv, p⟩ := sq_inv I hq
    obtain ⟨u, hu, ru⟩ := rv.get hx
    obtain ⟨ob, hob⟩ := hq.some
    have hel : e < s.heap.objs.size := Heap.lt_size he
    have hil : it < s.heap.objs.size := by obtain ⟨_, q, _⟩ := hit.live; exact Heap.lt_size q
    have ha : H e = none := (hf e (by simp)).1
    have hai : H it = none := (hf it (by simp)).1
    have nai : a ≠ it := fun z => by rw [← z, hob] at hai; cases hai
    have nae : a ≠ e := fun z => by rw [← z, hob] at ha; cases ha
    have Dr := draws_sq (prog := X.prog) (w := X.w) (A := X.A.in1) t (I.ok.hd hc) it a nai its.toArray
    have hlt : i < its.toArray.size := by
      have := (List.getElem?_eq_some_iff.mp hu).1
      simpa using this
    refine wpAny_pyNext_enum_itemD Dr he ⟨hit, p⟩ hlt hne (by simp [Ne.symm nae, hne]) fun x' h' tk hx' ho hst' hT hsz hk => ?_
    have ex : x' = u := by
      have : its.toArray[i]? = some u := by simpa using hu
      rw [this] at hx'
      exact (Option.some.inj hx').symm
    subst ex
    refine ⟨_, rfl, wpAny_letOwnedTupleGo_enum (s := { s with heap := h', toks := tk + 1 }) ho fun h'' he' sb => ?_⟩
    have hT2 : h''.get? s.heap.objs.size = some { cls := .type "tuple", data := .seq #[.int i tk, x'] } := (sb.2 _ (Nat.ne_of_gt hel)).trans hT
    have new : ObjOk X.prog X.w (upd H s.heap.objs.size (.tup [.int (i : Nat), x])) h'' s.heap.objs.size (.tup [.int (i : Nat), x]) :=
      ⟨by show 2 ≤ sizeLine; decide, [.int i tk, x'], .cons ⟨_, rfl⟩ (.cons ru .nil), ⟨_, hT2, rfl, _, rfl⟩⟩
    have I1 : Inv X pins σ (upd H s.heap.objs.size (.tup [.int (i : Nat), x])) { s with heap := h'', toks := tk + 1 } :=
      I.turnedNew (ch := [e, it]) (fun b ob hb q => (sb.2 b (fun z => hb (by simp [z]))).trans (hk b ob (fun z => hb (by simp [z])) (fun z => hb (by simp [z])) q)) hf (Nat.le_refl _) new
    refine ⟨.ref s.heap.objs.size, _, I1, rfl, ⟨_, x, rfl, I.hok.fresh (Nat.le_refl _), rfl, fun ys hy => by rw [hy.inj hq]; exact hx⟩, ⟨⟨x', ?_⟩, hst'.1.to fun o q => (sb.2 it (Ne.symm hne)).trans q, hne⟩, fun b hb => ?_⟩
    · have e1 : ((i + 1 : Nat) : Int) = (i : Int) + 1 := by omega
      rw [e1]; exact he'
    · have hb' : b < s.heap.objs.size := by
        have e' : b = e ∨ b = it := by simpa using hb
        rcases e' with z | z
        · rw [z]; exact hel
        · rw [z]; exact hil
      rw [upd_ne (Nat.ne_of_lt hb')]
      exact (hf b hb).1
  done := by
    intro X hP hw hK hc i pins s σ H E I hf st hg
    subst hP hw hK
    obtain ⟨⟨old, he⟩, hit, hne⟩ := st
    obtain ⟨xs, hq, hx⟩ := hg
    obtain ⟨its, rv, p⟩ := sq_inv I hq
    obtain ⟨ob, hob⟩ := hq.some
    have hai : H it = none := (hf it (by simp)).1
    have nai : a ≠ it := fun z => by rw [← z, hob] at hai; cases hai
    obtain ⟨f0, f1, f2, f3, f4, f5⟩ := hf it (by simp)
    have hl := rv.length
    have hT : s.TypeIs (.ref e) "enumerate" := ⟨_, he, rfl⟩
    obtain ⟨n, P', St', Dr, st', _, hn⟩ := draws_any (prog := X.prog) (w := X.w) (A := X.A.in1) t (I.ok.hd hc) it a nai its.toArray i s.heap hit p
    have hn := hn (by simp; omega)
    subst hn
    unfold pyNext
    refine wpAny_bind (wpAny_attempt (wpAny_callSpecial?_slot (name := Str.ofString "__next__") hT F.slot_enumerate_next
      (wpAny_call_entry F.slot_enumerate_next hT F.entry_enumerate_next ?_ (F.args_enumerate_next_1 _))))
    show wpAny _ _ (field (.ref e) 2 >>= _) _ _ _
    refine wpAny_bind (wpAny_field he rfl (x := .ref it) rfl ?_)
    refine wpAny_bind (Dr.done s _ _ st' fun h' x he' hx' => ?_)
    obtain ⟨o, ho, hcl⟩ := hx'
    refine wpAny_bind (wpAny_isInstance (T := "StopIteration") (b := true) ⟨o, ho, hcl⟩ isSubtype_stop ?_)
    exact wpAny_pure ⟨rfl, I.turned (t' := s.toks) (fun b o hb q => he' b o hb q) f0 f1 f3 f4 f5⟩
  self := fun A i s Q E st h => let ⟨⟨_, he⟩, _⟩ := st; wpAny_pyIter_enum he h
def iEnumS (ta : TA) : TI := fun σ H R => ta σ H fun vs H1 => ∃ t a xs, vs = [.ref a] ∧ HSq t H1 a xs ∧ R (IteS t a) H1
theorem pi_enumS {X : Cx} {e : Expr} {ta : TA} {p pos tpos : Pos} {elts : List Expr} {kk : Nat} (hg : Gl X "enumerate") (hm : X.mg "enumerate" = none) (ha : PA X [e] ta) (hs : starEach [e] X.env = [(false, eval e X.env)]) :
    PI X (.Tuple elts kk tpos) (.Call (.Name "enumerate" p) [e] [] pos) (iEnumS ta) := by
  refine ⟨fun pins s σ H R I h => ?_⟩
  refine Call_ (ld_blt I hg hm boot_enumerate (PyProof.Rows.callWith_type1 (thn (ha.run pos pins s σ H _ I h) fun us s1 ⟨vs, H1, I1, r1, q1⟩ => ?_) hs rfl))
  obtain ⟨t, a, xs, ex, hq, q⟩ := q1
  subst ex
  cases r1 with
  | cons r rr =>
    cases rr
    cases r
    obtain ⟨its, rv, p'⟩ := sq_inv I1 hq
    refine vi_enum_begins (begins_sq t a its.toArray) p' fun h' he hit hsz hk => wpAny_pyIter_enum he ?_
    have I2 : Inv X pins σ H1 { s1 with heap := h' } := I1.kept (t' := s1.toks) hk
    refine ⟨s1.heap.objs.size + 1, [s1.heap.objs.size + 1, s1.heap.objs.size], _, _, H1, rfl, I2, turn_enumS t a (s1.heap.objs.size + 1) s1.heap.objs.size, ⟨⟨.none, he⟩, .of hit, Nat.succ_ne_self _⟩, fun b hb => ?_, q⟩
    have e' : b = s1.heap.objs.size + 1 ∨ b = s1.heap.objs.size := by simpa using hb
    have hle : s1.heap.objs.size ≤ b := by
      rcases e' with z | z
      · rw [z]; exact Nat.le_add_right _ _
      · rw [z]; exact Nat.le_refl _
    exact I1.fpOk hle (I1.hok.fresh hle)
end Vi

set_option maxRecDepth 100000
set_option maxHeartbeats 1000000
namespace Vi
open PySem PySem.Spec PyProof.Rows L2 Evl
def ItzS2 (t1 : Bool) (a1 : Addr) (t2 : Bool) (a2 : Addr) : It :=
  ⟨fun i H => ∃ (xs1 xs2 : List V) (x1 x2 : V), (HSq t1 H a1 xs1 ∧ xs1[i]? = some x1) ∧ (HSq t2 H a2 xs2 ∧ xs2[i]? = some x2),
    fun i H v H' => ∃ T x1 x2, v = .ref T ∧ H T = none ∧ H' = upd H T (.tup [x1, x2]) ∧ (∀ xs, HSq t1 H a1 xs → xs[i]? = some x1) ∧ (∀ xs, HSq t2 H a2 xs → xs[i]? = some x2),
    fun i H => ∃ (xs1 xs2 : List V), HSq t1 H a1 xs1 ∧ HSq t2 H a2 xs2 ∧ (xs1.length ≤ i ∨ xs2.length ≤ i)⟩
def iZipS2 (ta : TA) : TI := fun σ H R => ta σ H fun vs H1 => ∃ t1 a1 xs1 t2 a2 xs2, vs = [.ref a1, .ref a2] ∧ HSq t1 H1 a1 xs1 ∧ HSq t2 H1 a2 xs2 ∧ R (ItzS2 t1 a1 t2 a2) H1
def ItzS3 (t1 : Bool) (a1 : Addr) (t2 : Bool) (a2 : Addr) (t3 : Bool) (a3 : Addr) : It :=
  ⟨fun i H => ∃ (xs1 xs2 xs3 : List V) (x1 x2 x3 : V), (HSq t1 H a1 xs1 ∧ xs1[i]? = some x1) ∧ (HSq t2 H a2 xs2 ∧ xs2[i]? = some x2) ∧ (HSq t3 H a3 xs3 ∧ xs3[i]? = some x3),
    fun i H v H' => ∃ T x1 x2 x3, v = .ref T ∧ H T = none ∧ H' = upd H T (.tup [x1, x2, x3]) ∧ (∀ xs, HSq t1 H a1 xs → xs[i]? = some x1) ∧ (∀ xs, HSq t2 H a2 xs → xs[i]? = some x2) ∧ (∀ xs, HSq t3 H a3 xs → xs[i]? = some x3),
    fun i H => ∃ (xs1 xs2 xs3 : List V), HSq t1 H a1 xs1 ∧ HSq t2 H a2 xs2 ∧ HSq t3 H a3 xs3 ∧ (xs1.length ≤ i ∨ xs2.length ≤ i ∨ xs3.length ≤ i)⟩
def iZipS3 (ta : TA) : TI := fun σ H R => ta σ H fun vs H1 => ∃ t1 a1 xs1 t2 a2 xs2 t3 a3 xs3, vs = [.ref a1, .ref a2, .ref a3] ∧ HSq t1 H1 a1 xs1 ∧ HSq t2 H1 a2 xs2 ∧ HSq t3 H1 a3 xs3 ∧ R (ItzS3 t1 a1 t2 a2 t3 a3) H1
end Vi

set_option maxRecDepth 100000
set_option maxHeartbeats 1000000
namespace Vi
open PySem L2 Evl
def sqV : Vl → Option (List Dt)
  | .d (.lst l) => some l
  | .d (.tup l) => some l
  | _ => none
theorem HSq.keep {t : Bool} {F F' : List Addr} {H H' : Hp} {a : Addr} {xs : List V} (h : HSq t H a xs) (y : t = false → a ∉ F) (k : Keeps F H F' H') : HSq t H' a xs := by
  cases t with
  | true => exact k.tups _ _ h
  | false => exact k.keep _ _ h (y rfl)
section
variable {C : Ct}
theorem sqV_inv {Z m : List Addr} {H : Hp} {v : V} {x : Vl} {ds : List Dt} (d : Dv C.K C.ly Z m H v x) (h : sqV x = some ds) :
    ∃ t a xs, v = .ref a ∧ HSq t H a xs ∧ Dis C.K C.ly (Z ++ m) H xs ds ∧ (t = false → a ∉ Z ++ m) := by
  cases x with
  | d y =>
    cases y with
    | lst l =>
      cases h
      obtain ⟨a, vs, rfl, k1, k2, k3⟩ := Di.lst_inv d
      exact ⟨false, a, vs, rfl, k1, k3, fun _ => k2⟩
    | tup l =>
      cases h
      obtain ⟨a, vs, rfl, k1, k3⟩ := Di.tup_inv d
      exact ⟨true, a, vs, rfl, k1, k3, fun w => nomatch w⟩
    | _ => cases h
  | r n => cases h
/-- (0, x0), (1, x1), .. -/
def enumD (i : Nat) : List Dt → List Dt
  | [] => []
  | d :: l => .tup [.int (i : Int), d] :: enumD (i + 1) l
theorem enumD_get : ∀ {ds : List Dt} {i k : Nat}, (enumD k ds)[i]? = (ds[i]?).map fun d => .tup [.int ((k + i : Nat) : Int), d]
  | [], i, k => by unfold enumD; simp
  | d :: l, 0, k => by unfold enumD; simp
  | d :: l, i + 1, k => by
    unfold enumD
    rw [List.getElem?_cons_succ, List.getElem?_cons_succ, enumD_get, Nat.add_assoc, Nat.add_comm 1 i]
theorem enumD_len : ∀ (ds : List Dt) (k : Nat), (enumD k ds).length = ds.length
  | [], k => rfl
  | d :: l, k => by unfold enumD; rw [List.length_cons, List.length_cons, enumD_len]
def enumI (f : Den) : DenI := fun ρ h => (f ρ h).bind fun x h1 => match sqV x with
  | some l => .ok (.fx (enumD 0 l)) h1
  | none => .bad
theorem si_enum {a : Expr} {f : Den} {p pos tpos : Pos} {elts : List Expr} {kk : Nat} (hs : NoStar a []) (hg : GlN C "enumerate") (hm : C.mg "enumerate" = none) (hf : SE C a f) : SI C (.Tuple elts kk tpos) (.Call (.Name "enumerate" p) [a] [] pos) (enumI f) := ⟨fun X o W tk => ⟨_, pi_enumS (o.gl hg) (o.fr hm) (pa_cons pe_w pa_nil (hs _)) (hs _), fun Z m σ H ρ h R r env q => by
  refine hf.run X o W tk Z m σ H ρ h _ r env ((EOk.bind pass_i q).imp fun v H1 ⟨m1, x, h1, e1, r1, d1, q1⟩ => ?_)
  cases z : sqV x with
  | none => simp only [z] at q1; exact q1.elim
  | some l =>
    simp only [z] at q1
    obtain ⟨t, a, xs, rfl, k, c, y⟩ := sqV_inv d1 z
    refine ⟨t, a, xs, rfl, k, q1 _ m1 H1 (Evo.refl _ _) r1 fun Z' m' H' h' hz e' r' i => ?_⟩
    have kp := r1.keepsZ hz e'
    have k := k.keep y kp
    refine ⟨fun d hd => ?_, fun hl => ⟨xs, k, by rw [c.length, ← enumD_len l 0]; exact hl⟩⟩
    rw [enumD_get] at hd
    cases hdi : l[i]? with
    | none => rw [hdi] at hd; cases hd
    | some d0 =>
      rw [hdi] at hd
      cases hd
      obtain ⟨u, hu, du⟩ := c.get hdi
      refine ⟨⟨xs, u, k, hu⟩, fun x H'' y => ?_⟩
      obtain ⟨T, x0, rfl, nT, rfl, hy⟩ := y
      cases (hy xs k).symm.trans hu
      have ex : Ex H' (upd H' T (.tup [.int (i : Nat), u])) := Ex.new nT
      refine ⟨ex, .tup upd_same (.cons ?_ (.cons ((du.mono C.lok kp).mono C.lok (keeps_ex ex)) .nil))⟩
      rw [Nat.zero_add]
      exact .int _⟩⟩
def zipD2 : List Dt → List Dt → List Dt
  | d1 :: l1, d2 :: l2 => .tup [d1, d2] :: zipD2 l1 l2
  | _, _ => []
def zipI2 (f1 f2 : Den) : DenI := fun ρ h => (f1 ρ h).bind fun x1 h1 => (f2 ρ h1).bind fun x2 h2 => match sqV x1, sqV x2 with
  | some l1, some l2 => .ok (.fx (zipD2 l1 l2)) h2
  | _, _ => .bad
def zipD3 : List Dt → List Dt → List Dt → List Dt
  | d1 :: l1, d2 :: l2, d3 :: l3 => .tup [d1, d2, d3] :: zipD3 l1 l2 l3
  | _, _, _ => []
def zipI3 (f1 f2 f3 : Den) : DenI := fun ρ h => (f1 ρ h).bind fun x1 h1 => (f2 ρ h1).bind fun x2 h2 => (f3 ρ h2).bind fun x3 h3 => match sqV x1, sqV x2, sqV x3 with
  | some l1, some l2, some l3 => .ok (.fx (zipD3 l1 l2 l3)) h3
  | _, _, _ => .bad
end
end Vi

set_option maxRecDepth 100000
set_option maxHeartbeats 1000000
namespace Vi
open PySem L2 Evl
/-! ### name = [comprehension]; a, b, .. = x, y, .. -/
section
variable {C : Ct} {W : WX} {Z m : List Addr} {H : Hp} {σ : St} {ρ : En} {h : Hs} {D : Ends}
theorem AOk.toS {r : Res (List Vl)} {k : List Vl → Hs → ResS} (rl : Rl C Z m H h) (env : EnvV C Z m H σ ρ) (q : SOk C W Z m H D (bindS r ρ k)) : AOk C W Z σ m H (fun v H' => ∃ m' x h', Evo m H m' H' ∧ Rl C Z m' H' h' ∧ Dvs C.K C.ly Z m' H' v x ∧ SOk C W Z m' H' D (k x h')) r := by
  cases r with
  | ok x h' => exact fun v m' H' e r d => ⟨m', x, h', e, r, d, q.at e⟩
  | exc e h' => exact fun m' H' d e r x => q σ m' H' d e r (env.mono rl e) x
  | bad => exact q
theorem fok_frz {ff : DenD} {Q : VK} (r : Rl C Z m H h) (q : EOk C W Z σ m H Q (frz ff ρ h)) : FOk C W Z σ m H Q (ff ρ h) :=
  (FOk.bind pass_e q).imp fun v H1 ⟨m1, x, h1, a, hv, e1, r1, n1, fr, q1⟩ => by
    subst hv
    exact q1 _ m1 H1 (Evo.refl _ _) r1.subZ (fr.di r1 fun z => by obtain ⟨o, ho⟩ := r.za a z; rw [n1] at ho; cases ho)
end
/-- the two ways to take a new thing -/
def Takes2 (k : DenD → Den) : Prop := ∀ {C : Ct} {W : WX} {Z m : List Addr} {H : Hp} {σ : St} {ρ : En} {h : Hs} {ff : DenD} {Q : VK}, Rl C Z m H h → EOk C W Z σ m H Q (k ff ρ h) → FOk C W Z σ m H Q (ff ρ h)
theorem t2_frz : Takes2 frz := fun r q => fok_frz r q
section
variable {C : Ct} {elt tg it : Expr} {ifs : List Expr} {scope : Scope} {own : List (Str × Nat)} {pos : Pos} {src : DenI} {g : Tgt} {t : DenT} {f : Den} {ws : List Nat}
theorem ss_setLc {i : Nat} {y : Str} {py spos : Pos} {k : DenD → Den} (k2 : Takes2 k) (hc : C.calm = true) (nd : C.N.Nodup) (hy : C.N[i]? = some y) (hyl : LocN C y)
    (hsw : ∀ env : Env, env.scope = C.sc → swapsWith (.ListComp elt [⟨tg, it, ifs, 0⟩] scope pos) (some (.Name y py)) spos.line env = pure true) (nf : NoFold it) (ok : BlkOk C.N C.sc scope own) (hws : ∀ j ∈ ws, j ∈ own.map (·.2)) (hi : SI C tg it src) (hg : SG (C.blk scope) tg ws g) (ht : SIf (C.blk scope) ifs t) (hf : SE (C.blk scope) elt f) :
    SS C (.Assign [.Name y py] (.ListComp elt [⟨tg, it, ifs, 0⟩] scope pos) spos) (setS i (k (lcF (own.map (·.2)) src g t f))) := ⟨fun X o pn W tk Z m σ H ρ h D r env q => by
  obtain ⟨wi, pi, hwi⟩ := hi.run X o W tk
  refine PSw (ps_setLc (i := i) (own := own) (wi := wi) (g := fun x σ H Q => ∀ s Hh Cc cl fp, RunG (X.blk s Hh scope (compEnvC scope cl Cc X.env) fp) tg x σ H Q) (tt := fun σ H Q => ∀ s Hh Cc cl fp, RunTs (X.blk s Hh scope (compEnvC scope cl Cc X.env) fp) ifs σ H Q)
    (te := fun σ H Q => ∀ s Hh Cc cl fp, RunE (X.blk s Hh scope (compEnvC scope cl Cc X.env) fp) elt σ H Q) (by rw [o.calm]; exact hc) (by rw [o.N]; exact nd) (by rw [o.N]; exact hy) (by rw [o.sc]; exact hyl) (hsw _ o.sc) pi (by rw [o.N, o.sc]; exact ok) (fun s Hh Cc cl fp => ⟨fun pins s1 σ1 H2 v1 u Q1 I r h => h s Hh Cc cl fp pins s1 u I r⟩)
    (fun s Hh Cc cl fp => ⟨fun pins s1 σ1 H2 Q1 I h => h s Hh Cc cl fp pins s1 I⟩) (fun s Hh Cc cl fp => ⟨fun pins s1 σ1 H2 Q1 I h => h s Hh Cc cl fp pins s1 I⟩) (nf _)) ?_
  have q : FOk C W Z σ m H (fun v H1 => D.nx (σ.set i (some v)) H1) (lcF (own.map (·.2)) src g t f ρ h) :=
    k2 r ((EOk.toS r env q).imp fun v H1 ⟨m1, x, h1, e1, r1, d1, q1⟩ => q1 _ m1 H1 (Evo.refl _ _) r1 ((env.mono r e1).set d1))
  refine hwi Z m σ H ρ h _ r env ?_
  unfold lcF at q
  cases z : src ρ h with
  | bad => rw [z] at q; exact q.elim
  | exc e h' => rw [z] at q; exact q
  | ok s h1 =>
    rw [z] at q
    dsimp only [Res.bind] at q
    cases s with
    | rf n len =>
      dsimp only at q
      by_cases hl : len ≤ 100000
      · rw [decide_eq_true hl] at q
        dsimp only at q
        intro J m1 H1 e1 r1 itd
        have en1 := env.mono r e1
        cases z2 : lcR n g t f (wipeR ρ (own.map (·.2))) len 0 h1 with
        | bad => rw [z2] at q; exact q.elim
        | exc e h' => rw [z2] at q; exact q.elim
        | ok ys h2 =>
          rw [z2] at q
          exact lc_turnsR (Q := fun v H1 => D.nx (σ.set i (some v)) H1) o hws hg ht hf r1 en1 itd hl z2 fun a m' H' e' r' n fr => q a m' H' (e1.trans e') r' (e1.free n) fr
      · rw [decide_eq_false hl] at q; exact q.elim
    | fx ds =>
      dsimp only at q
      by_cases hl : ds.length ≤ 100000
      · rw [decide_eq_true hl] at q
        dsimp only at q
        intro J m1 H1 e1 r1 itd
        have en1 := env.mono r e1
        cases z2 : lcL g t f (wipeR ρ (own.map (·.2))) ds h1 with
        | bad => rw [z2] at q; exact q.elim
        | exc e h' => rw [z2] at q; exact q.elim
        | ok ys h2 =>
          rw [z2] at q
          exact lc_turns (Q := fun v H1 => D.nx (σ.set i (some v)) H1) o hws hg ht hf r1 en1 itd hl z2 fun a m' H' e' r' n fr => q a m' H' (e1.trans e') r' (e1.free n) fr
      · rw [decide_eq_false hl] at q; exact q.elim⟩
/-- a, b, .. = x, y, .. by way of a tuple -/
def parG (n : Nat) (gs : List Vl → En → Option En) (fa : DenA) : DenS := fun ρ h => bindS (fa ρ h) ρ fun xs h1 => match decide (xs.length = n) && decide (n ≤ 1000) with
  | true => match gs xs ρ with
    | some ρ1 => .nx ρ1 h1
    | none => .bad
  | false => .bad
theorem dvs_len {K : PySem.W.Frag} {Ly : Lx} {Z m : List Addr} {H : Hp} : ∀ {vs : List V} {xs : List Vl}, Dvs K Ly Z m H vs xs → vs.length = xs.length
  | _, _, .nil => rfl
  | _, _, .cons _ q => by rw [List.length_cons, List.length_cons, dvs_len q]
theorem dvs_mono {Z m m' : List Addr} {H H' : Hp} {h : Hs} (r : Rl C Z m H h) (e : Evo m H m' H') : ∀ {vs : List V} {xs : List Vl}, Dvs C.K C.ly Z m H vs xs → Dvs C.K C.ly Z m' H' vs xs
  | _, _, .nil => .nil
  | _, _, .cons q qs => .cons (q.mono r e) (dvs_mono r e qs)
end
end Vi

set_option maxRecDepth 100000
set_option maxHeartbeats 1000000
namespace Vi
open PySem PySem.Spec PyProof.Rows L2 Evl
/-! ### try: clauses with and without a name -/
def behind (i : Nat) (D : Ends) : Ends := { nx := fun σ' H' => D.nx (σ'.set i none) H', rt := D.rt, bk := fun σ' H' => D.bk (σ'.set i none) H', ct := fun σ' H' => D.ct (σ'.set i none) H' }
def wTry (K : PySem.W.Frag) (Wout : WX) (D : Ends) : List (Value × Option Nat × (Addr → Value → Option Addr → TS)) → WX
  | [] => Wout
  | (c, none, ts) :: r => fun cls d σ H => ∃ b, PySem.W.exmOne K cls c = some b ∧ (b = true → ∀ a, H a = none → ts a cls d D σ H) ∧ (b = false → wTry K Wout D r cls d σ H)
  | (c, some i, ts) :: r => fun cls d σ H => ∃ b, PySem.W.exmOne K cls c = some b ∧ (b = true → ∀ a, H a = none → ts a cls d (behind i D) (σ.set i (some (.ref a))) H) ∧ (b = false → wTry K Wout D r cls d σ H)
inductive HdsT (X : Cx) : List ExceptHandler → List (Value × Option Nat × (Addr → Value → Option Addr → TS)) → Prop
  | nil : HdsT X [] []
  | cons {x : Str} {c : Value} {ts : Addr → Value → Option Addr → TS} {b₀ : Stmt} {suite : List Stmt} {np pos' : Pos} {hds : List ExceptHandler} {l : List (Value × Option Nat × (Addr → Value → Option Addr → TS))} (hc : Names X x c)
      (hsu : ∀ (a : Addr) (oe : Obj) (cls : Value) (d : Option Addr) (pn : List (Addr × Obj)), Zc cls d oe → (∃ vs, oe.data = .fields vs) → PSs (X.suite a ((a, oe) :: pn)) (b₀ :: suite) (ts a cls d)) (r : HdsT X hds l) :
      HdsT X (.ExceptHandler (some (.Name x np)) none (b₀ :: suite) pos' :: hds) ((c, none, ts) :: l)
  | as {x n : Str} {i : Nat} {c : Value} {ts : Addr → Value → Option Addr → TS} {b₀ : Stmt} {suite : List Stmt} {np pos' : Pos} {hds : List ExceptHandler} {l : List (Value × Option Nat × (Addr → Value → Option Addr → TS))} (hi : X.N[i]? = some n) (hln : X.env.kindOf n = some .local) (hc : Names X x c)
      (hsu : ∀ (a : Addr) (oe : Obj) (cls : Value) (d : Option Addr) (pn : List (Addr × Obj)), Zc cls d oe → (∃ vs, oe.data = .fields vs) → PSs (X.suite a ((a, oe) :: pn)) (b₀ :: suite) (ts a cls d)) (r : HdsT X hds l) :
      HdsT X (.ExceptHandler (some (.Name x np)) (some n) (b₀ :: suite) pos' :: hds) ((c, some i, ts) :: l)
section
variable {X : Cx} {body : List Stmt} {h₀ : ExceptHandler} {hds : List ExceptHandler} {l : List (Value × Option Nat × (Addr → Value → Option Addr → TS))} {pos : Pos} {tb : WX → TS} {Wout : WX}
theorem ps_tryT (hs : X.stack = X.env :: X.outer) (hf : X.env.frame = some X.env.locals) (hN : X.N.Nodup) (tk : Takes X Wout)
    (hb : ∀ (W : WX) (pn : List (Addr × Obj)) (xe : Value → Shared → Prop), Takes (X.tr pn xe) W → PassesOwn (model X.prog X.w) X.A X.env xe → PSs (X.tr pn xe) body (tb W))
    (hh : HdsT X (h₀ :: hds) l) : PS X (.Try body (h₀ :: hds) [] [] pos) (fun D σ H => tb (wTry X.K Wout D l) D σ H) := by
  refine ⟨fun pins s σ H D I h => ?_⟩
  have ok := I.ok
  have hfr : X.A.frames = some (X.env :: X.outer) := by rw [ok.frames, hs]
  refine wpAny_Try_except ?_
  refine wpAny_mono ((hb (wTry X.K Wout D l) (X.pn ++ pins) (fun e s₁ => wpAny (model X.prog X.w) X.A (noteFrame e X.env) (fun _ s₂ => wpAny (model X.prog X.w) X.A (setFlight e none) (fun _ s₃ =>
    wpAny (model X.prog X.w) X.A (handleBy e X.env (h₀ :: hds)) (SP X pins D) X.xe s₃) X.xe s₂) X.xe s₁) (fun u s' xx => ?_) PassesOwn.looking).run [] s σ H D (I.toTry _) h) (fun f s1 hsp => ?_) (fun e s1 he => he)
  · obtain ⟨a, B, sI, pins', σ', H', cls, d, rfl, J', nb, up, sky, na, os, ag, w⟩ := xx
    have J : Inv X pins σ' H' sI := J'.ofTry ok
    have sky' : Sky B (X.env :: X.outer) a (Zc cls d) X.env.locals s'.heap := by rw [← hs]; exact sky
    show wpAny (model X.prog X.w) X.A (noteFrame (.ref a) X.env) _ _ _
    refine Sky.land Zc.steady hfr hf sky' fun h3 fl3 up3 => ?_
    have J3 : Inv X pins σ' H' { s' with heap := h3 } := J.landed nb fl3.1 (up.trans up3) os ag
    obtain ⟨oe3, vs3, he3, hz3, hd3⟩ := fl3.there
    have notFr : ∀ {h : Heap} {o : Obj} {vs : Array Value}, h.FunFrames B (X.env :: X.outer) → h.get? a = some o → o.data = .fields vs → a ∉ frs (X.env :: X.outer) := fun {h o vs} ff e dd hm => by
      obtain ⟨_, o', e', hnf⟩ := ff.mem hm
      rw [e] at e'; cases e'
      exact hnf _ dd
    have nfr := notFr fl3.2.2.1 he3 hd3
    have nL : a ≠ X.env.locals := fun z => nfr (List.mem_filterMap.mpr ⟨X.env, List.mem_cons_self, by rw [hf, z]⟩)
    have nF : a ∉ X.fs := fun hm => by
      obtain ⟨e, he, q⟩ := List.mem_filterMap.mp hm
      exact nfr (List.mem_filterMap.mpr ⟨e, List.mem_cons_of_mem _ he, q⟩)
    have S3 := J3.suite he3 hd3 na nL nF
    have LT : PySem.W.Looks (model X.prog X.w) h3 (typeOf (.ref a)) cls := fun A Q E s k q => wpAny_typeOf_ref (k _ _ he3) (by rw [hz3.1]; exact q)
    have test : ∀ {x : Str} {c : Value} {np : Pos}, Names X x c → ∀ {Q : Value → Shared → Prop} {E : Value → Shared → Prop}, Q c { s' with heap := h3 } → wpAny (model X.prog X.w) (X.A.mark (some (.ref a))) (eval (.Name x np) X.env) Q E { s' with heap := h3 } := fun {x c np} hc {Q E} q => by
      obtain ⟨hg, hdbg, hm | ⟨hm, hv, hnn⟩⟩ := hc
      · exact ld_glob (X := X.suite a ((a, oe3) :: (X.pn ++ pins))) S3 hg hm q hdbg
      · exact ld_blt (X := X.suite a ((a, oe3) :: (X.pn ++ pins))) S3 hg hm hv q hnn hdbg
    have go : ∀ {hds' : List ExceptHandler} {l' : List (Value × Option Nat × (Addr → Value → Option Addr → TS))}, HdsT X hds' l' → wTry X.K Wout D l' cls d σ' H' →
        wpAny (model X.prog X.w) X.A (handleBy (.ref a) X.env hds') (SP X pins D) X.xe { s' with heap := h3 } := by
      intro hds' l' hk
      induction hk with
      | nil =>
        intro w
        refine wpAny_handleBy_nil ?_
        obtain ⟨k1, k2, k3, oe, vs, T, oT, ts', he, hz, hd, h1, hr⟩ := id fl3
        unfold PySem.passOn
        refine wpAny_bind (wpAny_field he hd h1 ?_)
        rw [if_neg (show ¬ ((Value.ref T == Value.none) = true) from by simp)]
        have fin : wpAny (model X.prog X.w) X.A (setFlight (.ref a) X.env.frame) (fun _ s4 => wpAny (model X.prog X.w) X.A (throw (.ref a) : Sem Flow) (SP X pins D) X.xe s4) X.xe { s' with heap := h3 } := by
          rw [hf]
          refine HandSPX.setFlight_upZ fl3 fun h4 hh4 up4 => wpAny_throw (tk _ _ ?_)
          exact ⟨a, B, sI, pins, σ', H', cls, d, rfl, J, nb, (up.trans up3).trans up4, .inr (.inr (by rw [hs]; exact hh4)), na, os, ag, w⟩
        first
          | exact wpAny_bind (wpAny_pure (wpAny_bind fin))
          | exact wpAny_bind fin
      | @cons x c ts b₀ suite np pos' hds2 l2 hc hsu r ih =>
        intro w
        obtain ⟨b, hb1, hyes, hno⟩ := w
        refine wpAny_handleBy_cons (codeAny_handlers_test ?_) (by intro q; cases q)
        have LM := PySem.W.exm_one (M := model X.prog X.w) (J3.kIn) LT hb1
        refine test hc (LM.here ?_)
        cases b with
        | true =>
          refine codeAny_handlers_suite ?_
          refine HandSPX.lands_againZ fl3 fun h4 fl4 up4 => ?_
          have J4 : Inv X pins σ' H' { s' with heap := h4 } := J.landed nb fl4.1 ((up.trans up3).trans up4) os ag
          obtain ⟨oe4, vs4, he4, hz4, hd4⟩ := fl4.there
          have S4 := J4.suite he4 hd4 na nL nF
          refine wpAny_mono ((hsu a oe4 cls d (X.pn ++ pins) hz4 ⟨_, hd4⟩).run [] _ _ H' _ S4 (hyes rfl a na)) (fun f s6 hsp => ?_) (fun _ _ z => False.elim z)
          cases f with
          | next => obtain ⟨σ6, H6, S6, q6⟩ := hsp; exact ⟨_, _, S6.unsuite ok, q6⟩
          | brk => obtain ⟨σ6, H6, S6, q6⟩ := hsp; exact ⟨_, _, S6.unsuite ok, q6⟩
          | cont => obtain ⟨σ6, H6, S6, q6⟩ := hsp; exact ⟨_, _, S6.unsuite ok, q6⟩
          | ret u => obtain ⟨v6, σ6, H6, S6, r6, q6⟩ := hsp; exact ⟨_, _, _, S6.unsuite ok, r6, q6⟩
        | false =>
          show wpAny _ X.A (handleBy (.ref a) X.env hds2) _ _ _
          exact ih (hno rfl)
      | @as x n i c ts b₀ suite np pos' hds2 l2 hi hln hc hsu r ih =>
        intro w
        obtain ⟨b, hb1, hyes, hno⟩ := w
        refine wpAny_handleBy_cons (codeAny_handlers_test ?_) (by intro q; cases q)
        have LM := PySem.W.exm_one (M := model X.prog X.w) (J3.kIn) LT hb1
        refine test hc (LM.here ?_)
        have hloc : Loc X.env.scope n := .inl hln
        cases b with
        | true =>
          refine codeAny_handlers_suite_as ?_
          refine HandSPX.lands_againZ fl3 fun h4 fl4 up4 => ?_
          have J4 : Inv X pins σ' H' { s' with heap := h4 } := J.landed nb fl4.1 ((up.trans up3).trans up4) os ag
          obtain ⟨oe4, vs4, he4, hz4, hd4⟩ := fl4.there
          have S4 := J4.suite he4 hd4 na nL nF
          refine store_ok (X := X.suite a ((a, oe4) :: (X.pn ++ pins))) (v := .ref a) S4 hN hi hloc rfl (fun s5 S5 => ?_) (.inr hln)
          refine wpAny_mono ((hsu a oe4 cls d (X.pn ++ pins) hz4 ⟨_, hd4⟩).run [] s5 _ H' _ S5 (hyes rfl a na)) (fun f s6 hsp => ?_) (fun _ _ z => False.elim z)
          have end_ : ∀ {σ6 : L2.St} {H6 : Hp} {Q : Shared → Prop}, Inv (X.suite a ((a, oe4) :: (X.pn ++ pins))) [] σ6 H6 s6 → (∀ s7, Inv X pins (σ6.set i none) H6 s7 → Q s7) →
              wpAny (model X.prog X.w) X.A (do bindName X.env n .none; unbindBehindTheSuite X.env n pos') (fun _ s7 => Q s7) X.xe s6 := fun {σ6 H6 Q} S6 hq => gone_ok (S6.unsuite ok) hN hi hln hq
          cases f with
          | next => obtain ⟨σ6, H6, S6, q6⟩ := hsp; exact end_ S6 fun s7 J7 => ⟨_, _, J7, q6⟩
          | brk => obtain ⟨σ6, H6, S6, q6⟩ := hsp; exact end_ S6 fun s7 J7 => ⟨_, _, J7, q6⟩
          | cont => obtain ⟨σ6, H6, S6, q6⟩ := hsp; exact end_ S6 fun s7 J7 => ⟨_, _, J7, q6⟩
          | ret u => obtain ⟨v6, σ6, H6, S6, r6, q6⟩ := hsp; exact end_ S6 fun s7 J7 => ⟨_, _, _, J7, r6, q6⟩
        | false =>
          show wpAny _ X.A (handleBy (.ref a) X.env hds2) _ _ _
          exact ih (hno rfl)
    exact go hh w
  · cases f with
    | next => obtain ⟨σ', H', J', q⟩ := hsp; exact wpAny_execs_nil ⟨σ', H', J'.ofTry ok, q⟩
    | brk => obtain ⟨σ', H', J', q⟩ := hsp; exact ⟨σ', H', J'.ofTry ok, q⟩
    | cont => obtain ⟨σ', H', J', q⟩ := hsp; exact ⟨σ', H', J'.ofTry ok, q⟩
    | ret u => obtain ⟨v, σ', H', J', r, q⟩ := hsp; exact ⟨v, σ', H', J'.ofTry ok, r, q⟩
end
end Vi

set_option maxRecDepth 100000
set_option maxHeartbeats 1000000
namespace Vi
open PySem L2 Evl
/-! ### raise, try -/
/-- the place within an except clause -/
def Ct.cold (C : Ct) : Ct := { C with calm := false }
section
variable {C : Ct} {X : Cx} {W : WX} {Z m : List Addr} {H : Hp} {σ : St} {ρ : En} {h : Hs} {D : Ends}
theorem of_tr {pn : List (Addr × Obj)} {xe : Value → Shared → Prop} (o : C.Of X) : C.Of (X.tr pn xe) := ⟨o.prog, o.w, o.K, o.mg, o.base, o.N, o.sc, o.calm, o.units, o.room, o.fns, o.code, o.own, o.rm⟩
theorem of_suite {a : Addr} {pn : List (Addr × Obj)} (o : C.Of X) : C.cold.Of (X.suite a pn) := ⟨o.prog, o.w, o.K, o.mg, o.base, o.N, o.sc, rfl, o.units, (fun z => nomatch z), o.fns, o.code, o.own, ⟨o.rm.dp, o.rm.un⟩⟩
theorem Rl.cold (r : Rl C Z m H h) : Rl C.cold Z m H h := ⟨r.nd, r.disj, r.len, r.za, r.notup, r.own, r.ma, r.ob⟩
theorem Rl.uncold (r : Rl C.cold Z m H h) : Rl C Z m H h := ⟨r.nd, r.disj, r.len, r.za, r.notup, r.own, r.ma, r.ob⟩
theorem EnvV.cold (e : EnvV C Z m H σ ρ) : EnvV C.cold Z m H σ ρ := ⟨e.len, e.get⟩
theorem EnvV.uncold (e : EnvV C.cold Z m H σ ρ) : EnvV C Z m H σ ρ := ⟨e.len, e.get⟩
theorem EOk.cold {Q : VK} {r : Res Vl} (q : EOk C W Z σ m H Q r) : EOk C.cold W Z σ m H Q r := by
  cases r with
  | ok x h' => exact fun v m' H' e r d => q v m' H' e r.uncold d
  | exc x h' => exact fun m' H' d e r x => q m' H' d e r.uncold x
  | bad => exact q
theorem SOk.cold {r : ResS} (q : SOk C W Z m H D r) : SOk C.cold W Z m H D r := by
  cases r with
  | nx x h' => exact fun v m' H' e r n => q v m' H' e r.uncold n.uncold
  | bk x h' => exact fun v m' H' e r n => q v m' H' e r.uncold n.uncold
  | ct x h' => exact fun v m' H' e r n => q v m' H' e r.uncold n.uncold
  | rt x h' => exact fun v m' H' e r d => q v m' H' e r.uncold d
  | exc x ρ h' => exact fun v m' H' d e r n x => q v m' H' d e r.uncold n.uncold x
  | bad => exact q
end
/-- nothing is raised in a suite -/
def noX : ResS → ResS
  | .exc _ _ _ => .bad
  | r => r
theorem SOk.noX {C : Ct} {W W' : WX} {Z m : List Addr} {H : Hp} {D : Ends} {r : ResS} (q : SOk C W Z m H D (noX r)) : SOk C W' Z m H D r := by
  cases r with
  | exc x ρ h' => exact q.elim
  | nx x h' => exact q
  | bk x h' => exact q
  | ct x h' => exact q
  | rt x h' => exact q
  | bad => exact q
/-- a suite; e the exception, the slot of its name -/
structure SH (C : Ct) (oi : Option Nat) (sts : List Stmt) (f : Exn → DenS) : Prop where
  run : ∀ X, C.Of X → Own X → ∀ a oe cls d pn, Zc cls d oe → (∃ vs, oe.data = .fields vs) → ∀ Z m σ H ρ h D e, Rl C Z m H h → EnvV C Z m H σ ρ → (∀ i, oi = some i → i < ρ.length → σ[i]? = some (some (.ref a))) → cls = C.xc e.cls → ExR C (Z ++ m) H e d →
    SOk C (fun _ _ _ _ => False) Z m H D (noX (f e ρ h)) → RunB (X.suite a ((a, oe) :: pn)) sts D σ H
structure SX (C : Ct) (i : Nat) (e : Expr) (f : Exn → Den) : Prop where
  run : ∀ X, C.Of X → ∀ a oe cls d pn, Zc cls d oe → (∃ vs, oe.data = .fields vs) → ∀ Z m σ H ρ h Q ex, Rl C Z m H h → EnvV C Z m H σ ρ → σ[i]? = some (some (.ref a)) → cls = C.xc ex.cls → ExR C (Z ++ m) H ex d →
    EOk C (fun _ _ _ _ => False) Z σ m H Q (f ex ρ h) → RunE (X.suite a ((a, oe) :: pn)) e σ H Q
section
variable {C : Ct} {oi : Option Nat} {i : Nat} {sts : List Stmt} {e a b : Expr} {pos : Pos}
theorem sx_of {f : Den} (hb : SE C.cold e f) : SX C i e (fun _ => f) := ⟨fun X o a oe cls d pn hz hf Z m σ H ρ h Q ex r env _ _ _ q => hb.run _ (of_suite o) _ takes0V Z m σ H ρ h Q r.cold env.cold (EOk.cold q)⟩
theorem sh_ret {f : Exn → Den} (hi : i < C.N.length) (he : SX C i e f) : SH C (some i) [.Return (some e) pos] (fun ex => retS (f ex)) := ⟨fun X o ow a oe cls d pn hz hf Z m σ H ρ h D ex r env hs hc hx q => by
  refine PBw (pss_one (ps_ret pe_w)) ?_
  have hl : i < ρ.length ∨ ¬ i < ρ.length := by omega
  rcases hl with hl | hl
  · refine he.run X o a oe cls d pn hz hf Z m σ H ρ h _ ex r env (hs i rfl hl) hc hx ?_
    unfold retS at q
    cases z : f ex ρ h with
    | bad => rw [z] at q; exact q
    | exc e1 h1 => rw [z] at q; exact q.elim
    | ok y h1 => rw [z] at q; exact q
  · intro pins s I
    exact absurd (by rw [← env.len]; have := I.len; rw [this]; show i < X.N.length; rw [o.N]; exact hi) hl⟩
/-- what the program's error classes tell of a field -/
structure XfF (C : Ct) (cs : List Nat) (fl : Str) : Prop where
  at' : ∀ c, c ∈ cs → ∃ A, C.xc c = .ref A ∧ XfC C.K A ∧ PySem.W.findIn C.K (.ref A) fl = some none
def look (fs : List (Str × Dt)) (fl : Str) : Option Dt := match fs with
  | [] => none
  | (k, d) :: r => match k == fl with
    | true => some d
    | false => look r fl
def fldX (cs : List Nat) (fl : Str) (ex : Exn) : Den := fun _ h => match cs.contains ex.cls, look ex.fs fl with
  | true, some d => .ok (.d d) h
  | _, _ => .bad
theorem look_ok {F : List Addr} {H : Hp} {fl : Str} {d : Dt} : ∀ {fv : List (Str × V)} {fs : List (Str × Dt)}, fv.map Prod.fst = fs.map Prod.fst → Dis C.K C.ly F H (fv.map Prod.snd) (fs.map Prod.snd) → look fs fl = some d → ∃ v, fv.lookup fl = some v ∧ Di C.K C.ly F H v d
  | [], [], _, _, e => by cases e
  | [], _ :: _, h, _, _ => by cases h
  | _ :: _, [], h, _, _ => by cases h
  | (k, v) :: fv, (k', x) :: fs, h, .cons q qs, e => by
    have hk : k = k' := by simpa using (List.cons.inj h).1
    have ht : fv.map Prod.fst = fs.map Prod.fst := (List.cons.inj h).2
    subst hk
    unfold look at e
    cases z : k == fl with
    | true =>
      simp only [z] at e
      cases e
      refine ⟨v, ?_, q⟩
      rw [List.lookup_cons]
      have : (fl == k) = true := by rw [eq_of_beq z]; exact beq_self_eq_true _
      rw [this]
    | false =>
      simp only [z] at e
      obtain ⟨u, h1, h2⟩ := look_ok ht qs e
      refine ⟨u, ?_, h2⟩
      rw [List.lookup_cons]
      have : (fl == k) = false := by
        cases w : fl == k with
        | false => rfl
        | true => rw [eq_of_beq w, beq_self_eq_true] at z; cases z
      rw [this]
      exact h1
theorem sx_fld {n fl : Str} {cs : List Nat} {p : Pos} (F : XfF C cs fl) (hi : C.N[i]? = some n) (hv : LocN C n) (hd : (n == ("__debug__" : Str)) = false) (hcd : (n == ("__classdict__" : Str)) = false) : SX C i (.Attribute (.Name n p) fl pos) (fldX cs fl) := ⟨fun X o a oe cls d pn hz hf Z m σ H ρ h Q ex r env hs hc hx q => by
  unfold fldX at q
  cases z1 : cs.contains ex.cls with
  | false => simp only [z1] at q; exact q.elim
  | true =>
    cases z2 : look ex.fs fl with
    | none => simp only [z1, z2] at q; exact q.elim
    | some x =>
      simp only [z1, z2] at q
      obtain ⟨A, h1, h2, h3⟩ := F.at' ex.cls (by simpa using z1)
      refine PEw (pe_xf (C := A) (by rw [o.K]; exact h2) (by rw [o.K]; exact h3) hz hf (pe_var (i := i) (by show X.N[i]? = some n; rw [o.N]; exact hi) (by show Vis X.env.scope n; rw [o.sc]; exact .inl hv) hd hcd) rfl) ?_
      refine ⟨.ref a, hs, rfl, by rw [hc, h1], ?_⟩
      rcases hx with ⟨hn, _⟩ | ⟨dd, fv, e1, e2, e3, e4, e5⟩
      · rw [hn] at z2; cases z2
      · obtain ⟨v, v1, v2⟩ := look_ok e4 e5.1 z2
        exact ⟨dd, fv, v, e1, e2, v1, q v m H (Evo.refl _ _) r v2⟩⟩
end
end Vi

set_option maxRecDepth 100000
set_option maxHeartbeats 1000000
namespace Vi
open PySem L2 Evl
section
variable {C : Ct} {i : Nat} {e a b : Expr} {pos : Pos}
def tup2X (f g : Exn → Den) (ex : Exn) : Den := fun ρ h => (f ex ρ h).bind fun x h1 => (g ex ρ h1).bind fun y h2 => match x, y with
  | .d x, .d y => .ok (.d (.tup [x, y])) h2
  | _, _ => .bad
theorem ExR.mono {Z m m' : List Addr} {H H' : Hp} {h : Hs} {ex : Exn} {d : Option Addr} (r : Rl C Z m H h) (e : Evo m H m' H') (q : ExR C (Z ++ m) H ex d) : ExR C (Z ++ m') H' ex d := by
  rcases q with q | ⟨a, fv, h1, h2, h3, h4, h5⟩
  · exact .inl q
  · exact .inr ⟨a, fv, h1, (r.keeps e).keep _ _ h2 h3, (r.keeps e).out _ _ h2 h3, h4, h5.1.mono C.lok (r.keeps e), h5.2⟩
theorem sx_tup2 {f g : Exn → Den} {x1 : Nat} (hs1 : NoStar a [b]) (hs2 : NoStar b []) (ha : SX C i a f) (hb : SX C i b g) : SX C i (.Tuple [a, b] x1 pos) (tup2X f g) := ⟨fun X o ad oe cls d pn hz hf Z m σ H ρ h Q ex r env hs hc hx q => by
  refine PEw (pe_tup (pa_cons pe_w (pa_cons pe_w pa_nil (hs2 _)) (hs1 _))) ?_
  refine ha.run X o ad oe cls d pn hz hf Z m σ H ρ h _ ex r env hs hc hx ((EOk.bind pass_e q).imp fun v H1 ⟨m1, x, h1, e1, r1, d1, q1⟩ => ?_)
  refine hb.run X o ad oe cls d pn hz hf Z m1 σ H1 ρ h1 _ ex r1 (env.mono r e1) hs hc (hx.mono r e1) ((EOk.bind pass_e q1).imp fun w H2 ⟨m2, y, h2, e2, r2, d2, q2⟩ => ?_)
  cases x with
  | r n => exact q2.elim
  | d x =>
    cases y with
    | r n => exact q2.elim
    | d y =>
      refine ⟨sz_of (by show 2 ≤ 100000; omega), fun p hp => q2 _ m2 _ (Evo.ex (Ex.new hp)) (r2.ex (Ex.new hp)) (Di.tup upd_same (.cons ?_ (.cons ?_ .nil)))⟩
      · exact (Di.mono C.lok (r1.keeps e2) d1).mono C.lok (keeps_ex (Ex.new hp))
      · exact Di.mono C.lok (keeps_ex (Ex.new hp)) d2⟩
/-! ### raise -/
/-- an error class: its number, its fields by the arguments -/
structure ErP (G : Cg) (k : Nat) (x : Str) (cl : Nat) (g : List Dt → Option (List (Str × Dt))) : Prop where
  make : ∀ (C : Ct), C.g = G → C.calm = true → ∀ X, C.Of X → k ≤ C.lv → Gl X x → ∀ (e : Expr) (es : List Expr) (ta : TA) (p1 p2 : Pos), PA X (e :: es) ta → starEach (e :: es) X.env = (false, eval e X.env) :: starEach es X.env → (backTo p2 (starEach es X.env)).any (·.1) = false →
    ∃ t, L2N.PMk X (.Call (.Name x p1) (e :: es) [] p2) t ∧ ∀ σ H Q, ta σ H (fun vs H1 => ∃ Z ds fs, FA Z H1 ∧ Dis C.K C.ly Z H1 vs ds ∧ g ds = some fs ∧ ds.length ≤ 100 ∧ ∀ H2 d, Ex H1 H2 → ExR C Z H2 ⟨cl, fs⟩ d → Q (C.xc cl) d H2) → t σ H Q
def raiseS (cl : Nat) (g : List Dt → Option (List (Str × Dt))) (fa : DenA) : DenS := fun ρ h => bindS (fa ρ h) ρ fun xs h1 => match allD xs with
  | some ds => match g ds, decide (ds.length ≤ 100) with
    | some fs, true => .exc ⟨cl, fs⟩ ρ h1
    | _, _ => .bad
  | none => .bad
theorem ss_raise {G : Cg} {k cl : Nat} {x : Str} {es : List Expr} {g : List Dt → Option (List (Str × Dt))} {fa : DenA} {p1 p2 : Pos} (E : ErP G k x cl g) (hG : C.g = G) (hc : C.calm = true) (hk : k ≤ C.lv) (hg : GlN C x) (hs : NoStar e es) (hpl : NoStars es) (ha : SA C (e :: es) fa) : SS C (.Raise (some (.Call (.Name x p1) (e :: es) [] p2)) none pos) (raiseS cl g fa) := ⟨fun X o pn W tk Z m σ H ρ h D r env q => by
  obtain ⟨t, pm, kt⟩ := E.make C hG hc X o hk (o.gl hg) e es (RunA X (e :: es)) p1 p2 pa_w (hs _) (hpl _ _)
  refine PSw (L2N.ps_raise (by rw [o.calm]; exact hc) tk.1 pm) (kt σ H _ ?_)
  refine ha.run X o W tk Z m σ H ρ h _ r env ((AOk.toS r env q).imp fun vs H1 ⟨m1, xs, h1, e1, r1, d1, q1⟩ => ?_)
  cases z1 : allD xs with
  | none => simp only [z1] at q1; exact q1.elim
  | some ds =>
    simp only [z1] at q1
    cases z2 : g ds with
    | none => simp only [z2] at q1; exact q1.elim
    | some fs =>
      by_cases z3 : ds.length ≤ 100
      · simp only [z2, decide_eq_true z3] at q1
        refine ⟨Z ++ m1, ds, fs, r1.fa, dvs_all d1 z1, z2, z3, fun H2 d e2 x2 => ?_⟩
        exact q1 σ m1 H2 d (Evo.ex e2) (r1.ex e2) ((env.mono r e1).mono r1 (Evo.ex e2)) x2
      · simp only [z2, decide_eq_false z3] at q1; exact q1.elim⟩
/-! ### try -/
abbrev Cl := (Nat → Option Bool) × Option Nat × (Exn → DenS)
def unnm (i : Nat) : ResS → ResS
  | .nx ρ h => .nx (ρ.set i none) h
  | .bk ρ h => .bk (ρ.set i none) h
  | .ct ρ h => .ct (ρ.set i none) h
  | .rt x h => .rt x h
  | _ => .bad
def pickS : List Cl → Exn → DenS
  | [], e => fun _ _ => .bad
  | (t, o, f) :: r, e => fun ρ h => match t e.cls with
    | some true => match o with
      | none => noX (f e ρ h)
      | some i => unnm i (f e (ρ.set i none) h)
    | some false => pickS r e ρ h
    | none => .bad
def tryS (fb : DenS) (cl : List Cl) : DenS := fun ρ h => match fb ρ h with
  | .exc e ρ1 h1 => pickS cl e ρ1 h1
  | r => r
structure SHs (C : Ct) (hds : List ExceptHandler) (cl : List Cl) : Prop where
  run : ∀ X, C.Of X → Own X → X.N.Nodup → ∃ l, HdsT X hds l ∧ ∀ W D Z m σ H ρ h e d, Rl C Z m H h → EnvV C Z m H σ ρ → ExR C (Z ++ m) H e d → SOk C W Z m H D (pickS cl e ρ h) → wTry X.K (fun _ _ _ _ => False) D l (C.xc e.cls) d σ H
/-- which numbers of classes a name catches -/
structure XcN (C : Ct) (x : Str) (t : Nat → Option Bool) : Prop where
  c : ∃ c, C.mg x = some c ∧ ∀ n b, t n = some b → PySem.W.exmOne C.K (C.xc n) c = some b
theorem shs_nil : SHs C [] [] := ⟨fun X o ow nd => ⟨[], .nil, fun W D Z m σ H ρ h e d r env hx q => q.elim⟩⟩
theorem shs_as {x n : Str} {i : Nat} {t : Nat → Option Bool} {b₀ : Stmt} {su : List Stmt} {np p' : Pos} {hds : List ExceptHandler} {cl : List Cl} {f : Exn → DenS} (hi : C.N[i]? = some n) (hn : LocN C n) (T : XcN C x t) (hg : GlN C x) (hd : (x == ("__debug__" : Str)) = false) (hs : SH C (some i) (b₀ :: su) f) (hr : SHs C hds cl) : SHs C (.ExceptHandler (some (.Name x np)) (some n) (b₀ :: su) p' :: hds) ((t, some i, f) :: cl) := ⟨fun X o ow nd => by
  obtain ⟨l, hl, kl⟩ := hr.run X o ow nd
  obtain ⟨c, c1, c2⟩ := T.c
  refine ⟨(c, some i, fun a cls d D σ H => ∀ oe pn, Zc cls d oe → (∃ vs, oe.data = .fields vs) → RunB (X.suite a ((a, oe) :: pn)) (b₀ :: su) D σ H) :: l, .as (by rw [o.N]; exact hi) (by show X.env.scope.names.lookup n = _; rw [o.sc]; exact hn) ⟨o.gl hg, hd, .inl (o.fr c1)⟩ (fun a oe cls d pn hz hf => ⟨fun pins s σ H D I h => h oe pn hz hf pins s I⟩) hl, fun W D Z m σ H ρ h e d r env hx q => ?_⟩
  unfold pickS at q
  cases z : t e.cls with
  | none => simp only [z] at q; exact q.elim
  | some b =>
    refine ⟨b, by rw [o.K]; exact c2 _ _ z, fun hb a ha oe pn hz hf => ?_, fun hb => ?_⟩
    · subst hb
      simp only [z] at q
      refine hs.run X o ow a oe _ d pn hz hf Z m _ H (ρ.set i none) h (behind i D) e r (env.drop (v := some (.ref a))) (fun j w hj => ?_) rfl hx ?_
      · cases w
        rw [List.length_set] at hj
        rw [List.getElem?_set_self (by rw [env.len]; exact hj)]
      · generalize f e (ρ.set i none) h = res at q ⊢
        cases res with
        | nx ρ1 h1 => exact fun σ' m' H' e' r' en' => q _ m' H' e' r' en'.drop
        | bk ρ1 h1 => exact fun σ' m' H' e' r' en' => q _ m' H' e' r' en'.drop
        | ct ρ1 h1 => exact fun σ' m' H' e' r' en' => q _ m' H' e' r' en'.drop
        | rt y h1 => exact q
        | exc e1 ρ1 h1 => exact q
        | bad => exact q
    · subst hb
      simp only [z] at q
      exact kl W D Z m σ H ρ h e d r env hx q⟩
theorem ss_try {body : List Stmt} {h₀ : ExceptHandler} {hds : List ExceptHandler} {fb : DenS} {cl : List Cl} (nd : C.N.Nodup) (hb : SB C body fb) (hh : SHs C (h₀ :: hds) cl) : SS C (.Try body (h₀ :: hds) [] [] pos) (tryS fb cl) := ⟨fun X o pn W tk Z m σ H ρ h D r env q => by
  obtain ⟨l, hl, kl⟩ := hh.run X o pn (by rw [o.N]; exact nd)
  refine PSw (ps_tryT (tb := fun W' D σ H => ∀ pn' xe, Takes (X.tr pn' xe) W' → PassesOwn (model X.prog X.w) X.A X.env xe → RunB (X.tr pn' xe) body D σ H) pn.st pn.fr (by rw [o.N]; exact nd) LamX.takes0 (fun W' pn' xe t p => ⟨fun pins s σ H D I h => h pn' xe t p pins s I⟩) hl) ?_
  intro pn' xe t p
  refine hb.run _ (of_tr o) ⟨p, pn.st, pn.fr⟩ _ (takesV_of t) Z m σ H ρ h D r env ?_
  unfold tryS at q
  cases z : fb ρ h with
  | nx ρ1 h1 => rw [z] at q; exact q
  | bk ρ1 h1 => rw [z] at q; exact q
  | ct ρ1 h1 => rw [z] at q; exact q
  | rt y h1 => rw [z] at q; exact q
  | bad => rw [z] at q; exact q
  | exc e1 ρ1 h1 =>
    rw [z] at q
    exact fun σ' m' H' d e' r' en' x' => kl W D Z m' σ' H' ρ1 h1 e1 d r' en' x' (q.at e')⟩
end
end Vi

set_option maxRecDepth 100000
set_option maxHeartbeats 1000000
namespace Vi
open PySem L2 Evl
/-! ### defs that work on their caller's things -/
abbrev If := List Vl → Hs → Res Vl
def runI (nn : Nat) (B : DenS) : If := fun xs h => match B (xs.map some ++ List.replicate (nn - xs.length) none) h with
  | .rt x h1 => .ok x h1
  | .nx _ h1 => .ok (.d .non) h1
  | .exc e _ h1 => .exc e h1
  | _ => .bad
def QOk (C : Ct) (Z m : List Addr) (H : Hp) (Q : VK) (E : XK) : Res Vl → Prop
  | .ok x h' => ∀ v m' H', Evo m H m' H' → Rl C Z m' H' h' → Dv C.K C.ly Z m' H' v x → Q v H'
  | .exc e h' => ∀ m' H' d, Evo m H m' H' → Rl C Z m' H' h' → ExR C (Z ++ m') H' e d → E (C.xc e.cls) d H'
  | .bad => False
def SpI (G : Cg) (n : Nat) (g : If) : Sp := fun vs H Q E => ∃ Z m h xs, Rl G.ct Z m H h ∧ Dvs G.K G.ly Z m H vs xs ∧ xs.length = n ∧ QOk G.ct Z m H Q E (g xs h)
structure FnI (G : Cg) (k : Nat) (x : Str) (n : Nat) (g : If) : Prop where
  ex : ∃ f fd ps, FnOk G.P G.w G.K G.mg G.base (CXV G.dt G.P G.w) k f fd ps (SpI G n g) ∧ G.mg x = some (.ref f) ∧ PySem.W.keepIn G.K (.ref f) = true ∧ Binds G.K fd ps []
section
variable {G : Cg}
theorem Rl.toC {C : Ct} {Z m : List Addr} {H : Hp} {h : Hs} (r : Rl C.g.ct Z m H h) : Rl C Z m H h := ⟨r.nd, r.disj, r.len, r.za, r.notup, r.own, r.ma, r.ob⟩
theorem Rl.toG {C : Ct} {Z m : List Addr} {H : Hp} {h : Hs} (r : Rl C Z m H h) : Rl C.g.ct Z m H h := ⟨r.nd, r.disj, r.len, r.za, r.notup, r.own, r.ma, r.ob⟩
theorem Rl.toAt {N : List Str} {sc : Scope} {k : Nat} {Z m : List Addr} {H : Hp} {h : Hs} (r : Rl G.ct Z m H h) : Rl (G.at N sc k) Z m H h := ⟨r.nd, r.disj, r.len, r.za, r.notup, r.own, r.ma, r.ob⟩
theorem Rl.ofAt {N : List Str} {sc : Scope} {k : Nat} {Z m : List Addr} {H : Hp} {h : Hs} (r : Rl (G.at N sc k) Z m H h) : Rl G.ct Z m H h := ⟨r.nd, r.disj, r.len, r.za, r.notup, r.own, r.ma, r.ob⟩
theorem dvs_get {K : PySem.W.Frag} {Ly : Lx} {Z m : List Addr} {H : Hp} : ∀ {vs : List V} {xs : List Vl} {i : Nat} {x : Vl}, Dvs K Ly Z m H vs xs → xs[i]? = some x → ∃ v, vs[i]? = some v ∧ Dv K Ly Z m H v x
  | _, _, _, _, .nil, e => by simp at e
  | _, _, 0, _, .cons h _, e => by simp at e; subst e; exact ⟨_, rfl, h⟩
  | _, _, i + 1, d, .cons _ t, e => by
    obtain ⟨u, h1, h2⟩ := dvs_get (i := i) (x := d) t (by simpa using e)
    exact ⟨u, by simpa using h1, h2⟩
theorem env_startI {C : Ct} {Z m : List Addr} {H : Hp} {N : List Str} {vs : List V} {xs : List Vl} (h : Dvs C.K C.ly Z m H vs xs) : EnvV C Z m H (L2.start N vs) (xs.map some ++ List.replicate (N.length - xs.length) none) := by
  have hl := dvs_len h
  refine ⟨by unfold L2.start; simp [hl], fun i x q => ?_⟩
  unfold L2.start
  by_cases hi : i < xs.length
  · rw [List.getElem?_append_left (by simpa using hi), List.getElem?_map] at q
    cases e : xs[i]? with
    | none => rw [e] at q; cases q
    | some y =>
      rw [e] at q
      cases q
      obtain ⟨v, h1, h2⟩ := dvs_get h e
      exact ⟨v, by rw [List.getElem?_append_left (by simpa [hl] using hi), List.getElem?_map, h1]; rfl, h2⟩
  · rw [List.getElem?_append_right (by simpa using hi), List.getElem?_replicate] at q
    split at q <;> cases q
theorem fn_mkI {x qual : Str} {st : Stmt} {f : Addr} {fd : FuncData} {N ps : List Str} {k : Nat} {B : DenS} (F : Fun G.K x qual st f fd) (S : FnScope N ps (defScope st)) (b : Binds G.K fd ps []) (gm : G.mg x = some (.ref f))
    (body : SB (G.at N (defScope st) k) (defBody st) B) : FnI G (k + 1) x ps.length (runI N.length B) := by
  refine ⟨f, fd, ps, funOkV F S (fun vs H Q E h => ?_) (fun cdv A outer s H vs Q E hr h => ?_), gm, F.kp, b⟩
  · obtain ⟨Z, m, hh, xs, _, h1, h2, _⟩ := h
    rw [dvs_len h1, h2]
  · obtain ⟨Z, m, hh, xs, rl, h1, h2, h3⟩ := h
    refine ⟨_, pb_w, body.run _ (of_cx hr) ⟨passes_of rfl, rfl, rfl⟩ _ (takes_ofV (E := E) rfl rfl rfl rfl) Z m _ H (xs.map some ++ List.replicate (N.length - xs.length) none) hh _ rl.toAt (env_startI h1) ?_⟩
    unfold runI at h3
    cases z : B (xs.map some ++ List.replicate (N.length - xs.length) none) hh with
    | nx ρ h => rw [z] at h3; exact fun σ' m' H' e' r' en' => h3 .non m' H' e' r'.ofAt Di.non
    | rt y h => rw [z] at h3; exact fun v m' H' e' r' dv => h3 v m' H' e' r'.ofAt dv
    | bk ρ h => rw [z] at h3; exact h3.elim
    | ct ρ h => rw [z] at h3; exact h3.elim
    | bad => rw [z] at h3; exact h3.elim
    | exc e ρ h => rw [z] at h3; exact fun σ' m' H' d e' r' en' ex => h3 m' H' d e' r'.ofAt ex
end
def callI (n : Nat) (g : If) (fa : DenA) : Den := fun ρ h => (fa ρ h).bind fun xs h1 => match decide (xs.length = n) with
  | true => g xs h1
  | false => .bad
section
variable {C : Ct} {e : Expr} {es : List Expr} {fa : DenA} {pos p : Pos} {x : Str} {k n : Nat} {g : If}
theorem callI_ok {W : WX} {Z m : List Addr} {σ : St} {H : Hp} {h : Hs} {Q : VK} {xs : List Vl} {vs : List V} (r1 : Rl C Z m H h) (d1 : Dvs C.K C.ly Z m H vs xs) (q1 : EOk C W Z σ m H Q (match decide (xs.length = n) with
  | true => g xs h
  | false => .bad)) : SpI C.g n g vs H Q (L2.WE W σ) := by
  by_cases hl : xs.length = n
  · rw [decide_eq_true hl] at q1
    dsimp only at q1
    refine ⟨Z, m, h, xs, r1.toG, d1, hl, ?_⟩
    cases z2 : g xs h with
    | bad => rw [z2] at q1; exact q1.elim
    | ok d h' => rw [z2] at q1; exact fun v m' H' e' r' di => q1 v m' H' e' r'.toC di
    | exc e h' => rw [z2] at q1; exact fun m' H' d e' r' xr => q1 m' H' d e' r'.toC xr
  · rw [decide_eq_false hl] at q1; exact q1.elim
theorem se_callI (F : FnI C.g k x n g) (hk : k ≤ C.lv) (hc : C.calm = true) (hg : GlN C x) (hd : (x == ("__debug__" : Str)) = false) (hs : NoStar e es) (hpl : NoStars es) (ha : SA C (e :: es) fa) : SE C (.Call (.Name x p) (e :: es) [] pos) (callI n g fa) := ⟨fun X o W tk Z m σ H ρ h Q r env q => by
  obtain ⟨f, fd, ps, G, hm, kp, b⟩ := F.ex
  have G' : FnOk X.prog X.w X.K X.mg X.base (CXV C.dt X.prog X.w) k f fd ps (SpI C.g n g) := by rw [o.prog, o.w, o.K, o.mg, o.base]; exact G
  refine PEw (pe_callS (E := L2.WE W) G' ((o.room hc).mono hk) (o.gl hg) (o.fr hm) (by rw [o.K]; exact kp) (by rw [o.K]; exact b) (fun σ => passAtV tk σ) pa_w hd (hs _) (hpl _ _)) (ha.run X o W tk Z m σ H ρ h _ r env ((AOk.bind pass_e q).imp fun vs H1 ⟨m1, xs, h1, e1, r1, d1, q1⟩ => ?_))
  exact callI_ok r1 d1 q1⟩
end
end Vi

set_option maxRecDepth 100000
set_option maxHeartbeats 1000000
/-! ### making an instance, calling a method: what is let out at the slots σ -/
namespace Vi
open PySem PySem.Spec PyProof.Rows L2 Evl
section
variable {X : Cx} {CX : CXT} {k : Nat} {f C : Addr} {fd : FuncData} {ps : List Str} {sp : Sp} {E : L2.St → XK} {x m : Str} {p pos apos : Pos} {e o : Expr} {es : List Expr} {ta : TE} {t : TA}
theorem run_makeS {pins : List (Addr × Obj)} {σ : L2.St} {H : Hp} {s : Shared} {Q : VK} {us : List Value} {vs : List V} (M : Mk X.K C f) (F : FnOk X.prog X.w X.K X.mg X.base CX k f fd ps sp) (hr : Room (k + 1) X.A) (hb : Binds X.K fd ps [])
    (hx : PassesAt CX X σ (E σ)) (I : Inv X pins σ H s) (r : Vals vs us)
    (h : ∀ x dx, H x = none → H dx = none → dx ≠ x → sp (.ref x :: vs) (upd (upd H dx (.own x)) x (.ins C dx [])) (fun v H2 => v = .non ∧ Q (.ref x) H2) (E σ)) :
    wpAny (model X.prog X.w) X.A (call (.ref C) us) (EP X pins σ Q) X.xe s := by
  have hq := h (s.heap.objs.size + 1) s.heap.objs.size (I.hok.fresh (Nat.le_succ _)) (I.hok.fresh (Nat.le_refl _)) (Nat.ne_of_lt (Nat.lt_succ_self _))
  have I2 := Inv.made (C := C) I
  have r2 : Vals (V.ref (s.heap.objs.size + 1) :: vs) (Value.ref (s.heap.objs.size + 1) :: us) := .cons rfl r
  have hl : (Value.ref (s.heap.objs.size + 1) :: us).length = ps.length := by
    have e := r2.length
    rw [F.len _ _ _ _ hq] at e
    exact e.symm
  have b := hb _ (Value.ref (s.heap.objs.size + 1) :: us) I2.kIn (by rw [List.append_nil]; exact hl)
  rw [List.append_nil] at b
  refine wpAny_call (make_map (f := f) I.kIn M.makes M.init (beq_iff_eq.mp M.fn) (codeAny_mono (F.run _ X.stack _ _ ⟨Value.ref (s.heap.objs.size + 1) :: us, []⟩ (Value.ref (s.heap.objs.size + 1) :: us) _ _ (E σ) (hr.make C us [])
    (I2.env0.make C us []) b r2 hq) fun r s' hq' => ?_))
  cases r with
  | error e => exact hx pins _ _ e s' I2 hq'
  | ok fl =>
    cases fl with
    | ret u =>
      obtain ⟨v, H', I3, rv, ev, q3⟩ := I2.after hq'
      subst ev
      exact ⟨rv, ⟨V.ref (s.heap.objs.size + 1), H', I3, rfl, q3⟩⟩
    | next => exact False.elim hq'
    | brk => exact False.elim hq'
    | cont => exact False.elim hq'
def tMakeS (C : Addr) (sp : Sp) (E : L2.St → XK) (t : TA) : TE := fun σ H Q => t σ H fun vs H1 => ∀ x dx, H1 x = none → H1 dx = none → dx ≠ x →
  sp (.ref x :: vs) (upd (upd H1 dx (.own x)) x (.ins C dx [])) (fun v H2 => v = .non ∧ Q (.ref x) H2) (E σ)
theorem pe_makeS (M : Mk X.K C f) (F : FnOk X.prog X.w X.K X.mg X.base CX k f fd ps sp) (hr : Room (k + 1) X.A) (hg : Gl X x) (hm : X.mg x = some (.ref C)) (hb : Binds X.K fd ps []) (hx : ∀ σ, PassesAt CX X σ (E σ))
    (ha : PA X (e :: es) t) (hdb : (x == ("__debug__" : Str)) = false) (he : starEach (e :: es) X.env = (false, eval e X.env) :: starEach es X.env) (hpl : (backTo pos (starEach es X.env)).any (·.1) = false) :
    PE X (.Call (.Name x p) (e :: es) [] pos) (tMakeS C sp E t) := by
  refine ⟨fun pins s σ H Q I h => ?_⟩
  refine wpAny_Call_Name_kw (ld_glob I hg hm ?_ hdb)
  refine PySem.W.callWith_K (h₀ := X.base) I.ok.mod.kin M.kp (thn (ha.run pos pins s σ H _ I h) fun us s1 ⟨vs, H1, I1, r, q⟩ => ⟨I1.kIn, ?_⟩) he hpl
  exact run_makeS M F hr hb (hx σ) I1 r q
def tMethS (C : Addr) (sp : Sp) (E : L2.St → XK) (ta : TE) (t : TA) : TE := fun σ H Q => ta σ H fun x H1 => ∃ a dx vs, x = .ref a ∧ SlX.Slt H1 a C dx vs ∧ t σ H1 fun ws H2 => sp (x :: ws) H2 Q (E σ)
end
/-! ### the layout of Drawing -/
structure DrT (K : PySem.W.Frag) where
  CD : Addr
  pl : Addr
  il : Nat
  pp : Addr
  ip : Nat
  cls : SlX.SCls K CD
  sl : SlX.Slot1 K CD "lines" pl il
  sp : SlX.Slot1 K CD "points" pp ip
  ne : il ≠ ip
/-- frozen: class 0, lines and points -/
def layD {K : PySem.W.Frag} (T : DrT K) : Lay := fun c ds a H xs as => c = 0 ∧ ∃ dx vs v0 v1, H a = some (SlX.SlO a T.CD dx vs) ∧ H dx = some (.xd []) ∧ as = [dx] ∧ vs[T.il]? = some (some v0) ∧ vs[T.ip]? = some (some v1) ∧ xs = [v0, v1]
/-- what may change: class 0 with one or two slots filled; class 1 the table of a def's code objects; class k + 2 with the fields of a plain class -/
def layM {K : PySem.W.Frag} (T : DrT K) (pc : Nat → Addr) (pf : Nat → List Str) : LayM := fun c a H vs => match c with
  | 0 => ∃ dx sl, H a = some (SlX.SlO a T.CD dx sl) ∧ H dx = some (.xd []) ∧ dx ≠ a ∧ match vs with
    | [v0] => sl[T.il]? = some (some v0)
    | [v0, v1] => sl[T.il]? = some (some v0) ∧ sl[T.ip]? = some (some v1)
    | _ => False
  | 1 => ∃ i : Nat, vs = [V.int (i : Int)] ∧ a = pc (1000 + i) ∧ LamX.TabS H a ((pf (1000 + i)).headD "")
  | k + 2 => if pc (3000 + k) = 1 then ∃ dx sl, H a = some (SlX.SlO a (pc (k + 1)) dx sl) ∧ H dx = some (.xd []) ∧ dx ≠ a ∧ vs.length = (pf (k + 1)).length ∧ ∀ (j : Nat) (v : V), vs[j]? = some v → sl[pc (4000 + 10 * k + j)]? = some (some v)
    else ∃ dx fs, H a = some (.ins (pc (k + 1)) dx fs) ∧ H dx = some (.own a) ∧ fs.map (·.2) = vs ∧ fs.map (·.1) = (pf (k + 1)).take vs.length
theorem layD_ok {K : PySem.W.Frag} {T : DrT K} {P : Program} {w : World} : LayOk ⟨layD T, P, w⟩ := by
  refine ⟨fun c ds a H xs as H' h k => ?_, fun c ds a H xs as h => ?_⟩
  · obtain ⟨hc, dx, vs, v0, v1, h1, h2, rfl, h4⟩ := h
    exact ⟨hc, dx, vs, v0, v1, k a _ (.inl rfl) h1, k dx _ (.inr (by simp)) h2, rfl, h4⟩
  · obtain ⟨hc, dx, vs, v0, v1, h1, h2, rfl, h4⟩ := h
    exact ⟨⟨_, h1⟩, fun b hb => by rw [List.mem_singleton] at hb; rw [hb]; exact ⟨_, h2⟩⟩
theorem layM_ok {K : PySem.W.Frag} {T : DrT K} {pc : Nat → Addr} {pf : Nat → List Str} : LayMOk (layM T pc pf) := by
  refine ⟨fun c a H vs h => ?_, fun c a H vs H' h ha k => ?_⟩
  · cases c with
    | zero => obtain ⟨dx, sl, h1, _⟩ := h; exact ⟨_, h1, fun xs z => by unfold SlX.SlO at z; cases z⟩
    | succ c =>
      cases c with
      | zero => obtain ⟨_, _, _, ps, h1, _⟩ := h; exact ⟨_, h1, fun xs z => by cases z⟩
      | succ c =>
        dsimp only [layM] at h
        split at h
        · obtain ⟨dx, sl, h1, _⟩ := h; exact ⟨_, h1, fun xs z => by unfold SlX.SlO at z; cases z⟩
        · obtain ⟨dx, fs, h1, _⟩ := h; exact ⟨_, h1, fun xs z => by cases z⟩
  · cases c with
    | zero =>
      obtain ⟨dx, sl, h1, h2, h3⟩ := h
      exact ⟨dx, sl, by rw [ha]; exact h1, k dx _ h2 ⟨.inr [], rfl⟩, h3⟩
    | succ c =>
      cases c with
      | zero =>
        obtain ⟨i, h0, h1, ps, h2, h3, h4⟩ := h
        refine ⟨i, h0, h1, ps, by rw [ha]; exact h2, h3, fun pos cv hc => ?_⟩
        obtain ⟨c, e1, e2⟩ := h4 pos cv hc
        exact ⟨c, e1, k c _ e2 ⟨.inc c _, rfl⟩⟩
      | succ c =>
        dsimp only [layM] at h ⊢
        split at h
        · rename_i hp
          obtain ⟨dx, sl, h1, h2, h3⟩ := h
          rw [if_pos hp]
          exact ⟨dx, sl, by rw [ha]; exact h1, k dx _ h2 ⟨.inr [], rfl⟩, h3⟩
        · rename_i hp
          obtain ⟨dx, fs, h1, h2, h3⟩ := h
          rw [if_neg hp]
          exact ⟨dx, fs, by rw [ha]; exact h1, k dx _ h2 ⟨.inl a, rfl⟩, h3⟩
/-- the place knows Drawing -/
structure HasD (C : Ct) (T : DrT C.K) (pc : Nat → Addr) (pf : Nat → List Str) : Prop where
  ly : C.ly.f = layD T
  lm : C.lm = layM T pc pf
section
variable {C : Ct} {T : DrT C.K} {pc : Nat → Addr} {pf : Nat → List Str} {a e : Expr} {es : List Expr} {pos p apos : Pos} {f : Den} {fa : DenA}
theorem di_ins (hD : HasD C T pc pf) {F : List Addr} {H : Hp} {v : V} {c : Nat} {ds : List Dt} (h : Di C.K C.ly F H v (.ins c ds)) : ∃ x dx vs v0 v1 d0 d1, v = .ref x ∧ H x = some (SlX.SlO x T.CD dx vs) ∧ H dx = some (.xd []) ∧ x ∉ F ∧ vs[T.il]? = some (some v0) ∧ vs[T.ip]? = some (some v1) ∧ ds = [d0, d1] ∧ Di C.K C.ly F H v0 d0 ∧ Di C.K C.ly F H v1 d1 := by
  cases h with
  | ins h1 h2 h3 h4 =>
    rw [hD.ly] at h1
    obtain ⟨hc, dx, vs, v0, v1, k1, k2, rfl, k4, k5, rfl⟩ := h1
    cases h4 with
    | cons q0 h4 =>
    cases h4 with
    | cons q1 h4 =>
    cases h4
    exact ⟨_, dx, vs, v0, v1, _, _, rfl, k1, k2, h2, k4, k5, rfl, q0, q1⟩
theorem slt_of {K : PySem.W.Frag} {T : DrT K} {H : Hp} {x dx : Addr} {vs : List (Option V)} (h1 : H x = some (SlX.SlO x T.CD dx vs)) (h2 : H dx = some (.xd [])) : SlX.Slt H x T.CD dx vs := .inr ⟨h1, h2⟩
/-- o.lines (k = 0), o.points (k = 1) -/
def fldV (k : Nat) (f : Den) : Den := fun ρ h => (f ρ h).bind fun x h1 => match x with
  | .d (.ins 0 ds) => match ds[k]? with
    | some d => .ok (.d d) h1
    | none => .bad
  | .r n => match h1[n]? with
    | some (.ins 0 fs) => match fs[k]? with
      | some y => .ok y h1
      | none => .bad
    | _ => .bad
  | _ => .bad
theorem slotk {K : PySem.W.Frag} (T : DrT K) {k : Nat} {fl : Str} (hk : (k = 0 ∧ fl = "lines") ∨ (k = 1 ∧ fl = "points")) : ∃ q i, SlX.Slot1 K T.CD fl q i ∧ i = (if k = 0 then T.il else T.ip) := by
  rcases hk with ⟨rfl, rfl⟩ | ⟨rfl, rfl⟩
  · exact ⟨T.pl, T.il, T.sl, rfl⟩
  · exact ⟨T.pp, T.ip, T.sp, rfl⟩
theorem se_fld (hD : HasD C T pc pf) {k : Nat} {fl : Str} (hk : (k = 0 ∧ fl = "lines") ∨ (k = 1 ∧ fl = "points")) (hb : ∀ env, attributeBase a fl env (eval a env) = eval a env) (ha : SE C a f) : SE C (.Attribute a fl pos) (fldV k f) := ⟨fun X o W tk Z m σ H ρ h Q r env q => by
  refine PEw (SlX.pe_sl pe_w (hb _)) (ha.run X o W tk Z m σ H ρ h _ r env ((EOk.bind pass_e q).imp fun v H1 ⟨m1, x, h1, e1, r1, d1, q1⟩ => ?_))
  obtain ⟨s, i, s1, s2⟩ := slotk T hk
  cases x with
  | d y =>
    cases y with
    | ins c ds =>
      cases c with
      | succ c => exact q1.elim
      | zero =>
        obtain ⟨x, dx, vs, v0, v1, d0, d1, rfl, k1, k2, n1, k4, k5, rfl, q0, q1'⟩ := di_ins hD d1
        rcases hk with ⟨rfl, rfl⟩ | ⟨rfl, rfl⟩
        · exact ⟨x, T.CD, dx, s, vs, i, v0, rfl, slt_of k1 k2, by rw [o.K]; exact T.cls, by rw [o.K]; exact s1, by rw [s2]; exact k4, q1 v0 m1 H1 (Evo.refl _ _) r1 q0⟩
        · exact ⟨x, T.CD, dx, s, vs, i, v1, rfl, slt_of k1 k2, by rw [o.K]; exact T.cls, by rw [o.K]; exact s1, by rw [s2]; exact k5, q1 v1 m1 H1 (Evo.refl _ _) r1 q1'⟩
    | _ => exact q1.elim
  | r n =>
    dsimp only at q1
    cases z : h1[n]? with
    | none => rw [z] at q1; exact q1.elim
    | some ob =>
      rw [z] at q1
      cases ob with
      | ins c fs =>
        cases c with
        | succ c => exact q1.elim
        | zero =>
          obtain ⟨x, hx, rfl, vs, l1, l2⟩ := r1.at d1 z
          rw [hD.lm] at l1
          obtain ⟨dx, sl, k1, k2, k3, k4⟩ := l1
          replace q1 : EOk C W Z σ m1 H1 Q (match fs[k]? with
            | some y => .ok y h1
            | none => .bad) := q1
          cases z2 : fs[k]? with
          | none => rw [z2] at q1; exact q1.elim
          | some y =>
            rw [z2] at q1
            obtain ⟨u, u1, u2⟩ := dvs_get l2 z2
            refine ⟨x, T.CD, dx, s, sl, i, u, rfl, slt_of k1 k2, by rw [o.K]; exact T.cls, by rw [o.K]; exact s1, ?_, q1 u m1 H1 (Evo.refl _ _) r1 u2⟩
            rw [s2]
            match vs, k4 with
            | [w0], k4 =>
              rcases hk with ⟨rfl, rfl⟩ | ⟨rfl, rfl⟩
              · cases u1; exact k4
              · cases u1
            | [w0, w1], ⟨k4, k5⟩ =>
              rcases hk with ⟨rfl, rfl⟩ | ⟨rfl, rfl⟩
              · cases u1; exact k4
              · cases u1; exact k5
      | _ => exact q1.elim⟩
/-- a method or property of Drawing, pure -/
structure MnP (C : Ct) (T : DrT C.K) (k : Nat) (mn : Str) (n : Nat) (g : Pf) : Prop where
  ex : ∃ fa fd ps, Meth C.K T.CD mn fa ∧ FnOk C.P C.w C.K C.mg C.base (CXV C.dt C.P C.w) k fa fd ps (SpP C.g n g) ∧ Binds C.K fd ps []
def methP (n : Nat) (g : Pf) (f : Den) (fa : DenA) : Den := fun ρ h => (f ρ h).bind fun x h1 => match x with
  | .d (.ins 0 ds) => (fa ρ h1).bind fun xs h2 => match allD xs with
    | some es => match decide ((Dt.ins 0 ds :: es).length = n) with
      | true => match g (.ins 0 ds :: es) with
        | .ok d => .ok (.d d) h2
        | .exc e => .exc e h2
        | .bad => .bad
      | false => .bad
    | none => .bad
  | _ => .bad
end
end Vi

set_option maxRecDepth 100000
set_option maxHeartbeats 1000000
/-! ### making a Drawing -/
namespace Vi
open PySem L2 Evl
def noIns (h : Hs) : Bool := h.all fun o => match o with
  | .ins _ _ => false
  | _ => true
section
variable {C : Ct} {T : DrT C.K} {pc : Nat → Addr} {pf : Nat → List Str}
/-- the place of __init__ ahead of the first store -/
def Cg.raw (G : Cg) (CD x dx : Addr) : Cg := { G with
  lm := fun c a H vs => c = 1 ∧ vs = [] ∧ a = x ∧ H x = some (.ins CD dx []) ∧ H dx = some (.own x)
  lmok := ⟨fun c a H vs h => by obtain ⟨_, _, rfl, h1, _⟩ := h; exact ⟨_, h1, fun xs z => by cases z⟩, fun c a H vs H' h ha k => by
    obtain ⟨h0, h1, rfl, h2, h3⟩ := h
    exact ⟨h0, h1, rfl, by rw [ha]; exact h2, k dx _ h3 ⟨.inl a, rfl⟩⟩⟩ }
def okRaw (h : Hs) : Bool := match h with
  | .ins 1 [] :: t => noIns t
  | _ => false
theorem keeps_toM {Z m : List Addr} {H2 H3 : Hp} {x dx : Addr} (hx : x ∈ m) (h1 : ∀ xs, H2 x ≠ some (.tup xs)) (h2 : ∀ xs, H2 dx ≠ some (.tup xs)) (h3 : ∀ xs, H2 x ≠ some (.xd xs)) (h4 : ∀ xs, H2 dx ≠ some (.xd xs)) (hk : ∀ b, b ≠ x → b ≠ dx → H3 b = H2 b) : Keeps (dx :: Z ++ m) H2 (Z ++ m) H3 := by
  refine ⟨fun a o h n => ?_, fun a xs h => ?_, fun a xs h => ?_, fun a o h n z => n (List.mem_cons_of_mem _ z)⟩
  · rw [hk a (fun z => n (by rw [z]; exact List.mem_append_right _ hx)) (fun z => n (by rw [z]; exact List.mem_cons_self))]; exact h
  · rw [hk a (fun z => h1 xs (z ▸ h)) (fun z => h2 xs (z ▸ h))]; exact h
  · rw [hk a (fun z => h3 xs (z ▸ h)) (fun z => h4 xs (z ▸ h))]; exact h
theorem Rl.toM {G : Cg} {N : List Str} {sc : Scope} {k : Nat} {CD : Addr} {Z m : List Addr} {H2 H3 : Hp} {h : Hs} {x dx : Addr} {o3 : HO} {ob : Ob} (r : Rl ((G.raw CD x dx).at N sc k) (dx :: Z) m H2 h) (hm : m[0]? = some x) (hx : x ∉ Z) (h2 : ∀ xs, H2 dx ≠ some (.tup xs)) (h4 : ∀ xs, H2 dx ≠ some (.xd xs)) (hk : ∀ b, b ≠ x → b ≠ dx → H3 b = H2 b)
    (e3 : H3 x = some o3) (n3 : ∀ xs, o3 ≠ .tup xs) (f3 : ∀ y, o3 ≠ fixO y) (hd : ∃ o, H3 dx = some o) (hi : okRaw h = true) (hob : ObD G.K G.ly G.lm Z m H3 x ob) : Rl (G.at N sc k) Z m H3 (h.set 0 ob) := by
  have xm : x ∈ m := List.mem_of_getElem? hm
  have nd : ∀ a ∈ m, a ≠ dx := fun a ha z => r.disj a ha (by simp [z])
  have e : ∀ a ∈ m, a ≠ x → H3 a = H2 a := fun a ha z => hk a z (nd a ha)
  have k : Keeps (dx :: Z ++ m) H2 (Z ++ m) H3 := keeps_toM xm (r.notup x xm) h2 (fun fs => r.own x xm (.inr fs)) h4 hk
  have kd : ∀ {v y}, Dv G.K G.ly (dx :: Z) m H2 v y → Dv G.K G.ly Z m H3 v y := fun {v y} q => by
    cases y with
    | d y => exact Di.mono G.lok k q
    | r n => exact q
  have kds : ∀ {vs xs}, Dvs G.K G.ly (dx :: Z) m H2 vs xs → Dvs G.K G.ly Z m H3 vs xs := fun {vs xs} q => by
    induction q with
    | nil => exact .nil
    | cons q _ ih => exact .cons (kd q) ih
  refine ⟨r.nd, fun b hb z => r.disj b hb (List.mem_cons_of_mem _ z), by rw [List.length_set]; exact r.len, fun b hb => ?_, fun b hb xs => ?_, fun b hb y => ?_, fun b hb => ?_, fun i b ob' q1 q2 => ?_⟩
  · by_cases z1 : b = x
    · rw [z1]; exact ⟨_, e3⟩
    · by_cases z2 : b = dx
      · rw [z2]; exact hd
      · rw [hk b z1 z2]; exact r.za b (List.mem_cons_of_mem _ hb)
  · by_cases z : b = x
    · rw [z, e3]; intro z; cases z; exact n3 _ rfl
    · rw [e b hb z]; exact r.notup b hb xs
  · by_cases z : b = x
    · rw [z, e3]; intro z; cases z; exact f3 _ rfl
    · rw [e b hb z]; exact r.own b hb y
  · by_cases z : b = x
    · rw [z]; exact ⟨_, e3⟩
    · rw [e b hb z]; exact r.ma b hb
  · by_cases hi0 : i = 0
    · subst hi0
      rw [hm] at q1
      cases q1
      rw [List.getElem?_set_self (by rw [r.len]; exact (List.getElem?_eq_some_iff.mp hm).1)] at q2
      cases q2
      exact hob
    · rw [List.getElem?_set_ne (Ne.symm hi0)] at q2
      have q := r.ob i b ob' q1 q2
      have bx : b ≠ x := fun z => hi0 (nd_inj r.nd (by rw [← z]; exact q1) hm)
      have eb := e b (List.mem_of_getElem? q1) bx
      cases ob' with
      | lst ds => obtain ⟨vs, q1, q2⟩ := q; exact ⟨vs, by rw [eb]; exact q1, q2.mono G.lok k⟩
      | dct ks vs =>
        obtain ⟨kvs, q1, q2, q3⟩ := q
        exact ⟨kvs, by rw [eb]; exact q1, ⟨q2.1, q2.2.mono G.lok k⟩, kds q3⟩
      | dck ks vs =>
        obtain ⟨kvs, q1, q2, q3⟩ := q
        exact ⟨kvs, by rw [eb]; exact q1, q2, kds q3⟩
      | ins c fs =>
        exfalso
        unfold okRaw at hi
        split at hi
        · rename_i t
          obtain ⟨j, rfl⟩ : ∃ j, i = j + 1 := ⟨i - 1, by omega⟩
          rw [List.getElem?_cons_succ] at q2
          unfold noIns at hi
          have := List.all_eq_true.mp hi _ (List.mem_of_getElem? q2)
          cases this
        · cases hi
      | gone => obtain ⟨u, hu, hn⟩ := q; exact ⟨u, by rw [eb]; exact hu, hn⟩
end
/-- the frozen instance -/
def fzI (h : Hs) (n : Nat) : Option Dt := match h[n]? with
  | some (.ins 0 [a, b]) => match fzn h a, fzn h b with
    | some x, some y => some (.ins 0 [x, y])
    | _, _ => none
  | _ => none
def isR0 (ρ : En) : Bool := match ρ with
  | some (.r 0) :: _ => true
  | _ => false
theorem isR0_ok {ρ : En} (h : isR0 ρ = true) : ρ[0]? = some (some (.r 0)) := by
  unfold isR0 at h
  split at h
  · rfl
  · cases h
/-- __init__: a part without self, self.lines = f0, the rest -/
def runC (nn : Nat) (B1 : DenS) (f0 : Den) (B2 : DenS) : Pf := fun ds => match B1 (some (Vl.r 0) :: (ds.map (fun d => some (Vl.d d)) ++ List.replicate (nn - 1 - ds.length) none)) [.ins 1 []] with
  | .nx ρ h => match f0 ρ h with
    | .ok (.d y) h1 => match okRaw h1 && isR0 ρ with
      | true => match B2 ρ (h1.set 0 (.ins 0 [.d y])) with
        | .nx _ h2 => match fzI h2 0 with
          | some d => .ok d
          | none => .bad
        | _ => .bad
      | false => .bad
    | _ => .bad
  | .exc e _ h => match okRaw h with
    | true => .exc e
    | false => .bad
  | _ => .bad
def SpC (G : Cg) (CD : Addr) (n : Nat) (g : Pf) : Sp := fun vs H Q E => ∃ x dx vs' Z ds, vs = .ref x :: vs' ∧ H x = some (.ins CD dx []) ∧ H dx = some (.own x) ∧ dx ≠ x ∧ x ∉ Z ∧ dx ∉ Z ∧ FA Z H ∧ Dis G.K G.ly (x :: dx :: Z) H vs' ds ∧ ds.length = n ∧ match g ds with
  | .ok d => ∀ H', (∀ b o, H b = some o → b ≠ x → b ≠ dx → H' b = some o) → Di G.K G.ly Z H' (.ref x) d → Q .non H'
  | .exc e => ∀ d H', Ex H H' → ExR G.ct Z H' e d → E (G.xc e.cls) d H'
  | .bad => False
/-- the class Drawing, to be called -/
structure ClP (G : Cg) (T : DrT G.K) (k : Nat) (x : Str) (n : Nat) (g : Pf) : Prop where
  ex : ∃ fI fd ps, Mk G.K T.CD fI ∧ FnOk G.P G.w G.K G.mg G.base (CXV G.dt G.P G.w) k fI fd ps (SpC G T.CD n g) ∧ Binds G.K fd ps [] ∧ G.mg x = some (.ref T.CD)
theorem ExR.sub {C : Ct} {F F' : List Addr} {H : Hp} {e : Exn} {d : Option Addr} (h : ∀ a, a ∈ F' → a ∈ F) (q : ExR C F H e d) : ExR C F' H e d := by
  rcases q with q | ⟨a, fv, h1, h2, h3, h4, h5⟩
  · exact .inl q
  · exact .inr ⟨a, fv, h1, h2, fun z => h3 (h a z), h4, h5.1.mono C.lok (keeps_sub h), h5.2⟩
section
variable {G : Cg} {T : DrT G.K} {pc : Nat → Addr} {pf : Nat → List Str}
theorem env_startC {C : Ct} {Z m : List Addr} {H : Hp} {x0 : Str} {N : List Str} {v0 : V} {vs : List V} {y0 : Vl} {ds : List Dt} (h0 : Dv C.K C.ly Z m H v0 y0) (h : Dis C.K C.ly (Z ++ m) H vs ds) : EnvV C Z m H (L2.start (x0 :: N) (v0 :: vs)) (some y0 :: (ds.map (fun d => some (Vl.d d)) ++ List.replicate ((x0 :: N).length - 1 - ds.length) none)) := by
  have e := env_startI (C := C) (N := x0 :: N) (Dvs.cons h0 (all_dvs h))
  have en : (x0 :: N).length - (y0 :: ds.map Vl.d).length = (x0 :: N).length - 1 - ds.length := by
    rw [List.length_cons, List.length_cons, List.length_map]; omega
  rw [en, List.map_cons, List.map_map, List.cons_append] at e
  exact e
theorem fzI_ok {C : Ct} {T : DrT C.K} (hD : HasD C T pc pf) {Z m : List Addr} {H : Hp} {h : Hs} {n : Nat} {x : Addr} {d : Dt} (nx : x ∉ Z) (r : Rl C Z m H h) (hm : m[n]? = some x) (e : fzI h n = some d) : Di C.K C.ly Z H (.ref x) d := by
  unfold fzI at e
  split at e
  · rename_i a b hn
    cases z1 : fzn h a with
    | none => simp only [z1] at e; cases e
    | some d0 =>
      cases z2 : fzn h b with
      | none => simp only [z1, z2] at e; cases e
      | some d1 =>
        simp only [z1, z2] at e
        cases e
        obtain ⟨vs, l1, l2⟩ := r.ob n x _ hm hn
        rw [hD.lm] at l1
        obtain ⟨dx, sl, k1, k2, k3, k4⟩ := l1
        cases l2 with
        | @cons v0 _ _ _ q0 l2 =>
        cases l2 with
        | @cons v1 _ _ _ q1 l2 =>
        cases l2
        obtain ⟨k4, k5⟩ := k4
        refine .ins (xs := [v0, v1]) (as := [dx]) ?_ nx (fun b hb => by rw [List.mem_singleton] at hb; rw [hb]; exact ⟨_, k2⟩) (.cons (fzn_ok r q0 z1) (.cons (fzn_ok r q1 z2) .nil))
        rw [hD.ly]
        exact ⟨rfl, dx, sl, v0, v1, k1, k2, rfl, k4, k5, rfl⟩
  · cases e
theorem raw_at {CD x dx : Addr} {N : List Str} {sc : Scope} {k : Nat} {Z m : List Addr} {H : Hp} {h : Hs} (r : Rl ((G.raw CD x dx).at N sc k) Z m H h) (hm : m[0]? = some x) (hi : okRaw h = true) : H x = some (.ins CD dx []) ∧ H dx = some (.own x) := by
  unfold okRaw at hi
  split at hi
  · obtain ⟨vs, ⟨_, _, _, h1, h2⟩, _⟩ := r.ob 0 x (.ins 1 []) hm rfl
    exact ⟨h1, h2⟩
  · cases hi
theorem cl_mk {x qual s0 : Str} {st s1 : Stmt} {rest : List Stmt} {e0 : Expr} {p1 p2 p3 : Pos} {f : Addr} {fd : FuncData} {N ps : List Str} {n k : Nat} {B1 B2 : DenS} {f0 : Den} (hD : HasD (G.at (s0 :: N) (defScope st) k) T pc pf) (M : Mk G.K T.CD f) (F : Fun G.K "__init__" qual st f fd) (S : FnScope (s0 :: N) ps (defScope st)) (b : Binds G.K fd ps []) (gm : G.mg x = some (.ref T.CD)) (hn : ps.length = n + 1)
    (hb : defBody st = s1 :: .Assign [.Attribute (.Name s0 p1) "lines" p2] e0 p3 :: rest) (hsw : ∀ env, swapsWith e0 (some (.Attribute (.Name s0 p1) "lines" p2)) p3.line env = pure false) (hv : Vis (defScope st) s0) (hd1 : (s0 == ("__debug__" : Str)) = false) (hd2 : (s0 == ("__classdict__" : Str)) = false)
    (h1 : ∀ x dx, SS ((G.raw T.CD x dx).at (s0 :: N) (defScope st) k) s1 B1) (h0 : ∀ x dx, SE ((G.raw T.CD x dx).at (s0 :: N) (defScope st) k) e0 f0) (h2 : SB (G.at (s0 :: N) (defScope st) k) rest B2) : ClP G T (k + 1) x n (runC (s0 :: N).length B1 f0 B2) := by
  refine ⟨f, fd, ps, M, funOkV F S (fun vs H Q E h => ?_) (fun cdv A outer s H vs Q E hr h => ?_), b, gm⟩
  · obtain ⟨x, dx, vs', Z, ds, rfl, _, _, _, _, _, _, h1, h2, _⟩ := h
    rw [List.length_cons, h1.length, h2, hn]
  · obtain ⟨x, dx, vs', Z, ds, rfl, hx, hdx, hne, nx, nd, fa, hds, hl, h3⟩ := h
    rw [hb]
    have o := of_cx (G := G) (N := s0 :: N) (sc := defScope st) (CX := CXV G.dt G.P G.w) (qual := qual) (f := f) (cdv := cdv) (outer := outer) (s := s) (H := H) (E := E) hr
    have o1 : ((G.raw T.CD x dx).at (s0 :: N) (defScope st) k).Of _ := ⟨o.prog, o.w, o.K, o.mg, o.base, o.N, o.sc, o.calm, o.units, o.room, o.fns, (by intro c z; cases z), o.own, o.rm⟩
    have rl0 : Rl ((G.raw T.CD x dx).at (s0 :: N) (defScope st) k) (dx :: Z) [x] H [.ins 1 []] := by
      refine ⟨by simp, fun a ha z => ?_, rfl, fun a ha => ?_, fun a ha xs => ?_, fun a ha y => ?_, fun a ha => ?_, fun i a ob q1 q2 => ?_⟩
      · rw [List.mem_singleton] at ha; subst ha
        rcases List.mem_cons.mp z with z | z
        · exact hne z.symm
        · exact nx z
      · rcases List.mem_cons.mp ha with z | z
        · rw [z]; exact ⟨_, hdx⟩
        · exact fa a z
      · rw [List.mem_singleton] at ha; rw [ha, hx]; intro z; cases z
      · rw [List.mem_singleton] at ha; rw [ha, hx]; intro z; cases y <;> first | cases z | exact dg_code z | exact dg_code (Option.some.inj z) | exact slo_code z | exact slo_code (Option.some.inj z)
      · rw [List.mem_singleton] at ha; rw [ha]; exact ⟨_, hx⟩
      · cases i with
        | zero => cases q1; cases q2; exact ⟨[], ⟨rfl, rfl, rfl, hx, hdx⟩, .nil⟩
        | succ i => cases q1
    have en0 : EnvV ((G.raw T.CD x dx).at (s0 :: N) (defScope st) k) (dx :: Z) [x] H (L2.start (s0 :: N) (.ref x :: vs')) (some (Vl.r 0) :: (ds.map (fun d => some (Vl.d d)) ++ List.replicate ((s0 :: N).length - 1 - ds.length) none)) :=
      env_startC ⟨x, rfl, rfl⟩ (hds.mono G.lok (keeps_sub fun a z => by
        simp only [List.mem_append, List.mem_cons, List.mem_singleton, List.not_mem_nil, or_false] at z ⊢
        rcases z with (z | z) | z
        · exact .inr (.inl z)
        · exact .inr (.inr z)
        · exact .inl z))
    refine ⟨_, pb_w, ?_⟩
    unfold runC at h3
    refine PBw (pss_cut ps_w (pss_cut ps_w pb_w)) ?_
    cases z : B1 (some (Vl.r 0) :: (ds.map (fun d => some (Vl.d d)) ++ List.replicate ((s0 :: N).length - 1 - ds.length) none)) [.ins 1 []] with
    | rt y h => rw [z] at h3; exact h3.elim
    | bk ρ h => rw [z] at h3; exact h3.elim
    | ct ρ h => rw [z] at h3; exact h3.elim
    | bad => rw [z] at h3; exact h3.elim
    | exc e ρ h =>
      rw [z] at h3
      refine ⟨fun _ _ => False, (h1 x dx).run _ o1 ⟨passes_of rfl, rfl, rfl⟩ _ (takes_ofV (E := E) rfl rfl rfl rfl) (dx :: Z) [x] _ H _ _ _ rl0 en0 ?_, fun _ _ w => w.elim⟩
      rw [z]
      dsimp only at h3
      cases z1 : okRaw h with
      | false => rw [z1] at h3; exact h3.elim
      | true =>
        rw [z1] at h3
        intro σ' m' H' d e' r' en' ex
        obtain ⟨hx', hdx'⟩ := raw_at r' (e'.get (n := 0) rfl) z1
        refine h3 d H' (fun a u ha => ?_) (ex.sub fun a ha => by simp [ha])
        by_cases za : a = x
        · subst za; rw [hx] at ha; cases ha; exact hx'
        · exact e'.keep a u ha (by simpa using za)
    | nx ρ h =>
      rw [z] at h3
      refine ⟨fun σ1 H1 => ∃ m1, Evo [x] H m1 H1 ∧ Rl ((G.raw T.CD x dx).at (s0 :: N) (defScope st) k) (dx :: Z) m1 H1 h ∧ EnvV ((G.raw T.CD x dx).at (s0 :: N) (defScope st) k) (dx :: Z) m1 H1 σ1 ρ, (h1 x dx).run _ o1 ⟨passes_of rfl, rfl, rfl⟩ _ (takes_ofV (E := E) rfl rfl rfl rfl) (dx :: Z) [x] _ H _ _ _ rl0 en0 ?_, fun σ1 H1 ⟨m1, e1, r1, en1⟩ => ?_⟩
      · rw [z]
        exact fun σ' m' H' e' r' en' => ⟨m', e', r', en'⟩
      · dsimp only at h3
        cases z1 : f0 ρ h with
        | bad => rw [z1] at h3; exact h3.elim
        | exc e h' => rw [z1] at h3; exact h3.elim
        | ok y0 h' =>
          rw [z1] at h3
          cases y0 with
          | r n0 => exact h3.elim
          | d y =>
            dsimp only at h3
            cases z2 : okRaw h' && isR0 ρ with
            | false => rw [z2] at h3; exact h3.elim
            | true =>
              rw [z2] at h3
              dsimp only at h3
              rw [Bool.and_eq_true] at z2
              have z3 := isR0_ok z2.2
              refine ⟨fun σ' H' => ∃ m2, (∀ b u, H b = some u → b ≠ x → b ≠ dx → H' b = some u ∧ b ∉ m2) ∧ Rl (G.at (s0 :: N) (defScope st) k) Z m2 H' (h'.set 0 (.ins 0 [.d y])) ∧ EnvV (G.at (s0 :: N) (defScope st) k) Z m2 H' σ' ρ ∧ m2[0]? = some x, ?_, fun σ' H' ⟨m2, k2, r2, en2, hm2⟩ => ?_⟩
              · refine PSw (SlX.ps_sl (pe_var (i := 0) (by rw [o.N]; rfl) (by rw [o.sc]; exact hv) hd1 hd2) pe_w (hsw _)) ?_
                refine (h0 x dx).run _ o1 _ (takes_ofV (E := E) rfl rfl rfl rfl) (dx :: Z) m1 σ1 H1 ρ h _ r1 en1 ?_
                rw [z1]
                intro v m2 H2 e2 r2 d2
                obtain ⟨u, u1, a, u2, rfl⟩ := (en1.mono r1 e2).get 0 _ z3
                have ea := e1.trans e2
                have hm2 : m2[0]? = some x := ea.get (n := 0) rfl
                rw [hm2] at u2
                cases u2
                obtain ⟨hx2, hdx2⟩ := raw_at r2 hm2 z2.1
                have xm : x ∈ m2 := List.mem_of_getElem? hm2
                have kk : Keeps (dx :: Z ++ m2) H2 (Z ++ m2) (SlX.slH H2 x T.CD dx (SlX.putS T.il v [])) := keeps_toM xm (r2.notup x xm) (by rw [hdx2]; intro xs z; cases z) (fun fs => r2.own x xm (.inr fs)) (by rw [hdx2]; intro xs z; cases z) fun b hb1 hb2 => SlX.slH_ne hb1 hb2
                have hx3 : SlX.slH H2 x T.CD dx (SlX.putS T.il v []) x = some (SlX.SlO x T.CD dx (SlX.putS T.il v [])) := by unfold SlX.slH; rw [upd_same]
                have hd3 : SlX.slH H2 x T.CD dx (SlX.putS T.il v []) dx = some (.xd []) := by unfold SlX.slH; rw [upd_ne hne, upd_same]
                refine ⟨.ref x, u1, x, T.CD, dx, T.pl, [], T.il, rfl, .inl ⟨hx2, rfl⟩, by rw [o.K]; exact T.cls, by rw [o.K]; exact T.sl, m2, fun b w hb n1 n2 => ⟨?_, ?_⟩, ?_, ?_, hm2⟩
                · rw [SlX.slH_ne n1 n2]; exact ea.keep b w hb (by simpa using n1)
                · exact ea.new (by simpa using n1) hb
                · refine r2.toM hm2 nx (by rw [hdx2]; intro xs z; cases z) (by rw [hdx2]; intro xs z; cases z) (fun b hb1 hb2 => SlX.slH_ne hb1 hb2) hx3 (fun xs z => by unfold SlX.SlO at z; cases z) (fun y z => by unfold SlX.SlO at z; cases y <;> first | cases z | exact dg_code z | exact dg_code (Option.some.inj z) | exact slo_code z | exact slo_code (Option.some.inj z)) ⟨_, hd3⟩ z2.1 ?_
                  refine ⟨[v], ?_, .cons (Di.mono G.lok kk d2) .nil⟩
                  have := hD.lm
                  change G.lm = _ at this
                  rw [this]
                  exact ⟨dx, _, hx3, hd3, hne, SlX.putS_get _ _ _⟩
                · refine ⟨(en1.mono r1 e2).len, fun i y' hy' => ?_⟩
                  obtain ⟨v', v1, v2⟩ := (en1.mono r1 e2).get i y' hy'
                  refine ⟨v', v1, ?_⟩
                  cases y' with
                  | d y' => exact Di.mono G.lok kk v2
                  | r n' => exact v2
              · refine h2.run _ o ⟨passes_of rfl, rfl, rfl⟩ _ (takes_ofV (E := E) rfl rfl rfl rfl) Z m2 σ' H' ρ _ _ r2 en2 ?_
                cases z4 : B2 ρ (h'.set 0 (.ins 0 [.d y])) with
                | rt y h => rw [z4] at h3; exact h3.elim
                | bk ρ h => rw [z4] at h3; exact h3.elim
                | ct ρ h => rw [z4] at h3; exact h3.elim
                | bad => rw [z4] at h3; exact h3.elim
                | exc e ρ h => rw [z4] at h3; exact h3.elim
                | nx ρ5 h5 =>
                  rw [z4] at h3
                  dsimp only at h3
                  intro σ5 m5 H5 e5 r5 en5
                  cases z5 : fzI h5 0 with
                  | none => rw [z5] at h3; exact h3.elim
                  | some d =>
                    rw [z5] at h3
                    refine h3 H5 (fun b u hb n1 n2 => ?_) ?_
                    · obtain ⟨q1, q2⟩ := k2 b u hb n1 n2
                      exact e5.keep b u q1 q2
                    · exact fzI_ok hD nx r5 (e5.get hm2) z5
end
/-! Drawing(..) -/
section
variable {C : Ct} {e : Expr} {es : List Expr} {fa : DenA} {pos p : Pos} {x : Str} {k n : Nat} {g : Pf}
theorem se_make {T : DrT C.K} (F : ClP C.g T k x n g) (hk : k + 1 ≤ C.lv) (hc : C.calm = true) (hg : GlN C x) (hd : (x == ("__debug__" : Str)) = false) (hs : NoStar e es) (hpl : NoStars es) (ha : SA C (e :: es) fa) : SE C (.Call (.Name x p) (e :: es) [] pos) (callP n g fa) := ⟨fun X o W tk Z m σ H ρ h Q r env q => by
  obtain ⟨f, fd, ps, M, G, b, hm⟩ := F.ex
  have G' : FnOk X.prog X.w X.K X.mg X.base (CXV C.dt X.prog X.w) k f fd ps (SpC C.g T.CD n g) := by rw [o.prog, o.w, o.K, o.mg, o.base]; exact G
  refine PEw (pe_makeS (E := L2.WE W) (by rw [o.K]; exact M) G' ((o.room hc).mono hk) (o.gl hg) (o.fr hm) (by rw [o.K]; exact b) (fun σ => passAtV tk σ) pa_w hd (hs _) (hpl _ _)) (ha.run X o W tk Z m σ H ρ h _ r env ((AOk.bind pass_e q).imp fun vs H1 ⟨m1, xs, h1, e1, r1, d1, q1⟩ => ?_))
  intro y dx hy hdx hne
  have ex : Ex H1 (upd (upd H1 dx (.own y)) y (.ins T.CD dx [])) := fun c u hc => by
    rw [upd_ne (fun z => by rw [z, hy] at hc; cases hc), upd_ne (fun z => by rw [z, hdx] at hc; cases hc)]; exact hc
  cases z : allD xs with
  | none => rw [z] at q1; exact q1.elim
  | some ds =>
    rw [z] at q1
    dsimp only at q1
    have dd : Dis C.K C.ly (Z ++ m1) H1 vs ds := dvs_all d1 z
    by_cases hl : ds.length = n
    · rw [decide_eq_true hl] at q1
      dsimp only at q1
      refine ⟨y, dx, vs, Z ++ m1, ds, rfl, upd_same, by rw [upd_ne hne, upd_same], hne, r1.fresh hy, r1.fresh hdx, fun a ha => ?_, ?_, hl, ?_⟩
      · obtain ⟨u, hu⟩ := r1.fa a ha; exact ⟨u, ex _ _ hu⟩
      · refine dd.mono C.lok ⟨fun a u h n => ex _ _ h, fun a u h => ex _ _ h, fun a u h => ex _ _ h, fun a u h n z => ?_⟩
        rcases List.mem_cons.mp z with z | z
        · rw [z, hy] at h; cases h
        · rcases List.mem_cons.mp z with z | z
          · rw [z, hdx] at h; cases h
          · exact n z
      · cases z2 : g ds with
        | bad => rw [z2] at q1; exact q1.elim
        | ok d =>
          rw [z2] at q1
          intro H' kp di
          have ex' : Ex H1 H' := fun c u hc => kp c u (ex c u hc) (fun z => by rw [z, hy] at hc; cases hc) (fun z => by rw [z, hdx] at hc; cases hc)
          exact ⟨rfl, q1 (.ref y) m1 H' (Evo.ex ex') (r1.ex ex') di⟩
        | exc e' =>
          rw [z2] at q1
          intro d H' ex' xr
          have ex2 : Ex H1 H' := fun c u hc => ex' c u (ex c u hc)
          exact q1 m1 H' d (Evo.ex ex2) (r1.ex ex2) xr
    · rw [decide_eq_false hl] at q1; exact q1.elim⟩
end
end Vi

set_option maxRecDepth 100000
set_option maxHeartbeats 1000000
namespace Vi
open PySem L2 Evl
/-! ### o.points = e; properties; len -/
section
variable {C : Ct} {T : DrT C.K} {pc : Nat → Addr} {pf : Nat → List Str} {a e : Expr} {es : List Expr} {pos p p' apos : Pos} {f g : Den} {fa : DenA}
def setP (f g : Den) : DenS := fun ρ h => bindS (f ρ h) ρ fun y h1 => bindS (g ρ h1) ρ fun d h2 => match d with
  | .r n => match h2[n]? with
    | some (.ins 0 [z]) => .nx ρ (h2.set n (.ins 0 [z, y]))
    | _ => .bad
  | _ => .bad
theorem upd_id {H : Hp} {a : Addr} {o : HO} (h : H a = some o) : upd H a o = H := by
  funext b
  by_cases z : b = a
  · subst z; rw [upd_same, h]
  · rw [upd_ne z]
theorem ss_setP (hD : HasD C T pc pf) (hs : ∀ env, swapsWith e (some (.Attribute a "points" p')) pos.line env = pure false) (he : SE C e f) (ha : SE C a g) : SS C (.Assign [.Attribute a "points" p'] e pos) (setP f g) := ⟨fun X o pn W tk Z m σ H ρ h D r env q => by
  refine PSw (SlX.ps_sl pe_w pe_w (hs _)) ?_
  refine he.run X o W tk Z m σ H ρ h _ r env ((EOk.toS r env q).imp fun v H1 ⟨m1, y, h1, e1, r1, d1, q1⟩ => ?_)
  have en1 := env.mono r e1
  refine ha.run X o W tk Z m1 σ H1 ρ h1 _ r1 en1 ((EOk.toS r1 en1 q1).imp fun u H2 ⟨m2, d, h2, e2, r2, d2, q2⟩ => ?_)
  have en2 := en1.mono r1 e2
  cases d with
  | d _ => exact q2.elim
  | r n =>
    dsimp only at q2
    split at q2
    · rename_i z hz
      obtain ⟨x, hx, rfl, vs, l1, l2⟩ := r2.at d2 hz
      rw [hD.lm] at l1
      obtain ⟨dx, sl, k1, k2, k3, k4⟩ := l1
      cases l2 with
      | @cons v0 _ _ _ q0 l2 =>
      cases l2
      replace k4 : sl[T.il]? = some (some v0) := k4
      have xm : x ∈ m2 := List.mem_of_getElem? hx
      have eh : SlX.slH H2 x T.CD dx (SlX.putS T.ip v sl) = upd H2 x (SlX.SlO x T.CD dx (SlX.putS T.ip v sl)) := by unfold SlX.slH; rw [upd_id k2]
      have kk : Keeps (Z ++ m2) H2 (Z ++ m2) (upd H2 x (SlX.SlO x T.CD dx (SlX.putS T.ip v sl))) := keeps_upd (List.mem_append_right _ xm) (r2.notup x xm) fun fs => r2.own x xm (.inr fs)
      have kd : ∀ {v1 : V} {y : Vl}, Dv C.K C.ly Z m2 H2 v1 y → Dv C.K C.ly Z m2 (upd H2 x (SlX.SlO x T.CD dx (SlX.putS T.ip v sl))) v1 y := fun {v1 y} q => by
        cases y with
        | d y => exact Di.mono C.lok kk q
        | r n => exact q
      obtain ⟨r3, e3⟩ := r2.setO (o := SlX.SlO x T.CD dx (SlX.putS T.ip v sl)) (ob := .ins 0 [z, y]) hx (fun xs z => by unfold SlX.SlO at z; cases z) (fun y z => by unfold SlX.SlO at z; cases y <;> first | cases z | exact dg_code z | exact dg_code (Option.some.inj z) | exact slo_code z | exact slo_code (Option.some.inj z)) (by
        refine ⟨[v0, v], ?_, .cons (kd q0) (.cons (kd (d1.mono r1 e2)) .nil)⟩
        rw [hD.lm]
        exact ⟨dx, _, upd_same, by rw [upd_ne k3]; exact k2, k3, (SlX.putS_ne T.ne).mpr k4, SlX.putS_get _ _ _⟩)
      refine ⟨x, T.CD, dx, T.pp, sl, T.ip, rfl, slt_of k1 k2, by rw [o.K]; exact T.cls, by rw [o.K]; exact T.sp, ?_⟩
      rw [eh]
      exact q2 σ m2 _ e3 r3 (en2.mono r2 e3)
    · exact q2.elim⟩
/-- a property of Drawing -/
structure PrP (C : Ct) (T : DrT C.K) (k : Nat) (mn : Str) (g : Pf) : Prop where
  ex : ∃ p gf fd ps, PySem.W.findIn C.K (.ref T.CD) mn = some (some (.ref p)) ∧ PySem.W.specialIn C.K (.ref p) "__get__" = some (some (.builtin "property.__get__")) ∧ PySem.W.takesIn C.K (.ref p) = some true ∧ (∃ rest, PySem.W.recIn C.K p "property" = some (.ref gf :: rest)) ∧
    FnOk C.P C.w C.K C.mg C.base (CXV C.dt C.P C.w) k gf fd ps (SpP C.g 1 g) ∧ Binds C.K fd ps []
def propP (g : Pf) (f : Den) : Den := fun ρ h => (f ρ h).bind fun x h1 => match x with
  | .d (.ins 0 ds) => match g [.ins 0 ds] with
    | .ok d => .ok (.d d) h1
    | _ => .bad
  | _ => .bad
end
/-! len by an own __len__ -/
section
variable {X : Cx} {CX : CXT} {n : Nat} {C f : Addr} {sp : Sp} {E : XK}
end
section
variable {C : Ct} {T : DrT C.K} {pc : Nat → Addr} {pf : Nat → List Str} {e : Expr} {pos p : Pos} {f : Den}
def lenI (g : Pf) (f : Den) : Den := fun ρ h => (f ρ h).bind fun x h1 => match x with
  | .d (.ins 0 ds) => match g [.ins 0 ds] with
    | .ok (.int n) => match decide (0 ≤ n) && decide (n < 2 ^ 63) with
      | true => .ok (.d (.int n)) h1
      | false => .bad
    | _ => .bad
  | _ => .bad
end
end Vi

set_option maxRecDepth 100000
set_option maxHeartbeats 1000000
namespace Vi
open PySem L2 Evl
section
variable {G : Cg} {T : DrT G.K} {pc : Nat → Addr} {pf : Nat → List Str}
/-- the program knows Drawing -/
structure HasG (G : Cg) (T : DrT G.K) (pc : Nat → Addr) (pf : Nat → List Str) : Prop where
  ly : G.ly.f = layD T
  lm : G.lm = layM T pc pf
theorem FnP.raw {CD x dx : Addr} {k n : Nat} {y : Str} {g : Pf} (F : FnP G k y n g) : FnP (G.raw CD x dx) k y n g := ⟨F.ex⟩
theorem ErP.raw {CD x dx : Addr} {k cl : Nat} {y : Str} {g : List Dt → Option (List (Str × Dt))} (E : ErP G k y cl g) : ErP (G.raw CD x dx) k y cl g := ⟨fun C hG hc X o hk hg e es ta p1 p2 ha hs hpl => by
  have e1 : C.P = G.P := congrArg Cg.P hG
  have e2 : C.w = G.w := congrArg Cg.w hG
  have e3 : C.K = G.K := congrArg Cg.K hG
  have e4 : C.mg = G.mg := congrArg Cg.mg hG
  have e5 : C.base = G.base := congrArg Cg.base hG
  obtain ⟨P, w, K, mg, base, N, sc, lv, fn, calm, ly, lm, lok, lyP, lyw, lmok, xc, cd, dt⟩ := C
  cases G
  simp only [Cg.raw, Ct.g, Cg.mk.injEq] at hG
  obtain ⟨rfl, rfl, rfl, rfl, rfl, rfl, _, rfl, rfl⟩ := hG
  exact E.make ⟨P, w, K, mg, base, N, sc, lv, fn, calm, ly, _, lok, lyP, lyw, ‹LayMOk _›, xc, cd, _⟩ rfl hc X ⟨o.prog, o.w, o.K, o.mg, o.base, o.N, o.sc, o.calm, o.units, o.room, o.fns, o.code, o.own, o.rm⟩ hk hg e es ta p1 p2 ha hs hpl⟩
end
end Vi

set_option maxRecDepth 100000
set_option maxHeartbeats 1000000
namespace Vi
section
open PySem PySem.Builtin PySem.AutoSeq1
end
open PySem L2 Evl
section
variable {X : Cx}
def rExtB : V → List V → Hp → VK → Prop := fun x vs H Q => ∃ t l b xs zs, x = .ref l ∧ vs = [.ref b] ∧ H l = some (.lst xs) ∧ HSq t H b zs ∧ xs.length + zs.length ≤ sizeLine ∧ Q .non (upd H l (.lst (xs ++ zs)))
end
section
variable {C : Ct} {a e : Expr} {f g : Den} {p1 p2 pos : Pos}
def extB (f g : Den) : Den := fun ρ h => (f ρ h).bind fun x h1 => match x with
  | .r n => match h1[n]? with
    | some (.lst _) => (g ρ h1).bind fun y h2 => match sqV y, h2[n]? with
      | some l2, some (.lst l) => match decide (l.length + l2.length ≤ 100000) with
        | true => .ok (.d .non) (h2.set n (.lst (l ++ l2)))
        | false => .bad
      | _, _ => .bad
    | _ => .bad
  | _ => .bad
/-! ### name op= e, ints -/
structure AugP (op : Operator) (g : Int → Int → Int) (ok : Int → Int → Bool) : Prop where
  run : ∀ X : Cx, PIp X op fun x y H Q => ∃ i j, x = .int i ∧ y = .int j ∧ ok i j = true ∧ Q (.int (g i j)) H
def augS (i : Nat) (g : Int → Int → Int) (ok : Int → Int → Bool) (f : Den) : DenS := fun ρ h => match (ρ[i]? : Option (Option Vl)) with
  | some (some (Vl.d (Dt.int a))) => bindS (f ρ h) ρ fun y h1 => match y with
    | .d (.int b) => match ok a b with
      | true => .nx (ρ.set i (some (.d (.int (g a b))))) h1
      | false => .bad
    | _ => .bad
  | _ => .bad
end
end Vi

set_option maxRecDepth 100000
set_option maxHeartbeats 1000000
namespace Vi
open PySem L2 Evl
/-! ### d.get(k, x) -/
/-- a dict with tuple keys, data or not -/
def dctOf (h : Hs) : Vl → Option (List Dt × List Vl)
  | .d (.dct ks vs) => some (ks, vs.map Vl.d)
  | .r n => match h[n]? with
    | some (.dct ks vs) => some (ks, vs)
    | _ => none
  | _ => none
section
variable {C : Ct}
def getV (f k g : Den) : Den := fun ρ h => (f ρ h).bind fun d h1 => match dctOf h1 d with
  | some _ => (k ρ h1).bind fun x h2 => (g ρ h2).bind fun y h3 => match x, dctOf h3 d with
    | .d x, some (ks, vs) => match keyOk x with
      | true => match findK ks x with
        | some i => match vs[i]? with
          | some w => .ok w h3
          | none => .bad
        | none => .ok y h3
      | false => .bad
    | _, _ => .bad
  | none => .bad
def rGet (C : Ct) : V → List V → Hp → VK → Prop := fun o as H Q => ∃ a b v ps ks F x k, o = .ref a ∧ as = [.ref b, v] ∧ H a = some (DG C.ly.P C.ly.w a ps) ∧ ks.map keyN = ps.map (fun p => some p.1) ∧ Dis C.K C.ly F H (ps.map fun p => .ref p.2.1) ks ∧ Di C.K C.ly F H (.ref b) x ∧ keyOk x = true ∧ keyN x = some k ∧
  (∀ i p, findK ks x = some i → ps[i]? = some p → Q p.2.2 H) ∧ (findK ks x = none → Q v H)
variable {a b e : Expr} {f g k : Den} {p1 p2 : Pos}
end
end Vi

set_option maxRecDepth 100000
set_option maxHeartbeats 1000000
namespace Vi
open PySem L2 Evl
/-! ### many stores into a dict -/
abbrev Itm := Dt × NestedKey × Addr × V
def updE : List Dt → List Ent → List Itm → List Ent
  | _, ps, [] => ps
  | ks, ps, (x, k, b, v) :: r => updE (putK ks x) (stE ks x k b v ps) r
def updKV : List Dt → List Vl → List (Dt × Vl) → List Dt × List Vl
  | ks, vs, [] => (ks, vs)
  | ks, vs, (x, y) :: r => updKV (putK ks x) (putV ks vs x y) r
section
variable {C : Ct} {Z m : List Addr} {H : Hp}
end
end Vi

set_option maxRecDepth 100000
set_option maxHeartbeats 1000000
namespace Vi
open PySem L2 Evl
/-! ### d.update([(k, x), ..]) -/
section
variable {C : Ct} {X : Cx} {pins : List (Addr × Obj)} {σ : St} {H : Hp} {s : Shared} {F : List Addr}
/-- an item of the list: a pair whose first is a key -/
def ItR (C : Ct) (F : List Addr) (H : Hp) (z : V) (it : Itm) : Prop := ∃ T, z = .ref T ∧ H T = some (.tup [.ref it.2.2.1, it.2.2.2]) ∧ Di C.K C.ly F H (.ref it.2.2.1) it.1 ∧ keyOk it.1 = true ∧ keyN it.1 = some it.2.1 ∧ it.2.1.depth ≤ 8
def tsOf (zs : List V) (j : Nat) : Addr := match zs[j]? with
  | some (.ref T) => T
  | _ => 0
end
end Vi

set_option maxRecDepth 100000
set_option maxHeartbeats 1000000
namespace Vi
open PySem L2 Evl
section
variable {C : Ct} {X : Cx}
def rUpd (C : Ct) (X : Cx) : V → List V → Hp → VK → Prop := fun o as H Q => ∃ a bl ps ks F zs its, o = .ref a ∧ as = [.ref bl] ∧ H a = some (DG C.ly.P C.ly.w a ps) ∧ ks.map keyN = ps.map (fun p => some p.1) ∧ Dis C.K C.ly F H (ps.map fun p => .ref p.2.1) ks ∧ H bl = some (.lst zs) ∧ Paired (ItR C F H) zs its ∧ ps.length + its.length < 100000 ∧
  (∀ (s : Shared) xs, DOpen X s a ps xs → Q .non (upd H a (DG C.ly.P C.ly.w a (updE ks ps its))))
end
end Vi

set_option maxRecDepth 100000
set_option maxHeartbeats 1000000
namespace Vi
open PySem L2 Evl
def pairsD : List Dt → Option (List (Dt × Vl))
  | [] => some []
  | .tup [x, v] :: r => match keyOk x, pairsD r with
    | true, some l => some ((x, .d v) :: l)
    | _, _ => none
  | _ => none
def updV (f g : Den) : Den := fun ρ h => (f ρ h).bind fun d h1 => match d with
  | .r n => match h1[n]? with
    | some (.dct _ _) => (g ρ h1).bind fun y h2 => match y, h2[n]? with
      | .d (.lst l), some (.dct ks vs) => match pairsD l, decide (ks.length + l.length < 100000) with
        | some prs, true => .ok (.d .non) (h2.set n (.dct (updKV ks vs prs).1 (updKV ks vs prs).2))
        | _, _ => .bad
      | _, _ => .bad
    | _ => .bad
  | _ => .bad
section
variable {C : Ct}
variable {a e : Expr} {f g : Den} {p1 p2 : Pos}
end
end Vi

set_option maxRecDepth 100000
set_option maxHeartbeats 1000000
namespace Vi
open PySem L2 Evl
/-! ### n, d[k] = x, y -/
def setT (y : Vl) (g k : Den) : DenS := fun ρ h1 => bindS (g ρ h1) ρ fun d h2 => bindS (k ρ h2) ρ fun x h3 => match d, x with
  | .r n, .d x => match h3[n]? with
    | some (.dct ks vs) => match keyOk x && decide (ks.length < 100000) with
      | true => .nx ρ (h3.set n (.dct (putK ks x) (putV ks vs x y)))
      | false => .bad
    | some (.lst l) => match y, x with
      | .d y, .int i => match ixN l.length i with
        | some j => .nx ρ (h3.set n (.lst (l.set j y)))
        | none => .bad
      | _, _ => .bad
    | _ => .bad
  | _, _ => .bad
def parNS (i : Nat) (f1 f2 g k : Den) : DenS := fun ρ h => bindS (f1 ρ h) ρ fun x h1 => bindS (f2 ρ h1) ρ fun y h2 => setT y g k (ρ.set i (some x)) h2
section
variable {C : Ct} {a b e e1 e2 : Expr} {f1 f2 g k : Den} {pos p' pn2 pt pt2 : Pos}
end
end Vi

set_option maxRecDepth 100000
set_option maxHeartbeats 1000000
/-! ### the program's error classes -/
namespace L2
open PySem PySem.Spec PyProof.Rows
section
variable {X : Cx} {o e : Expr} {es : List Expr} {to te : TE} {ta : TA} {f : Str} {p p' p1 p2 pos : Pos}
/-- B.__init__(self, ..), B an own class over ValueError -/
theorem pe_leinit {x : Str} {CL : Addr} {pl : Sem Bool} (hg : Gl X x) (hm : X.mg x = some (.ref CL)) (hd : (x == ("__debug__" : Str)) = false) (hsp : PySem.W.specialIn X.K (.ref CL) "__getattribute__" = some (some (.builtin "type.__getattribute__"))) (hrd : PySem.W.readsIn X.K CL (.type "type") = true)
    (vV : PySem.W.findCls X.K (.ref CL) (.type "type") "__init__" = some (.val (.builtin "ValueError.__init__"))) (ha : PA X (e :: es) ta)
    (hc : eval (.Call (.Attribute (.Name x p1) "__init__" p2) (e :: es) [] pos) X.env = (do
      let ov ← eval (.Name x p1) X.env
      standAt p2.atName
      let (f, first) ← holding [ov] (getMethod ov "__init__" pl)
      callWith pos f first (backTo pos (starEach (e :: es) X.env)) (backToKw pos (keywordEach [] X.env))))
    (he : starEach (e :: es) X.env = (false, eval e X.env) :: starEach es X.env) (hpl : (backTo pos (starEach es X.env)).any (·.1) = false) :
    PE X (.Call (.Attribute (.Name x p1) "__init__" p2) (e :: es) [] pos) (tVeI X.K ta) := by
  refine ⟨fun pins s σ H Q I h => ?_⟩
  refine PySem.W.methodCall_KW (ld_glob I hg hm ?_ hd) hc
  refine PySem.W.method_cls I.kIn hsp (PySem.W.cls_value I.kIn hrd vV (by decide +kernel) ?_)
  show wpAny _ _ (callWith pos (Value.builtin "ValueError.__init__") [] (backTo pos (starEach (e :: es) X.env)) []) _ _ _
  refine PyProof.Rows.callWith_method1 (thn (ha.run pos pins _ σ H _ (I.tok _) h) fun us s1 ⟨vs, H1, I1, r1, a, C, ws, ev, hl, T, ea, q⟩ => ?_) he hpl
  subst ev
  cases r1 with
  | @cons _ u0 _ ur ra rw' =>
    obtain rfl : u0 = Value.ref a := ra
    have hlen : ur.length ≤ sizeLine := by
      rw [← Paired.length rw', sizeLine_eq]
      omega
    exact oinit_ok T I1 ea hlen fun s' J => ⟨.non, H1, J, rfl, q⟩
/-- .. with one -/
theorem pmk_oex5 {CX : CXT} {x : Str} {p : Pos} {C fI : Addr} {k : Nat} {fd : FuncData} {ps : List Str} {sp : Sp} (T : OexC X.K C) (iC : PySem.W.findIn X.K (.ref C) "__init__" = some (some (.ref fI))) (tI : PySem.W.typeIn X.K (.ref fI) = some (.type "function"))
    (F1 : FnOk X.prog X.w X.K X.mg X.base CX k fI fd ps sp) (hr : Room (k + 1) X.A) (hb : Binds X.K fd ps []) (hx : Passes CX X (fun _ _ _ => False)) (hg : Gl X x) (hm : X.mg x = some (.ref C)) (ha : PA X (e :: es) ta)
    (hdb : (x == ("__debug__" : Str)) = false) (he : starEach (e :: es) X.env = (false, eval e X.env) :: starEach es X.env) (hpl : (backTo pos (starEach es X.env)).any (·.1) = false) :
    L2H.PMk5 X (.Call (.Name x p) (e :: es) [] pos) (tMkO C sp [] ta) := by
  intro pins s σ H Q I h
  obtain ⟨nm, q, N, bs, bm, sn, sub, ab, col, dd, k0, k1, k2, k3, k5, hC, hbm⟩ := T.cls
  refine wpAny_Call_Name_kw (ld_glob I hg hm ?_ hdb)
  refine PySem.W.callWith_K (h₀ := X.base) I.ok.mod.kin T.kC (thn (ha.run pos pins s σ H _ I h) fun us s1 ⟨vs, H1, I1, r1, hz, q1⟩ => ⟨I1.kIn, ?_⟩) he hpl
  show wpAny _ _ (call (.ref C) us) _ _ _
  obtain ⟨hp, g, dr, tk, os⟩ := s1
  have hsz : hp.objs.size ≤ hp.objs.size + 1 := Nat.le_succ _
  have hn : H1 (hp.objs.size + 1) = none := I1.hok.fresh hsz
  have hq := q1 (hp.objs.size + 1) hn
  rw [List.append_nil] at hq
  have kk : ∀ b o, hp.get? b = some o → ((hp.push (PySem.W.kdv_tup us)).push (PySem.HandSPX.excO C hp.objs.size)).get? b = some o := fun b o e => Heap.get?_push_of_some _ (Heap.get?_push_of_some _ e)
  have hget : ((hp.push (PySem.W.kdv_tup us)).push (PySem.HandSPX.excO C hp.objs.size)).get? (hp.objs.size + 1) = some (PySem.HandSPX.excO C hp.objs.size) := by heap_get
  have I2 : Inv X pins σ (upd H1 (hp.objs.size + 1) (exo (hp.objs.size + 1) C none)) ⟨(hp.push (PySem.W.kdv_tup us)).push (PySem.HandSPX.excO C hp.objs.size), g, dr, tk, os⟩ :=
    I1.laid (t' := tk) (a := hp.objs.size + 1) (o := exo (hp.objs.size + 1) C none) (h' := (hp.push (PySem.W.kdv_tup us)).push (PySem.HandSPX.excO C hp.objs.size)) kk hsz (exo_ok hget)
  have r2 : Vals (V.ref (hp.objs.size + 1) :: vs) (Value.ref (hp.objs.size + 1) :: us) := .cons rfl r1
  have hl : (Value.ref (hp.objs.size + 1) :: us ++ []).length = ps.length := by
    have e := r2.length
    rw [F1.len _ _ _ _ hq] at e
    rw [List.append_nil]
    exact e.symm
  have hus : us.length ≤ sizeLine := by
    rw [← Paired.length r1, sizeLine_eq]
    omega
  have b2 := hb _ (Value.ref (hp.objs.size + 1) :: us) I2.kIn hl
  rw [List.append_nil] at b2
  refine wpAny_call (PySem.HandSPX.call_own F.excBase_ValueError (fun Y => PySem.HandSPX.refsVE_contains Y bm hbm) (I1.kIn _ _ hC) (PySem.W.looks_findIn I1.kIn iC) (fun self => PySem.W.bind_fn I1.kIn self tI) hus
    (codeAny_mono (F1.run _ X.stack _ _ ⟨Value.ref (hp.objs.size + 1) :: us, []⟩ (Value.ref (hp.objs.size + 1) :: us) _ _ (fun _ _ _ => False) (hr.make C us []) (I2.env0.make C us []) b2 r2 hq) fun r s' hq' => ?_))
  cases r with
  | error er => exact hx pins σ _ _ er s' I2 hq'
  | ok fl =>
    cases fl with
    | ret u =>
      obtain ⟨v, H2, os2, bare2, un2, hok2, rv, ev, d, fs, ea, ed, hd1, q2⟩ := hq'
      subst ev
      obtain ⟨h2, g2, d2, t2, os'⟩ := s'
      obtain ⟨t0, G, J, kG, ge, hoe, na⟩ := mk_end0 (d2 := d2) (t2 := t2) I1 hsz kk un2 hok2 os2 bare2 ea ed hd1
      refine ⟨rv, ⟨hp.objs.size + 1, _, _, ⟨G, g2, d2, t2, os'⟩, _, .ref C, some d, rfl, J, kG, ge, hoe, ⟨rfl, rfl, fun vs hv => ?_⟩, rfl, rfl, na, rfl, bare2, raises_own T.exC T.tyC, q2⟩, fun a oe vs ea2 hg2 hd2 => ?_⟩
      · cases hv
        rfl
      · cases ea2
        have hg3 : h2.get? (hp.objs.size + 1) = some oe := hg2
        rw [hoe] at hg3
        cases hg3
        cases hd2
        show (4 : Nat) < 6
        decide
    | next => exact False.elim hq'
    | brk => exact False.elim hq'
    | cont => exact False.elim hq'
end
end L2
namespace Vi
open PySem L2 Evl
theorem RunA.imp {X : Cx} {es : List Expr} {σ : St} {H : Hp} {Q Q' : List V → Hp → Prop} (h : RunA X es σ H Q) (k : ∀ vs H', Q vs H' → Q' vs H') : RunA X es σ H Q' := fun pos pins s I => thn (h pos pins s I) fun us s1 ⟨vs, H1, I1, r1, q⟩ => ⟨vs, H1, I1, r1, k _ _ q⟩
section
variable {G : Cg}
/-- what the top has left of LineError -/
structure LineE (K : PySem.W.Frag) (mg : Str → Option Value) (CL : Addr) : Prop where
  gm : mg "LineError" = some (.ref CL)
  sp : PySem.W.specialIn K (.ref CL) "__getattribute__" = some (some (.builtin "type.__getattribute__"))
  rd : PySem.W.readsIn K CL (.type "type") = true
  vV : PySem.W.findCls K (.ref CL) (.type "type") "__init__" = some (.val (.builtin "ValueError.__init__"))
/-- the promise of X.__init__(self, f) -/
def spOI (K : PySem.W.Frag) (fl : Str) : Sp := fun vs H Q _ => ∃ (a C : Addr) (n : Int), vs = [.ref a, .int n] ∧ n.natAbs.log2 < 1920 ∧ OexC K C ∧ PySem.W.findIn K (.ref C) fl = some none ∧ H a = some (exo a C none) ∧
  ∀ dx H1, Ex H H1 → H1 dx = none → dx ≠ a → Q .non (upd (upd H1 dx (exd dx [(fl, .int n)])) a (exo a C (some dx)))
/-- the text that LineError.__init__ gets -/
structure TxtE (fl : Str) (t : Expr) : Prop where
  run : ∀ (X : Cx) (σ : St) (H : Hp) (n : Int), X.N[1]? = some fl → Vis X.env.scope fl → (fl == ("__debug__" : Str)) = false → (fl == ("__classdict__" : Str)) = false → σ[1]? = some (some (.int n)) → n.natAbs.log2 < 1920 → ∀ Q : VK, (∀ x, Q x H) → RunE X t σ H Q
theorem txt_fstr {fl t : Str} {j : Nat} {p0 p1 p2 pos : Pos} (ht : t.length ≤ 1000) : TxtE fl (.JoinedStr [.Constant (.str t) j p1, .FormattedValue (.Name fl p0) (-1) none p2] pos) := ⟨fun X σ H n hN hv hd hcd hs hn Q q => by
  refine PEw (pe_joined (.cons pe_str (.cons (pe_fmt (pe_var hN hv hd hcd)) .nil))) ?_
  refine ⟨t, rfl, ?_, ⟨.int n, hs, ?_⟩⟩
  · rw [Str.length_append]
    show 0 + t.length ≤ _
    exact sz_of (by omega)
  · refine .inr ⟨n, rfl, hn, _, rfl, ?_, q _⟩
    have e := int_text_length_le (k := 1920) (by decide) hn
    rw [Str.length_append, Str.length_append, ofString_length]
    show 0 + t.length + _ ≤ _
    exact sz_of (by omega)⟩
theorem init1_ok {qual fl : Str} {st : Stmt} {f CL : Addr} {fd : FuncData} {t : Expr} {p1 p2 p3 p4 p5 p6 p7 p8 p9 : Pos} (F : Fun G.K "__init__" qual st f fd) (S : FnScope ["self", fl] ["self", fl] (defScope st)) (L : LineE G.K G.mg CL)
    (hb : defBody st = [.Expr (.Call (.Attribute (.Name "LineError" p1) "__init__" p2) [.Name "self" p3, t] [] p4) p5, .Assign [.Attribute (.Name "self" p6) fl p7] (.Name fl p8) p9])
    (ht : TxtE fl t) (hg : (defScope st).names.lookup ("LineError" : Str) = some NameKind.globalImplicit) (hvs : Vis (defScope st) "self") (hvf : Vis (defScope st) fl) (hd : (fl == ("__debug__" : Str)) = false) (hcd : (fl == ("__classdict__" : Str)) = false)
    (hs0 : NoStar (.Name "self" p3) [t]) (hpl : NoStars [t]) (hs1 : NoStar t []) {pl : Env → Sem Bool} (hc : ∀ env, eval (.Call (.Attribute (.Name "LineError" p1) "__init__" p2) [.Name "self" p3, t] [] p4) env = (do
      let ov ← eval (.Name "LineError" p1) env
      standAt p2.atName
      let (f, first) ← holding [ov] (getMethod ov "__init__" (pl env))
      callWith p4 f first (backTo p4 (starEach [.Name "self" p3, t] env)) (backToKw p4 (keywordEach [] env))))
    (hq : ∀ env, swapsWith (.Call (.Attribute (.Name "LineError" p1) "__init__" p2) [.Name "self" p3, t] [] p4) none p5.line env = pure false) (hw : ∀ env, swapsWith (.Name fl p8) (some (.Attribute (.Name "self" p6) fl p7)) p9.line env = pure false) :
    FnOk G.P G.w G.K G.mg G.base CX0 1 f fd ["self", fl] (spOI G.K fl) := by
  refine F.ok S (fun vs H Q E h => ?_) (fun cdv A outer s H vs Q E hr h => ?_)
  · obtain ⟨a, C, n, rfl, _⟩ := h
    rfl
  · obtain ⟨a, CI, n, rfl, hn, T, hno, hx, q⟩ := h
    refine ⟨_, pb_w, ?_⟩
    rw [hb]
    refine PBw (pss_cons (ps_expr (pe_leinit (p1 := p1) (p2 := p2) (pos := p4) (by exact hg) L.gm (by decide +kernel) L.sp L.rd L.vV (pa_cons (pe_var (i := 0) rfl hvs (by decide +kernel) (by decide +kernel)) (pa_cons (pe_w (e := t)) pa_nil (hs1 _)) (hs0 _)) (hc _) (hs0 _) (hpl _ _)) (hq _)) (pss_one (ps_ost (pe_var (i := 0) rfl hvs (by decide +kernel) (by decide +kernel)) (pe_var (i := 1) rfl hvf hd hcd) (hw _)))) ?_
    refine ⟨.ref a, rfl, ht.run _ _ _ n rfl hvf hd hcd rfl hn _ fun x => ?_⟩
    exact ⟨a, CI, [x], rfl, Nat.le_of_ble_eq_true rfl, T, hx, ⟨.int n, rfl, .ref a, rfl, a, CI, rfl, T, hno, .inl ⟨hx, fun dx h1 h2 => q dx H (Ex.refl H) h1 h2⟩⟩⟩
theorem log_small {n : Int} (h : -1000 < n ∧ n < 1000) : n.natAbs.log2 < 1920 := by
  by_cases z : n.natAbs = 0
  · rw [z]; decide
  · rw [Nat.log2_lt z]
    exact Nat.lt_of_lt_of_le (by omega : n.natAbs < 2 ^ 20) (Nat.pow_le_pow_right (by decide) (by decide))
/-- .. with one of its own -/
theorem er1_mk {x fl : Str} {CE fI : Addr} {fd : FuncData} {ps : List Str} {cl : Nat} {g : List Dt → Option (List (Str × Dt))} (T : OexC G.K CE) (gC : G.mg x = some (.ref CE)) (nof : PySem.W.findIn G.K (.ref CE) fl = some none) (iC : PySem.W.findIn G.K (.ref CE) "__init__" = some (some (.ref fI))) (tI : PySem.W.typeIn G.K (.ref fI) = some (.type "function"))
    (F1 : FnOk G.P G.w G.K G.mg G.base CX0 1 fI fd ps (spOI G.K fl)) (b : Binds G.K fd ps []) (hx : G.xc cl = .ref CE) (hd : (x == ("__debug__" : Str)) = false) (hg0 : ∀ ds fs, g ds = some fs → ∃ n : Int, ds = [.int n] ∧ (-1000 < n ∧ n < 1000) ∧ fs = [(fl, .int n)]) : ErP G 2 x cl g := ⟨fun C hG hc X o hk hg e es ta p1 p2 ha hs hpl => by
  subst hG
  have oK := o.K
  refine ⟨fun σ H Q => ta σ H (fun vs H1 => ∃ Z ds fs, FA Z H1 ∧ Dis C.K C.ly Z H1 vs ds ∧ g ds = some fs ∧ ds.length ≤ 100 ∧ ∀ H2 d, Ex H1 H2 → ExR C Z H2 ⟨cl, fs⟩ d → Q (C.xc cl) d H2), fun pins s σ H Q I h => ?_, fun σ H Q h => h⟩
  refine (pmk_oex5 (pos := p2) (by rw [oK]; exact T) (by rw [oK]; exact iC) (by rw [oK]; exact tI) (by rw [o.prog, o.w, oK, o.mg, o.base]; exact F1) ((o.room hc).mono hk) (by rw [oK]; exact b) pass0 hg (by rw [o.mg]; exact gC) (pa_w (es := e :: es)) hd hs hpl).pmk pins s σ H Q I ?_
  refine (PAw ha h).imp fun vs H1 ⟨Z, ds, fs, fa, di, hgs, hl, k⟩ => ?_
  obtain ⟨n, rfl, hn, rfl⟩ := hg0 ds fs hgs
  obtain ⟨v, rfl, hv⟩ := dis1 di
  rw [hv.int_inv]
  refine ⟨Nat.le_of_ble_eq_true rfl, fun a ha => ?_⟩
  refine ⟨a, CE, n, rfl, log_small hn, T, nof, upd_same, fun dx H2 e2 hdx hne => ⟨rfl, dx, [(fl, .int n)], upd_same, ?_, fresh_back ((Ex.new ha).trans e2) hdx, ?_⟩⟩
  · rw [upd_ne hne, upd_same]
  · have hx' : C.xc cl = .ref CE := hx
    have hdx1 : H1 dx = none := fresh_back ((Ex.new ha).trans e2) hdx
    rw [← hx']
    refine k _ (some dx) (fun c u hb => ?_) (.inr ⟨dx, [(fl, .int n)], rfl, upd_same, fun z => ?_, rfl, .cons (.int n) .nil, by intro z; cases z⟩)
    · have nba : c ≠ a := ne_of_none hb ha
      have hb2 : H2 c = some u := e2 _ _ (by rw [upd_ne nba]; exact hb)
      have nbd : c ≠ dx := ne_of_none hb2 hdx
      rw [upd_ne nbd, del_ne nba, upd_ne nba, upd_ne nbd]
      exact hb2
    · obtain ⟨u, hu⟩ := fa dx z
      rw [hdx1] at hu; cases hu⟩
end
end Vi

set_option maxRecDepth 100000
set_option maxHeartbeats 1000000
/-! ### a dict is lent: it is locked while an expression is worked out, and can be walked -/
namespace Vi
open PySem L2 Evl
/-- a locked dict -/
abbrev lkD (ks vs : List Dt) : Dt := .set [.lst ks, .lst vs]
section
variable {X : Cx} {pins : List (Addr × Obj)} {σ : St} {H : Hp} {s : Shared} {d : Addr} {o : Obj} {P : Program} {w : World} {K : PySem.W.Frag} {tg : Expr} {es : Array DictEntry} {ep : Nat}
def Itg (P : Program) (w : World) (d : Addr) (o : Obj) (ps : List (NestedKey × Addr × V)) : It :=
  ⟨fun i H => H d = some (.frz o (DG P w d ps)) ∧ i < ps.length, fun i H x H' => H' = H ∧ ∃ p, ps[i]? = some p ∧ x = .ref p.2.1, fun i H => H d = some (.frz o (DG P w d ps)) ∧ ps.length ≤ i⟩
def iKeysG (P : Program) (w : World) (td : TE) : TI := fun σ H R => td σ H fun x H1 => ∃ d o ps, x = .ref d ∧ H1 d = some (.frz o (DG P w d ps)) ∧ R (Itg P w d o ps) H1
end
section
variable {C : Ct} {tg e : Expr} {f : Den}
def lkI (f : Den) : DenI := fun ρ h => (f ρ h).bind fun x h1 => match x with
  | .d (.set [.lst ks, .lst _]) => .ok (.fx ks) h1
  | _ => .bad
/-! d[k] of a locked dict -/
def ixP3 : Dt → Dt → Option Dt
  | .set [.lst ks, .lst vs], x => match keyOk x with
    | true => match findK ks x with
      | some i => vs[i]?
      | none => none
    | false => none
  | a, b => ixP2 a b
/-! ### lending -/
mutual
/-- no dict, no instance within -/
def noD : Dt → Bool
  | .non => true
  | .bl _ => true
  | .int _ => true
  | .str _ => true
  | .tup l => noDs l
  | .lst l => noDs l
  | .scr _ => true
  | _ => false
def noDs : List Dt → Bool
  | [] => true
  | d :: l => noD d && noDs l
end
/-- .. in things; and they do not lead to the n-th -/
def noDO : Ob → Bool
  | .lst l => noDs l
  | .gone => true
  | .dct ks vs => noDs ks && (match allD vs with
    | some l => noDs l
    | none => false)
  | _ => false
def subE (n : Nat) (d : Dt) : Option Vl → Option Vl
  | some (.r k) => match decide (k = n) with
    | true => some (.d d)
    | false => some (.r k)
  | x => x
/-- .. within a new list or dict -/
def noDT : Dt → Bool
  | .lst l => noDs l
  | .dct ks vs => noDs ks && noDs vs
  | _ => false
def lendF (i : Nat) (f : DenD) : DenD := fun ρ h => match (ρ[i]? : Option (Option Vl)) with
  | some (some (.r n)) => match h[n]? with
    | some (.dct ks vls) => match allD vls with
      | some vd => match decide (n + 1 = h.length) && h.dropLast.all noDO with
        | true => match f (ρ.map (subE n (lkD ks vd))) h.dropLast with
          | .ok y h2 => match decide (h2.length = n) && h2.all noDO && noDT y with
            | true => .ok y (h2 ++ [.dct ks vls])
            | false => .bad
          | _ => .bad
        | false => .bad
      | none => .bad
    | _ => .bad
  | _ => .bad
/-- what is kept when the dict is unlocked again -/
structure Unl (a : Addr) (F : List Addr) (H : Hp) (F' : List Addr) (H' : Hp) : Prop where
  keep : ∀ b o, b ≠ a → H b = some o → H' b = some o
  at' : ∃ o φ, H a = some (.frz o (.ext φ))
  out : ∀ b, b ≠ a → b ∉ F → b ∉ F'
mutual
theorem Di.unl {K : PySem.W.Frag} {Ly : Lx} {a : Addr} {F F' : List Addr} {H H' : Hp} (u : Unl a F H F' H') : ∀ {v : V} {d : Dt}, Di K Ly F H v d → noD d = true → Di K Ly F' H' v d
  | _, _, .non, _ => .non
  | _, _, .bl b, _ => .bl b
  | _, _, .int i, _ => .int i
  | _, _, .str x, _ => .str x
  | _, _, .tup (a := b) h hs, q => by
    have hn : b ≠ a := fun z => by obtain ⟨o, φ, e⟩ := u.at'; rw [z, e] at h; cases h
    exact .tup (u.keep _ _ hn h) (Dis.unl u hs (by simpa [noD] using q))
  | _, _, .lst (a := b) h n hs, q => by
    have hn : b ≠ a := fun z => by obtain ⟨o, φ, e⟩ := u.at'; rw [z, e] at h; cases h
    exact .lst (u.keep _ _ hn h) (u.out _ hn n) (Dis.unl u hs (by simpa [noD] using q))
  | _, _, .scr (a := b) h n, _ => by
    have hn : b ≠ a := fun z => by obtain ⟨o, φ, e⟩ := u.at'; rw [z, e] at h; cases h
    exact .scr (u.keep _ _ hn h) (u.out _ hn n)
  | _, _, .scrK h, _ => .scrK h
  | _, _, .scrL (a := b) h n, _ => by
    have hn : b ≠ a := fun z => by obtain ⟨o, φ, e⟩ := u.at'; rw [z, e] at h; cases h
    exact .scrL (u.keep _ _ hn h) (u.out _ hn n)
  | _, _, .dctG _ _ _ _ _, q => by simp [noD] at q
  | _, _, .dctK _ _ _, q => by simp [noD] at q
  | _, _, .ins _ _ _ _, q => by simp [noD] at q
  | _, _, .lck _ _ _ _ _, q => by simp [noD] at q
theorem Dis.unl {K : PySem.W.Frag} {Ly : Lx} {a : Addr} {F F' : List Addr} {H H' : Hp} (u : Unl a F H F' H') : ∀ {vs : List V} {ds : List Dt}, Dis K Ly F H vs ds → noDs ds = true → Dis K Ly F' H' vs ds
  | _, _, .nil, _ => .nil
  | _, _, .cons h hs, q => by
    rw [noDs, Bool.and_eq_true] at q
    exact .cons (Di.unl u h q.1) (Dis.unl u hs q.2)
end
end
end Vi

set_option maxRecDepth 100000
set_option maxHeartbeats 1000000
/-! ### sorted(set(xs)), xs a list of pairs of small numbers -/
namespace Vi
open PySem L2 Evl
abbrev II := Int × Int
def e2i (p : II) : Dt := .tup [.int p.1, .int p.2]
def ltI (a b : II) : Prop := a.1 < b.1 ∨ (a.1 = b.1 ∧ a.2 < b.2)
instance (a b : II) : Decidable (ltI a b) := inferInstanceAs (Decidable (_ ∨ _))
def insU (a : II) : List II → List II
  | [] => [a]
  | b :: r => match decide (a = b) with
    | true => b :: r
    | false => match decide (ltI a b) with
      | true => a :: b :: r
      | false => b :: insU a r
/-- in order, each once -/
def sortU : List II → List II
  | [] => []
  | a :: l => insU a (sortU l)
def pairsI : List Dt → Option (List II)
  | [] => some []
  | .tup [.int x, .int y] :: r => match decide (0 ≤ x ∧ x < 64 ∧ 0 ≤ y ∧ y < 64), pairsI r with
    | true, some l => some ((x, y) :: l)
    | _, _ => none
  | _ => none
def ssF (f : Den) : DenD := fun ρ h => (f ρ h).bind fun x h1 => match bor h1 x with
  | some (.lst l) => match pairsI l with
    | some ps => match decide (ps.length < 64) with
      | true => .ok (.lst ((sortU ps).map e2i)) h1
      | false => .bad
    | none => .bad
  | _ => .bad
section
variable {C : Ct} {e : Expr} {f : Den}
end
end Vi

set_option maxRecDepth 100000
set_option maxHeartbeats 3200000
/-! ### set(xs) of a list of ints -/
namespace L2
open PySem PySem.Spec PyProof.Rows
section
variable {P : Program} {w : World} {A : Around} {E : Value → Shared → Prop} {s : Shared}
end
section
variable {X : Cx}
/-- set(xs), xs a list of ints -/
def rSetOfI (K : PySem.W.Frag) (w : World) : List V → Hp → VK → Prop := fun xs H Q => ∃ (l : Addr) (ns : List Int), xs = [V.ref l] ∧ SqL K H l (ns.map V.int) ∧ ns.length < 64 ∧
  ∀ a c, H a = none → c ≤ ns.length → Q (.ref a) (upd H a (SetO w a (fun j => decide (j ∈ ns)) c))
end
end L2

namespace Vi
open PySem L2 Evl
/-! ### sorted(set(xs)), xs a list of ints, or of pairs of small numbers -/
def intsI : List Dt → Option (List Int)
  | [] => some []
  | .int x :: r => match intsI r with
    | some l => some (x :: l)
    | none => none
  | _ => none
def insN (a : Int) : List Int → List Int
  | [] => [a]
  | b :: r => match decide (a = b) with
    | true => b :: r
    | false => match decide (a < b) with
      | true => a :: b :: r
      | false => b :: insN a r
/-- in order, each once -/
def sortN : List Int → List Int
  | [] => []
  | a :: l => insN a (sortN l)
def ssG (f : Den) : DenD := fun ρ h => (f ρ h).bind fun x h1 => match bor h1 x with
  | some (.lst l) => match intsI l with
    | some ns => match decide (ns.length < 64) with
      | true => .ok (.lst ((sortN ns).map Dt.int)) h1
      | false => .bad
    | none => match pairsI l with
      | some ps => match decide (ps.length < 64) with
        | true => .ok (.lst ((sortU ps).map e2i)) h1
        | false => .bad
      | none => .bad
  | _ => .bad
section
variable {C : Ct} {e : Expr} {f : Den}
end
end Vi

set_option maxRecDepth 100000
set_option maxHeartbeats 1000000
/-! ### x or y by truth -/
namespace Vi
open PySem L2 Evl
def truD : Dt → Option Bool
  | .non => some false
  | .bl b => some b
  | .int i => some (i != 0)
  | .tup l => some (!l.isEmpty)
  | .lst l => some (!l.isEmpty)
  | _ => none
def orG (f g : Den) : Den := fun ρ h => (f ρ h).bind fun x h1 => match x with
  | .d y => match truD y with
    | some true => .ok (.d y) h1
    | some false => g ρ h1
    | none => .bad
  | .r _ => .bad
section
variable {C : Ct} {a b : Expr} {f g : Den} {pos : Pos}
end
end Vi

set_option maxRecDepth 100000
set_option maxHeartbeats 1000000
/-! ### a list that may change is lent to a def that only reads it -/
namespace Vi
open PySem L2 Evl
mutual
/-- no list, dict or instance within -/
def noL : Dt → Bool
  | .non => true
  | .bl _ => true
  | .int _ => true
  | .str _ => true
  | .tup l => noLs l
  | _ => false
def noLs : List Dt → Bool
  | [] => true
  | d :: l => noL d && noLs l
end
mutual
theorem Di.noF {K : PySem.W.Frag} {Ly : Lx} {F F' : List Addr} {H : Hp} : ∀ {v : V} {d : Dt}, Di K Ly F H v d → noL d = true → Di K Ly F' H v d
  | _, _, .non, _ => .non
  | _, _, .bl b, _ => .bl b
  | _, _, .int i, _ => .int i
  | _, _, .str x, _ => .str x
  | _, _, .tup h hs, q => .tup h (Dis.noF hs (by simpa [noL] using q))
  | _, _, .lst _ _ _, q => by simp [noL] at q
  | _, _, .scr _ _, q => by simp [noL] at q
  | _, _, .scrK _, q => by simp [noL] at q
  | _, _, .scrL _ _, q => by simp [noL] at q
  | _, _, .dctG _ _ _ _ _, q => by simp [noL] at q
  | _, _, .dctK _ _ _, q => by simp [noL] at q
  | _, _, .ins _ _ _ _, q => by simp [noL] at q
  | _, _, .lck _ _ _ _ _, q => by simp [noL] at q
theorem Dis.noF {K : PySem.W.Frag} {Ly : Lx} {F F' : List Addr} {H : Hp} : ∀ {vs : List V} {ds : List Dt}, Dis K Ly F H vs ds → noLs ds = true → Dis K Ly F' H vs ds
  | _, _, .nil, _ => .nil
  | _, _, .cons h hs, q => by
    rw [noLs, Bool.and_eq_true] at q
    exact .cons (Di.noF h q.1) (Dis.noF hs q.2)
end
def callB (n : Nat) (g : Pf) (fa : DenA) : Den := fun ρ h => (fa ρ h).bind fun xs h1 => match borAll h1 xs with
  | some ds => match decide (ds.length = n) with
    | true => match g ds with
      | .ok d => match noL d with
        | true => .ok (.d d) h1
        | false => .bad
      | _ => .bad
    | false => .bad
  | none => .bad
section
variable {C : Ct} {e : Expr} {es : List Expr} {fa : DenA} {pos p : Pos} {x : Str} {k n : Nat} {g : Pf}
end
/-! ### a, b = a list -/
def gL' (n : Nat) (gs : List Vl → En → Option En) : Tgt := fun x ρ => match x with
  | .d (.lst l) => match decide (l.length = n) with
    | true => gs (l.map Vl.d) ρ
    | false => none
  | _ => none
end Vi

set_option maxRecDepth 100000
set_option maxHeartbeats 3200000
/-! ### len(set(t)), t a tuple of tuples of ints -/
namespace L2
open PySem PySem.Spec PyProof.Rows
section
variable {P : Program} {w : World} {A : Around} {E : Value → Shared → Prop} {s : Shared}
abbrev set0 (w : World) : Obj := { cls := .type "set", dict := none, data := .set #[] 0 (.fresh 0 0 (!w.params.followText "set-order")) }
end
section
variable {X : Cx}
def tLenSetT (K : PySem.W.Frag) (ta : TE) : TE := fun σ H Q => ta σ H fun x H1 => ∃ (l : Addr) (ks : List (Addr × List Int)), x = V.ref l ∧ SqT K H1 l (ks.map fun p => V.ref p.1) ∧ (∀ p ∈ ks, SqT K H1 p.1 (p.2.map V.int)) ∧ ks.length < 64 ∧
  ∀ L : List (Addr × List Int), (L.map (·.2)).Nodup → (∀ p ∈ L, p ∈ ks) → (∀ p ∈ ks, p.2 ∈ L.map (·.2)) → Q (.int L.length) H1
end
end L2
namespace Vi
open PySem L2 Evl
def lsV (f : Den) : Den := fun ρ h => (f ρ h).bind fun x h1 => match x with
  | .d (.tup l) => match pairsI l with
    | some ps => match decide (ps.length < 64) with
      | true => .ok (.d (.int ((sortU ps).length : Int))) h1
      | false => .bad
    | none => .bad
  | _ => .bad
section
variable {C : Ct} {e : Expr} {f : Den}
end
end Vi

set_option maxRecDepth 100000
set_option maxHeartbeats 1000000
/-! ### max(xs, default=None), xs ints -/
namespace L2
open PySem PySem.Spec PyProof.Rows
section
variable {X : Cx}
def rMaxD0 (K : PySem.W.Frag) : List V → List V → Hp → VK → Prop := fun xs zs H Q => ∃ (l : Addr) (ns : List Int), xs = [V.ref l] ∧ zs = [V.non] ∧ SqL K H l (ns.map V.int) ∧ (ns = [] → Q .non H) ∧ ∀ m ms, ns = m :: ms → Q (.int (PySem.W.maxOf m ms)) H
end
end L2
namespace Vi
open PySem L2 Evl
def mdV (f : Den) : Den := fun ρ h => (f ρ h).bind fun x h1 => match bor h1 x with
  | some (.lst l) => match intsI l with
    | some [] => .ok (.d .non) h1
    | some (n :: ns) => .ok (.d (.int (PySem.W.maxOf n ns))) h1
    | none => .bad
  | _ => .bad
section
variable {C : Ct} {e : Expr} {f : Den}
end
end Vi

set_option maxRecDepth 100000
namespace Vi
open PySem L2 Evl PyProof.Rows
/-! ### list(d.values()) -/
section
variable {C : Ct} {X : Cx} {pins : List (Addr × Obj)} {σ : L2.St} {H : Hp} {s : Shared}
end
def valsF (f : Den) : DenD := fun ρ h => (f ρ h).bind fun x h1 => match bor h1 x with
  | some (.dct _ vs) => .ok (.lst vs) h1
  | _ => .bad
section
variable {C : Ct} {e : Expr} {f : Den} {p apos cpos pos : Pos}
end
section
variable {C : Ct} {e : Expr} {f : Den} {pos : Pos}
/-- name = [comprehension], where the name is used by another comprehension -/
theorem ss_setCs {i : Nat} {x : Str} {pos' : Pos} (nd : C.N.Nodup) (hi : C.N[i]? = some x) (hx : C.sc.names.lookup x = some .cell) (hf : C.fn = true) (hs : ∀ env : Env, env.scope = C.sc → swapsWith e (some (.Name x pos')) pos.line env = pure false) (he : SE C e f) : SS C (.Assign [.Name x pos'] e pos) (setS i f) := ⟨fun X o pn W tk Z m σ H ρ h D r env q =>
  PSw (ps_set (by rw [o.N]; exact nd) (by rw [o.N]; exact hi) (.inr (by rw [o.sc]; exact hx)) pe_w (hs _ o.sc) (.inl (o.fns hf x))) (he.run X o W tk Z m σ H ρ h _ r env ((EOk.toS r env q).imp fun v H1 ⟨m1, x, h1, e1, r1, d1, q1⟩ => q1 _ m1 H1 (Evo.refl _ _) r1 ((env.mono r e1).set d1)))⟩
end
/-! int(bool) -/
def intB : List Dt → Option Dt
  | [.bl b] => some (.int (if b then 1 else 0))
  | _ => none
end Vi

set_option maxRecDepth 100000
set_option maxHeartbeats 1000000
namespace Vi
open PySem L2 Evl PyProof.Rows
/-- one entry is stored -/
def StG (C : Ct) (X : Cx) (D : Addr) (y z : V) (Nx : Hp → Prop) (H : Hp) : Prop := ∃ b ps ks F x k, y = .ref b ∧ H D = some (DG C.ly.P C.ly.w D ps) ∧ ks.map keyN = ps.map (fun p => some p.1) ∧ Dis C.K C.ly F H (ps.map fun p => .ref p.2.1) ks ∧ Di C.K C.ly F H (.ref b) x ∧ keyOk x = true ∧ keyN x = some k ∧ ps.length < 100000 ∧
  ∀ (s : Shared) xs, DOpen X s D ps xs → Nx (upd H D (DG C.ly.P C.ly.w D (stE ks x k b z ps)))
section
variable {X : Cx} {C : Ct}
/-- the dict D while it grows: W tells what holds ahead of each turn -/
def DcW (C : Ct) (X : Cx) (g : TG) (tt : TT) (tk tv : TE) (vs : List Nat) (σ : L2.St) (J : It) (D : Addr) (Q : VK) (W : Nat → Nat → Hp → Prop) : Prop := ∀ i m H, W i m H →
  (J.stop i H ∧ Q (.ref D) H) ∨ (J.go i H ∧ ∃ Nx : Hp → Prop, (∀ H', Nx H' → ∃ m', m' < m ∧ W (i + 1) m' H') ∧ ∀ x H', J.yld i H x H' → g x (wipe σ vs) H' fun σ2 H2 => wipe σ2 vs = wipe σ vs ∧ tt σ2 H2 fun b H3 =>
    if b = true then tk σ2 H3 fun y H4 => tv σ2 H4 fun z H5 => StG C X D y z Nx H5 else Nx H3)
def tDg (C : Ct) (X : Cx) (wi : TI) (g : TG) (tt : TT) (tk tv : TE) (vs : List Nat) : TE := fun σ H Q => wi σ H fun J H1 => ∀ D, H1 D = none → ∃ W, (∃ m, W 0 m (upd H1 D (DG C.ly.P C.ly.w D []))) ∧ DcW C X g tt tk tv vs σ J D Q W
end
/-! ### .. as a denotation -/
def putD (ks vs : List Dt) (x y : Dt) : List Dt := match findK ks x with
  | some i => vs.set i y
  | none => vs ++ [y]
def dcL (g : Tgt) (t : DenT) (fk fv : Den) (ρ : En) : List Dt → List Dt → List Dt → Hs → Res (List Dt × List Dt)
  | [], ks, vs, h => .ok (ks, vs) h
  | d :: ds, ks, vs, h => match g (.d d) ρ with
    | none => .bad
    | some ρ1 => match t ρ1 h with
      | .ok true h1 => match fk ρ1 h1 with
        | .ok (.d x) h2 => match fv ρ1 h2 with
          | .ok (.d y) h3 => match keyOk x with
            | true => dcL g t fk fv ρ ds (putK ks x) (putD ks vs x y) h3
            | false => .bad
          | _ => .bad
        | _ => .bad
      | .ok false h1 => dcL g t fk fv ρ ds ks vs h1
      | _ => .bad
def dcF (ws : List Nat) (src : DenI) (g : Tgt) (t : DenT) (fk fv : Den) : DenD := fun ρ h => (src ρ h).bind fun s h1 => match s with
  | .fx ds => match decide (ds.length ≤ 100000) with
    | true => match dcL g t fk fv (wipeR ρ ws) ds [] [] h1 with
      | .ok p h2 => .ok (.dct p.1 p.2) h2
      | _ => .bad
    | false => .bad
  | _ => .bad
section
variable {K : PySem.W.Frag} {Ly : Lx} {F F' : List Addr} {H H' : Hp}
/-- the entries of a dict that no thing stands for -/
structure EnD (K : PySem.W.Frag) (Ly : Lx) (F : List Addr) (H : Hp) (ps : List Ent) (ks vs : List Dt) : Prop where
  k : ks.map keyN = ps.map (fun p => some p.1)
  r : Dis K Ly F H (ps.map fun p => .ref p.2.1) ks
  v : Dis K Ly F H (ps.map (·.2.2)) vs
theorem EnD.mono (L : LayOk Ly) (kk : Keeps F H F' H') {ps : List Ent} {ks vs : List Dt} (e : EnD K Ly F H ps ks vs) : EnD K Ly F' H' ps ks vs := ⟨e.k, e.r.mono L kk, e.v.mono L kk⟩
theorem EnD.len {ps : List Ent} {ks vs : List Dt} (e : EnD K Ly F H ps ks vs) : ps.length = ks.length := by
  have := congrArg List.length e.k
  simpa using this.symm
theorem EnD.put {ps : List Ent} {ks vs : List Dt} {x y : Dt} {k : NestedKey} {b : Addr} {v : V} (e : EnD K Ly F H ps ks vs) (nd : (ps.map (·.1)).Nodup) (hx : keyN x = some k) (dx : Di K Ly F H (.ref b) x) (dy : Di K Ly F H v y) : EnD K Ly F H (stE ks x k b v ps) (putK ks x) (putD ks vs x y) := by
  unfold stE putK putD
  cases z : findK ks x with
  | some i => exact ⟨by dsimp only; rw [putE_keys]; exact e.k, by dsimp only; rw [putE_refs]; exact e.r, by dsimp only; rw [putE_at hx e.k nd z]; exact e.v.set dy i⟩
  | none =>
    refine ⟨?_, ?_, ?_⟩
    · dsimp only; rw [List.map_append, List.map_append, e.k]; simp [hx]
    · dsimp only; rw [List.map_append]; exact e.r.append (.cons dx .nil)
    · dsimp only; rw [List.map_append]; exact e.v.append (.cons dy .nil)
end
section
variable {C : Ct} {kx vx tg it : Expr} {ifs : List Expr} {scope : Scope} {own : List (Str × Nat)} {pos : Pos} {src : DenI} {g : Tgt} {t : DenT} {fk fv : Den} {ws : List Nat}
end
end Vi

set_option maxRecDepth 100000
set_option maxHeartbeats 1000000
namespace Vi
open PySem L2 Evl PyProof.Rows
/-! ### own dicts that are equal -/
section
variable {prog : Program} {w : World} {K : Type} [DecidableEq K] {knd : HeapKind prog w K} {A : Around} {E : Value → Shared → Prop} {s : Shared}
/-- every entry stands in the other dict, with an equal value -/
def HitH (A : Around) (s : Shared) (ys : List (K × Addr × Value)) (x : K × Addr × Value) : Prop := ∃ (j : Nat) (b : Addr) (u : Value), ys[j]? = some (x.1, b, u) ∧ SeqAt.EqAt A s x.2.2 u true
end
/-- all entries of one dict stand in another one -/
def allHit (ls ws : List Dt) : List Dt → List Dt → Bool
  | [], [] => true
  | k :: ks, v :: vs => (match findK ls k with
    | some j => match ws[j]? with
      | some u => okD 20 v && okD 20 u && v.eq u
      | none => false
    | none => false) && allHit ls ws ks vs
  | _, _ => false
def eqP2 : Dt → Dt → Option Dt
  | .dct ks vs, .dct ls ws => match decide (ks.length = ls.length) && allHit ls ws ks vs with
    | true => some (.bl true)
    | false => none
  | x, y => eqP x y
def neP2 : Dt → Dt → Option Dt
  | .dct ks vs, .dct ls ws => match decide (ks.length = ls.length) && allHit ls ws ks vs with
    | true => some (.bl false)
    | false => none
  | x, y => neP x y
section
variable {C : Ct} {X : Cx} {pins : List (Addr × Obj)} {σ : L2.St} {H : Hp} {s : Shared} {F : List Addr}
end
end Vi

set_option maxRecDepth 100000
set_option maxHeartbeats 1000000
namespace Vi
open PySem L2 Evl PyProof.Rows
/-! ### a dict whose values are things: its keys in order, the thing at a key -/
def rSK (C : Ct) : List V → Hp → VK → Prop := fun vs H Q => ∃ F ks d a ps, FA F H ∧ vs = [.ref a] ∧ H a = some (DG C.ly.P C.ly.w a ps) ∧ ks.map keyN = ps.map (fun p => some p.1) ∧ Dis C.K C.ly F H (ps.map fun p => .ref p.2.1) ks ∧ sortP [.lst ks] = some d ∧ ∀ a H', Ex H H' → H a = none → Fr C (a :: F) H' a d → Q (.ref a) H'
def srtR (f : Den) : DenD := fun ρ h => (f ρ h).bind fun x h1 => match x with
  | .r n => match h1[n]? with
    | some (.dct ks _) => match sortP [.lst ks] with
      | some d => .ok d h1
      | none => .bad
    | _ => .bad
  | _ => .bad
def ixR (f k : Den) : Den := fun ρ h => (f ρ h).bind fun x h1 => (k ρ h1).bind fun y h2 => match x, y with
  | .r n, .d y => match h2[n]? with
    | some (.dct ks vs) => match keyOk y with
      | true => match findK ks y with
        | some i => match vs[i]? with
          | some z => .ok z h2
          | none => .bad
        | none => .bad
      | false => .bad
    | _ => .bad
  | _, _ => .bad
section
variable {C : Ct} {a b : Expr} {f k : Den} {pos ps : Pos} {x : Str}
def rIxG (C : Ct) : R2 := fun x y H Q => ∃ F ad qs ks i p d, x = .ref ad ∧ H ad = some (DG C.ly.P C.ly.w ad qs) ∧ ks.map keyN = qs.map (fun p => some p.1) ∧ Dis C.K C.ly F H (qs.map fun p => .ref p.2.1) ks ∧ Di C.K C.ly F H y d ∧ keyOk d = true ∧ findK ks d = some i ∧ qs[i]? = some p ∧ Q p.2.2 H
end
end Vi

set_option maxRecDepth 100000
set_option maxHeartbeats 1000000
namespace Vi
open PySem L2 Evl PyProof.Rows
/-! ### sorted(tuple) -/
def sortP4 : List Dt → Option Dt
  | [.tup l] => sortP [.lst l]
  | a => sortP2 a
end Vi

set_option maxRecDepth 100000
set_option maxHeartbeats 1000000
namespace Vi
open PySem L2 Evl PyProof.Rows
/-! ### list.count, list.index -/
def cntP : Dt → Dt → Option Dt
  | .lst l, x => match l.all (okD 20) && okD 20 x && decide (l.length ≤ 100000) with
    | true => some (.int (l.countP fun y => y.eq x : Nat))
    | false => none
  | _, _ => none
/-- where it stands first -/
def idxD (l : List Dt) (x : Dt) : Option Nat := l.findIdx? fun y => y.eq x
def idxP : Dt → Dt → Option Dt
  | .lst l, x => match l.all (okD 20) && okD 20 x && decide (l.length ≤ 100000) with
    | true => match idxD l x with
      | some j => some (.int (j : Nat))
      | none => none
    | false => none
  | _, _ => none
/-- a method of a list, by one argument -/
def rML (C : Ct) (p : Dt → Dt → Option Dt) : V → List V → Hp → VK → Prop := fun o xs H Q => ∃ F a b d y, xs = [y] ∧ Bv C.K C.ly F H o (.lst a) ∧ Bv C.K C.ly F H y b ∧ p (.lst a) b = some d ∧ ∀ v H', Ex H H' → Di C.K C.ly F H' v d → Q v H'
structure MtP (C : Ct) (id : String) (p : Dt → Dt → Option Dt) : Prop where
  run : ∀ X, C.Of X → MtR X id (rML C p)
section
variable {C : Ct} {X : Cx} {pins : List (Addr × Obj)} {σ : L2.St} {H : Hp} {s : Shared}
end
def mth1 (p : Dt → Dt → Option Dt) (f g : Den) : Den := fun ρ h => (f ρ h).bind fun x h1 => match bor h1 x with
  | some (.lst _) => (g ρ h1).bind fun y h2 => match bor h2 x, bor h2 y with
    | some (.lst l), some b => match p (.lst l) b with
      | some d => .ok (.d d) h2
      | none => .bad
    | _, _ => .bad
  | _ => .bad
section
variable {C : Ct} {a b : Expr} {f g : Den} {p1 p2 : Pos} {p : Dt → Dt → Option Dt} {name : Str} {id : String}
end
end Vi

set_option maxRecDepth 100000
set_option maxHeartbeats 1000000
namespace Vi
open PySem L2 Evl PyProof.Rows
/-! ### len(dict) -/
def lenP2 : List Dt → Option Dt
  | [.dct ks _] => match decide (ks.length ≤ 100000) with
    | true => some (.int ks.length)
    | false => none
  | a => lenP a
end Vi

set_option maxRecDepth 100000
set_option maxHeartbeats 1000000
namespace Vi
open PySem L2 Evl
/-! ### comprehensions whose own name another one captures -/
structure SGK (C : Ct) (scope : Scope) (tg : Expr) (ws : List Nat) (g : Tgt) : Prop where
  run : ∀ X, C.Of X → ∀ s Hh cl Cc fp Z m v σ H ρ h x Q ρ', Rl (C.blk scope) Z m H h → EnvV (C.blk scope) Z m H σ ρ → Dv C.K C.ly Z m H v x → g x ρ = some ρ' → (∀ σ', EnvV (C.blk scope) Z m H σ' ρ' → σ'.length = σ.length → (∀ j, j ∉ ws → σ'[j]? = σ[j]?) → Q σ' H) →
    RunG (X.blk s Hh scope (compEnvC scope cl Cc X.env) fp) tg v σ H Q
section
variable {C : Ct} {elt tg it : Expr} {ifs : List Expr} {scope : Scope} {own : List (Str × Nat)} {pos : Pos} {src : DenI} {g : Tgt} {t : DenT} {f : Den} {ws : List Nat}
end
end Vi

set_option maxRecDepth 100000
set_option maxHeartbeats 1000000
namespace Vi
open PySem L2 Evl
/-! ### a def that returns a list or a dict of its own: it is new where it is called, and may be kept as a thing -/
def fzF (h : Hs) (n : Nat) : Option Dt := match h[n]? with
  | some (.lst l) => some (.lst l)
  | some (.dct ks vs) => match allD vs with
    | some l => some (.dct ks l)
    | none => none
  | _ => none
def runF (nn : Nat) (B : DenS) : Pf := fun ds => match B (ds.map (fun d => some (Vl.d d)) ++ List.replicate (nn - ds.length) none) [] with
  | .rt (.r n) h => match fzF h n with
    | some d => .ok d
    | none => .bad
  | .exc e _ _ => .exc e
  | _ => .bad
def POkF (C : Ct) (Z : List Addr) (H : Hp) (Q : VK) (E : XK) : PRes → Prop
  | .ok d => ∀ a H', Ex H H' → H a = none → Fr C (a :: Z) H' a d → Q (.ref a) H'
  | .exc e => ∀ d H', Ex H H' → ExR C Z H' e d → E (C.xc e.cls) d H'
  | .bad => False
def SpF (G : Cg) (n : Nat) (g : Pf) : Sp := fun vs H Q E => ∃ Z ds, FA Z H ∧ Dis G.K G.ly Z H vs ds ∧ ds.length = n ∧ POkF G.ct Z H Q E (g ds)
structure FnF (G : Cg) (k : Nat) (x : Str) (n : Nat) (g : Pf) : Prop where
  ex : ∃ f fd ps, FnOk G.P G.w G.K G.mg G.base (CXV G.dt G.P G.w) k f fd ps (SpF G n g) ∧ G.mg x = some (.ref f) ∧ PySem.W.keepIn G.K (.ref f) = true ∧ Binds G.K fd ps []
section
variable {G : Cg}
end
def callF (n : Nat) (g : Pf) (fa : DenA) : DenD := fun ρ h => (fa ρ h).bind fun xs h1 => match allD xs with
  | some ds => match decide (ds.length = n) with
    | true => match g ds with
      | .ok d => .ok d h1
      | .exc e => .exc e h1
      | .bad => .bad
    | false => .bad
  | none => .bad
section
variable {C : Ct} {e : Expr} {es : List Expr} {fa : DenA} {pos p : Pos} {x : Str} {k n : Nat} {g : Pf}
end
end Vi

set_option maxRecDepth 100000
set_option maxHeartbeats 1000000
namespace Vi
open PySem PySem.Spec PyProof.Rows L2 LamX
/-! ### a lambda made for the first time -/
section
variable {X : Cx} {pins : List (Addr × Obj)} {σ : L2.St} {H : Hp} {s : Shared}
/-- the table at P, its code objects left aside -/
def TblN (H : Hp) (P : Addr) (ps : Array Value) : Prop := H P = some (.tbl ps) ∧ TriplesOk ps.toList
abbrev lamH (H : Hp) (P : Addr) (ps : Array Value) (lpos : Pos) (c' : Addr) (q : Str) : Hp := upd (upd H P (.tbl (ps ++ #[rawInt lpos.line, rawInt lpos.col, .ref c']))) c' (CodeO c' q)
def tLamM (P : Addr) (lpos : Pos) (q : Str) (TT : (XK → Hp → VK → Prop) → Hp → VK → Prop) (t : XK → TE) : TE := fun σ H Q => ∃ ps, TblN H P ps ∧ codeAmong lpos ps.toList = none ∧ ∀ c', H c' = none → TT (fun E H' Q' => t E σ H' Q') (lamH H P ps lpos c' q) Q
/-- the table and the code objects behind a lambda that is made: it stood there, or it is new -/
def LamH (H : Hp) (P : Addr) (lpos : Pos) (q : Str) (c' : Addr) (H1 : Hp) : Prop := H1 = H ∨ ∃ ps, H P = some (.tbl ps) ∧ H c' = none ∧ H1 = lamH H P ps lpos c' q
def tLam3 (P : Addr) (lpos : Pos) (q : Str) (TT : (XK → Hp → VK → Prop) → Hp → VK → Prop) (t : XK → TE) : TE := fun σ H Q => TabS H P q ∧ ∀ c' H1, LamH H P lpos q c' H1 → TabS H1 P q → TT (fun E H' Q' => t E σ H' Q') H1 Q
end
end Vi

set_option maxRecDepth 100000
set_option maxHeartbeats 1000000
namespace Vi
open PySem L2 LamX
/-! ### a def that tries the work that it got: what its except clauses make of an error -/
def TTr (C : Ct) (cl : List Cl) : (XK → Hp → VK → Prop) → Hp → VK → Prop := fun tl H Q =>
  ∃ Ech : XK, tl Ech H (fun _ H' => Q .non H') ∧ ∀ cls d H1, Ech cls d H1 → ∃ (F : List Addr) (ex : Exn), FA F H1 ∧ cls = C.xc ex.cls ∧ ExR C F H1 ex d ∧
    SOk C (fun _ _ _ _ => False) F [] H1 { nx := fun _ H' => Q .non H', rt := Q } (pickS cl ex (List.replicate C.N.length none) [])
end Vi

set_option maxRecDepth 100000
set_option maxHeartbeats 1000000
namespace Vi
open PySem L2 Evl LamX
/-- the place knows its code object and the table of those that it makes -/
structure LamD (C : Ct) (c P : Addr) (ql : Str) (i : Int) : Prop where
  cd : C.cd = some (c, ql)
  tb : TabB C.base C.mg c P
  lm : ∀ a H, C.lm 1 a H [V.int i] ↔ (a = P ∧ TabS H P (ql ++ "<lambda>"))
/-- the place of a lambda's body -/
def Ct.lamC (C : Ct) (scope : Scope) (k : Nat) : Ct := { C with sc := scope, lv := k, fn := false, cd := none }
/-- thing j is the place's table (number i) -/
def raisedV (j : Nat) (i : Int) (n : Nat) (fb : Den) (cl : List Cl) : Den := fun ρ h => match (h[j]? : Option Ob) with
  | some (.ins 1 [.d (.int i')]) => match decide (i' = i) with
    | true => match fb ρ h with
      | .ok _ h1 => .ok (.d .non) h1
      | .exc e h1 => match pickS cl e (List.replicate n none) [] with
        | .rt (.d d) [] => .ok (.d d) h1
        | _ => .bad
      | .bad => .bad
    | false => .bad
  | _ => .bad
section
variable {C : Ct} {X : Cx} {Z m : List Addr} {H : Hp} {σ : St} {ρ : En} {h : Hs}
theorem Dvs.snoc {K : PySem.W.Frag} {Ly : Lx} {v : V} {x : Vl} : ∀ {vs : List V} {fs : List Vl}, Dvs K Ly Z m H vs fs → Dv K Ly Z m H v x → Dvs K Ly Z m H (vs ++ [v]) (fs ++ [x])
  | _, _, .nil, q => .cons q .nil
  | _, _, .cons p ps, q => .cons p (Dvs.snoc ps q)
/-- a lambda is made -/
theorem lam_made {c P : Addr} {ql : Str} {i : Int} {j : Nat} {lpos : Pos} (D : LamD C c P ql i) (r : Rl C Z m H h) (h0 : h[j]? = some (.ins 1 [.d (.int i)])) :
    TabS H P (ql ++ "<lambda>") ∧ ∀ c' H1, LamH H P lpos (ql ++ "<lambda>") c' H1 → TabS H1 P (ql ++ "<lambda>") → Rl C Z m H1 h ∧ Evo m H m H1 := by
  obtain ⟨a, hm⟩ : ∃ a, m[j]? = some a := by
    have hl := (List.getElem?_eq_some_iff.mp h0).1
    rw [r.len] at hl
    exact ⟨_, List.getElem?_eq_getElem hl⟩
  obtain ⟨vs, l1, l2⟩ := r.ob j a _ hm h0
  obtain ⟨v, rfl, lv⟩ : ∃ v, vs = [v] ∧ Dv C.K C.ly Z m H v (.d (.int i)) := by
    cases l2 with
    | cons q qs => cases qs; exact ⟨_, rfl, q⟩
  have lv' : Di C.K C.ly (Z ++ m) H v (.int i) := lv
  rw [lv'.int_inv] at l1
  obtain ⟨rfl, hT⟩ := (D.lm _ _).mp l1
  refine ⟨hT, fun c' H1 lh T1 => ?_⟩
  rcases lh with rfl | ⟨ps, hP, nC, rfl⟩
  · exact ⟨r, Evo.refl _ _⟩
  · have am := List.mem_of_getElem? hm
    have nac : a ≠ c' := fun z => by rw [← z, hP] at nC; cases nC
    have ex := Ex.new (o := CodeO c' (ql ++ "<lambda>")) nC
    have r0 := r.ex ex
    have e0 : Evo m H m (upd H c' (CodeO c' (ql ++ "<lambda>"))) := Evo.ex ex
    have sw : lamH H a ps lpos c' (ql ++ "<lambda>") = upd (upd H c' (CodeO c' (ql ++ "<lambda>"))) a (.tbl (ps ++ #[rawInt lpos.line, rawInt lpos.col, .ref c'])) := by
      funext b
      show upd (upd H a _) c' _ b = _
      by_cases h1 : b = c'
      · rw [h1, upd_same, upd_ne (Ne.symm nac), upd_same]
      · rw [upd_ne h1]
        by_cases h2 : b = a
        · rw [h2, upd_same, upd_same]
        · rw [upd_ne h2, upd_ne h2, upd_ne h1]
    obtain ⟨r1, e1⟩ := r0.setO (o := .tbl (ps ++ #[rawInt lpos.line, rawInt lpos.col, .ref c'])) (ob := .ins 1 [.d (.int i)]) hm (fun xs z => by cases z) (fun x z => by cases x <;> cases z)
      ⟨[V.int i], (D.lm _ _).mpr ⟨rfl, by rw [← sw]; exact T1⟩, .cons (show Di C.K C.ly (Z ++ m) _ (V.int i) (.int i) from .int _) .nil⟩
    rw [← sw] at r1 e1
    have hh : h.set j (.ins 1 [.d (.int i)]) = h := by
      obtain ⟨hl, e⟩ := List.getElem?_eq_some_iff.mp h0
      rw [← e]
      exact List.set_getElem_self hl
    rw [hh] at r1
    exact ⟨r1, e0.trans e1⟩
end
end Vi

set_option maxRecDepth 100000
set_option maxHeartbeats 1000000
namespace Vi
open PySem L2 Evl LamX
section
variable {C : Ct} {Z m : List Addr} {H : Hp} {σ : St} {ρ : En} {h : Hs}
theorem Rl.lam {scope : Scope} {k : Nat} (r : Rl C Z m H h) : Rl (C.lamC scope k) Z m H h := ⟨r.nd, r.disj, r.len, r.za, r.notup, r.own, r.ma, r.ob⟩
theorem EnvV.lam {scope : Scope} {k : Nat} (e : EnvV C Z m H σ ρ) : EnvV (C.lamC scope k) Z m H σ ρ := ⟨e.len, e.get⟩
end
end Vi

set_option maxRecDepth 100000
set_option maxHeartbeats 1000000
namespace Vi
open PySem L2 Evl
/-! ### more in the suite of a bound exception -/
section
variable {C : Ct} {i : Nat} {e a b : Expr} {es : List Expr} {pos : Pos}
structure SXA (C : Ct) (i : Nat) (es : List Expr) (f : Exn → DenA) : Prop where
  run : ∀ X, C.Of X → ∀ a oe cls d pn, Zc cls d oe → (∃ vs, oe.data = .fields vs) → ∀ Z m σ H ρ h Q ex, Rl C Z m H h → EnvV C Z m H σ ρ → σ[i]? = some (some (.ref a)) → cls = C.xc ex.cls → ExR C (Z ++ m) H ex d →
    AOk C (fun _ _ _ _ => False) Z σ m H Q (f ex ρ h) → RunA (X.suite a ((a, oe) :: pn)) es σ H Q
end
end Vi

set_option maxRecDepth 100000
set_option maxHeartbeats 1000000
namespace Vi
open PySem L2 Evl
/-! ### isinstance of the bound exception; conditions -/
/-- what a class's name says of the error classes: which are instances of it -/
structure IsC (C : Ct) (x : Str) (t : Nat → Option Bool) : Prop where
  at' : ∃ (u : Value) (c : V), RelV c u ∧ (∀ w, RelV c w → w = u) ∧ (C.mg x = some u ∨ C.mg x = none ∧ bootBuiltins x = some u) ∧ ∀ k b, t k = some b → ∃ D, C.xc k = .ref D ∧ ExcC C.K D ∧ PySem.W.kitOne C.K (.ref D) u = some b
def isX (t : Nat → Option Bool) (ex : Exn) : Den := fun _ h => match ex.fs, t ex.cls with
  | [], some b => .ok (.d (.bl b)) h
  | _, _ => .bad
section
variable {C : Ct} {i : Nat} {e a b c : Expr} {es : List Expr} {pos : Pos}
end
end Vi

set_option maxRecDepth 100000
set_option maxHeartbeats 1000000
namespace Vi
open PySem L2 Evl LamX
/-! ### conditions in the suite of a bound exception -/
structure STX (C : Ct) (i : Nat) (e : Expr) (f : Exn → DenT) : Prop where
  run : ∀ X, C.Of X → ∀ a oe cls d pn, Zc cls d oe → (∃ vs, oe.data = .fields vs) → ∀ Z m σ H ρ h Q ex, Rl C Z m H h → EnvV C Z m H σ ρ → σ[i]? = some (some (.ref a)) → cls = C.xc ex.cls → ExR C (Z ++ m) H ex d →
    TOk C (fun _ _ _ _ => False) Z σ m H Q (f ex ρ h) → RunT (X.suite a ((a, oe) :: pn)) e σ H Q
structure SWX (C : Ct) (i : Nat) (e : Expr) (f : Exn → DenT) : Prop where
  run : ∀ X, C.Of X → ∀ a oe cls d pn, Zc cls d oe → (∃ vs, oe.data = .fields vs) → ∀ Z m σ H ρ h Q ex, Rl C Z m H h → EnvV C Z m H σ ρ → σ[i]? = some (some (.ref a)) → cls = C.xc ex.cls → ExR C (Z ++ m) H ex d →
    TOk C (fun _ _ _ _ => False) Z σ m H Q (f ex ρ h) → RunW (X.suite a ((a, oe) :: pn)) e σ H Q
theorem TOk.cold {C : Ct} {W : WX} {Z m : List Addr} {H : Hp} {σ : St} {Q : Bool → Hp → Prop} {r : Res Bool} (q : TOk C W Z σ m H Q r) : TOk C.cold W Z σ m H Q r := by
  cases r with
  | ok x h' => exact fun m' H' e r => q m' H' e r.uncold
  | exc x h' => exact fun m' H' d e r x => q m' H' d e r.uncold x
  | bad => exact q
section
variable {C : Ct} {i : Nat} {e a b c : Expr} {es : List Expr} {pos : Pos} {ft gt : Exn → DenT} {f g : Exn → Den}
/-- if c: return ..; what follows -/
def ifRet (t : DenT) (f g : DenS) : DenS := fun ρ h => match t ρ h with
  | .ok true h1 => match f ρ h1 with
    | .rt x h2 => .rt x h2
    | _ => .bad
  | .ok false h1 => g ρ h1
  | _ => .bad
end
/-! ### a def that knows its own table of code objects -/
def Ct.tab (C : Ct) (c : Addr × Str) : Ct := { C with cd := some c }
section
variable {G : Cg}
theorem Rl.toTab {C : Ct} {c : Addr × Str} {Z m : List Addr} {H : Hp} {h : Hs} (r : Rl C Z m H h) : Rl (C.tab c) Z m H h := ⟨r.nd, r.disj, r.len, r.za, r.notup, r.own, r.ma, r.ob⟩
theorem Rl.ofTab {C : Ct} {c : Addr × Str} {Z m : List Addr} {H : Hp} {h : Hs} (r : Rl (C.tab c) Z m H h) : Rl C Z m H h := ⟨r.nd, r.disj, r.len, r.za, r.notup, r.own, r.ma, r.ob⟩
theorem fok_mkT {x qual : Str} {st : Stmt} {f c : Addr} {fd : FuncData} {N ps : List Str} {k : Nat} {B : DenS} (F : Fun G.K x qual st f fd) (hcd : fd.code = .ref c) (S : FnScope N ps (defScope st))
    (body : SB ((G.at N (defScope st) k).tab (c, qual ++ ".<locals>.")) (defBody st) B) : FnOk G.P G.w G.K G.mg G.base (CXV G.dt G.P G.w) (k + 1) f fd ps (SpI G ps.length (runI N.length B)) := by
  obtain ⟨oc, od, kV, doc, pm, an, cdv, ct, osl, rfl, lk, hcd'⟩ := F.ex
  obtain rfl : cdv = .ref c := hcd
  refine fn_of lk hcd' S (fun vs H Q E h => ?_) fun A outer s H vs Q E hr h => ?_
  · obtain ⟨Z, m, hh, xs, _, h1, h2, _⟩ := h
    rw [dvs_len h1, h2]
  · obtain ⟨Z, m, hh, xs, rl, h1, h2, h3⟩ := h
    have o : ((G.at N (defScope st) k).tab (c, qual ++ ".<locals>.")).Of (cxOf (CXV G.dt G.P G.w) G.P G.w G.K G.mg G.base N qual (defScope st) f (.ref c) A outer s H E) := ⟨rfl, rfl, rfl, rfl, rfl, rfl, rfl, rfl, hr.units, fun _ => hr, fun _ _ => rfl, (by intro c z; cases z; exact ⟨rfl, rfl⟩), fun _ => ⟨rfl, rfl, rfl⟩, L2H.roomH_of hr⟩
    refine ⟨_, pb_w, body.run _ o ⟨passes_of rfl, rfl, rfl⟩ _ (takes_ofV (E := E) rfl rfl rfl rfl) Z m _ H (xs.map some ++ List.replicate (N.length - xs.length) none) hh _ rl.toAt.toTab (env_startI h1) ?_⟩
    unfold runI at h3
    cases z : B (xs.map some ++ List.replicate (N.length - xs.length) none) hh with
    | nx ρ h => rw [z] at h3; exact fun σ' m' H' e' r' en' => h3 .non m' H' e' r'.ofTab.ofAt Di.non
    | rt y h => rw [z] at h3; exact fun v m' H' e' r' dv => h3 v m' H' e' r'.ofTab.ofAt dv
    | bk ρ h => rw [z] at h3; exact h3.elim
    | ct ρ h => rw [z] at h3; exact h3.elim
    | bad => rw [z] at h3; exact h3.elim
    | exc e ρ h => rw [z] at h3; exact fun σ' m' H' d e' r' en' ex => h3 m' H' d e' r'.ofTab.ofAt ex
/-- the start of a law: the tables are things 0, 1, .. -/
def tabs (n : Nat) : Hs := (List.range n).map fun (i : Nat) => .ins 1 [.d (.int (i : Int))]
theorem start_tabs {Ps : List (Addr × Str)} {a : Addr} {H : Hp} {ns : List Int} (hlm : ∀ (i : Nat) p, Ps[i]? = some p → ∀ a H, G.lm 1 a H [V.int (i : Int)] ↔ (a = p.1 ∧ TabS H p.1 p.2)) (hnd : (Ps.map (·.1)).Nodup) (hP : ∀ p ∈ Ps, H p.1 = some (.tbl #[])) (hsc : SqL G.K H a (ns.map V.int)) :
    Rl G.ct [] (Ps.map (·.1)) H (tabs Ps.length) ∧ Dvs G.K G.ly [] (Ps.map (·.1)) H [.ref a] [.d (.scr ns)] := by
  have at_ : ∀ b ∈ Ps.map (·.1), H b = some (.tbl #[]) := fun b hb => by
    obtain ⟨p, hp, rfl⟩ := List.mem_map.mp hb
    exact hP p hp
  refine ⟨⟨hnd, by simp, by simp [tabs], by simp, ?_, ?_, ?_, ?_⟩, .cons ?_ .nil⟩
  · intro b hb xs e
    rw [at_ b hb] at e; cases e
  · intro b hb x e
    rw [at_ b hb] at e
    cases x <;> cases e
  · intro b hb
    exact ⟨_, at_ b hb⟩
  · intro i b o h1 h2
    unfold tabs at h2
    rw [List.getElem?_map] at h1 h2
    cases hp : Ps[i]? with
    | none => rw [hp] at h1; cases h1
    | some p =>
      rw [hp] at h1
      cases h1
      have hi := (List.getElem?_eq_some_iff.mp hp).1
      rw [List.getElem?_range hi] at h2
      cases h2
      exact ⟨[V.int (i : Int)], (hlm i p hp _ _).mpr ⟨rfl, TabS.nil (hP p (List.mem_of_getElem? hp))⟩, .cons (show Di G.K G.ly ([] ++ _) H (V.int i) (.int i) from .int _) .nil⟩
  · show Di G.K G.ly ([] ++ Ps.map (·.1)) H (.ref a) (.scr ns)
    have np : ∀ {o : HO}, (∀ ps, o ≠ .tbl ps) → H a = some o → a ∉ ([] ++ Ps.map (·.1) : List Addr) := fun {o} ho z hb => by
      rw [List.nil_append] at hb
      rw [at_ a hb] at z; cases z; exact ho _ rfl
    rcases hsc with (z | ⟨o, z⟩) | z
    · exact .scrL z (np (fun _ z => by cases z) z)
    · exact .scr z (np (fun _ z => by cases z) z)
    · exact .scrK z
end
end Vi

set_option maxRecDepth 100000
set_option maxHeartbeats 1000000
namespace Vi
open PySem PySem.Spec PyProof.Rows L2 Evl LamX
/-! ### x(lambda: body), as it is printed -/
/-- a def that tries the work that it got -/
structure RsP (G : Cg) (k : Nat) (x : Str) (n : Nat) (cl : List Cl) : Prop where
  ex : ∃ (g : Addr) (fd : FuncData) (a : Str) (stg : Stmt) (Ng : List Str) (j : Nat) (p1 p2 p3 p8 p9 p10 : Pos) (h₀ : ExceptHandler) (hds : List ExceptHandler),
    Fun G.K x x stg g fd ∧ Binds G.K fd [a] [] ∧ G.mg x = some (.ref g) ∧ FnScope Ng [a] (defScope stg) ∧ Ng[0]? = some a ∧ Vis (defScope stg) a ∧
    defBody stg = [.Try [.Expr (.Call (.Name a p1) [] [] p2) p3] (h₀ :: hds) [] [] p8, .Return (some (.Constant .none j p9)) p10] ∧ SHs (G.at Ng (defScope stg) k) (h₀ :: hds) cl ∧ Ng.length = n ∧
    (x == ("__debug__" : Str)) = false ∧ (a == ("__debug__" : Str)) = false ∧ (a == ("__classdict__" : Str)) = false
/-- a def's table -/
structure LamG (G : Cg) (c P : Addr) (ql : Str) (i : Int) : Prop where
  tb : TabB G.base G.mg c P
  lm : ∀ a H, G.lm 1 a H [V.int i] ↔ (a = P ∧ TabS H P (ql ++ "<lambda>"))
theorem layM_tab {K : PySem.W.Frag} {T : DrT K} {pc : Nat → Addr} {pf : Nat → List Str} {P : Addr} {q : Str} (i : Nat) (h1 : pc (1000 + i) = P) (h2 : (pf (1000 + i)).headD "" = q) : ∀ a H, layM T pc pf 1 a H [V.int (i : Int)] ↔ (a = P ∧ TabS H P q) := fun a H => by
  subst h1
  subst h2
  constructor
  · intro h
    obtain ⟨i', e, rfl, h3⟩ := h
    have e' : (i : Int) = (i' : Int) := by injection e with e _; injection e
    have e2 : i = i' := by exact_mod_cast e'
    subst e2
    exact ⟨rfl, h3⟩
  · rintro ⟨rfl, h⟩
    exact ⟨i, rfl, rfl, h⟩
/-! ### the end of a law that makes lambdas of its own -/
theorem codeOf_eq {K : PySem.W.Frag} {f c : Addr} {oc oc' : Value} {od od' : Option Addr} {fd fd' : FuncData} {sl sl' : Array (Option Value)} (h : K.lookup f = some ⟨oc', od', .func fd', sl'⟩) (hc : fd'.code = .ref c) (la : K.lookup f = some ⟨oc, od, .func fd, sl⟩) : fd.code = .ref c := by
  rw [h] at la
  cases la
  exact hc
/-- the promise of a law with tables -/
def spLawT (K : PySem.W.Frag) (Ps : List Addr) : Sp := fun vs H Q _ => ∃ (a : Addr) (ns : List Int), vs = [.ref a] ∧ SqL K H a (ns.map V.int) ∧ (∀ P ∈ Ps, H P = some (.tbl #[])) ∧ ∀ H', Q (.bl true) H'
/-- the tables of the defs of these names are empty -/
def OwnTabs (K : PySem.W.Frag) (mg : Str → Option Value) (h : Heap) (xs : List Str) : Prop := ∀ x ∈ xs, ∀ f, mg x = some (.ref f) → OwnTab K f h
theorem walk_ofOwns (xs : List Str) {l : PySem.W.OpenLaw} {n k : Nat} {q : Program} {loose : List Str} {XP : (Str → Option Value) → Heap → Prop} {YP : World → Heap → Prop} {d : DefRec} {K : Params → PySem.W.Frag} {CX : World → CXT} {x : Str}
    (hn : l.most = some n) (hn2 : n ≤ sizeLine) (hdf : d.params.defaults = []) (hr : Room k callerA) (hrec : xs.all (fun y => (recsOf q).any fun e => e.name == y) = true) (hY : ∀ (w : World) (h : Heap), YP w h → (K w.params).In h)
    (F : ∀ (w : World) (mg : Str → Option Value) (fa : Addr) (h : Heap), YP w h → (K w.params).In h → h.Ns mainGlobals mg → mg d.name = some (.ref fa) → OwnTabs (K w.params) mg h xs → LawAtS l w (K w.params) (CX w) k n x mg fa h)
    (hCX : ∀ (w : World) (H : Hp) (s : Shared) (e : Value) (s' : Shared), CX w [] H s (fun _ _ _ => False) e s' → False) :
    PySem.W.WalkO q loose XP YP l.row.toRowW d [] (fun f vs => PySem.call f vs) := by
  refine Att.attach_callB hn hdf fun w s₀ s₁ mg mb fa o pm cd doc a vs ns G Y ho hd hcd hmg hobj hints hlen hbits hg => ?_
  have KX := hY w _ Y
  have own : OwnTabs (K w.params) mg s₁.heap xs := fun y hy f hf c P o1 fd1 e dd vs1 sl k1 k2 k3 k4 k5 => by
    obtain ⟨dL, hm, hn1⟩ := List.any_eq_true.mp (List.all_eq_true.mp hrec y hy)
    obtain ⟨a', o', fd', c', P', h1, h2, h3, h4, h5, h6⟩ := G.T.tab dL hm
    rw [beq_iff_eq.mp hn1, hf] at h1
    obtain rfl : f = a' := by injection h1 with h1; injection h1
    rw [KX _ _ k1] at h2
    obtain rfl := Option.some.inj h2
    rw [k2] at h3
    obtain rfl : fd1 = fd' := by injection h3
    rw [k3] at h4
    obtain rfl : c = c' := by injection h4
    obtain ⟨⟨oc, vc, e1, _, e3, e4⟩, hP⟩ := h6
    rw [KX _ _ k4] at e1
    obtain rfl := Option.some.inj e1
    obtain rfl : vs1 = vc := by injection e3
    rw [k5] at e4
    obtain rfl : P = P' := by injection e4 with e4; injection e4
    exact hP
  obtain ⟨fd, cs, sp, hT, nT, C, hb, hsp, hF⟩ := F w mg fa _ Y KX G.T.g hmg own
  exact law_callTs KX G.T.g G.T.b G.T.builtins G.T.nolimit hg hT nT C G.T.bmain hobj hints (Nat.le_trans hlen hn2) hr hF hb (fun H hH hS => hsp H a ns hlen hbits hH hS) fun H e s' => hCX w H s₁ e s'
end Vi

set_option maxRecDepth 100000
set_option maxHeartbeats 1000000
namespace Vi
open PySem L2 Evl
/-! ### isinstance of the bound exception, with fields or without -/
def isX2 (t : Nat → Option Bool) (ex : Exn) : Den := fun _ h => match t ex.cls with
  | some b => .ok (.d (.bl b)) h
  | none => .bad
section
variable {C : Ct} {i : Nat} {e a b c : Expr} {es : List Expr} {pos : Pos}
end
end Vi

set_option maxRecDepth 100000
set_option maxHeartbeats 1000000
namespace Led
section
open PySem PyProof.Rows
variable {M : Model} {prog : Program} {w : World} {A : Around} {E : Value → Shared → Prop} {s : Shared} {K : PySem.W.Frag} {x y C f : Addr} {ox oy : Obj} {od od' : Option Obj}
end
end Led
namespace Vi
open PySem L2 Evl
section
variable {X : Cx} {CX : CXT} {n : Nat} {C f : Addr} {sp : Sp} {E : XK}
end
/-! ### == and != of drawings, isinstance(x, Drawing) -/
structure EqD (K : PySem.W.Frag) (T : DrT K) : Prop where
  si : SlX.SIsi K T.CD
  ne : PySem.W.findIn K (.ref T.CD) "__ne__" = some (some (.builtin "object.__ne__"))
def cmpR (neg : Bool) (g : Pf) (h : Hs) (x y : Vl) : Res Vl := match x, y with
  | .d (.ins 0 ds), .d (.ins 0 es) => match g [.ins 0 ds, .ins 0 es] with
    | .ok (.bl k) => .ok (.d (.bl (k != neg))) h
    | _ => .bad
  | _, _ => .bad
def cmpK (neg : Bool) (g : Pf) (a b : Den) : Den := fun ρ h => (a ρ h).bind fun x h1 => (b ρ h1).bind fun y h2 => cmpR neg g h2 x y
def isiD (f : Den) : Den := fun ρ h => (f ρ h).bind fun x h1 => match x with
  | .d (.ins 0 _) => .ok (.d (.bl true)) h1
  | _ => .bad
section
variable {C : Ct} {T : DrT C.K} {pc : Nat → Addr} {pf : Nat → List Str} {a b : Expr} {pos p p' : Pos} {f g : Den}
end
end Vi

set_option maxRecDepth 100000
set_option maxHeartbeats 1000000
namespace Vi
open PySem L2 Evl
/-! ### plain classes: fields, methods, properties, making -/
/-- a plain class: its number, its address, its fields' names in order -/
structure PlC (C : Ct) (c : Nat) (CA : Addr) (ns : List Str) : Prop where
  lm : ∀ a H vs, C.lm c a H vs ↔ ∃ dx fs, H a = some (.ins CA dx fs) ∧ H dx = some (.own a) ∧ fs.map (·.2) = vs ∧ fs.map (·.1) = ns.take vs.length
  cls : Cls C.K CA
  na : ∀ f ∈ ns, NoAttr C.K CA f
  nd : ns.Nodup
  len : ns.length < 1000
theorem lookup_at : ∀ {fs : List (Str × V)} {i : Nat} {f : Str} {v : V}, (fs.map (·.1)).Nodup → fs[i]? = some (f, v) → fs.lookup f = some v
  | [], i, f, v, _, h => by simp at h
  | (g, x) :: fs, 0, f, v, _, h => by
    simp at h
    obtain ⟨rfl, rfl⟩ := h
    simp [List.lookup]
  | (g, x) :: fs, i + 1, f, v, nd, h => by
    rw [List.map_cons, List.nodup_cons] at nd
    have h' : fs[i]? = some (f, v) := by simpa using h
    have hne : (f == g) = false := by
      rw [beq_eq_false_iff_ne]
      rintro rfl
      exact nd.1 (List.mem_map.mpr ⟨_, List.mem_of_getElem? h', rfl⟩)
    rw [List.lookup_cons, hne]
    exact lookup_at nd.2 h'
theorem lookup_no : ∀ {fs : List (Str × V)} {f : Str}, f ∉ fs.map (·.1) → fs.lookup f = none
  | [], _, _ => rfl
  | (g, x) :: fs, f, h => by
    rw [List.map_cons, List.mem_cons, not_or] at h
    rw [List.lookup_cons, beq_eq_false_iff_ne.mpr h.1]
    exact lookup_no h.2
theorem putF_at : ∀ {fs : List (Str × V)} {i : Nat} {f : Str} {v y : V}, (fs.map (·.1)).Nodup → fs[i]? = some (f, v) → (putF f y fs).map (·.1) = fs.map (·.1) ∧ (putF f y fs).map (·.2) = (fs.map (·.2)).set i y
  | [], i, f, v, y, _, h => by simp at h
  | (g, x) :: fs, 0, f, v, y, _, h => by
    simp at h
    obtain ⟨rfl, rfl⟩ := h
    simp [putF]
  | (g, x) :: fs, i + 1, f, v, y, nd, h => by
    rw [List.map_cons, List.nodup_cons] at nd
    have h' : fs[i]? = some (f, v) := by simpa using h
    have hne : ¬ g = f := by
      rintro rfl
      exact nd.1 (List.mem_map.mpr ⟨_, List.mem_of_getElem? h', rfl⟩)
    obtain ⟨e1, e2⟩ := putF_at (y := y) nd.2 h'
    unfold putF
    rw [if_neg hne]
    exact ⟨by rw [List.map_cons, List.map_cons, e1], by rw [List.map_cons, List.map_cons, e2]; rfl⟩
theorem putF_no : ∀ {fs : List (Str × V)} {f : Str} {y : V}, f ∉ fs.map (·.1) → putF f y fs = fs ++ [(f, y)]
  | [], _, _, _ => rfl
  | (g, x) :: fs, f, y, h => by
    rw [List.map_cons, List.mem_cons, not_or] at h
    unfold putF
    rw [if_neg (fun z => h.1 z.symm), putF_no h.2]
    rfl
theorem dvs_set {K : PySem.W.Frag} {Ly : Lx} {Z m : List Addr} {H : Hp} : ∀ {vs : List V} {xs : List Vl} {i : Nat} {v : V} {x : Vl}, Dvs K Ly Z m H vs xs → Dv K Ly Z m H v x → Dvs K Ly Z m H (vs.set i v) (xs.set i x)
  | _, _, _, _, _, .nil, _ => .nil
  | _, _, 0, _, _, .cons _ qs, d => .cons d qs
  | _, _, i + 1, _, _, .cons q qs, d => .cons q (dvs_set qs d)
def fldM (c i : Nat) (f : Den) : Den := fun ρ h => (f ρ h).bind fun x h1 => match x with
  | .r n => match (h1[n]? : Option Ob) with
    | some (.ins c' fs) => match decide (c' = c), fs[i]? with
      | true, some y => .ok y h1
      | _, _ => .bad
    | _ => .bad
  | _ => .bad
def putM (c i : Nat) (h : Hs) (x y : Vl) : Option Hs := match x with
  | .r n => match (h[n]? : Option Ob) with
    | some (.ins c' fs) => match decide (c' = c), decide (i < fs.length), decide (i = fs.length) with
      | true, true, _ => some (h.set n (.ins c (fs.set i y)))
      | true, false, true => some (h.set n (.ins c (fs ++ [y])))
      | _, _, _ => none
    | _ => none
  | _ => none
def setFM (c i : Nat) (g f : Den) : DenS := fun ρ h => bindS (g ρ h) ρ fun y h1 => bindS (f ρ h1) ρ fun x h2 => match putM c i h2 x y with
  | some h3 => .nx ρ h3
  | none => .bad
section
variable {C : Ct} {c i k n : Nat} {CA : Addr} {ns : List Str} {e o v : Expr} {es : List Expr} {fl mn : Str} {pos p apos pos' : Pos} {f g : Den} {fa : DenA}
/-- what a thing of a class tells -/
theorem insM_at {Z m : List Addr} {H : Hp} {h : Hs} {j : Nat} {fs : List Vl} {u : V} (P : PlC C c CA ns) (r : Rl C Z m H h) (d : Dv C.K C.ly Z m H u (.r j)) (hj : h[j]? = some (.ins c fs)) :
    ∃ a dx gs, m[j]? = some a ∧ u = .ref a ∧ H a = some (.ins CA dx gs) ∧ H dx = some (.own a) ∧ Dvs C.K C.ly Z m H (gs.map (·.2)) fs ∧ gs.map (·.1) = ns.take gs.length := by
  obtain ⟨a, h1, rfl⟩ := d
  obtain ⟨vs, l1, l2⟩ := r.ob j a _ h1 hj
  obtain ⟨dx, gs, e1, e2, rfl, e4⟩ := (P.lm _ _ _).mp l1
  exact ⟨a, dx, gs, h1, rfl, e1, e2, l2, by rw [e4, List.length_map]⟩
theorem nd_take (P : PlC C c CA ns) (j : Nat) : (ns.take j).Nodup := P.nd.sublist (List.take_sublist j ns)
theorem se_fldM (P : PlC C c CA ns) (hi : ns[i]? = some fl) (hb : ∀ env, attributeBase e fl env (eval e env) = eval e env) (he : SE C e f) : SE C (.Attribute e fl pos) (fldM c i f) := ⟨fun X o W tk Z m σ H ρ h Q r env q => by
  refine PEw (pe_fld pe_w (hb _)) (he.run X o W tk Z m σ H ρ h _ r env ((EOk.bind pass_e q).imp fun v H1 ⟨m1, x, h1, e1, r1, d1, q1⟩ => ?_))
  cases x with
  | d y => exact q1.elim
  | r j =>
    dsimp only at q1
    cases z : h1[j]? with
    | none => rw [z] at q1; exact q1.elim
    | some ob =>
      rw [z] at q1
      cases ob with
      | ins c' fs =>
        by_cases hc : c' = c
        · subst hc
          cases z2 : fs[i]? with
          | none => simp only [decide_true, z2] at q1; exact q1.elim
          | some y =>
            simp only [decide_true, z2] at q1
            obtain ⟨a, dx, gs, g1, rfl, g2, g3, g4, g5⟩ := insM_at P r1 d1 z
            obtain ⟨u, hu, du⟩ := dvs_get g4 z2
            rw [List.getElem?_map] at hu
            cases z3 : gs[i]? with
            | none => rw [z3] at hu; cases hu
            | some p =>
              rw [z3] at hu
              cases hu
              have hl := (List.getElem?_eq_some_iff.mp z3).1
              have hf : (gs.map (·.1))[i]? = some fl := by rw [g5, List.getElem?_take, if_pos hl, hi]
              rw [List.getElem?_map, z3] at hf
              have hp : gs[i]? = some (fl, p.2) := by rw [z3]; cases p; cases hf; rfl
              refine ⟨a, CA, dx, gs, p.2, rfl, g2, by rw [o.K]; exact P.cls, by rw [o.K]; exact P.na fl (List.mem_of_getElem? hi), lookup_at (by rw [g5]; exact nd_take P _) hp, q1 _ m1 H1 (Evo.refl _ _) r1 du⟩
        · simp only [decide_eq_false hc] at q1; exact q1.elim
      | _ => exact q1.elim⟩
theorem putM_ok {Z m : List Addr} {H : Hp} {h h3 : Hs} {x y : Vl} {u w : V} (P : PlC C c CA ns) (hi : ns[i]? = some fl) (r : Rl C Z m H h) (d : Dv C.K C.ly Z m H u x) (dy : Dv C.K C.ly Z m H w y) (z : putM c i h x y = some h3) :
    ∃ a dx gs, u = .ref a ∧ H a = some (.ins CA dx gs) ∧ gs.length < 1000 ∧ Rl C Z m (upd H a (.ins CA dx (putF fl w gs))) h3 ∧ Evo m H m (upd H a (.ins CA dx (putF fl w gs))) := by
  unfold putM at z
  cases x with
  | d x => cases z
  | r j =>
    dsimp only at z
    cases z1 : h[j]? with
    | none => rw [z1] at z; cases z
    | some ob =>
      rw [z1] at z
      cases ob with
      | ins c' fs =>
        by_cases hc : c' = c
        · subst hc
          obtain ⟨a, dx, gs, g1, rfl, g2, g3, g4, g5⟩ := insM_at P r d z1
          have hlen : gs.length = fs.length := by have := dvs_len g4; simpa using this
          have hnd : (gs.map (·.1)).Nodup := by rw [g5]; exact nd_take P _
          have hgl : gs.length < 1000 := by
            have := congrArg List.length g5
            rw [List.length_map, List.length_take] at this
            have := P.len
            omega
          have hdx : dx ≠ a := fun q => by rw [q, g2] at g3; cases g3
          have k : Keeps (Z ++ m) H (Z ++ m) (upd H a (.ins CA dx (putF fl w gs))) := keeps_upd (List.mem_append_right _ (List.mem_of_getElem? g1)) (r.notup a (List.mem_of_getElem? g1)) fun fs => r.own a (List.mem_of_getElem? g1) (.inr fs)
          have e : Evo m H m (upd H a (.ins CA dx (putF fl w gs))) := ⟨fun b u hb nb => by rw [upd_ne (fun z : b = a => nb (z ▸ List.mem_of_getElem? g1))]; exact hb, fun b u hb => by
            by_cases z : b = a
            · rw [z, upd_same]; exact ⟨_, rfl⟩
            · rw [upd_ne z]; exact ⟨_, hb⟩, [], by simp, by simp⟩
          have g4' := dvs_mono r e g4
          have dy' := Dv.mono r e dy
          refine ⟨a, dx, gs, rfl, g2, hgl, ?_⟩
          by_cases h1 : i < fs.length
          · simp only [decide_true, decide_eq_true h1] at z
            cases z
            have hpi : ∃ v0, gs[i]? = some (fl, v0) := by
              have hl : i < gs.length := by omega
              have hf : (gs.map (·.1))[i]? = some fl := by rw [g5, List.getElem?_take, if_pos hl, hi]
              rw [List.getElem?_map, List.getElem?_eq_getElem hl] at hf
              refine ⟨gs[i].2, ?_⟩
              rw [List.getElem?_eq_getElem hl]
              have : gs[i].1 = fl := Option.some.inj hf
              rw [← this]
            obtain ⟨v0, hp⟩ := hpi
            obtain ⟨e1, e2⟩ := putF_at (y := w) hnd hp
            refine r.setO g1 (fun xs q => by cases q) (fun x q => by cases x <;> cases q) ⟨(gs.map (·.2)).set i w, (P.lm _ _ _).mpr ⟨dx, _, upd_same, by rw [upd_ne hdx]; exact g3, e2, ?_⟩, dvs_set g4' dy'⟩
            rw [e1, g5, List.length_set, List.length_map]
          · by_cases h2 : i = fs.length
            · simp only [decide_true, decide_eq_false h1, decide_eq_true h2] at z
              cases z
              have hno : fl ∉ gs.map (·.1) := fun hm => by
                rw [g5] at hm
                obtain ⟨j', hj'⟩ := List.getElem?_of_mem hm
                rw [List.getElem?_take] at hj'
                split at hj'
                · rename_i hlt
                  have := nd_inj P.nd hi hj'
                  omega
                · cases hj'
              rw [putF_no hno]
              refine r.setO g1 (fun xs q => by cases q) (fun x q => by cases x <;> cases q) ⟨gs.map (·.2) ++ [w], (P.lm _ _ _).mpr ⟨dx, _, upd_same, by rw [upd_ne hdx]; exact g3, by simp, ?_⟩, ?_⟩
              · rw [List.map_append, g5, List.length_append, List.length_map]
                show _ = ns.take (gs.length + 1)
                rw [List.take_succ]
                have : ns[gs.length]? = some fl := by rw [hlen, ← h2]; exact hi
                rw [this]
                rfl
              · have := putF_no (y := w) hno
                rw [← this]
                exact Dvs.snoc g4' dy'
            · simp only [decide_true, decide_eq_false h1, decide_eq_false h2] at z
              cases z
        · simp only [decide_eq_false hc] at z
          cases z
      | _ => cases z
theorem ss_fldM (P : PlC C c CA ns) (hi : ns[i]? = some fl) (hs : ∀ env, swapsWith v (some (.Attribute e fl pos')) pos.line env = pure false) (hv : SE C v g) (he : SE C e f) : SS C (.Assign [.Attribute e fl pos'] v pos) (setFM c i g f) := ⟨fun X o pn W tk Z m σ H ρ h D r env q => by
  refine PSw (ps_fld pe_w pe_w (hs _)) ?_
  refine hv.run X o W tk Z m σ H ρ h _ r env ((EOk.toS r env q).imp fun u H1 ⟨m1, y, h1, e1, r1, d1, q1⟩ => ?_)
  refine he.run X o W tk Z m1 σ H1 ρ h1 _ r1 (env.mono r e1) ((EOk.toS r1 (env.mono r e1) q1).imp fun w H2 ⟨m2, x, h2, e2, r2, d2, q2⟩ => ?_)
  cases z : putM c i h2 x y with
  | none => rw [z] at q2; exact q2.elim
  | some h3 =>
    rw [z] at q2
    obtain ⟨a, dx, gs, rfl, g2, gl, r3, e3⟩ := putM_ok P hi r2 d2 (d1.mono r1 e2) z
    exact ⟨a, CA, dx, gs, rfl, g2, by rw [o.K]; exact P.cls, by rw [o.K]; exact P.na fl (List.mem_of_getElem? hi), gl, q2 σ m2 _ e3 r3 (((env.mono r e1).mono r1 e2).mono r2 e3)⟩⟩
/-- a new instance, without fields -/
theorem Rl.addI {Z m : List Addr} {H : Hp} {h : Hs} {x dx : Addr} (P : PlC C c CA ns) (r : Rl C Z m H h) (hx : H x = none) (hd : H dx = none) (hne : dx ≠ x) :
    Rl C Z (m ++ [x]) (upd (upd H dx (.own x)) x (.ins CA dx [])) (h ++ [.ins c []]) ∧ Evo m H (m ++ [x]) (upd (upd H dx (.own x)) x (.ins CA dx [])) := by
  have ex : Ex H (upd (upd H dx (.own x)) x (.ins CA dx [])) := fun b u hb => by
    rw [upd_ne (fun z => by rw [z, hx] at hb; cases hb), upd_ne (fun z => by rw [z, hd] at hb; cases hb)]; exact hb
  have e : Evo m H (m ++ [x]) (upd (upd H dx (.own x)) x (.ins CA dx [])) := ⟨fun b u hb _ => ex b u hb, fun b u hb => ⟨u, ex b u hb⟩, [x], rfl, fun b hb => by rw [List.mem_singleton.mp hb]; exact hx⟩
  have k := r.keeps e
  have r1 := r.ex ex
  have xm : x ∉ m := fun z => by obtain ⟨u, hu⟩ := r.ma x z; rw [hx] at hu; cases hu
  have hX : upd (upd H dx (.own x)) x (.ins CA dx []) x = some (.ins CA dx []) := upd_same
  have hD : upd (upd H dx (.own x)) x (.ins CA dx []) dx = some (.own x) := by rw [upd_ne hne, upd_same]
  have lm := r.len
  refine ⟨⟨?_, fun b hb z => ?_, by simp [lm], r1.za, fun b hb xs => ?_, fun b hb y => ?_, fun b hb => ?_, fun i b ob h1 h2 => ?_⟩, e⟩
  · rw [List.nodup_append]
    refine ⟨r.nd, by simp, fun a ha b hb q => ?_⟩
    rw [List.mem_singleton] at hb
    exact xm (by rw [← hb, ← q]; exact ha)
  · rcases List.mem_append.mp hb with hb | hb
    · exact r.disj b hb z
    · rw [List.mem_singleton] at hb
      obtain ⟨u, hu⟩ := r.za b z
      rw [hb, hx] at hu; cases hu
  · rcases List.mem_append.mp hb with hb | hb
    · exact r1.notup b hb xs
    · rw [List.mem_singleton] at hb; rw [hb, hX]; intro q; cases q
  · rcases List.mem_append.mp hb with hb | hb
    · exact r1.own b hb y
    · rw [List.mem_singleton] at hb; rw [hb, hX]; intro q; cases y <;> cases q
  · rcases List.mem_append.mp hb with hb | hb
    · exact r1.ma b hb
    · rw [List.mem_singleton] at hb; rw [hb]; exact ⟨_, hX⟩
  · by_cases hi : i < m.length
    · rw [List.getElem?_append_left hi] at h1
      rw [List.getElem?_append_left (by omega)] at h2
      have q := r.ob i b ob h1 h2
      obtain ⟨u, hu⟩ := r.ma b (List.mem_of_getElem? h1)
      cases ob with
      | lst ds => obtain ⟨vs, q1, q2⟩ := q; exact ⟨vs, ex _ _ q1, q2.mono C.lok k⟩
      | dct ks vs =>
        obtain ⟨kvs, q1, q2, q3⟩ := q
        exact ⟨kvs, ex _ _ q1, ⟨q2.1, q2.2.mono C.lok k⟩, q3.mono r e⟩
      | dck ks vs =>
        obtain ⟨kvs, q1, q2, q3⟩ := q
        exact ⟨kvs, ex _ _ q1, q2, q3.mono r e⟩
      | ins c fs =>
        obtain ⟨vs, q1, q2⟩ := q
        exact ⟨vs, C.lmok.stay _ _ _ _ _ q1 (by rw [hu, ex _ _ hu]) (fun b o hb _ => ex _ _ hb), q2.mono r e⟩
      | gone => obtain ⟨u', hu', hn⟩ := q; exact ⟨u', ex _ _ hu', hn⟩
    · have hl := (List.getElem?_eq_some_iff.mp h1).1
      rw [List.length_append, List.length_singleton] at hl
      have hi2 : i = m.length := by omega
      subst hi2
      rw [List.getElem?_append_right (Nat.le_refl _), Nat.sub_self] at h1
      rw [← lm, List.getElem?_append_right (Nat.le_refl _), Nat.sub_self] at h2
      cases h1
      cases h2
      exact ⟨[], (P.lm _ _ _).mpr ⟨dx, [], hX, hD, rfl, rfl⟩, .nil⟩
end
/-! ### methods, properties, making -/
structure MnI (C : Ct) (CA : Addr) (ns : List Str) (k : Nat) (mn : Str) (n : Nat) (g : If) : Prop where
  ex : ∃ f fd ps, Meth C.K CA mn f ∧ FnOk C.P C.w C.K C.mg C.base (CXV C.dt C.P C.w) k f fd ps (SpI C.g n g) ∧ Binds C.K fd ps []
  no : mn ∉ ns
structure PrI (C : Ct) (CA : Addr) (k : Nat) (fl : Str) (g : If) : Prop where
  ex : ∃ p f fd ps, PropOf C.K CA fl p f ∧ FnOk C.P C.w C.K C.mg C.base (CXV C.dt C.P C.w) k f fd ps (SpI C.g 1 g) ∧ Binds C.K fd ps []
structure MkI (C : Ct) (CA : Addr) (k : Nat) (x : Str) (n : Nat) (g : If) : Prop where
  ex : ∃ f fd ps, L2.Mk C.K CA f ∧ FnOk C.P C.w C.K C.mg C.base (CXV C.dt C.P C.w) k f fd ps (SpI C.g (n + 1) g) ∧ Binds C.K fd ps [] ∧ C.mg x = some (.ref CA)
def isI (c : Nat) (h : Hs) (x : Vl) : Bool := match x with
  | .r j => match (h[j]? : Option Ob) with
    | some (.ins c' _) => decide (c' = c)
    | _ => false
  | _ => false
def callM (c n : Nat) (g : If) (f : Den) (fa : DenA) : Den := fun ρ h => (f ρ h).bind fun x h1 => match isI c h1 x with
  | true => (fa ρ h1).bind fun xs h2 => match decide (xs.length + 1 = n) with
    | true => g (x :: xs) h2
    | false => .bad
  | false => .bad
def propI (c : Nat) (g : If) (f : Den) : Den := fun ρ h => (f ρ h).bind fun x h1 => match isI c h1 x with
  | true => match g [x] h1 with
    | .ok y h2 => .ok y h2
    | _ => .bad
  | false => .bad
def makeI (c n : Nat) (g : If) (fa : DenA) : Den := fun ρ h => (fa ρ h).bind fun xs h1 => match decide (xs.length = n) with
  | true => match g (.r h1.length :: xs) (h1 ++ [.ins c []]) with
    | .ok (.d .non) h2 => .ok (.r h1.length) h2
    | .exc e h2 => .exc e h2
    | _ => .bad
  | false => .bad
section
variable {X : Cx} {CX : CXT} {k : Nat} {f CA : Addr} {fd : FuncData} {ps : List Str} {sp : Sp} {E : L2.St → XK} {mn : Str} {pos apos : Pos} {e o : Expr} {es : List Expr} {ta : TE} {t : TA}
def tMethI (CA : Addr) (mn : Str) (sp : Sp) (E : L2.St → XK) (ta : TE) (t : TA) : TE := fun σ H Q => ta σ H fun x H1 => ∃ a dx fs, x = .ref a ∧ H1 a = some (.ins CA dx fs) ∧ fs.lookup mn = none ∧ t σ H1 fun vs H2 => sp (x :: vs) H2 Q (E σ)
theorem pe_methI0 {g : Addr} {pl : PySem.Sem Bool} (he : PE X o ta) (c : Cls X.K CA) (hm : Meth X.K CA mn g) (F : FnOk X.prog X.w X.K X.mg X.base CX k g fd ps sp) (hb : Binds X.K fd ps []) (hr : Room k X.A) (hx : ∀ σ, PassesAt CX X σ (E σ))
    (ht : eval (.Call (.Attribute o mn apos) [] [] pos) X.env = (do
      let ov ← eval o X.env
      standAt apos.atName
      let (f, first) ← holding [ov] (getMethod ov mn pl)
      callWith pos f first (backTo pos (starEach [] X.env)) (backToKw pos (keywordEach [] X.env)))) :
    PE X (.Call (.Attribute o mn apos) [] [] pos) (tMethI CA mn sp E ta tNil) := ⟨fun pins s σ H Q I h => by
  refine PySem.W.methodCall_KW (pl := pl) (thn (he.run pins s σ H _ I h) fun u s1 hu => ?_) ht
  obtain ⟨x, H1, I1, rx, a, dx, gs, rfl, ea, l, q⟩ := hu
  obtain rfl : u = Value.ref a := rx
  exact getmeth_ok I1 ea c hm l (PySem.W.callWith_K0 (first := [.ref a]) I1.kIn hm.kp (run_fnS (us := [.ref a]) (vs := [.ref a]) F hr hb (hx σ) I1 (.cons rfl .nil) q))⟩
end
section
variable {C : Ct} {c i k n : Nat} {CA : Addr} {ns : List Str} {a e : Expr} {es : List Expr} {fl mn x : Str} {pos p apos : Pos} {f : Den} {fa : DenA} {g : If}
theorem isI_ok {Z m : List Addr} {H : Hp} {h : Hs} {x : Vl} {u : V} (P : PlC C c CA ns) (r : Rl C Z m H h) (d : Dv C.K C.ly Z m H u x) (z : isI c h x = true) : ∃ a dx gs, u = .ref a ∧ H a = some (.ins CA dx gs) ∧ gs.map (·.1) = ns.take gs.length := by
  unfold isI at z
  cases x with
  | d y => cases z
  | r j =>
    dsimp only at z
    cases z1 : h[j]? with
    | none => rw [z1] at z; cases z
    | some ob =>
      rw [z1] at z
      cases ob with
      | ins c' fs =>
        have hc : c' = c := of_decide_eq_true z
        subst hc
        obtain ⟨a, dx, gs, g1, rfl, g2, g3, g4, g5⟩ := insM_at P r d z1
        exact ⟨a, dx, gs, rfl, g2, g5⟩
      | _ => cases z
theorem no_take {gs : List (Str × V)} (hno : mn ∉ ns) (h : gs.map (·.1) = ns.take gs.length) : gs.lookup mn = none := lookup_no (by rw [h]; exact fun z => hno (List.mem_of_mem_take z))
theorem g_ok {W : WX} {Z m : List Addr} {σ : St} {H : Hp} {h : Hs} {Q : VK} {xs : List Vl} {vs : List V} (r1 : Rl C Z m H h) (d1 : Dvs C.K C.ly Z m H vs xs) (hl : xs.length = n) (q1 : EOk C W Z σ m H Q (g xs h)) : SpI C.g n g vs H Q (L2.WE W σ) := by
  refine ⟨Z, m, h, xs, r1.toG, d1, hl, ?_⟩
  cases z2 : g xs h with
  | bad => rw [z2] at q1; exact q1.elim
  | ok d h' => rw [z2] at q1; exact fun v m' H' e' r' di => q1 v m' H' e' r'.toC di
  | exc e h' => rw [z2] at q1; exact fun m' H' d e' r' xr => q1 m' H' d e' r'.toC xr
theorem se_methI0 (P : PlC C c CA ns) (M : MnI C CA ns k mn n g) (hk : k ≤ C.lv) (hc : C.calm = true) {pl : Env → PySem.Sem Bool}
    (ht : ∀ env, eval (.Call (.Attribute a mn apos) [] [] pos) env = (do
      let ov ← eval a env
      standAt apos.atName
      let (f, first) ← holding [ov] (getMethod ov mn (pl env))
      callWith pos f first (backTo pos (starEach [] env)) (backToKw pos (keywordEach [] env)))) (ha : SE C a f) : SE C (.Call (.Attribute a mn apos) [] [] pos) (callM c n g f nilA) := ⟨fun X o W tk Z m σ H ρ h Q r env q => by
  obtain ⟨fn, fd, ps, hm, G, b⟩ := M.ex
  have G' : FnOk X.prog X.w X.K X.mg X.base (CXV C.dt X.prog X.w) k fn fd ps (SpI C.g n g) := by rw [o.prog, o.w, o.K, o.mg, o.base]; exact G
  refine PEw (pe_methI0 (E := L2.WE W) pe_w (by rw [o.K]; exact P.cls) (by rw [o.K]; exact hm) G' (by rw [o.K]; exact b) ((o.room hc).mono hk) (fun σ => passAtV tk σ) (ht _)) (ha.run X o W tk Z m σ H ρ h _ r env ((EOk.bind pass_e q).imp fun v H1 ⟨m1, x, h1, e1, r1, d1, q1⟩ => ?_))
  cases z : isI c h1 x with
  | false => rw [z] at q1; exact q1.elim
  | true =>
    rw [z] at q1
    obtain ⟨a, dx, gs, rfl, g2, g5⟩ := isI_ok P r1 d1 z
    refine ⟨a, dx, gs, rfl, g2, no_take M.no g5, ?_⟩
    have q2 : EOk C W Z σ m1 H1 Q (match decide (([] : List Vl).length + 1 = n) with
      | true => g (x :: []) h1
      | false => .bad) := q1
    by_cases hl : ([] : List Vl).length + 1 = n
    · rw [decide_eq_true hl] at q2
      exact g_ok r1 (.cons d1 .nil) (by simpa using hl) q2
    · rw [decide_eq_false hl] at q2; exact q2.elim⟩
theorem se_makeI (P : PlC C c CA ns) (M : MkI C CA k x n g) (hk : k + 1 ≤ C.lv) (hc : C.calm = true) (hg : GlN C x) (hd : (x == ("__debug__" : Str)) = false) (hs : NoStar e es) (hpl : NoStars es) (hf : SA C (e :: es) fa) : SE C (.Call (.Name x p) (e :: es) [] pos) (makeI c n g fa) := ⟨fun X o W tk Z m σ H ρ h Q r env q => by
  obtain ⟨fn, fd, ps, hm, G, b, gm⟩ := M.ex
  have G' : FnOk X.prog X.w X.K X.mg X.base (CXV C.dt X.prog X.w) k fn fd ps (SpI C.g (n + 1) g) := by rw [o.prog, o.w, o.K, o.mg, o.base]; exact G
  refine PEw (pe_makeS (E := L2.WE W) (by rw [o.K]; exact hm) G' ((o.room hc).mono hk) (o.gl hg) (o.fr gm) (by rw [o.K]; exact b) (fun σ => passAtV tk σ) pa_w hd (hs _) (hpl _ _)) (hf.run X o W tk Z m σ H ρ h _ r env ((AOk.bind pass_e q).imp fun vs H1 ⟨m1, xs, h1, e1, r1, d1, q1⟩ => ?_))
  intro x dx hx hdx hne
  by_cases hl : xs.length = n
  · rw [decide_eq_true hl] at q1
    dsimp only at q1
    obtain ⟨r2, e2⟩ := r1.addI P hx hdx hne
    have hlen : m1.length = h1.length := r1.len.symm
    refine ⟨Z, m1 ++ [x], h1 ++ [.ins c []], .r h1.length :: xs, r2.toG, .cons ⟨x, by rw [← hlen]; simp, rfl⟩ (d1.mono r1 e2), by simp [hl], ?_⟩
    cases z2 : g (.r h1.length :: xs) (h1 ++ [.ins c []]) with
    | bad => rw [z2] at q1; exact q1.elim
    | exc ee h' => rw [z2] at q1; exact fun m' H' d e' r' xr => q1 m' H' d (e2.trans e') r'.toC xr
    | ok y h' =>
      rw [z2] at q1
      cases y with
      | r j => exact q1.elim
      | d y =>
        cases y with
        | non =>
          intro v m' H' e' r' di
          refine ⟨Di.non_inv di, q1 _ m' H' (e2.trans e') r'.toC ⟨x, ?_, rfl⟩⟩
          exact e'.get (by rw [← hlen]; simp)
        | _ => exact q1.elim
  · rw [decide_eq_false hl] at q1; exact q1.elim⟩
end
end Vi

set_option maxRecDepth 100000
set_option maxHeartbeats 1000000
namespace Vi
open PySem L2 Evl
/-! ### defs of plain classes; list(range(n)) -/
section
variable {G : Cg}
theorem fok_mkI {x qual : Str} {st : Stmt} {f : Addr} {fd : FuncData} {N ps : List Str} {k : Nat} {B : DenS} (F : Fun G.K x qual st f fd) (S : FnScope N ps (defScope st))
    (body : SB (G.at N (defScope st) k) (defBody st) B) : FnOk G.P G.w G.K G.mg G.base (CXV G.dt G.P G.w) (k + 1) f fd ps (SpI G ps.length (runI N.length B)) := by
  refine funOkV F S (fun vs H Q E h => ?_) (fun cdv A outer s H vs Q E hr h => ?_)
  · obtain ⟨Z, m, hh, xs, _, h1, h2, _⟩ := h
    rw [dvs_len h1, h2]
  · obtain ⟨Z, m, hh, xs, rl, h1, h2, h3⟩ := h
    refine ⟨_, pb_w, body.run _ (of_cx hr) ⟨passes_of rfl, rfl, rfl⟩ _ (takes_ofV (E := E) rfl rfl rfl rfl) Z m _ H (xs.map some ++ List.replicate (N.length - xs.length) none) hh _ rl.toAt (env_startI h1) ?_⟩
    unfold runI at h3
    cases z : B (xs.map some ++ List.replicate (N.length - xs.length) none) hh with
    | nx ρ h => rw [z] at h3; exact fun σ' m' H' e' r' en' => h3 .non m' H' e' r'.ofAt Di.non
    | rt y h => rw [z] at h3; exact fun v m' H' e' r' dv => h3 v m' H' e' r'.ofAt dv
    | bk ρ h => rw [z] at h3; exact h3.elim
    | ct ρ h => rw [z] at h3; exact h3.elim
    | bad => rw [z] at h3; exact h3.elim
    | exc e ρ h => rw [z] at h3; exact fun σ' m' H' d e' r' en' ex => h3 m' H' d e' r'.ofAt ex
theorem mki_mk {y x qual : Str} {st : Stmt} {f CA : Addr} {fd : FuncData} {N ps : List Str} {k n : Nat} {B : DenS} (F : Fun G.K x qual st f fd) (S : FnScope N ps (defScope st)) (b : Binds G.K fd ps []) (hn : ps.length = n + 1) (M : L2.Mk G.K CA f) (gm : G.mg y = some (.ref CA))
    (body : SB (G.at N (defScope st) k) (defBody st) B) : MkI G.ct CA (k + 1) y n (runI N.length B) := ⟨f, fd, ps, M, by have := fok_mkI F S body; rw [hn] at this; exact this, b, gm⟩
end
/-- list(range(n)) -/
def lrF (f : Den) : DenD := fun ρ h => (f ρ h).bind fun x h1 => match x with
  | .d (.int n) => match decide (0 ≤ n) && decide (n ≤ 100000) with
    | true => .ok (.lst (rngD 0 n.toNat)) h1
    | false => .bad
  | _ => .bad
section
variable {C : Ct} {e : Expr} {p p' p0 pos : Pos} {f : Den}
end
end Vi

set_option maxRecDepth 100000
set_option maxHeartbeats 1000000
namespace Vi
open PySem L2 Evl
/-! ### xs[::-1] -/
def revF (f : Den) : DenD := fun ρ h => (f ρ h).bind fun x h1 => match x with
  | .d (.lst l) => match decide (l.length ≤ 100000) with
    | true => .ok (.lst l.reverse) h1
    | false => .bad
  | _ => .bad
section
variable {C : Ct} {e : Expr} {p1 p2 p3 pos : Pos} {f : Den} {k : Nat}
end
end Vi

set_option maxRecDepth 100000
set_option maxHeartbeats 1000000
namespace Vi
open PySem L2 Evl
/-! ### o.f += e in plain classes -/
def fldG (c i : Nat) (h : Hs) : Vl → Option Vl
  | .r n => match (h[n]? : Option Ob) with
    | some (.ins c' fs) => match decide (c' = c) with
      | true => fs[i]?
      | false => none
    | _ => none
  | _ => none
def augM (c i : Nat) (f g : Den) : DenS := fun ρ h => bindS (f ρ h) ρ fun x h1 => match fldG c i h1 x with
  | some (.d (.int a)) => bindS (g ρ h1) ρ fun y h2 => match y with
    | .d (.int b) => match putM c i h2 x (.d (.int (a + b))) with
      | some h3 => .nx ρ h3
      | none => .bad
    | _ => .bad
  | _ => .bad
section
variable {C : Ct} {c i : Nat} {CA : Addr} {ns : List Str} {e o v : Expr} {fl : Str} {pos pos' : Pos} {f g : Den}
theorem fldG_ok {Z m : List Addr} {H : Hp} {h : Hs} {x y : Vl} {u : V} (P : PlC C c CA ns) (hi : ns[i]? = some fl) (r : Rl C Z m H h) (d : Dv C.K C.ly Z m H u x) (z : fldG c i h x = some y) :
    ∃ a dx gs w, u = .ref a ∧ H a = some (.ins CA dx gs) ∧ gs.lookup fl = some w ∧ Dv C.K C.ly Z m H w y := by
  unfold fldG at z
  cases x with
  | d x => cases z
  | r j =>
    dsimp only at z
    cases z1 : h[j]? with
    | none => rw [z1] at z; cases z
    | some ob =>
      rw [z1] at z
      cases ob with
      | ins c' fs =>
        by_cases hc : c' = c
        · subst hc
          simp only [decide_true] at z
          obtain ⟨a, dx, gs, g1, rfl, g2, g3, g4, g5⟩ := insM_at P r d z1
          obtain ⟨w, hw, dw⟩ := dvs_get g4 z
          rw [List.getElem?_map] at hw
          cases z3 : gs[i]? with
          | none => rw [z3] at hw; cases hw
          | some p =>
            rw [z3] at hw
            cases hw
            have hl := (List.getElem?_eq_some_iff.mp z3).1
            have hf : (gs.map (·.1))[i]? = some fl := by rw [g5, List.getElem?_take, if_pos hl, hi]
            rw [List.getElem?_map, z3] at hf
            have hp : gs[i]? = some (fl, p.2) := by rw [z3]; cases p; cases hf; rfl
            exact ⟨a, dx, gs, p.2, rfl, g2, lookup_at (by rw [g5]; exact nd_take P _) hp, dw⟩
        · simp only [decide_eq_false hc] at z; cases z
      | _ => cases z
theorem ss_augM {tpos : Pos} (P : PlC C c CA ns) (hi : ns[i]? = some fl) (he : SE C e f) (hv : SE C v g) : SS C (.AugAssign (.Attribute e fl tpos) .Add v pos) (augM c i f g) := ⟨fun X o pn W tk Z m σ H ρ h D r env q => by
  refine PSw (ps_fldaug pe_w pe_w L2.in_add) ?_
  refine he.run X o W tk Z m σ H ρ h _ r env ((EOk.toS r env q).imp fun u H1 ⟨m1, x, h1, e1, r1, d1, q1⟩ => ?_)
  cases z : fldG c i h1 x with
  | none => rw [z] at q1; exact q1.elim
  | some y0 =>
    rw [z] at q1
    cases y0 with
    | r n => exact q1.elim
    | d y0 =>
      cases y0 with
      | int a0 =>
        dsimp only at q1
        obtain ⟨a, dx, gs, w, rfl, g2, g3, dw⟩ := fldG_ok P hi r1 d1 z
        have hw := Di.int_inv (show Di C.K C.ly (Z ++ m1) H1 w (.int a0) from dw)
        subst hw
        refine ⟨a, CA, dx, gs, _, rfl, g2, by rw [o.K]; exact P.cls, by rw [o.K]; exact P.na fl (List.mem_of_getElem? hi), g3, ?_⟩
        refine hv.run X o W tk Z m1 σ H1 ρ h1 _ r1 (env.mono r e1) ((EOk.toS r1 (env.mono r e1) q1).imp fun w2 H2 ⟨m2, y, h2, e2, r2, d2, q2⟩ => ?_)
        cases y with
        | r n => exact q2.elim
        | d y =>
          cases y with
          | int b =>
            dsimp only at q2
            rw [Di.int_inv d2]
            cases z4 : putM c i h2 x (.d (.int (a0 + b))) with
            | none => rw [z4] at q2; exact q2.elim
            | some h3 =>
              rw [z4] at q2
              obtain ⟨a', dx', gs', ha', g2', gl, r3, e3⟩ := putM_ok P hi r2 (d1.mono r1 e2) (Dv.of (.int (a0 + b))) z4
              cases ha'
              exact ⟨a0, b, rfl, rfl, dx', gs', g2', gl, q2 σ m2 _ e3 r3 (((env.mono r e1).mono r1 e2).mono r2 e3)⟩
          | _ => exact q2.elim
      | _ => exact q1.elim⟩
end
end Vi

set_option maxRecDepth 100000
set_option maxHeartbeats 1000000
namespace Vi
open PySem L2 Evl
/-! ### dicts whose keys are ints -/
def findI : List Dt → Int → Option Nat
  | [], _ => none
  | .int j :: ks, i => match decide (j = i) with
    | true => some 0
    | false => (findI ks i).map (· + 1)
  | _ :: ks, i => (findI ks i).map (· + 1)
def repI : List Dt → Int → List Vl → Vl → List Vl
  | .int j :: ks, i, v :: vs, y => (match decide (j = i) with
    | true => y
    | false => v) :: repI ks i vs y
  | _ :: ks, i, v :: vs, y => v :: repI ks i vs y
  | _, _, vs, _ => vs
def putKI (ks : List Dt) (i : Int) : List Dt := match findI ks i with
  | some _ => ks
  | none => ks ++ [.int i]
def putVI (ks : List Dt) (vs : List Vl) (i : Int) (y : Vl) : List Vl := match findI ks i with
  | some _ => repI ks i vs y
  | none => vs ++ [y]
def dck0 : DenD := fun _ h => .ok (.dck [] []) h
def atKV (h : Hs) (x : Vl) : Option (List Dt × List Vl) := match x with
  | .r n => match (h[n]? : Option Ob) with
    | some (.dck ks vs) => some (ks, vs)
    | _ => none
  | _ => none
def getKV (f k g : Den) : Den := fun ρ h => (f ρ h).bind fun x h1 => match atKV h1 x with
  | some _ => (k ρ h1).bind fun kx h2 => (g ρ h2).bind fun gx h3 => match kx, atKV h3 x with
    | .d (.int i), some (ks, vs) => match findI ks i with
      | some j => match vs[j]? with
        | some y => .ok y h3
        | none => .bad
      | none => .ok gx h3
    | _, _ => .bad
  | none => .bad
def ixKV (f k : Den) : Den := fun ρ h => (f ρ h).bind fun x h1 => (k ρ h1).bind fun kx h2 => match kx, atKV h2 x with
  | .d (.int i), some (ks, vs) => match findI ks i with
    | some j => match vs[j]? with
      | some y => .ok y h2
      | none => .bad
    | none => .bad
  | _, _ => .bad
def setKV (f g k : Den) : DenS := fun ρ h => bindS (f ρ h) ρ fun y h1 => bindS (g ρ h1) ρ fun d h2 => bindS (k ρ h2) ρ fun x h3 => match d, x with
  | .r n, .d (.int i) => match (h3[n]? : Option Ob) with
    | some (.dck ks vs) => match decide (ks.length < 100000) with
      | true => .nx ρ (h3.set n (.dck (putKI ks i) (putVI ks vs i y)))
      | false => .bad
    | _ => .bad
  | _, _ => .bad
section
variable {C : Ct} {a b e : Expr} {f g k : Den} {pos p p1 p2 p' : Pos}
end
end Vi

set_option maxRecDepth 100000
set_option maxHeartbeats 1000000
namespace L2
open PySem PySem.Spec PyProof.Rows HT
section
variable {prog : Program} {w : World} {A : Around} {E : Value → Shared → Prop} {s : Shared}
end
section
variable {X : Cx}
/-- t[::-1] -/
def tRevT (K : PySem.W.Frag) (te : TE) : TE := fun σ H Q => te σ H fun x H1 => ∃ a xs, x = .ref a ∧ SqT K H1 a xs ∧ ∀ p, H1 p = none → Q (.ref p) (upd H1 p (.tup xs.reverse))
end
end L2

namespace Vi
open PySem L2 Evl
/-! ### t[::-1] -/
def revT (f : Den) : Den := fun ρ h => (f ρ h).bind fun x h1 => match x with
  | .d (.tup l) => match decide (l.length ≤ 100000) with
    | true => .ok (.d (.tup l.reverse)) h1
    | false => .bad
  | _ => .bad
section
variable {C : Ct} {e e2 : Expr} {p p' p0 p1 p2 p3 pos : Pos} {f g : Den} {k : Nat}
/-! ### list(range(a, b)) -/
def lrF2 (f g : Den) : DenD := fun ρ h => (f ρ h).bind fun x h1 => (g ρ h1).bind fun y h2 => match x, y with
  | .d (.int a), .d (.int b) => match decide (0 ≤ a) && decide (a ≤ b) && decide (b ≤ 100000) with
    | true => .ok (.lst (rngD a (b - a).toNat)) h2
    | false => .bad
  | _, _ => .bad
end
end Vi

set_option maxRecDepth 100000
set_option maxHeartbeats 1000000
/-! an exception out of a comprehension -/
namespace PySem
namespace HandSPX
section
variable {M : Model} {A : Around} {E : Value → Shared → Prop} {s : Shared} {Z : Obj → Prop} {base : Heap} {env : Env} {outer l : List Env} {L e : Addr} {fl : Value}
/-- noted by another frame's number -/
theorem looks_offZ {Q : Unit → Shared → Prop} (hZ : PXN.Steady1 Z) (hfr : A.frames = some (env :: outer)) (hf : env.frame = some L) (hkb : base.StaysIn s.heap) (hen : base.get? e = none) (hl : s.heap.FunFrames base (env :: outer)) (ht : TracedZ s.heap base e Z fl) (hne : (fl == rawInt L) = false)
    (hQ : ∀ h', HeldZ base (env :: outer) e Z L h' → s.heap.UpToSlots h' → Q () { s with heap := h' }) : wpAny M A (noteFrame (.ref e) env) Q E s := by
  obtain ⟨oe, vs, T, oT, ts, he, hz, hd, h1, hnT, hTe, hT, hdT, h3⟩ := ht
  unfold noteFrame
  simp only [hf]
  refine wpAny_bind (wpAny_field he hd h1 ?_)
  rw [if_pos (show (Value.ref T != Value.none) = true from by simp)]
  refine wpAny_bind (wpAny_field hT hdT h3 ?_)
  rw [if_neg (show ¬ ((fl == rawInt L) = true) from by rw [hne]; simp)]
  refine wpAny_bind (wpAny_setField hT hdT (Array.getElem?_eq_some_iff.mp h3).1 ?_)
  have other : ∀ b, b ≠ T → (s.heap.update T (Obj.mapFields (·.setIfInBounds 3 Value.none))).get? b = s.heap.get? b := fun b hb => Heap.get?_update_other _ _ (Ne.symm hb)
  have noRecord : ∀ b o, s.heap.get? b = some o → (∀ vs, o.data ≠ .fields vs) → b ≠ T := fun b o hb hnf q => by
    rw [q, hT] at hb; injection hb with hb; subst hb; exact hnf ts hdT
  refine PXN.wpAny_entryZ hZ hfr (hl.of_keeps fun b o hb hnf => ⟨o, (other b (noRecord b o hb hnf)).trans hb, rfl⟩) hf ((other e (Ne.symm hTe)).trans he)
    (fun b o hbo => (other b fun q => by rw [q, hnT] at hbo; cases hbo).trans (hkb b o hbo)) hen hd (Array.getElem?_eq_some_iff.mp h1).1 hz fun h' hN => ?_
  obtain ⟨x1, x2, x3, x4⟩ := hN
  exact hQ h' ⟨x1, hen, x2, x3⟩ fun b o hb hnf => x4 b o ((other b (noRecord b o hb hnf)).trans hb) hnf
theorem TracedZ.sameBut {h h' : Heap} {C : Addr} {m : Str → Option Value} (hn : h.Ns C m) (hs : Heap.SameBut C h h') (ht : TracedZ h base e Z fl) : TracedZ h' base e Z fl := by
  obtain ⟨oe, vs, T, oT, ts, he, hz, hd, h1, hnT, hTe, hT, hdT, h3⟩ := ht
  obtain ⟨oC, es, ep, hoC, hdC, _⟩ := hn
  have ne : ∀ {b o vs}, h.get? b = some o → o.data = .fields vs → b ≠ C := fun hb hd q => by
    rw [q, hoC] at hb; injection hb with hb; subst hb; rw [hdC] at hd; cases hd
  exact ⟨oe, vs, T, oT, ts, (hs.2 e (ne he hd)).trans he, hz, hd, h1, hnT, hTe, (hs.2 T (ne hT hdT)).trans hT, hdT, h3⟩
theorem TracedZ.base' {h base' : Heap} (ht : TracedZ h base e Z fl) (hb : ∀ b, base.get? b = none → base'.get? b = none) : TracedZ h base' e Z fl := by
  obtain ⟨oe, vs, T, oT, ts, he, hz, hd, h1, hnT, r⟩ := ht
  exact ⟨oe, vs, T, oT, ts, he, hz, hd, h1, hb T hnT, r⟩
/-- held by the def's own frame: the block goes, the exception flies on -/
theorem compFailsZ {cenv : Env} {m : Str → Option Value} (hf : cenv.frame = some L) (hbC : base.get? cenv.locals = none) (hn : s.heap.Ns cenv.locals m) (hh : HeldZ base l e Z L s.heap)
    (hQ : ∀ h', HeldZ base l e Z L h' → (∀ b o, s.heap.get? b = some o → b ≠ cenv.locals → (∀ vs, o.data ≠ .fields vs) → ∃ sl, h'.get? b = some { o with slots := sl }) → E (.ref e) { s with heap := h' }) :
    CompFails M A E cenv (.ref e) s := by
  refine ⟨m, hn, fun h₂ m₂ hn₂ hs₂ => ?_⟩
  obtain ⟨b1, b0, f1, t1⟩ := hh
  have b2 : base.StaysIn h₂ := fun b o hb => (hs₂.2 b fun q => by rw [q, hbC] at hb; cases hb).trans (b1 b o hb)
  have f2 : h₂.FunFrames base l := Heap.FunFrames.sameBut hs₂ hn₂ f1
  have t2 := t1.sameBut hn hs₂
  obtain ⟨oe, vs, T, oT, ts, he, hc, hd, h1, r⟩ := id t2
  unfold passOn
  refine wpAny_bind (wpAny_field (s := { s with heap := h₂ }) he hd h1 ?_)
  rw [if_neg (show ¬ ((Value.ref T == Value.none) = true) from by simp)]
  rw [hf]
  refine wpAny_bind (setFlight_onZ (s := { s with heap := h₂ }) (l := l) ⟨b2, b0, f2, t2⟩ fun h₃ hh3 up3 => ?_)
  refine wpAny_throw ?_
  exact hQ h₃ hh3 fun b o hb hbL hnf => up3 b o ((hs₂.2 b hbL).trans hb) hnf
end
end HandSPX
end PySem
namespace L2
open PySem PySem.Spec PyProof.Rows
theorem rawInt_ne {a b : Addr} (h : a ≠ b) : (rawInt a == rawInt b) = false := by
  rw [beq_eq_false_iff_ne]
  intro z
  simp [rawInt] at z
  first | exact h z | exact h (by omega) | exact h (Int.ofNat.inj z)
/-- an exception in the air, of which Z is known -/
def XEZ (Z : Value → Option Addr → Obj → Prop) (X : Cx) (W : WX) (u : Value) (s' : Shared) : Prop :=
  ∃ (a : Addr) (B : Heap) (sI : Shared) (pins : List (Addr × Obj)) (σ : St) (H : Hp) (cls : Value) (d : Option Addr),
    u = .ref a ∧ Inv X pins σ H sI ∧ (∀ b o, sI.heap.get? b = some o → b ∉ frs X.stack → B.get? b = some o) ∧ sI.heap.UpToSlots s'.heap ∧
      Sky B X.stack a (Z cls d) X.env.locals s'.heap ∧ H a = none ∧ s'.os = sI.os ∧ AllBare s'.gens ∧ W cls d σ H
/-- the air of a comprehension's block is the air of its def -/
theorem comp_raisesZ {Z : Value → Option Addr → Obj → Prop} (hZ : ∀ c d, PXN.Steady1 (Z c d)) {X : Cx} {pins : List (Addr × Obj)} {σ : St} {H3 : Hp} {s3 : Shared} {fp : List Addr} {scope : Scope} {cl : List (Str × Addr)} {pn : List (Addr × Obj)} {xe : Value → Shared → Prop} {W : WX} {u : Value} {s' : Shared}
    (I3 : Inv X pins σ H3 s3) (f3 : ∀ b ∈ fp, FpOk X pins H3 b ∧ b < s3.heap.objs.size) (hs : X.stack = X.env :: X.outer) (hf : X.env.frame = some X.env.locals) (tk : ∀ u s', XEZ Z X W u s' → X.xe u s')
    (x : XEZ Z ((X.blk s3 H3 scope (compEnvC scope cl s3.heap.objs.size X.env) fp).tr pn xe) (fun cls d _ H => W cls d σ H) u s') :
    notedBy (model X.prog X.w) X.A (compEnvC scope cl s3.heap.objs.size X.env) (CompFails (model X.prog X.w) X.A X.xe (compEnvC scope cl s3.heap.objs.size X.env)) u s' := by
  obtain ⟨a, B, sI, pins', σ', H', cls, d, rfl, I, nb, up, sky, na, os, ag, w⟩ := x
  generalize hce : compEnvC scope cl s3.heap.objs.size X.env = ce at *
  have cL : ce.locals = s3.heap.objs.size := by subst hce; rfl
  have cF : ce.frame = X.env.frame := by subst hce; rfl
  have I7 : Inv X pins σ H' sI := I3.call' (ch := fp) I.os I.base I.hok I.bare fun b hb => ⟨(f3 b hb).1.2.2.2.1, (f3 b hb).1.2.1, (f3 b hb).1.2.2.2.2.1, (f3 b hb).1.2.2.2.2.2⟩
  have nC : H' ce.locals = none := I.free
  obtain ⟨m, hn, _⟩ := I.loc
  have hn : sI.heap.Ns ce.locals m := hn
  have fC : FpOk X pins H' ce.locals := by rw [cL] at nC ⊢; exact I3.fpOk (Nat.le_refl _) nC
  obtain ⟨f0, f1, f2, f4, f5, f6⟩ := fC
  have hfr : X.A.frames = some (X.env :: X.outer) := by rw [I7.ok.frames, hs]
  have hnC : s'.heap.Ns ce.locals m := up.ns hn
  have hLC : ce.locals ≠ X.env.locals := f1
  have bC : ∀ b, B.get? b = none → (PySem.W.hideAll B [ce.locals]).get? b = none := fun b hb => by
    cases q : (PySem.W.hideAll B [ce.locals]).get? b with
    | none => rfl
    | some o => rw [PySem.W.of_hideAll _ q] at hb; cases hb
  have fin : ∀ h1, HandSPX.HeldZ B X.stack a (Z cls d) X.env.locals h1 → s'.heap.UpToSlots h1 → CompFails (model X.prog X.w) X.A X.xe ce (.ref a) { s' with heap := h1 } := fun h1 hh up1 => by
    obtain ⟨b1, b0, ff, tr⟩ := hh
    refine HandSPX.compFailsZ (base := PySem.W.hideAll B [ce.locals]) (l := X.stack) (L := X.env.locals) (Z := Z cls d) (cF.trans hf) (PySem.W.hideAll_none _ (by simp)) (up1.ns hnC) ⟨fun b o hb => b1 b o (PySem.W.of_hideAll _ hb), bC a b0, funFrames_none ff fun b hb => ?_, tr.base' bC⟩ fun h3 hh3 up3 => ?_
    · refine bC b ?_
      obtain ⟨z, _⟩ := ff.mem hb
      exact z
    · refine tk (.ref a) _ ⟨a, PySem.W.hideAll B [ce.locals], { sI with heap := PySem.W.hideAll sI.heap [ce.locals] }, pins, σ, H', cls, d, rfl, I7.turned (t' := sI.toks) (it := ce.locals) (fun b o hb e => PySem.W.hideAll_get _ e (by simpa using hb)) f0 f1 f4 f5 f6, fun b o e hb => ?_, fun b o e hnf => ?_, .inr (.inr hh3), na, os, ag, w⟩
      · have hbC : b ≠ ce.locals := fun z => by rw [z, PySem.W.hideAll_none _ (by simp)] at e; cases e
        exact PySem.W.hideAll_get _ (nb b o (PySem.W.of_hideAll _ e) hb) (by simpa using hbC)
      · have hbC : b ≠ ce.locals := fun z => by rw [z, PySem.W.hideAll_none _ (by simp)] at e; cases e
        obtain ⟨sl, e1⟩ := up b o (PySem.W.of_hideAll _ e) hnf
        obtain ⟨sl2, e2⟩ := up1 b _ e1 hnf
        obtain ⟨sl3, e3⟩ := up3 b _ e2 hbC hnf
        exact ⟨sl3, e3⟩
  show wpAny _ _ (noteFrame (.ref a) ce) _ _ s'
  rw [noteFrame_env _ cF]
  have sky : Sky B X.stack a (Z cls d) ce.locals s'.heap := sky
  rw [hs] at sky fin
  rcases sky with ⟨hB, hn0, hl, oe, vs, he, hz, hd, h1⟩ | fl | hd
  · exact PXN.look_newZ (hZ cls d) hfr hl hf he hB hn0 hd h1 hz fin
  · exact PXN.looks_onZ (hZ cls d) hfr hf fl fin
  · obtain ⟨k1, k2, k3, k4⟩ := hd
    exact HandSPX.looks_offZ (hZ cls d) hfr hf k1 k2 k3 k4 (rawInt_ne hLC) fin
end L2

set_option maxRecDepth 100000
set_option maxHeartbeats 2000000
/-! comprehensions whose element may raise -/
namespace L2
open PySem PySem.Spec PyProof.Rows
section
variable {X : Cx}
theorem ends_post {M : Model} {A : Around} {E : Value → Shared → Prop} {use : Option (Value → Sem Unit)} {Qf : Value → Shared → Prop} {acc : Value} {cenv : Env} {s' : Shared} {C : Addr} (hC : cenv.locals = C) (h : compPost M A E use Qf acc C (.ok .next) s') : compEnds M A E use Qf acc cenv (.ok .next) s' := by
  subst hC
  cases use <;> exact h
theorem ends_err {M : Model} {A : Around} {E : Value → Shared → Prop} {use : Option (Value → Sem Unit)} {Qf : Value → Shared → Prop} {acc : Value} {cenv : Env} : (fun (e : Value) (s' : Shared) => compEnds M A E use Qf acc cenv (.error e) s') = CompFails M A E cenv := by
  funext e s'
  cases use <;> rfl
/-- [elt for target in iter if ..], the element may raise; W, σ: what is wished of an exception -/
theorem lc_coreX {pins : List (Addr × Obj)} {s : Shared} {σ : St} {H : Hp} {Q : VK} {elt tg iter : Expr} {ifs : List Expr} {scope : Scope} {own : List (Str × Nat)} {pos pos' : Pos} {wi : TI} {g : TG} {tt : TT} {te : TE} {use : Option (Value → Sem Unit)} {Qf : Value → Shared → Prop} {W : WX}
    (hc : X.calm = true) (hN : X.N.Nodup) (I : Inv X pins σ H s) (hst : X.stack = X.env :: X.outer) (hfm : X.env.frame = some X.env.locals) {dt : Value → Prop} (tk : Vi.TakesV dt X W) (hi : PI X tg iter wi) (ok : BlkOk X.N X.env.scope scope own)
    (hg : ∀ (s : Shared) (H : Hp) (C : Addr) (cl : List (Str × Addr)) (fp : List Addr), PG (X.blk s H scope (compEnvC scope cl C X.env) fp) tg g) (ht : ∀ (s : Shared) (H : Hp) (C : Addr) (cl : List (Str × Addr)) (fp : List Addr), PTs (X.blk s H scope (compEnvC scope cl C X.env) fp) ifs tt)
    (he : ∀ (s : Shared) (H : Hp) (C : Addr) (cl : List (Str × Addr)) (fp : List Addr) (pn : List (Addr × Obj)) (xe : Value → Shared → Prop), Vi.TakesV dt ((X.blk s H scope (compEnvC scope cl C X.env) fp).tr pn xe) (fun cls d _ H => W cls d σ H) → PE ((X.blk s H scope (compEnvC scope cl C X.env) fp).tr pn xe) elt te) (hs : ∀ x, foldedSetIterable iter X.env x = pure x)
    (h : tLc wi g tt te (own.map (·.2)) σ H Q)
    (hRR : ∀ D C s' m H', Inv X pins σ H' s' → Q (.ref D) H' → s'.heap.Ns C m → FpOk X pins H' C → compPost (model X.prog X.w) X.A X.xe use Qf (.ref D) C (.ok .next) s') :
    wpAny (model X.prog X.w) X.A (comprehension (.ListComp elt [⟨tg, iter, ifs, 0⟩] scope pos) scope X.env pos' (newList []) false (eval iter X.env) use) Qf X.xe s := by
  have hfree : ∀ y ∈ scope.names, y.2 = .free → ∃ c, X.env.cells.lookup y.1 = some c := fun y hy e => by
    rcases ok.free y hy e with k | k
    · exact I.ok.has _ (.inl k)
    · exact I.ok.has _ (.inr k)
  refine comprehension_at (use := use) rfl hs (closure_ok hfree) ok.kind (fun y hy e => by rw [ok.uniq y hy, e])
    (thn (hi.run pins s σ H _ I h) fun xv s1 hx => thn hx fun itv s2 h2 => ?_)
  obtain ⟨it, fp, tn, J, H2, e, I2, T, st2, f2, q⟩ := h2
  subst e
  refine wpAny_newObj_type (newEnv_comp ?_) (by show 0 ≤ sizeLine; decide)
  generalize hD : s2.heap.objs.size = D
  have hDn : H2 D = none := I2.hok.fresh (Nat.le_of_eq hD)
  obtain ⟨Wm, ⟨m0, w0⟩, turn⟩ := q D hDn
  generalize hs3 : ({ s2 with heap := s2.heap.push { cls := .type "list", data := .seq ([] : List Value).toArray } } : Shared) = s3
  have I3 : Inv X pins σ (upd H2 D (.lst [])) s3 := by
    rw [← hs3]
    refine I2.laid (t' := s2.toks) (fun b o e => Heap.get?_push_of_some _ e) (Nat.le_of_eq hD) ⟨Nat.zero_le _, [], 0, .nil, ?_⟩
    rw [← hD]
    exact Heap.get?_push_size _ rfl
  have h3 : s3.heap = s2.heap.push { cls := .type "list", data := .seq ([] : List Value).toArray } := by rw [← hs3]
  have sz : ∀ b ∈ fp, b < s2.heap.objs.size := fun b hb => by
    obtain ⟨o, e, _⟩ := T.obj _ _ st2 b hb
    exact Heap.lt_size e
  have f3 : ∀ b ∈ fp, FpOk X pins (upd H2 D (.lst [])) b ∧ b < s3.heap.objs.size := fun b hb => by
    have hlt := sz b hb
    refine ⟨⟨?_, (f2 b hb).2⟩, by rw [h3, Heap.size_push]; exact Nat.lt_succ_of_lt hlt⟩
    rw [upd_ne (by rw [← hD]; exact Nat.ne_of_lt hlt)]
    exact (f2 b hb).1
  have st3 : tn 0 s3.heap := T.keep _ _ _ st2 fun b _ o e => by rw [h3]; exact Heap.get?_push_of_some _ e
  have I4 := block_start I3 ok hN f3
  have pg := hg s3 (upd H2 D (.lst [])) s3.heap.objs.size (cellsFrom (s3.heap.objs.size + 1) scope.names (cloFrom X.env.cells scope.names [])) fp
  have pt := ht s3 (upd H2 D (.lst [])) s3.heap.objs.size (cellsFrom (s3.heap.objs.size + 1) scope.names (cloFrom X.env.cells scope.names [])) fp
  have pe := he s3 (upd H2 D (.lst [])) s3.heap.objs.size (cellsFrom (s3.heap.objs.size + 1) scope.names (cloFrom X.env.cells scope.names [])) fp
  have rs : ∀ (Z : Value → Option Addr → Obj → Prop) (W' : WX), (∀ c d, PXN.Steady1 (Z c d)) → (∀ u s', XEZ Z X W' u s' → X.xe u s') → ∀ (pn : List (Addr × Obj)) (xe : Value → Shared → Prop) (u : Value) (s' : Shared), XEZ Z ((X.blk s3 (upd H2 D (.lst [])) scope (compEnvC scope (cellsFrom (s3.heap.objs.size + 1) scope.names (cloFrom X.env.cells scope.names [])) s3.heap.objs.size X.env) fp).tr pn xe) (fun cls d _ H => W' cls d σ H) u s' →
      notedBy (model X.prog X.w) X.A (compEnvC scope (cellsFrom (s3.heap.objs.size + 1) scope.names (cloFrom X.env.cells scope.names [])) s3.heap.objs.size X.env) (CompFails (model X.prog X.w) X.A X.xe (compEnvC scope (cellsFrom (s3.heap.objs.size + 1) scope.names (cloFrom X.env.cells scope.names [])) s3.heap.objs.size X.env)) u s' := fun Z W' hZ tkz pn xe u s' x => comp_raisesZ hZ I3 f3 hst hfm tkz x
  show codeAny _ _ (.compStart (.ListComp elt [⟨tg, iter, ifs, 0⟩] scope pos) 0 (.ref it) (.ref D) (compEnvC scope (cellsFrom (s3.heap.objs.size + 1) scope.names (cloFrom X.env.cells scope.names [])) s3.heap.objs.size X.env)) (compEnds (model X.prog X.w) X.A X.xe use Qf (.ref D) (compEnvC scope (cellsFrom (s3.heap.objs.size + 1) scope.names (cloFrom X.env.cells scope.names [])) s3.heap.objs.size X.env)) { s3 with heap := pushCells (s3.heap.push { cls := .type "dict", data := .dict #[] }) scope.names }
  have nfp : ∀ b ∈ fp, (upd H2 D (.lst [])) b = none := fun b hb => (f3 b hb).1.1
  generalize hce : compEnvC scope (cellsFrom (s3.heap.objs.size + 1) scope.names (cloFrom X.env.cells scope.names [])) s3.heap.objs.size X.env = ce at I4 pg pt pe rs ⊢
  have cL : ce.locals = s3.heap.objs.size := by subst hce; rfl
  generalize hH3 : upd H2 D (.lst []) = H3 at I3 I4 pg pt pe rs w0 nfp f3
  generalize hs4 : ({ s3 with heap := pushCells (s3.heap.push { cls := .type "dict", data := .dict #[] }) scope.names } : Shared) = s4 at I4 ⊢
  have st4 : tn 0 s4.heap := T.keep _ _ _ st3 fun b _ o e => by rw [← hs4]; exact pushCells_keeps _ _ _ _ (Heap.get?_push_of_some _ e)
  have stat : ∀ {σ' : St} {H' : Hp} {s' : Shared}, Inv (X.blk s3 H3 scope ce fp) [] σ' H' s' → (∀ b ∈ fp, H' b = none) → ∀ b ∈ fp, FpOk (X.blk s3 H3 scope ce fp) [] H' b := fun {σ' H' s'} I' hn b hb =>
    ⟨hn b hb, (I'.ok.exf b hb).1, I'.ok.exfs b hb, .inl hb, fun x c e => (I'.ok.exf b hb).2 x c e, fun p hp => absurd (show p ∈ ([] : List (Addr × Obj)) ++ [] from hp) (by simp)⟩
  have loop : codeAny (model X.prog X.w) X.A (.compLoop (.ListComp elt [⟨tg, iter, ifs, 0⟩] scope pos) 0 (.ref it) (.ref D) ce) (compEnds (model X.prog X.w) X.A X.xe use Qf (.ref D) ce) s4 := by
    refine compLoop_any (fun n s' => ∃ i H', Inv (X.blk s3 H3 scope ce fp) [] (wipe σ (own.map (·.2))) H' s' ∧ tn i s'.heap ∧ (∀ b ∈ fp, H' b = none) ∧ Wm i n H') ?_ m0 ⟨0, H3, I4, st4, nfp, w0⟩
    rw [ends_err]
    rintro n s5 ⟨i, H5, I5, st5, n5, w5⟩
    rcases turn i n H5 w5 with ⟨stop, qq⟩ | ⟨go, Nx, hNx, step⟩
    · have td := T.done (X.blk s3 H3 scope ce fp) rfl rfl rfl hc i [] s5 _ H5 (fun _ _ => False) I5 (stat I5 n5) st5 stop
      refine thnF td fun r s6 ⟨hr, I6⟩ => ?_
      subst hr
      have I7 : Inv X pins σ H5 s6 := I3.call' (ch := fp) I6.os I6.base I6.hok I6.bare fun b hb => ⟨(f3 b hb).1.2.2.2.1, (f3 b hb).1.2.1, (f3 b hb).1.2.2.2.2.1, (f3 b hb).1.2.2.2.2.2⟩
      have nC : H5 s3.heap.objs.size = none := by
        have z : H5 ce.locals = none := I6.free
        rw [cL] at z
        exact z
      obtain ⟨m, hn, _⟩ := I6.loc
      have hn : s6.heap.Ns ce.locals m := hn
      rw [cL] at hn
      exact ends_post cL (hRR D s3.heap.objs.size s6 m H5 I7 qq hn (I3.fpOk (Nat.le_refl _) nC))
    · have ti := T.item (X.blk s3 H3 scope ce fp) rfl rfl rfl hc i [] s5 _ H5 (fun _ _ => False) I5 (stat I5 n5) st5 go
      refine thnF ti fun r s6 ⟨u, hr, h6⟩ => ?_
      subst hr
      refine thnF h6 fun _ s7 ⟨x, H7, I7, r7, y7, st7, n7⟩ => ?_
      have I7' := I7.pinned (stat I7 n7) (T.obj _ _ st7)
      refine thnF (pg.run _ s7 _ H7 x u _ I7' r7 (step x H7 y7)) fun _ s8 ⟨σ8, H8, I8, hw8, q8⟩ => ?_
      refine thnF (pt.run _ s8 σ8 H8 _ I8 q8) fun b s9 ⟨H9, I9, q9⟩ => ?_
      have fin : ∀ {s' : Shared} {H' : Hp}, Inv (X.blk s3 H3 scope ce fp) ([] ++ pinsAt fp s7.heap) σ8 H' s' → Nx H' → ∃ m, m < n ∧ ∃ i H', Inv (X.blk s3 H3 scope ce fp) [] (wipe σ (own.map (·.2))) H' s' ∧ tn i s'.heap ∧ (∀ b ∈ fp, H' b = none) ∧ Wm i m H' := fun {s' H'} I' nx => by
        obtain ⟨m', hm, w'⟩ := hNx H' nx
        have pin' : ∀ b ∈ fp, ∀ o, s7.heap.get? b = some o → s'.heap.get? b = some o ∧ H' b = none := fun b hb o e =>
          let z := I'.pin (b, o) (List.mem_append_right _ (List.mem_append_right _ (mem_pinsAt hb e)))
          ⟨z.1, z.2.1⟩
        have hl : (wipe σ (own.map (·.2))).length = σ8.length := by rw [← hw8, wipe_length]
        refine ⟨m', hm, i + 1, H', (I'.unpinned (pins := [])).weak hl (fun j v e => ?_), T.keep _ _ _ st7 fun b hb o e => (pin' b hb o e).1, fun b hb => ?_, w'⟩
        · rw [← hw8] at e
          exact (wipe_some e).1
        · obtain ⟨o, e, _⟩ := T.obj _ _ st7 b hb
          exact (pin' b hb o e).2
      cases b with
      | false =>
        simp only [Bool.false_eq_true, if_false] at q9 ⊢
        exact fin I9 q9
      | true =>
        simp only [if_true] at q9 ⊢
        have tkb : Vi.TakesV dt ((X.blk s3 H3 scope ce fp).tr ((X.blk s3 H3 scope ce fp).pn ++ ([] ++ pinsAt fp s7.heap)) (notedBy (model X.prog X.w) X.A ce (CompFails (model X.prog X.w) X.A X.xe ce))) (fun cls d _ H => W cls d σ H) := ⟨fun u s' x => rs L2N.Zn W (fun _ _ => L2N.Zn.steady) tk.1 _ _ u s' x, fun u s' x => rs Zc (fun c d σ H => dt c ∧ W c d σ H) (fun _ _ o v h => Zc.steady o _ h) tk.2 _ _ u s' x⟩
        have pe1 := pe _ _ tkb
        have run1 := pe1.run [] s9 σ8 H9 _ (I9.toTry _) q9
        refine wpAny_mono run1 (fun z s10 ⟨yv, H10, I10', r10, acc, hD10, hz10, nx⟩ => ?_) fun _ _ z => z
        have I10 := I10'.ofTry I9.ok
        exact app_ok (X := X.blk s3 H3 scope ce fp) I10 hD10 hz10 r10 fun s11 I11 => fin I11 nx
  exact codeAny_compStart_list loop (T.self X.A 0 _ _ _ st4 loop)
/-- as a value -/
theorem pe_lcX {elt tg iter : Expr} {ifs : List Expr} {scope : Scope} {own : List (Str × Nat)} {pos : Pos} {wi : TI} {g : TG} {tt : TT} {te : St → TE} {W : WX} (hc : X.calm = true) (hN : X.N.Nodup) (hst : X.stack = X.env :: X.outer) (hfm : X.env.frame = some X.env.locals) {dt : Value → Prop} (tk : Vi.TakesV dt X W) (hi : PI X tg iter wi) (ok : BlkOk X.N X.env.scope scope own)
    (hg : ∀ (s : Shared) (H : Hp) (C : Addr) (cl : List (Str × Addr)) (fp : List Addr), PG (X.blk s H scope (compEnvC scope cl C X.env) fp) tg g) (ht : ∀ (s : Shared) (H : Hp) (C : Addr) (cl : List (Str × Addr)) (fp : List Addr), PTs (X.blk s H scope (compEnvC scope cl C X.env) fp) ifs tt)
    (he : ∀ (σ : St) (s : Shared) (H : Hp) (C : Addr) (cl : List (Str × Addr)) (fp : List Addr) (pn : List (Addr × Obj)) (xe : Value → Shared → Prop), Vi.TakesV dt ((X.blk s H scope (compEnvC scope cl C X.env) fp).tr pn xe) (fun cls d _ H => W cls d σ H) → PE ((X.blk s H scope (compEnvC scope cl C X.env) fp).tr pn xe) elt (te σ)) (hs : ∀ x, foldedSetIterable iter X.env x = pure x := by intro _; rfl) :
    PE X (.ListComp elt [⟨tg, iter, ifs, 0⟩] scope pos) (fun σ H Q => tLc wi g tt (te σ) (own.map (·.2)) σ H Q) := by
  refine ⟨fun pins s σ H Q I h => ?_⟩
  rw [eval_ListComp]
  refine lc_coreX hc hN I hst hfm tk hi ok hg ht (he σ) hs h fun D C s' m H' I' q hn f => ⟨m, hn, fun h'' sb => ?_⟩
  obtain ⟨f0, f1, f2, f3, f4, f5⟩ := f
  exact ⟨.ref D, H', I'.turned (t' := s'.toks) (fun b o hb e => (sb.2 b hb).trans e) f0 f1 f3 f4 f5, rfl, q⟩
end
end L2
namespace L2
open PySem PySem.Spec PyProof.Rows
section
variable {X : Cx}
theorem ps_setLcX {i : Nat} {y : Str} {py : Pos} {elt tg iter : Expr} {ifs : List Expr} {scope : Scope} {own : List (Str × Nat)} {pos spos : Pos} {wi : TI} {g : TG} {tt : TT} {te : St → TE} {W : WX} (hc : X.calm = true) (hN : X.N.Nodup) (hst : X.stack = X.env :: X.outer) (hfm : X.env.frame = some X.env.locals) {dt : Value → Prop} (tk : Vi.TakesV dt X W) (hy : X.N[i]? = some y) (hyl : X.env.scope.names.lookup y = some .local)
    (hsw : swapsWith (.ListComp elt [⟨tg, iter, ifs, 0⟩] scope pos) (some (.Name y py)) spos.line X.env = pure true) (hi : PI X tg iter wi) (ok : BlkOk X.N X.env.scope scope own)
    (hg : ∀ (s : Shared) (H : Hp) (C : Addr) (cl : List (Str × Addr)) (fp : List Addr), PG (X.blk s H scope (compEnvC scope cl C X.env) fp) tg g) (ht : ∀ (s : Shared) (H : Hp) (C : Addr) (cl : List (Str × Addr)) (fp : List Addr), PTs (X.blk s H scope (compEnvC scope cl C X.env) fp) ifs tt)
    (he : ∀ (σ : St) (s : Shared) (H : Hp) (C : Addr) (cl : List (Str × Addr)) (fp : List Addr) (pn : List (Addr × Obj)) (xe : Value → Shared → Prop), Vi.TakesV dt ((X.blk s H scope (compEnvC scope cl C X.env) fp).tr pn xe) (fun cls d _ H => W cls d σ H) → PE ((X.blk s H scope (compEnvC scope cl C X.env) fp).tr pn xe) elt (te σ)) (hs : ∀ x, foldedSetIterable iter X.env x = pure x := by intro _; rfl) :
    PS X (.Assign [.Name y py] (.ListComp elt [⟨tg, iter, ifs, 0⟩] scope pos) spos) (tAsg (fun σ H Q => tLc wi g tt (te σ) (own.map (·.2)) σ H Q) (gName i)) := by
  refine ⟨fun pins s σ H D I h => ?_⟩
  rw [exec_Assign_Name_used _ _ _ _ hsw]
  refine wpAny_bind (wpAny_standAt (wpAny_bind ?_))
  show wpAny _ X.A (do let _ ← comprehension (.ListComp elt [⟨tg, iter, ifs, 0⟩] scope pos) scope X.env (firstIterPos [⟨tg, iter, ifs, 0⟩] pos) (newList []) false (eval iter X.env) (some (assign (.Name y py) X.env))) _ _ s
  have h : tLc wi g tt (te σ) (own.map (·.2)) σ H (fun x H1 => gName i x σ H1 D.nx) := h
  refine wpAny_bind (thn (lc_coreX (Qf := fun _ s' => SP X pins D .next s') hc hN I hst hfm tk hi ok hg ht (he σ) hs h fun L C s' m H' I' q hn f => ?_) fun _ s' hq => wpAny_pure (wpAny_pure hq))
  show wpAny _ _ (assign (.Name y py) X.env (.ref L)) _ _ _
  refine wpAny_assign_Name (store_ok2 (v := V.ref L) I' hN hy (.inl hyl) rfl (fun s2 I2 ⟨a, sb, ha⟩ => ?_) (.inr hyl))
  obtain ⟨f0, f1, f2, f3, f4, f5⟩ := f
  have haC : C ≠ a := by
    rcases ha with z | z
    · rw [z]; exact f1
    · exact fun e => f4 y a z e.symm
  refine ⟨m, hn.sameBut sb haC, fun h3 sb3 => ?_⟩
  exact ⟨_, H', I2.turned (t' := s2.toks) (fun b o hb e => (sb3.2 b hb).trans e) f0 f1 f3 f4 f5, q⟩
end
end L2
namespace Vi
open PySem L2 Evl
def lcLX (g : Tgt) (t : DenT) (f : Den) (ρ : En) : List Dt → Hs → Res (List Dt)
  | [], h => .ok [] h
  | d :: ds, h => match g (.d d) ρ with
    | none => .bad
    | some ρ1 => match t ρ1 h with
      | .ok true h1 => match f ρ1 h1 with
        | .ok (.d y) h2 => match lcLX g t f ρ ds h2 with
          | .ok ys h3 => .ok (y :: ys) h3
          | .exc e h3 => .exc e h3
          | .bad => .bad
        | .exc e h2 => .exc e h2
        | _ => .bad
      | .ok false h1 => lcLX g t f ρ ds h1
      | _ => .bad
def lcFX (vs : List Nat) (src : DenI) (g : Tgt) (t : DenT) (f : Den) : DenD := fun ρ h => (src ρ h).bind fun s h1 => match s with
  | .fx ds => match decide (ds.length ≤ 100000) with
    | true => match lcLX g t f (wipeR ρ vs) ds h1 with
      | .ok ys h2 => .ok (.lst ys) h2
      | .exc e h2 => .exc e h2
      | .bad => .bad
    | false => .bad
  | .rf _ _ => .bad
def appR (acc : List Dt) : Res (List Dt) → Res (List Dt)
  | .ok ys h => .ok (acc ++ ys) h
  | .exc e h => .exc e h
  | .bad => .bad
theorem ObD.dropZ {C : Ct} {Z m : List Addr} {H : Hp} {D a : Addr} {o : Ob} (q : ObD C.K C.ly C.lm (D :: Z) m H a o) : ObD C.K C.ly C.lm Z m H a o := by
  have k : Keeps (D :: Z ++ m) H (Z ++ m) H := ⟨fun _ _ h _ => h, fun _ _ h => h, fun _ _ h => h, fun a o _ n z => n (by rcases List.mem_append.mp z with z | z <;> simp [z])⟩
  have kd : ∀ {v x}, Dv C.K C.ly (D :: Z) m H v x → Dv C.K C.ly Z m H v x := fun {v x} q => by
    cases x with
    | d y => exact Di.mono C.lok k q
    | r n => exact q
  have kds : ∀ {vs xs}, Dvs C.K C.ly (D :: Z) m H vs xs → Dvs C.K C.ly Z m H vs xs := fun {vs} => by
    induction vs with
    | nil => intro xs h; cases h; exact .nil
    | cons v vs ih => intro xs h; cases h with | cons a b => exact .cons (kd a) (ih b)
  cases o with
  | lst ds => obtain ⟨vs, q1, q2⟩ := q; exact ⟨vs, q1, q2.mono C.lok k⟩
  | dct ks vs => obtain ⟨kvs, q1, q2, q3⟩ := q; exact ⟨kvs, q1, ⟨q2.1, q2.2.mono C.lok k⟩, kds q3⟩
  | dck ks vs => obtain ⟨kvs, q1, q2, q3⟩ := q; exact ⟨kvs, q1, q2, kds q3⟩
  | ins c fs => obtain ⟨vs, q1, q2⟩ := q; exact ⟨vs, q1, kds q2⟩
  | gone => exact q
theorem Rl.dropZ {C : Ct} {Z m : List Addr} {H : Hp} {h : Hs} {D : Addr} (r : Rl C (D :: Z) m H h) : Rl C Z m H h :=
  ⟨r.nd, fun a ha z => r.disj a ha (List.mem_cons_of_mem _ z), r.len, fun a ha => r.za a (List.mem_cons_of_mem _ ha), r.notup, r.own, r.ma, fun i a o h1 h2 => (r.ob i a o h1 h2).dropZ⟩
theorem ExR.dropZ {C : Ct} {Z m : List Addr} {H : Hp} {D : Addr} {e : Exn} {d : Option Addr} (x : ExR C (D :: Z ++ m) H e d) : ExR C (Z ++ m) H e d := by
  have k : Keeps (D :: Z ++ m) H (Z ++ m) H := ⟨fun _ _ h _ => h, fun _ _ h => h, fun _ _ h => h, fun a o _ n z => n (by rcases List.mem_append.mp z with z | z <;> simp [z])⟩
  rcases x with x | ⟨a, fv, h1, h2, h3, h4, h5, h6⟩
  · exact .inl x
  · exact .inr ⟨a, fv, h1, h2, fun z => h3 (by rcases List.mem_append.mp z with z | z <;> simp [z]), h4, h5.mono C.lok k, h6⟩
section
variable {C : Ct} {elt tg it : Expr} {ifs : List Expr} {scope : Scope} {own : List (Str × Nat)} {pos : Pos} {src : DenI} {g : Tgt} {t : DenT} {f : Den} {ws : List Nat}
/-- what is asked behind the turns -/
def LOk (C : Ct) (W : WX) (Z : List Addr) (σ : St) (m : List Addr) (H : Hp) (Q : VK) : Res (List Dt) → Prop
  | .ok ys h2 => ∀ a m' H', Evo m H m' H' → Rl C (a :: Z) m' H' h2 → H a = none → Fr C (a :: Z ++ m') H' a (.lst ys) → Q (.ref a) H'
  | .exc e h' => ∀ m' H' d, Evo m H m' H' → Rl C Z m' H' h' → ExR C (Z ++ m') H' e d → W (C.xc e.cls) d σ H'
  | .bad => False
theorem lc_turnsX {X : Cx} (o : C.Of X) {W : WX} (hws : ∀ j ∈ ws, j ∈ own.map (·.2)) (hg : SG (C.blk scope) tg ws g) (ht : SIf (C.blk scope) ifs t) (hf : SE (C.blk scope) elt f) {Z m : List Addr} {σ : St} {H : Hp} {ρ : En} {h : Hs} {J : It} {ds : List Dt} {R : Res (List Dt)} {Q : VK}
    (r : Rl C Z m H h) (env : EnvV C Z m H σ ρ) (itd : ItV C Z m H J (.fx ds)) (hz : ds.length ≤ 100000) (hl : lcLX g t f (wipeR ρ (own.map (·.2))) ds h = R)
    (q : LOk C W Z σ m H Q R) :
    ∀ D, H D = none → ∃ Wm : Nat → Nat → Hp → Prop, (∃ m, Wm 0 m (upd H D (.lst []))) ∧ ∀ i m H, Wm i m H →
      (J.stop i H ∧ Q (.ref D) H) ∨ (J.go i H ∧ ∃ Nx : Hp → Prop, (∀ H', Nx H' → ∃ m', m' < m ∧ Wm (i + 1) m' H') ∧ ∀ x H', J.yld i H x H' → (∀ s Hh Cc cl fp, RunG (X.blk s Hh scope (compEnvC scope cl Cc X.env) fp) tg x (wipe σ (own.map (·.2))) H' fun σ2 H2 => wipe σ2 (own.map (·.2)) = wipe σ (own.map (·.2)) ∧
        (∀ s Hh Cc cl fp, RunTs (X.blk s Hh scope (compEnvC scope cl Cc X.env) fp) ifs σ2 H2 fun b H3 =>
          if b = true then (∀ s Hh Cc cl fp pn xe, TakesV C.dt ((X.blk s Hh scope (compEnvC scope cl Cc X.env) fp).tr pn xe) (fun cls d _ H => W cls d σ H) → RunE ((X.blk s Hh scope (compEnvC scope cl Cc X.env) fp).tr pn xe) elt σ2 H3 fun y H4 => ∃ acc, H4 D = some (.lst acc) ∧ acc.length < sizeLine ∧ Nx (upd H4 D (.lst (acc ++ [y])))) else Nx H3))) := by
  intro D hD
  obtain ⟨r0, k0⟩ := r.addZ (o := .lst []) hD (by intro xs z; cases z)
  have zz : ∀ a ∈ D :: Z, a ∈ Z ∨ H a = none := fun a ha => by
    rcases List.mem_cons.mp ha with z | z
    · rw [z]; exact .inr hD
    · exact .inl z
  refine ⟨fun i mm H' => mm = ds.length - i ∧ i ≤ ds.length ∧ ∃ m' h' acc accD, Evo m H m' H' ∧ Rl C (D :: Z) m' H' h' ∧ H' D = some (.lst acc) ∧ Dis C.K C.ly (D :: Z ++ m') H' acc accD ∧ appR accD (lcLX g t f (wipeR ρ (own.map (·.2))) (ds.drop i) h') = R ∧ accD.length ≤ i,
    ⟨ds.length, by simp, Nat.zero_le _, m, h, [], [], Evo.ex (Ex.new hD), r0, upd_same, .nil, by rw [List.drop_zero, hl]; cases R <;> rfl, Nat.le_refl _⟩, ?_⟩
  rintro i mm H' ⟨rfl, hle, m', h', acc, accD, e', r', hD', dacc, hrest, hacc⟩
  obtain ⟨i1, i2⟩ := itd (D :: Z) m' H' h' zz e' r' i
  by_cases hlt : i < ds.length
  · obtain ⟨go, yl⟩ := i1 ds[i] (by simp [hlt])
    rw [List.drop_eq_getElem_cons hlt] at hrest
    unfold lcLX at hrest
    cases z1 : g (.d ds[i]) (wipeR ρ (own.map (·.2))) with
    | none => rw [z1] at hrest; subst hrest; exact q.elim
    | some ρ1 =>
      rw [z1] at hrest
      dsimp only at hrest
      refine .inr ⟨go, fun H5 => ∃ m5 h5 acc5 accD5, Evo m H m5 H5 ∧ Rl C (D :: Z) m5 H5 h5 ∧ H5 D = some (.lst acc5) ∧ Dis C.K C.ly (D :: Z ++ m5) H5 acc5 accD5 ∧ appR accD5 (lcLX g t f (wipeR ρ (own.map (·.2))) (ds.drop (i + 1)) h5) = R ∧ accD5.length ≤ i + 1, fun H5 p5 => ⟨ds.length - (i + 1), by omega, rfl, hlt, p5⟩, fun x H'' y s Hh Cc cl fp => ?_⟩
      obtain ⟨ex, dx⟩ := yl x H'' y
      have o1 := of_blk o s Hh scope cl Cc fp
      have r1 := (r'.ex ex).blk (scope := scope)
      have en0 : EnvV C (D :: Z) m' H'' σ ρ := env.keeps (r.keepsZ zz (e'.trans (Evo.ex ex))) fun n a hn => (e'.trans (Evo.ex ex)).get hn
      have en1 : EnvV (C.blk scope) (D :: Z) m' H'' (wipe σ (own.map (·.2))) (wipeR ρ (own.map (·.2))) := (env_wipe en0 _).blk
      refine hg.run _ o1 (D :: Z) m' x _ H'' _ h' (.d ds[i]) _ ρ1 r1 en1 dx z1 fun σ2 en2 l2 w2 => ⟨wipe_eq l2 w2 hws, fun s Hh Cc cl fp => ?_⟩
      have o2 := of_blk o s Hh scope cl Cc fp
      refine ht.run _ o2 _ takes0V (D :: Z) m' σ2 H'' ρ1 h' _ r1 en2 ?_
      have hDx : H'' D = some (.lst acc) := ex _ _ hD'
      have dacc1 : Dis C.K C.ly (D :: Z ++ m') H'' acc accD := dacc.mono C.lok (keeps_ex ex)
      cases z2 : t ρ1 h' with
      | bad => rw [z2] at hrest; subst hrest; exact q.elim
      | exc e1 h1 => rw [z2] at hrest; subst hrest; exact q.elim
      | ok b h1 =>
        rw [z2] at hrest
        intro m3 H3 e3 r3
        have nD3 : D ∉ m' := fun z => r'.disj D z (List.mem_cons_self)
        have hD3 : H3 D = some (.lst acc) := e3.keep _ _ hDx nD3
        have dacc3 : Dis C.K C.ly (D :: Z ++ m3) H3 acc accD := dacc1.mono C.lok ((r1.unblk).keeps e3)
        cases b with
        | false => exact iteF ⟨m3, h1, acc, accD, (e'.trans (Evo.ex ex)).trans e3, r3.unblk, hD3, dacc3, hrest, by omega⟩
        | true =>
          refine iteT fun s Hh Cc cl fp pn xe tk3 => ?_
          have o3 := of_tr (pn := pn) (xe := xe) (of_blk o s Hh scope cl Cc fp)
          dsimp only at hrest
          refine hf.run _ o3 _ tk3 (D :: Z) m3 σ2 H3 ρ1 h1 _ r3 (en2.mono r1 e3) ?_
          cases z3 : f ρ1 h1 with
          | bad => rw [z3] at hrest; subst hrest; exact q.elim
          | exc e1 h1' =>
            rw [z3] at hrest
            subst hrest
            intro m4 H4 d e4 r4 x4
            exact q m4 H4 d (((e'.trans (Evo.ex ex)).trans e3).trans e4) (r4.unblk.dropZ) (ExR.dropZ (show ExR C (D :: Z ++ m4) H4 e1 d from x4))
          | ok yv h4 =>
            rw [z3] at hrest
            cases yv with
            | r n => subst hrest; exact q.elim
            | d yd =>
              dsimp only at hrest
              intro v m4 H4 e4 r4 d4
              have nD4 : D ∉ m3 := fun z => r3.disj D z (List.mem_cons_self)
              have hD4 : H4 D = some (.lst acc) := e4.keep _ _ hD3 nD4
              have dacc4 : Dis C.K C.ly (D :: Z ++ m4) H4 acc accD := dacc3.mono C.lok (r3.unblk.keeps e4)
              have kk : Keeps (D :: Z ++ m4) H4 (D :: Z ++ m4) (upd H4 D (.lst (acc ++ [v]))) := keeps_upd (by simp) (fun xs z => by rw [hD4] at z; cases z) fun xs z => by rw [hD4] at z; cases z
              have hlen : acc.length = accD.length := dacc4.length
              have d4' : Di C.K C.ly (D :: Z ++ m4) H4 v yd := d4
              have eall : Evo m H m4 H4 := ((e'.trans (Evo.ex ex)).trans e3).trans e4
              have eu : Evo m H m4 (upd H4 D (.lst (acc ++ [v]))) := by
                refine ⟨fun a u ha na => ?_, fun a u ha => ?_, eall.more⟩
                · rw [upd_ne (fun z => by rw [z, hD] at ha; cases ha)]; exact eall.keep a u ha na
                · by_cases z : a = D
                  · rw [z, upd_same]; exact ⟨_, rfl⟩
                  · rw [upd_ne z]; exact eall.there a u ha
              refine ⟨acc, hD4, sz_lt (by rw [hlen]; omega), m4, h4, acc ++ [v], accD ++ [yd], eu, r4.unblk.updZ (List.mem_cons_self) hD4 (by intro xs z; cases z) (by intro y z; cases y <;> first | cases z | exact dg_code z | exact dg_code (Option.some.inj z) | exact slo_code z | exact slo_code (Option.some.inj z)), upd_same, (dacc4.append (.cons d4' .nil)).mono C.lok kk, ?_, by rw [List.length_append]; show accD.length + 1 ≤ i + 1; omega⟩
              rw [← hrest]
              cases lcLX g t f (wipeR ρ (own.map (·.2))) (ds.drop (i + 1)) h4 with
              | ok ys h5 => simp [appR]
              | exc e1 h5 => rfl
              | bad => rfl
  · have e : i = ds.length := by omega
    subst e
    rw [List.drop_length] at hrest
    subst hrest
    refine .inl ⟨i2 (Nat.le_refl _), ?_⟩
    have q' : LOk C W Z σ m H Q (.ok (accD ++ []) h') := q
    rw [List.append_nil] at q'
    exact q' D m' H' e' r' hD ⟨acc, hD', dacc⟩
theorem sf_lcX (hfn : C.fn = true) (hc : C.calm = true) (nd : C.N.Nodup) (nf : NoFold it) (ok : BlkOk C.N C.sc scope own) (hws : ∀ j ∈ ws, j ∈ own.map (·.2)) (hi : SI C tg it src) (hg : SG (C.blk scope) tg ws g) (ht : SIf (C.blk scope) ifs t) (hf : SE (C.blk scope) elt f) : SF C (.ListComp elt [⟨tg, it, ifs, 0⟩] scope pos) (lcFX (own.map (·.2)) src g t f) := ⟨fun X o W tk Z m σ H ρ h Q r env q => by
  obtain ⟨wi, pi, hwi⟩ := hi.run X o W tk
  obtain ⟨hst, hfm, _⟩ := o.own hfn
  refine PEw (pe_lcX (own := own) (wi := wi) (W := W) (g := fun x σ H Q => ∀ s Hh Cc cl fp, RunG (X.blk s Hh scope (compEnvC scope cl Cc X.env) fp) tg x σ H Q) (tt := fun σ H Q => ∀ s Hh Cc cl fp, RunTs (X.blk s Hh scope (compEnvC scope cl Cc X.env) fp) ifs σ H Q)
    (te := fun σ0 σ H Q => ∀ s Hh Cc cl fp pn xe, TakesV C.dt ((X.blk s Hh scope (compEnvC scope cl Cc X.env) fp).tr pn xe) (fun cls d _ H => W cls d σ0 H) → RunE ((X.blk s Hh scope (compEnvC scope cl Cc X.env) fp).tr pn xe) elt σ H Q) (by rw [o.calm]; exact hc) (by rw [o.N]; exact nd) hst hfm tk pi (by rw [o.N, o.sc]; exact ok) (fun s Hh Cc cl fp => ⟨fun pins s1 σ1 H2 v1 u Q1 I r h => h s Hh Cc cl fp pins s1 u I r⟩)
    (fun s Hh Cc cl fp => ⟨fun pins s1 σ1 H2 Q1 I h => h s Hh Cc cl fp pins s1 I⟩) (fun σ0 s Hh Cc cl fp pn xe tk3 => ⟨fun pins s1 σ1 H2 Q1 I h => h s Hh Cc cl fp pn xe tk3 pins s1 I⟩) (nf _)) ?_
  refine hwi Z m σ H ρ h _ r env ?_
  unfold lcFX at q
  cases z : src ρ h with
  | bad => rw [z] at q; exact q.elim
  | exc e h' => rw [z] at q; exact q
  | ok s h1 =>
    rw [z] at q
    dsimp only [Res.bind] at q
    cases s with
    | rf n len => exact q.elim
    | fx ds =>
      dsimp only at q
      by_cases hl : ds.length ≤ 100000
      · rw [decide_eq_true hl] at q
        dsimp only at q
        intro J m1 H1 e1 r1 itd
        have en1 := env.mono r e1
        refine lc_turnsX (W := W) o hws hg ht hf r1 en1 itd hl rfl ?_
        cases z2 : lcLX g t f (wipeR ρ (own.map (·.2))) ds h1 with
        | bad => rw [z2] at q; exact q.elim
        | exc e h' => rw [z2] at q; exact fun m' H' d e' r' x => q m' H' d (e1.trans e') r' x
        | ok ys h2 =>
          rw [z2] at q
          exact fun a m' H' e' r' n fr => q a m' H' (e1.trans e') r' (e1.free n) fr
      · rw [decide_eq_false hl] at q; exact q.elim⟩
theorem ss_setLcX {i : Nat} {y : Str} {py spos : Pos} {k : DenD → Den} (k2 : Takes2 k) (hc : C.calm = true) (nd : C.N.Nodup) (hy : C.N[i]? = some y) (hyl : LocN C y)
    (hsw : ∀ env : Env, env.scope = C.sc → swapsWith (.ListComp elt [⟨tg, it, ifs, 0⟩] scope pos) (some (.Name y py)) spos.line env = pure true) (nf : NoFold it) (ok : BlkOk C.N C.sc scope own) (hws : ∀ j ∈ ws, j ∈ own.map (·.2)) (hi : SI C tg it src) (hg : SG (C.blk scope) tg ws g) (ht : SIf (C.blk scope) ifs t) (hf : SE (C.blk scope) elt f) :
    SS C (.Assign [.Name y py] (.ListComp elt [⟨tg, it, ifs, 0⟩] scope pos) spos) (setS i (k (lcFX (own.map (·.2)) src g t f))) := ⟨fun X o pn W tk Z m σ H ρ h D r env q => by
  obtain ⟨wi, pi, hwi⟩ := hi.run X o W tk
  refine PSw (ps_setLcX (i := i) (own := own) (wi := wi) (W := W) (g := fun x σ H Q => ∀ s Hh Cc cl fp, RunG (X.blk s Hh scope (compEnvC scope cl Cc X.env) fp) tg x σ H Q) (tt := fun σ H Q => ∀ s Hh Cc cl fp, RunTs (X.blk s Hh scope (compEnvC scope cl Cc X.env) fp) ifs σ H Q)
    (te := fun σ0 σ H Q => ∀ s Hh Cc cl fp pn xe, TakesV C.dt ((X.blk s Hh scope (compEnvC scope cl Cc X.env) fp).tr pn xe) (fun cls d _ H => W cls d σ0 H) → RunE ((X.blk s Hh scope (compEnvC scope cl Cc X.env) fp).tr pn xe) elt σ H Q) (by rw [o.calm]; exact hc) (by rw [o.N]; exact nd) pn.st pn.fr tk (by rw [o.N]; exact hy) (by rw [o.sc]; exact hyl) (hsw _ o.sc) pi (by rw [o.N, o.sc]; exact ok) (fun s Hh Cc cl fp => ⟨fun pins s1 σ1 H2 v1 u Q1 I r h => h s Hh Cc cl fp pins s1 u I r⟩)
    (fun s Hh Cc cl fp => ⟨fun pins s1 σ1 H2 Q1 I h => h s Hh Cc cl fp pins s1 I⟩) (fun σ0 s Hh Cc cl fp pn xe tk3 => ⟨fun pins s1 σ1 H2 Q1 I h => h s Hh Cc cl fp pn xe tk3 pins s1 I⟩) (nf _)) ?_
  have q : FOk C W Z σ m H (fun v H1 => D.nx (σ.set i (some v)) H1) (lcFX (own.map (·.2)) src g t f ρ h) :=
    k2 r ((EOk.toS r env q).imp fun v H1 ⟨m1, x, h1, e1, r1, d1, q1⟩ => q1 _ m1 H1 (Evo.refl _ _) r1 ((env.mono r e1).set d1))
  refine hwi Z m σ H ρ h _ r env ?_
  unfold lcFX at q
  cases z : src ρ h with
  | bad => rw [z] at q; exact q.elim
  | exc e h' => rw [z] at q; exact q
  | ok s h1 =>
    rw [z] at q
    dsimp only [Res.bind] at q
    cases s with
    | rf n len => exact q.elim
    | fx ds =>
      dsimp only at q
      by_cases hl : ds.length ≤ 100000
      · rw [decide_eq_true hl] at q
        dsimp only at q
        intro J m1 H1 e1 r1 itd
        have en1 := env.mono r e1
        refine lc_turnsX (W := W) (Q := fun v H1 => D.nx (σ.set i (some v)) H1) o hws hg ht hf r1 en1 itd hl rfl ?_
        cases z2 : lcLX g t f (wipeR ρ (own.map (·.2))) ds h1 with
        | bad => rw [z2] at q; exact q.elim
        | exc e h' => rw [z2] at q; exact fun m' H' d e' r' x => q m' H' d (e1.trans e') r' x
        | ok ys h2 =>
          rw [z2] at q
          exact fun a m' H' e' r' n fr => q a m' H' (e1.trans e') r' (e1.free n) fr
      · rw [decide_eq_false hl] at q; exact q.elim⟩
end
end Vi

set_option maxRecDepth 100000
set_option maxHeartbeats 3200000
/-! ### the table of a set, of up to 512 places -/
namespace Vs
open PySem PySem.Spec PyProof.Rows L2
def Msk (m : Nat) : Prop := MaskOk m ∨ m = 511
/-- places, as the leaps meet them -/
def ring (m : Nat) : Nat → Nat → List Nat
  | 0, _ => []
  | n + 1, x => x :: ring m n ((x * 5 + 1) % (m + 1))
theorem leap_in (m : Nat) : ∀ k x, lcgI m ((x * 5 + 1) % (m + 1)) k = lcgI m x (k + 1)
  | 0, x => rfl
  | k + 1, x => by rw [lcgI, leap_in m k x]; rfl
theorem ring_at (m : Nat) : ∀ n x k, k < n → (ring m n x)[k]? = some (lcgI m x k)
  | 0, x, k, h => by omega
  | n + 1, x, 0, h => rfl
  | n + 1, x, k + 1, h => by
    rw [ring, List.getElem?_cons_succ, ring_at m n _ k (by omega), leap_in]
theorem ring_len (m : Nat) : ∀ n x, (ring m n x).length = n
  | 0, x => rfl
  | n + 1, x => by rw [ring, List.length_cons, ring_len m n]
def ringOk : Bool := (fun r => (List.range 512).all fun j => r.contains j) (ring 511 512 0)
theorem ring_ok : ringOk = true := by decide +kernel
theorem big_back : lcgI 511 0 512 = 0 := by decide +kernel
theorem big_add (a : Nat) : ∀ k, lcgI 511 (lcgI 511 0 a) k = lcgI 511 0 (a + k)
  | 0 => rfl
  | k + 1 => by rw [lcgI, big_add a k]; rfl
theorem big_rnd : ∀ k, lcgI 511 0 (512 + k) = lcgI 511 0 k
  | 0 => big_back
  | k + 1 => by
    show (lcgI 511 0 (512 + k) * 5 + 1) % (511 + 1) = _
    rw [big_rnd k]; rfl
theorem big_all {j : Nat} (hj : j ≤ 511) : ∃ k, k ≤ 511 ∧ lcgI 511 0 k = j := by
  have h := ring_ok
  unfold ringOk at h
  have h1 := List.all_eq_true.mp h j (List.mem_range.mpr (by omega))
  have h2 : j ∈ ring 511 512 0 := by simpa using h1
  obtain ⟨k, hk, e⟩ := List.getElem_of_mem h2
  rw [ring_len] at hk
  have h3 := ring_at 511 512 0 k hk
  rw [List.getElem?_eq_getElem (by rw [ring_len]; exact hk), e] at h3
  exact ⟨k, by omega, (Option.some.inj h3).symm⟩
/-- from each place each other is met within a round -/
theorem from_to {m : Nat} (hm : Msk m) {x y : Nat} (hx : x ≤ m) (hy : y ≤ m) : ∃ n, n ≤ m ∧ lcgI m x n = y := by
  rcases hm with hm | rfl
  · exact lcgI_all hm hx hy
  · obtain ⟨c, hc, rfl⟩ := big_all hx
    obtain ⟨d, hd, rfl⟩ := big_all hy
    by_cases h : d < c
    · refine ⟨512 + d - c, by omega, ?_⟩
      rw [big_add, show c + (512 + d - c) = 512 + d by omega, big_rnd]
    · exact ⟨d - c, by omega, by rw [big_add, show c + (d - c) = d by omega]⟩
theorem runs_to {m : Nat} (hm : Msk m) (x : Int) {y : Nat} (hy : y ≤ m) : ∃ n, n ≤ m + 12 ∧ runI m (SetTable.bits x) n = y := by
  obtain ⟨c, hc, e⟩ := from_to hm (runI_le m (SetTable.bits x) 12) hy
  refine ⟨12 + c, by omega, ?_⟩
  rw [runI_tail (bits_lt x), e]
theorem way_to {m : Nat} (hm : Msk m) (x : Int) {y : Nat} (hy : y ≤ m) : ∃ c, c < 10 * SetTable.turns m ∧ way m x c = y := by
  obtain ⟨n, hn, e⟩ := runs_to hm x hy
  obtain ⟨c, hc, e'⟩ := run_nth m (SetTable.bits x) n
  have : c < 10 * SetTable.turns m := by unfold SetTable.turns; omega
  refine ⟨c, this, ?_⟩
  show (nth m _ c).j = y
  rw [e', ← e]; rfl
theorem way_bd {m : Nat} {x : Int} {c : Nat} : way m x c ≤ m := by
  have h0 : SetTable.bits x % (m + 1) ≤ m := by have := Nat.mod_lt (SetTable.bits x) (show 0 < m + 1 by omega); omega
  have h1 := runEnd_bd h0
  have h2 := nth_in (m := m) c (runAt m (SetTable.bits x % (m + 1)) (SetTable.bits x)) (by
    show SetTable.bits x % (m + 1) + (SetTable.runEnd m (SetTable.bits x % (m + 1)) - SetTable.bits x % (m + 1)) ≤ m
    omega)
  show (nth m _ c).j ≤ m
  omega
/-- a table in which each hash is found again -/
structure Tb (t : SetTable) (hs : List Int) : Prop where
  ris : Ris t.place.toList
  dm : t.dummies = #[]
  sz : t.place.size = List.length hs
  mok : Msk t.mask
  bd : ∀ y ∈ t.place.toList, y ≤ t.mask
  rch : ∀ (n : Nat) (x : Int) (y : Nat), hs[n]? = some x → t.place.toList[n]? = some y → ∃ c, way t.mask x c = y ∧ ∀ d, d < c → way t.mask x d ∈ t.place.toList
theorem msk_odd {m : Nat} (h : Msk m) : m % 2 = 1 := by
  rcases h with h | rfl
  · exact L2.mask_odd h
  · rfl
theorem Tb.first {t : SetTable} {hs : List Int} (T : Tb t hs) (hl : hs.length ≤ t.mask) (x : Int) : ∃ K, K < 10 * SetTable.turns t.mask ∧ way t.mask x K ∉ t.place.toList ∧ ∀ c, c < K → way t.mask x c ∈ t.place.toList := by
  obtain ⟨y, hy, hn⟩ := st_missing t.place.toList (t.mask + 1) (by have := T.sz; rw [Array.length_toList]; omega)
  obtain ⟨c, hc, e⟩ := way_to T.mok x (show y ≤ t.mask by omega)
  obtain ⟨K, z1, z2, z3⟩ := st_least (p := fun c => way t.mask x c ∉ t.place.toList) c (show way t.mask x c ∉ t.place.toList by rw [e]; exact hn)
  exact ⟨K, by omega, z2, fun d hd => Classical.byContradiction fun w => z3 d hd w⟩
theorem Tb.ahead {t : SetTable} {hs : List Int} (T : Tb t hs) {x : Int} {K n y : Nat} (hK : way t.mask x K ∉ t.place.toList) (hx : hs[n]? = some x) (hy : t.place.toList[n]? = some y) : ∃ c, c < K ∧ way t.mask x c = y := by
  obtain ⟨c, e, hb⟩ := T.rch n x y hx hy
  refine ⟨c, ?_, e⟩
  apply Decidable.byContradiction
  intro hc
  by_cases z : c = K
  · rw [z] at e
    rw [e] at hK
    exact hK (List.mem_of_getElem? hy)
  · exact hK (hb K (by omega))
theorem Tb.put {t : SetTable} {hs : List Int} (T : Tb t hs) {x : Int} {y : Nat} {K : Nat} (e : y = way t.mask x K) (hK : y ∉ t.place.toList) (hb : ∀ c, c < K → way t.mask x c ∈ t.place.toList) :
    SetTable.below t.place y ≤ hs.length ∧ Tb (t.put y).1 (hs.take (SetTable.below t.place y) ++ x :: hs.drop (SetTable.below t.place y)) ∧ (t.put y).1.fill = hs.length + 1 := by
  have hy : y ≤ t.mask := by rw [e]; exact way_bd
  have cut := (below_cut T.ris y).1
  have new := put_place t y
  have z0 := T.sz
  have hne : t.place[SetTable.below t.place y]? ≠ some y := fun z => by
    rw [← Array.getElem?_toList] at z
    exact hK (List.mem_of_getElem? z)
  have dmy := put_dm T.dm y
  have ris' : Ris (t.put y).1.place.toList := ris_insert T.ris hne
  have msk : (t.put y).1.mask = t.mask := rfl
  generalize SetTable.below t.place y = b at *
  have l1 : b ≤ t.place.toList.length := by rw [Array.length_toList]; exact cut
  have l2 : b ≤ hs.length := by omega
  have siz : (t.put y).1.place.size = hs.length + 1 := by
    rw [← Array.length_toList, new, len_ins _ l1, Array.length_toList, z0]
  have more : ∀ u, u ∈ t.place.toList → u ∈ (t.put y).1.place.toList := fun u hu => by rw [new]; exact mem_ins.mpr (Or.inr hu)
  refine ⟨l2, ⟨ris', dmy, ?_, T.mok, fun u hu => ?_, fun n v u h1 h2 => ?_⟩, ?_⟩
  · rw [len_ins _ l2, siz]
  · rw [new, mem_ins] at hu
    rcases hu with rfl | hu
    · exact hy
    · exact T.bd u hu
  · rw [tins_get hs l2] at h1
    rw [new, tins_get _ l1] at h2
    rw [msk]
    by_cases lt : n < b
    · rw [if_pos lt] at h1 h2
      obtain ⟨c, q1, q2⟩ := T.rch n v u h1 h2
      exact ⟨c, q1, fun d hd => more _ (q2 d hd)⟩
    · rw [if_neg lt] at h1 h2
      by_cases eq : n = b
      · rw [if_pos eq] at h1 h2
        cases h1
        cases h2
        exact ⟨K, e.symm, fun d hd => more _ (hb d hd)⟩
      · rw [if_neg eq] at h1 h2
        obtain ⟨c, q1, q2⟩ := T.rch (n - 1) v u h1 h2
        exact ⟨c, q1, fun d hd => more _ (q2 d hd)⟩
  · show (t.put y).1.place.size + (t.put y).1.dummies.size = _
    rw [siz, dmy]; rfl
/-- a free place is found -/
theorem finds {m : Nat} (hm : Msk m) (ow : Array (Option Nat)) (x : Int) {y : Nat} (hy : y ≤ m) (hf : oAt ow y = none) :
    ∃ K, SetTable.layClean.free m ow (SetTable.turns m) (SetTable.bits x % (m + 1)) (SetTable.bits x) = some (way m x K) ∧ oAt ow (way m x K) = none ∧ ∀ c, c < K → oAt ow (way m x c) ≠ none := by
  obtain ⟨n, hn, e⟩ := runs_to hm x hy
  have hw : way m x (off m (SetTable.bits x % (m + 1)) (SetTable.bits x) n) = y := by
    show (nth m (runAt m _ _) (off m _ _ n)).j = y
    rw [nth_off, itL_run]; exact e
  obtain ⟨K, z1, z2, z3⟩ := st_least (p := fun c => oAt ow (way m x c) = none) (off m (SetTable.bits x % (m + 1)) (SetTable.bits x) n) (show oAt ow (way m x _) = none by rw [hw]; exact hf)
  refine ⟨K, free_spec m ow _ n _ _ K (by unfold SetTable.turns; omega) z1 (fun c hc => ?_) ?_, z2, z3⟩
  · show (oAt ow (way m x c)).isNone = false
    cases q : oAt ow (way m x c) with
    | none => exact absurd q (z3 c hc)
    | some _ => rfl
  · show (oAt ow (way m x K)).isNone = true
    rw [z2]; rfl
theorem own_add {m : Nat} (hm : Msk m) {dn : List Int} {ow : Array (Option Nat)} (W : Own m dn ow) (hl : dn.length ≤ m) (x : Int) :
    ∃ y, SetTable.layClean.free m ow (SetTable.turns m) (SetTable.bits x % (m + 1)) (SetTable.bits x) = some y ∧ Own m (dn ++ [x]) (ow.setIfInBounds y (some dn.length)) := by
  obtain ⟨sat, hsat, sin⟩ := W.ps
  obtain ⟨u, hu, hun⟩ := st_missing sat (m + 1) (by omega)
  have hfree : oAt ow u = none := Classical.byContradiction fun w => hun (sin u (by omega) w)
  obtain ⟨K, e1, e2, e3⟩ := finds hm ow x (show u ≤ m by omega) hfree
  have hyw : way m x K ≤ m := way_bd
  have inb : way m x K < ow.size := by rw [W.sz]; omega
  have new := oAt_set_self (some dn.length) inb
  have old : ∀ c, c ≠ way m x K → oAt (ow.setIfInBounds (way m x K) (some dn.length)) c = oAt ow c := fun c hc => oAt_set_ne _ hc
  have kept : ∀ c, oAt ow c ≠ none → oAt (ow.setIfInBounds (way m x K) (some dn.length)) c ≠ none := fun c hc => by
    by_cases z : c = way m x K
    · rw [z, new]; simp
    · rw [old c z]; exact hc
  refine ⟨_, e1, ⟨by rw [Array.size_setIfInBounds, W.sz], fun y c hy hc => ?_, fun c hc => ?_, ⟨way m x K :: sat, by simp [hsat], fun y hy hc => ?_⟩⟩⟩
  · by_cases z : y = way m x K
    · rw [z, new] at hc
      cases hc
      exact ⟨x, K, by simp, z.symm, fun d hd => kept _ (e3 d hd)⟩
    · rw [old y z] at hc
      obtain ⟨v, L, q1, q2, q3⟩ := W.at_ y c hy hc
      exact ⟨v, L, by rw [List.getElem?_append_left (List.getElem?_eq_some_iff.mp q1).1]; exact q1, q2, fun d hd => kept _ (q3 d hd)⟩
  · rw [List.length_append, List.length_singleton] at hc
    by_cases z : c < dn.length
    · obtain ⟨y, hy, q⟩ := W.all c z
      refine ⟨y, hy, ?_⟩
      rw [old y fun w => by rw [w, e2] at q; cases q]
      exact q
    · exact ⟨_, hyw, by rw [new]; congr 1; omega⟩
  · by_cases z : y = way m x K
    · rw [z]; simp
    · rw [old y z] at hc
      exact List.mem_cons_of_mem _ (sin y hy hc)
theorem own_adds {m : Nat} (hm : Msk m) : ∀ (r dn : List Int) (ow : Array (Option Nat)), Own m dn ow → dn.length + r.length ≤ m →
    ∃ ow', r.foldl (stepF m) (some (ow, dn.length)) = some (ow', dn.length + r.length) ∧ Own m (dn ++ r) ow'
  | [], dn, ow, W, _ => ⟨ow, rfl, by rw [List.append_nil]; exact W⟩
  | x :: r, dn, ow, W, hl => by
    have hl' : dn.length + r.length + 1 ≤ m := by rw [List.length_cons] at hl; omega
    obtain ⟨y, e, W2⟩ := own_add hm W (by omega) x
    obtain ⟨ow', e', W'⟩ := own_adds hm r (dn ++ [x]) _ W2 (by rw [List.length_append, List.length_singleton]; omega)
    refine ⟨ow', ?_, by rw [List.append_assoc] at W'; exact W'⟩
    rw [List.length_append, List.length_singleton] at e'
    rw [List.foldl_cons, stepF_some e, e', List.length_cons]
    congr 2
    omega
/-- a table laid anew -/
theorem relays (t : SetTable) {hs : Array Int} {wanted M : Nat} (hw : SetTable.sizeAbove wanted - 1 = M) (hM : Msk M) (hn : hs.size ≤ M) :
    ∃ t' ord, t.relaid hs wanted = some (t', ord) ∧ ord.toList.Perm (List.range hs.size) ∧ Tb t' (ord.toList.map fun i => hs.getD i 0) ∧ t'.mask = M ∧ t'.led = t.led ∧ t'.plain = t.plain ∧ t'.dummies = #[] := by
  have hlen0 : hs.toList.length = hs.size := rfl
  obtain ⟨ow, e, W⟩ := own_adds hM hs.toList [] _ (Own.init M) (by rw [hlen0]; show 0 + hs.size ≤ M; omega)
  rw [List.nil_append] at W
  have e0 : SetTable.layClean M hs = some ow := by
    rw [layClean_eq]
    have : hs.toList.foldl (stepF M) (some (Array.replicate (M + 1) none, 0)) = some (ow, ([] : List Int).length + hs.toList.length) := e
    rw [this]; rfl
  have all0 : t.relaid hs wanted = some (tabOf t M ow, ((liveOf M ow).map (·.2)).toArray) := by
    rw [relaid_eq, hw, e0]; rfl
  obtain ⟨up, within⟩ := ris_live (fun j => ow.getD j none) (List.range (M + 1)) (show Ris _ from List.pairwise_lt_range)
  have up : Ris ((liveOf M ow).map (·.1)) := up
  have within : ∀ u ∈ (liveOf M ow).map (·.1), u ∈ List.range (M + 1) := within
  have live := fun {y c : Nat} => mem_live (j := y) (k := c) W.sz
  have once : ((liveOf M ow).map (·.1)).Nodup := List.Pairwise.imp (fun z => Nat.ne_of_lt z) up
  have cnt : (liveOf M ow).length = hs.size := by
    obtain ⟨sat, s1, s2⟩ := W.ps
    have le1 := nat_nodup_len _ sat once fun u hu => by
      obtain ⟨⟨y, c⟩, hq, rfl⟩ := List.mem_map.mp hu
      have := live.mp hq
      exact s2 y this.1 (by rw [this.2]; simp)
    have le2 := nat_nodup_len (List.range hs.size) ((liveOf M ow).map (·.2)) List.nodup_range fun c hc => by
      obtain ⟨y, q1, q2⟩ := W.all c (List.mem_range.mp hc)
      exact List.mem_map.mpr ⟨(y, c), live.mpr ⟨q1, q2⟩, rfl⟩
    rw [List.length_map] at le1 le2
    rw [List.length_range] at le2
    omega
  refine ⟨_, _, all0, ?_, ⟨up, rfl, ?_, hM, fun u hu => ?_, fun n x y h1 h2 => ?_⟩, rfl, rfl, rfl, rfl⟩
  · refine perm_range hs.size _ (by show ((liveOf M ow).map (·.2)).length = _; rw [List.length_map]; exact cnt) fun c hc => ?_
    obtain ⟨y, q1, q2⟩ := W.all c hc
    exact List.mem_map.mpr ⟨(y, c), live.mpr ⟨q1, q2⟩, rfl⟩
  · show ((liveOf M ow).map (·.1)).length = (((liveOf M ow).map (·.2)).map fun i => hs.getD i 0).length
    simp only [List.length_map]
  · have := List.mem_range.mp (within u hu)
    show u ≤ M
    omega
  · have h1 : (((liveOf M ow).map (·.2)).map fun i => hs.getD i 0)[n]? = some x := h1
    have h2 : ((liveOf M ow).map (·.1))[n]? = some y := h2
    simp only [List.getElem?_map] at h1 h2
    cases q : (liveOf M ow)[n]? with
    | none => rw [q] at h2; cases h2
    | some p =>
      obtain ⟨u, c⟩ := p
      rw [q] at h1 h2
      cases h2
      have hx : hs.getD c 0 = x := Option.some.inj h1
      have hm := live.mp (List.mem_of_getElem? q)
      obtain ⟨v, K, q1, q2, q3⟩ := W.at_ _ c hm.1 hm.2
      have hv : hs.getD c 0 = v := by
        rw [Array.getElem?_toList] at q1
        rw [Array.getD_eq_getD_getElem?, q1]; rfl
      rw [hx] at hv
      subst hv
      refine ⟨K, q2, fun d hd => ?_⟩
      show way M x d ∈ (liveOf M ow).map (·.1)
      cases z : oAt ow (way M x d) with
      | none => exact absurd z (q3 d hd)
      | some b => exact List.mem_map.mpr ⟨(_, b), live.mpr ⟨way_bd, z⟩, rfl⟩
theorem size_308 : SetTable.sizeAbove (SetTable.grown 77) = 512 := by decide +kernel
end Vs

set_option maxRecDepth 100000
set_option maxHeartbeats 3200000
/-! ### sets of tuples in tuples, up to 306 of them: the search, adding, set(xs) of a list -/
namespace Vs
open PySem PySem.Spec PyProof.Rows L2
/-! keys without texts -/
mutual
def numK : NestedKey → Bool
  | .none => true
  | .num _ => true
  | .text _ => false
  | .tup ks => numKs ks
def numKs : List NestedKey → Bool
  | [] => true
  | k :: ks => numK k && numKs ks
end
/-- the tuple at b is the key k -/
structure KAt (h : Heap) (k : NestedKey) (b : Addr) : Prop where
  is : NestedIs h k (.ref b)
  dp : k.depth ≤ 8
  nt : numK k = true
section
variable {P : Program} {w : World} {A : Around} {E : Value → Shared → Prop} {s : Shared}
mutual
theorem classless (P : Program) (w : World) : ∀ (k : NestedKey) (v : Value) (n : Nat) (s : Shared), NestedIs s.heap k v → k.depth ≤ n → ∀ (A : Around) (E : Value → Shared → Prop) (Q : Bool → Shared → Prop), Q false s → wpAny (model P w) A (ofAClassStatement n v) Q E s
  | .none, _, n, s, x, _, A, E, Q, q => by cases x; cases n <;> exact wpAny_pure q
  | .num i, _, n, s, x, _, A, E, Q, q => by cases x <;> cases n <;> exact wpAny_pure q
  | .text y, _, n, s, x, _, A, E, Q, q => by cases x; cases n <;> exact wpAny_pure q
  | .tup ks, _, n, s, x, hn, A, E, Q, q => by
    cases x with
    | @tup b o vs c _ hg hc hd hk =>
      simp only [NestedKey.depth] at hn
      cases n with
      | zero => omega
      | succ n =>
        have all := classlessAll P w ks _ n s hk (by omega)
        unfold ofAClassStatement
        refine wpAny_bind (wpAny_typeOf (show s.TypeIs (.ref b) "tuple" from ⟨o, hg, hc⟩) ?_)
        dsimp only
        have e : (("tuple" : String) == "tuple") = true := by decide
        simp only [e, if_true, Bool.not_true, Bool.false_eq_true, if_false]
        try refine wpAny_bind (wpAny_pure ?_)
        try simp only [Bool.not_true, Bool.false_eq_true, if_false]
        show wpAny _ _ (seqItems? (.ref b) >>= _) _ _ s
        refine wpAny_bind (wpAny_seqItems hg hd ?_)
        dsimp only
        refine wpAny_bind ?_
        show wpAny _ _ (forIn vs _ _) _ _ s
        rw [← Array.forIn_toList]
        refine wpAny_forIn_list _ (fun left r s' => r.1 = none ∧ s' = s ∧ ∀ v ∈ left, v ∈ vs.toList) _ ?_ ?_ _ _ ⟨rfl, rfl, fun _ z => z⟩
        · rintro v left r s' ⟨hr, rfl, sub⟩
          refine wpAny_bind (all v (sub v List.mem_cons_self) _ _ _ ?_)
          simp only [Bool.false_eq_true, if_false]
          exact wpAny_pure ⟨rfl, rfl, fun u hu => sub u (List.mem_cons_of_mem _ hu)⟩
        · rintro ⟨r1, r2⟩ s' ⟨hr, rfl, _⟩
          simp only at hr
          subst hr
          exact wpAny_pure q
theorem classlessAll (P : Program) (w : World) : ∀ (ks : List NestedKey) (vs : List Value) (n : Nat) (s : Shared), NestedAll s.heap ks vs → NestedKey.depthAll ks ≤ n → ∀ v ∈ vs, ∀ (A : Around) (E : Value → Shared → Prop) (Q : Bool → Shared → Prop), Q false s → wpAny (model P w) A (ofAClassStatement n v) Q E s
  | [], _, n, s, x, _, v, hv => by cases x; cases hv
  | k :: ks, _, n, s, x, hn, v, hv => by
    cases x with
    | cons x1 x2 =>
      simp only [NestedKey.depthAll] at hn
      rcases List.mem_cons.mp hv with e | hv
      · rw [e]; exact classless P w k _ n s x1 (by omega)
      · exact classlessAll P w ks _ n s x2 (by omega) v hv
end
mutual
theorem byVal (P : Program) (w : World) : ∀ (k : NestedKey) (v : Value) (n : Nat) (s : Shared), NestedIs s.heap k v → k.depth ≤ n → numK k = true → ∀ (A : Around) (E : Value → Shared → Prop) (Q : Bool → Shared → Prop), Q true s → wpAny (model P w) A (hashByValue n v) Q E s
  | .none, _, n, s, x, _, _, A, E, Q, q => by cases x; cases n <;> exact wpAny_pure q
  | .num i, _, n, s, x, _, _, A, E, Q, q => by cases x <;> cases n <;> exact wpAny_pure q
  | .text y, _, n, s, x, _, hz, A, E, Q, q => by cases hz
  | .tup ks, _, n, s, x, hn, hz, A, E, Q, q => by
    cases x with
    | @tup b o vs c _ hg hc hd hk =>
      simp only [NestedKey.depth] at hn
      cases n with
      | zero => omega
      | succ n =>
        have all := byVals P w ks _ n s hk (by omega) (by rw [numK] at hz; exact hz)
        unfold hashByValue
        refine wpAny_bind (wpAny_specialOf (show s.TypeIs (.ref b) "tuple" from ⟨o, hg, hc⟩) F.slot_tuple_hash.lookup ?_)
        show wpAny _ _ (seqItems? (.ref b) >>= _) _ _ s
        refine wpAny_bind (wpAny_seqItems hg hd ?_)
        refine wpAny_bind ?_
        show wpAny _ _ (forIn vs _ _) _ _ s
        rw [← Array.forIn_toList]
        refine wpAny_forIn_list _ (fun left r s' => r.1 = none ∧ s' = s ∧ ∀ v ∈ left, v ∈ vs.toList) _ ?_ ?_ _ _ ⟨rfl, rfl, fun _ z => z⟩
        · rintro v left r s' ⟨hr, rfl, sub⟩
          refine wpAny_bind (all v (sub v List.mem_cons_self) _ _ _ ?_)
          simp only [Bool.not_true, Bool.false_eq_true, if_false]
          exact wpAny_pure ⟨rfl, rfl, fun u hu => sub u (List.mem_cons_of_mem _ hu)⟩
        · rintro ⟨r1, r2⟩ s' ⟨hr, rfl, _⟩
          simp only at hr
          subst hr
          exact wpAny_pure q
theorem byVals (P : Program) (w : World) : ∀ (ks : List NestedKey) (vs : List Value) (n : Nat) (s : Shared), NestedAll s.heap ks vs → NestedKey.depthAll ks ≤ n → numKs ks = true → ∀ v ∈ vs, ∀ (A : Around) (E : Value → Shared → Prop) (Q : Bool → Shared → Prop), Q true s → wpAny (model P w) A (hashByValue n v) Q E s
  | [], _, n, s, x, _, _, v, hv => by cases x; cases hv
  | k :: ks, _, n, s, x, hn, hz, v, hv => by
    cases x with
    | cons x1 x2 =>
      simp only [NestedKey.depthAll] at hn
      rw [numKs, Bool.and_eq_true] at hz
      rcases List.mem_cons.mp hv with e | hv
      · rw [e]; exact byVal P w k _ n s x1 (by omega) hz.1
      · exact byVals P w ks _ n s x2 (by omega) hz.2 v hv
end
theorem KAt.nk {h : Heap} {k : NestedKey} {b : Addr} (x : KAt h k b) : (nestedKind P w).is h k b := ⟨x.is, x.dp⟩
theorem KAt.stays {h h' : Heap} {k : NestedKey} {b : Addr} (x : KAt h k b) (e : ∀ c o, h.get? c = some o → (∃ vs n, o.data = .seq vs n) → h'.get? c = some o) : KAt h' k b :=
  ⟨NestedIs.at (fun c oc vs n hc hd => e c oc hc ⟨vs, n, hd⟩) k _ x.is, x.dp, x.nt⟩
theorem KAt.inj {h : Heap} {k l : NestedKey} {b : Addr} (x : KAt h k b) (y : KAt h l b) : k = l := NestedIs.inj _ _ _ x.is y.is
/-- no search among such tuples can be seen -/
theorem unseen {k : NestedKey} {b : Addr} {Q : Bool → Shared → Prop} (hb : KAt s.heap k b) {ys : List Value} (hy : ∀ y ∈ ys, ∃ l c, y = Value.ref c ∧ KAt s.heap l c) (q : Q false s) : wpAny (model P w) A (searchCouldBeSeen (.ref b) ys) Q E s := by
  unfold searchCouldBeSeen
  refine wpAny_bind ?_
  refine wpAny_forIn_list _ (fun left r s' => r.1 = none ∧ s' = s ∧ ∀ y ∈ left, ∃ l c, y = Value.ref c ∧ KAt s.heap l c) _ ?_ ?_ _ _ ⟨rfl, rfl, hy⟩
  · rintro v left r s' ⟨hr, rfl, each⟩
    obtain ⟨l, c, rfl, hc⟩ := each v List.mem_cons_self
    have next := fun u (hu : u ∈ left) => each u (List.mem_cons_of_mem _ hu)
    dsimp only
    by_cases hv : (b == c || (carriedByValue (.ref b) && carriedByValue (.ref c))) = true
    · exact wp_if_pos hv (wpAny_pure ⟨rfl, rfl, next⟩)
    · refine wp_if_neg hv ?_
      refine wpAny_bind ((nestedKind P w).quiet hb.nk ?_)
      simp only [Bool.not_true, Bool.false_eq_true, if_false]
      refine wpAny_bind ((nestedKind P w).quiet hc.nk ?_)
      simp only [Bool.not_true, Bool.false_eq_true, if_false]
      refine wpAny_bind (classless P w _ _ _ _ hb.is hb.dp _ _ _ ?_)
      simp only [Bool.false_eq_true, if_false]
      refine wpAny_bind (classless P w _ _ _ _ hc.is hc.dp _ _ _ ?_)
      simp only [Bool.false_eq_true, if_false]
      exact wpAny_pure ⟨rfl, rfl, next⟩
  · rintro ⟨r1, r2⟩ s' ⟨hr, rfl, _⟩
    simp only at hr
    subst hr
    exact wpAny_pure q
end

/-! the set -/
abbrev Kp := NestedKey × Addr
def ent (w : World) (p : Kp) : Int × Value := (p.1.hash w, Value.ref p.2)
structure SetK (w : World) (h : Heap) (a : Addr) (L : List Kp) (es : Array (Int × Value)) (ep : Nat) (t : SetTable) : Prop where
  ob : ∃ o, h.get? a = some o ∧ o.ExactSet ∧ o.data = .set es ep t
  es : es.toList = L.map (ent w)
  tab : Tb t (L.map fun p => p.1.hash w)
  nd : (L.map Prod.fst).Nodup
  key : ∀ p ∈ L, KAt h p.1 p.2
  plain : t.plain = true
  led : w.params.followText "set-order" = true ∨ t.led = true
  room : L.length * 5 < t.mask * 3
section
variable {P : Program} {w : World} {A : Around} {E : Value → Shared → Prop} {s : Shared} {a : Addr} {L : List Kp} {es : Array (Int × Value)} {ep : Nat} {t : SetTable}
theorem len_of (hr : es.toList = L.map (ent w)) : es.size = L.length := by
  rw [← Array.length_toList, hr, List.length_map]
theorem fits_of (hr : es.toList = L.map (ent w)) (T : Tb t (L.map fun p => p.1.hash w)) (hl : L.length ≤ t.mask) : t.fits es.size = true := by
  have h1 := T.sz
  rw [List.length_map] at h1
  have h2 := len_of hr
  unfold SetTable.fits SetTable.fill
  rw [T.dm, Bool.and_eq_true, beq_iff_eq, decide_eq_true_eq]
  refine ⟨?_, ?_⟩
  · show t.place.size = es.size
    omega
  · show t.place.size + 0 ≤ t.mask
    omega
theorem SetK.fits (R : SetK w s.heap a L es ep t) : t.fits es.size = true := fits_of R.es R.tab (by have := R.room; omega)
theorem at_ent (hr : es.toList = L.map (ent w)) {i : Nat} {p : Kp} (h : L[i]? = some p) : es[i]? = some (ent w p) := by
  rw [← Array.getElem?_toList, hr, List.getElem?_map, h]; rfl
/-- the c-th state of the search for a hash -/
abbrev stp (m : Nat) (x : Int) (c : Nat) : SetTable.Probe := nth m (runAt m (SetTable.bits x % (m + 1)) (SetTable.bits x)) c
theorem stp_on (m : Nat) (x : Int) (c q : Nat) : nth m (stp m x c) q = stp m x (c + q) := (nth_add m c _ q).symm
theorem no_dummy (m : Nat) : ∀ (n : Nat) (p : SetTable.Probe), p.dummy = none → (nth m p n).dummy = none
  | 0, p, h => h
  | n + 1, p, h => no_dummy m n (adv m p) (by unfold adv; split <;> exact h)
/-- the search, from the c-th state on; K is where the first empty place is -/
theorem seek (R : SetK w s.heap a L es ep t) {x : Addr} {k : NestedKey} (hx : KAt s.heap k x) (hu : A.units + 8 < cLine) {K : Nat} (hT : K < 10 * SetTable.turns t.mask)
    (hE : way t.mask (k.hash w) K ∉ t.place.toList) (hF : ∀ c, c < K → way t.mask (k.hash w) c ∈ t.place.toList) {Q : SetFound → Shared → Prop}
    (yes : k ∈ L.map Prod.fst → Q (.there none) s) (no : k ∉ L.map Prod.fst → Q (.free (way t.mask (k.hash w) K) false) s) (f : Nat) :
    ∀ (c : Nat) (stand : Option SetTable.Probe), stand.getD (t.probeStart (k.hash w)) = stp t.mask (k.hash w) c → c ≤ K → K - c < f →
      (∀ (i : Nat) p, L[i]? = some p → p.1 = k → ∃ d, c ≤ d ∧ d < K ∧ t.place.toList[i]? = some (way t.mask (k.hash w) d)) → wpAny (model P w) A (setSearchFrom a (.ref x) (k.hash w) true f stand) Q E s := by
  induction f with
  | zero => intro c stand _ _ z _; exact absurd z (Nat.not_lt_zero _)
  | succ f ih =>
    intro c stand hst hc hf left
    obtain ⟨o, ho, hex, hd⟩ := R.ob
    have hgw : ¬ t.gaveWay = true := by unfold SetTable.gaveWay; rw [msk_odd R.tab.mok]; decide
    rw [setSearchFrom_succ]
    refine wpAny_bind (wpAny_setState_of ho hd R.fits ?_)
    dsimp only
    refine wp_if_neg hgw ?_
    try refine wpAny_bind (wpAny_pure ?_)
    have ej : ∀ q, (nth t.mask (stp t.mask (k.hash w) c) q).j = way t.mask (k.hash w) (c + q) := fun q => congrArg SetTable.Probe.j (stp_on _ _ _ _)
    have K' : c + (K - c) = K := by omega
    have look := go_spec t R.tab.ris R.tab.dm (fun i => (es[i]?.map (·.1)).getD 0) (k.hash w) (10 * SetTable.turns t.mask) (K - c) (stp t.mask (k.hash w) c) (no_dummy _ c _ rfl) (by omega)
      (fun q hq => by rw [ej]; exact hF (c + q) (by omega)) (by rw [ej, K']; exact hE)
    have hAt : ∀ (i : Nat) p, L[i]? = some p → (es[i]?.map (·.1)).getD 0 = p.1.hash w := fun i p hp => by rw [at_ent R.es hp]; rfl
    have passed : ∀ (lim : Nat), (∀ (d i : Nat), d < lim → t.place.toList[i]? = some (nth t.mask (stp t.mask (k.hash w) c) d).j → (es[i]?.map (·.1)).getD 0 ≠ k.hash w) →
        ∀ (i : Nat) p (d : Nat), L[i]? = some p → p.1 = k → c ≤ d → d < c + lim → t.place.toList[i]? = some (way t.mask (k.hash w) d) → False := fun lim hno i p d hp hk h1 h2 h3 => by
      refine hno (d - c) i (by omega) ?_ ?_
      · rw [ej, show c + (d - c) = d by omega]; exact h3
      · rw [hAt i p hp, hk]
    rcases look with ⟨q, i, hq, hi, hh, hno, hpr⟩ | ⟨hno, hpr⟩
    · have hpr' : t.probe (fun i => (es[i]?.map (·.1)).getD 0) (k.hash w) (stp t.mask (k.hash w) c) = _ := hpr
      rw [hst, hpr']
      dsimp only
      rw [ej] at hi ⊢
      rw [stp_on]
      have hil : i < L.length := by
        have h1 := (List.getElem?_eq_some_iff.mp hi).1
        have h2 := R.tab.sz
        rw [List.length_map] at h2
        rw [Array.length_toList] at h1
        omega
      obtain ⟨p, hp⟩ : ∃ p, L[i]? = some p := ⟨_, List.getElem?_eq_getElem hil⟩
      have hin : p ∈ L := List.mem_of_getElem? hp
      have hkp := R.key p hin
      have on : wpAny (model P w) A (searchRest a (.ref x) (k.hash w) true f es t (way t.mask (k.hash w) (c + q)) i (stp t.mask (k.hash w) (c + (q + 1)))) Q E s := by
        unfold searchRest
        rw [at_ent R.es hp]
        dsimp only [ent]
        refine wpAny_bind (wpAny_holding ((nestedKind P w).eqBool hu hkp.nk hx.nk ?_))
        refine wpAny_bind (wpAny_setState_of ho hd R.fits ?_)
        dsimp only
        by_cases same : p.1 = k
        · refine wp_if_pos (by simp [same]) (wpAny_pure (yes ?_))
          exact List.mem_map.mpr ⟨p, hin, same⟩
        · refine wp_if_neg (by simp [same]) ?_
          try refine wpAny_bind (wpAny_pure ?_)
          rw [sameMem]
          dsimp only
          have live : t.slot (way t.mask (k.hash w) (c + q)) = .live i := slot_live R.tab.ris hi
          simp only [if_true, live, at_ent R.es hp, ent]
          refine wpAny_bind (wpAny_isSame_ref_self (wpAny_bind (wpAny_pure ?_)))
          simp only [if_true]
          refine wp_if_neg (by simp [same]) ?_
          refine ih (c + (q + 1)) _ rfl (by omega) (by omega) fun i0 p0 h0 k0 => ?_
          obtain ⟨d, a1, a2, a3⟩ := left i0 p0 h0 k0
          refine ⟨d, ?_, a2, a3⟩
          apply Decidable.byContradiction
          intro hlt
          by_cases he : d = c + q
          · rw [he] at a3
            have l0 := slot_live R.tab.ris a3
            rw [live] at l0
            injection l0 with l0
            rw [← l0, hp] at h0
            exact same ((congrArg Prod.fst (Option.some.inj h0)).trans k0)
          · exact passed q hno i0 p0 d h0 k0 a1 (by omega) a3
      by_cases hl : t.led = true
      · refine wp_if_neg (by simp [hl]) ?_
        try refine wpAny_bind (wpAny_pure ?_)
        exact on
      · refine wp_if_pos (by simp [hl]) ?_
        refine wpAny_bind (unseen hx (fun y hy => ?_) ?_)
        · obtain ⟨e, he, rfl⟩ := List.mem_map.mp hy
          have h1 : e ∈ es.toList := by
            have h2 : e ∈ es ∧ e.1 = k.hash w := by simpa using he
            simpa using h2.1
          rw [R.es] at h1
          obtain ⟨p2, hp2, rfl⟩ := List.mem_map.mp h1
          exact ⟨p2.1, p2.2, rfl, R.key p2 hp2⟩
        · refine wp_if_neg (by decide) ?_
          try refine wpAny_bind (wpAny_pure ?_)
          exact on
    · have hpr' : t.probe (fun i => (es[i]?.map (·.1)).getD 0) (k.hash w) (stp t.mask (k.hash w) c) = _ := hpr
      rw [hst, hpr']
      dsimp only
      rw [ej, K']
      refine wpAny_pure (no fun hm => ?_)
      obtain ⟨p0, h0, k0⟩ := List.mem_map.mp hm
      obtain ⟨i0, hi0, e0⟩ := List.getElem_of_mem h0
      have h00 : L[i0]? = some p0 := by rw [List.getElem?_eq_getElem hi0, e0]
      obtain ⟨d, a1, a2, a3⟩ := left i0 p0 h00 k0
      exact passed (K - c) hno i0 p0 d h00 k0 a1 (by omega) a3
/-- the search as adding asks for it -/
theorem seek0 (R : SetK w s.heap a L es ep t) {x : Addr} {k : NestedKey} (hx : KAt s.heap k x) (hu : A.units + 8 < cLine) {Q : SetFound → Shared → Prop} (yes : k ∈ L.map Prod.fst → Q (.there none) s)
    (no : ∀ K, k ∉ L.map Prod.fst → way t.mask (k.hash w) K ∉ t.place.toList → (∀ c, c < K → way t.mask (k.hash w) c ∈ t.place.toList) → Q (.free (way t.mask (k.hash w) K) false) s) :
    wpAny (model P w) A (setSearch a (.ref x) (k.hash w) true) Q E s := by
  have hroom := R.room
  obtain ⟨K, hT, hE, hF⟩ := R.tab.first (by rw [List.length_map]; omega) (k.hash w)
  have hbig : K < 100000 := by
    have : 10 * SetTable.turns t.mask ≤ 6000 := by
      unfold SetTable.turns
      rcases R.tab.mok with (e | e | e) | e <;> omega
    omega
  unfold setSearch
  refine seek R hx hu hT hE hF yes (fun hn => no K hn hE hF) 100000 0 none rfl (Nat.zero_le _) (by omega) fun i p hp hk => ?_
  have hi : (L.map fun p => p.1.hash w)[i]? = some (k.hash w) := by rw [List.getElem?_map, hp, ← hk]; rfl
  have hil : i < t.place.toList.length := by
    have h1 := (List.getElem?_eq_some_iff.mp hp).1
    have h2 := R.tab.sz
    rw [List.length_map] at h2
    rw [Array.length_toList]
    omega
  have hj := List.getElem?_eq_getElem hil
  obtain ⟨c, hc, e⟩ := R.tab.ahead hE hi hj
  exact ⟨c, Nat.zero_le _, hc, by rw [hj, e]⟩
theorem ins_perm {α : Type} (L : List α) (p : Nat) (x : α) : (L.take p ++ x :: L.drop p).Perm (x :: L) :=
  List.perm_middle.trans (.of_eq (by rw [List.take_append_drop]))
theorem relaid_rows (hr : es.toList = L.map (ent w)) (order : Array Nat) (hp : order.toList.Perm (List.range L.length)) :
    ∃ M : List Kp, (order.filterMap (es[·]?)).toList = M.map (ent w) ∧ M.Perm L ∧ (M.map fun p => p.1.hash w) = order.toList.map fun i => (es.map (·.1)).getD i 0 := by
  have hsz := len_of hr
  have each : ∀ l : List Nat, (∀ i ∈ l, i < L.length) → ∃ M : List Kp, l.filterMap (fun i => es[i]?) = M.map (ent w) ∧ M = l.filterMap (fun i => L[i]?) ∧ (M.map fun p => p.1.hash w) = l.map fun i => (es.map (·.1)).getD i 0 := by
    intro l
    induction l with
    | nil => exact fun _ => ⟨[], rfl, rfl, rfl⟩
    | cons i l ih =>
      intro hl
      have hi := hl i List.mem_cons_self
      obtain ⟨M, e1, e2, e3⟩ := ih fun j hj => hl j (List.mem_cons_of_mem _ hj)
      have hL : L[i]? = some L[i] := List.getElem?_eq_getElem hi
      have hE := at_ent hr hL
      refine ⟨L[i] :: M, ?_, ?_, ?_⟩
      · rw [List.filterMap_cons_some hE, e1]; rfl
      · rw [List.filterMap_cons_some hL, e2]
      · rw [List.map_cons, List.map_cons, e3]
        have h5 : (es.map (·.1))[i]? = some (L[i].1.hash w) := by rw [Array.getElem?_map, hE]; rfl
        have h4 : (es.map (·.1)).getD i 0 = L[i].1.hash w := by simp [Array.getD_eq_getD_getElem?, h5]
        rw [h4]
  obtain ⟨M, e1, e2, e3⟩ := each order.toList fun i hi => List.mem_range.mp (hp.mem_iff.mp hi)
  refine ⟨M, by first | (rw [Array.toList_filterMap]; exact e1) | simpa using e1, ?_, e3⟩
  have h2 : ∀ n, n ≤ L.length → (List.range n).filterMap (fun i => L[i]?) = L.take n := fun n => by
    induction n with
    | zero => exact fun _ => rfl
    | succ n ih =>
      intro hn
      rw [List.range_succ, List.filterMap_append, ih (Nat.le_of_lt hn), List.take_succ, List.getElem?_eq_getElem hn, List.filterMap_cons_some (List.getElem?_eq_getElem hn)]
      rfl
  have h1 := hp.filterMap fun i => L[i]?
  rw [h2 _ (Nat.le_refl _), List.take_length, ← e2] at h1
  exact h1
theorem KAt.same {h h' : Heap} {k : NestedKey} {b : Addr} {o : Obj} (x : KAt h k b) (ho : h.get? a = some o) (hd : o.data = .set es ep t) (hs : Heap.SameBut a h h') : KAt h' k b :=
  x.stays fun c u hc ⟨vs, n, hv⟩ => (hs.2 c fun e => by
    subst e
    rw [ho] at hc
    cases hc
    rw [hd] at hv
    cases hv).trans hc
/-- a larger table -/
theorem relay {o : Obj} (ho : s.heap.get? a = some o) (hex : o.ExactSet) (hd : o.data = .set es ep t) (hr : es.toList = L.map (ent w)) (hsz : t.place.size = es.size) (hdm : t.dummies = #[]) (hfl : es.size ≤ t.mask) (nd : (L.map Prod.fst).Nodup) (key : ∀ p ∈ L, KAt s.heap p.1 p.2)
    (pl : t.plain = true) (ld : w.params.followText "set-order" = true ∨ t.led = true) {wanted M : Nat} (hw : SetTable.sizeAbove wanted - 1 = M) (hM : Msk M) (hw2 : SetTable.sizeAbove wanted ≤ 512) (hn : L.length * 5 < M * 3) {Q : Unit → Shared → Prop}
    (q : ∀ h' L' es' ep' t', Heap.SameBut a s.heap h' → SetK w h' a L' es' ep' t' → L'.Perm L → Q () { s with heap := h' }) : wpAny (model P w) A (setRelay a wanted) Q E s := by
  have hsl := len_of hr
  have hfits : t.fits es.size = true := by
    unfold SetTable.fits SetTable.fill
    rw [hdm, Bool.and_eq_true, beq_iff_eq, decide_eq_true_eq]
    refine ⟨hsz, ?_⟩
    show t.place.size + 0 ≤ t.mask
    omega
  obtain ⟨t', order, e, hp, T, em, el, ep', ed⟩ := relays t (hs := es.map (·.1)) (wanted := wanted) hw hM (by rw [Array.size_map, hsl]; omega)
  rw [Array.size_map, hsl] at hp
  obtain ⟨N, r1, r2, r3⟩ := relaid_rows hr order hp
  rw [← r3] at T
  have hs2 : (order.filterMap (es[·]?)).size = es.size := by rw [len_of r1, r2.length_eq, hsl]
  rw [setRelay_eq]
  refine wpAny_bind (wpAny_setState_of ho hd hfits ?_)
  dsimp only
  refine wp_if_neg (by rw [sizeLine_eq]; omega) ?_
  try refine wpAny_bind (wpAny_pure ?_)
  rw [e]
  dsimp only
  refine wpAny_bind ?_
  refine wp_if_neg (by rw [hs2]; simp) ?_
  try refine wpAny_bind (wpAny_pure ?_)
  refine wpAny_pure ?_
  dsimp only
  refine wpAny_storeSet_of ho hd ?_ (by rw [hs2, hsl, sizeLine_eq]; have : M ≤ 511 := by omega
                                        omega)
  have sb : Heap.SameBut a s.heap (s.heap.update a (Obj.putSet (order.filterMap (es[·]?)) t')) := Heap.SameBut.update ..
  exact q _ N _ (ep + 1) t' sb ⟨⟨_, store_at ho hd, ⟨hex.1, hex.2.1, hex.2.2⟩, rfl⟩, r1, T, (r2.map Prod.fst).nodup_iff.mpr nd, fun p hpm => (key p (r2.mem_iff.mp hpm)).same ho hd sb, by rw [ep']; exact pl, by rw [el]; exact ld, by rw [r2.length_eq, em]; exact hn⟩ r2
/-- adding -/
theorem addK (R : SetK w s.heap a L es ep t) {x : Addr} {k : NestedKey} (hx : KAt s.heap k x) (hu : A.units + 8 < cLine) (few : L.length < 306) {Q : Bool → Shared → Prop}
    (q : ∀ b h' L' es' ep' t', Heap.SameBut a s.heap h' → SetK w h' a L' es' ep' t' → (k ∈ L.map Prod.fst → L' = L) → (k ∉ L.map Prod.fst → L'.Perm ((k, x) :: L)) → Q b { s with heap := h' }) :
    wpAny (model P w) A (setAddHashed a (.ref x) (k.hash w)) Q E s := by
  obtain ⟨o, ho, hex, hd⟩ := R.ob
  have hsl := len_of R.es
  have hroom := R.room
  unfold setAddHashed
  refine wpAny_holding ?_
  rw [show (100000 : Nat) = 99999 + 1 from rfl, setAddHashedIn_succ]
  refine wpAny_bind (wpAny_setState_of ho hd R.fits ?_)
  dsimp only
  refine wp_if_neg (by simp [byScan, Value.scannable]) ?_
  try refine wpAny_bind (wpAny_pure ?_)
  refine wpAny_bind (seek0 R hx hu (fun hm => ?_) fun K hm hK hb => ?_)
  · dsimp only
    exact wpAny_pure (q false s.heap L es ep t (Heap.SameBut.refl a s.heap) R (fun _ => rfl) fun z => absurd hm z)
  dsimp only
  refine wpAny_bind (wpAny_setState_of ho hd R.fits ?_)
  dsimp only
  have q1 : (t.put (way t.mask (k.hash w) K)).2 = SetTable.below t.place (way t.mask (k.hash w) K) := rfl
  have q4 : (t.put (way t.mask (k.hash w) K)).1.mask = t.mask := rfl
  have q5 : (t.put (way t.mask (k.hash w) K)).1.led = t.led := rfl
  have q6 : (t.put (way t.mask (k.hash w) K)).1.plain = t.plain := rfl
  obtain ⟨q2, q3, q9⟩ := R.tab.put (K := K) rfl hK hb
  have hp1 : (t.put (way t.mask (k.hash w) K)).1.plain = true := by rw [q6]; exact R.plain
  generalize hpt : t.put (way t.mask (k.hash w) K) = pt at q1 q3 q4 q5 q6 q9 hp1 ⊢
  obtain ⟨t1, p⟩ := pt
  dsimp only at q1 q3 q4 q5 q6 q9 hp1 ⊢
  subst q1
  first
    | (refine wpAny_bind ?_; refine wp_if_pos hp1 ?_; refine byVal P w _ _ _ _ hx.is hx.dp hx.nt _ _ _ ?_)
    | refine wp_if_pos hp1 (wpAny_bind (byVal P w _ _ _ _ hx.is hx.dp hx.nt _ _ _ ?_))
  simp only [if_true]
  generalize hpp : SetTable.below t.place (way t.mask (k.hash w) K) = p at q2 q3 ⊢
  have hin : (SetTable.insertAt es p (k.hash w, Value.ref x)).toList = (L.take p ++ (k, x) :: L.drop p).map (ent w) := by
    rw [SetTable.toList_insertAt, R.es, List.map_append, List.map_cons, List.map_take, List.map_drop]; rfl
  have pm := ins_perm L p (k, x)
  have hlen : (L.take p ++ (k, x) :: L.drop p).length = L.length + 1 := pm.length_eq
  have hhs : (L.take p ++ (k, x) :: L.drop p).map (fun p => p.1.hash w) = (L.map fun p => p.1.hash w).take p ++ k.hash w :: (L.map fun p => p.1.hash w).drop p := by
    rw [List.map_append, List.map_cons, List.map_take, List.map_drop]
  rw [← hhs] at q3
  have nd1 : ((L.take p ++ (k, x) :: L.drop p).map Prod.fst).Nodup := (pm.map Prod.fst).nodup_iff.mpr (List.nodup_cons.mpr ⟨hm, R.nd⟩)
  have hes : (SetTable.insertAt es p (k.hash w, Value.ref x)).size = L.length + 1 := by rw [len_of hin, hlen]
  generalize SetTable.insertAt es p (k.hash w, Value.ref x) = es1 at hin hes ⊢
  generalize L.take p ++ (k, x) :: L.drop p = L1 at pm hlen q3 nd1 hin
  refine wpAny_bind (wpAny_storeSet_of ho hd ?_ (by rw [hes, sizeLine_eq]; omega))
  have sb : Heap.SameBut a s.heap (s.heap.update a (Obj.putSet es1 t1)) := Heap.SameBut.update ..
  have ho1 := store_at (es' := es1) (t' := t1) ho hd
  generalize s.heap.update a (Obj.putSet es1 t1) = h1 at sb ho1 ⊢
  have key1 : ∀ p ∈ L1, KAt h1 p.1 p.2 := fun p hp => by
    rcases List.mem_cons.mp (pm.mem_iff.mp hp) with e | hp
    · rw [e]; exact hx.same ho hd sb
    · exact (R.key p hp).same ho hd sb
  have ld1 : w.params.followText "set-order" = true ∨ t1.led = true := by rw [q5]; exact R.led
  by_cases hf : t1.tooFull = true
  · first
      | (refine wpAny_bind ?_; refine wp_if_pos (by simp [hf]) ?_)
      | (refine wp_if_pos (by simp [hf]) ?_; refine wpAny_bind ?_)
    have hfull : (L.length + 1) * 5 ≥ t1.mask * 3 := by
      have h := hf
      unfold SetTable.tooFull at h
      rw [decide_eq_true_eq, q9, List.length_map] at h
      exact h
    rw [hsl]
    have hsz1 : t1.place.size = es1.size := by
      have h := q3.sz
      rw [List.length_map, hlen] at h
      rw [h, hes]
    have which : (t.mask = 7 ∧ L.length = 4) ∨ (t.mask = 31 ∧ L.length = 18) ∨ (t.mask = 127 ∧ L.length = 76) := by
      rw [q4] at hfull
      rcases R.tab.mok with (e | e | e) | e <;> rw [e] at hfull hroom
      · exact Or.inl ⟨e, by omega⟩
      · exact Or.inr (Or.inl ⟨e, by omega⟩)
      · exact Or.inr (Or.inr ⟨e, by omega⟩)
      · omega
    have go : ∀ M, SetTable.sizeAbove (SetTable.grown (L.length + 1)) - 1 = M → Msk M → SetTable.sizeAbove (SetTable.grown (L.length + 1)) ≤ 512 → (L.length + 1) * 5 < M * 3 →
        wpAny (model P w) A (setRelay a (SetTable.grown (L.length + 1))) (fun _ s' => wpAny (model P w) A (pure true) Q E s') E { s with heap := h1 } := fun M g1 g2 g3 g4 => by
      refine relay (s := { s with heap := h1 }) ho1 ⟨hex.1, hex.2.1, hex.2.2⟩ rfl hin hsz1 q3.dm (by rw [hes, q4]; rcases which with ⟨e, e2⟩ | ⟨e, e2⟩ | ⟨e, e2⟩ <;> omega) nd1 key1 hp1 ld1 g1 g2 g3 (by rw [hlen]; exact g4) ?_
      exact fun h2 L2 es2 ep2 t2 sb2 R2 pm2 => wpAny_pure (q true h2 L2 es2 ep2 t2 (sb.trans sb2) R2 (fun z => absurd z hm) fun _ => pm2.trans pm)
    rcases which with ⟨_, e2⟩ | ⟨_, e2⟩ | ⟨_, e2⟩
    · exact go 31 (by rw [e2, size_20]) (.inl (.inr (.inl rfl))) (by rw [e2, size_20]; decide) (by omega)
    · exact go 127 (by rw [e2, size_76]) (.inl (.inr (.inr rfl))) (by rw [e2, size_76]; decide) (by omega)
    · exact go 511 (by rw [e2, size_308]) (.inr rfl) (by rw [e2, size_308]; decide) (by omega)
  · first
      | refine wp_if_neg (by simp [hf]) ?_
      | (refine wpAny_bind ?_; refine wp_if_neg (by simp [hf]) ?_; refine wpAny_pure ?_)
    refine wpAny_pure (q true h1 L1 es1 (ep + 1) t1 sb ⟨⟨_, ho1, ⟨hex.1, hex.2.1, hex.2.2⟩, rfl⟩, hin, q3, nd1, key1, hp1, ld1, ?_⟩ (fun z => absurd z hm) fun _ => pm)
    have h := hf
    unfold SetTable.tooFull at h
    rw [decide_eq_true_eq, q9, List.length_map] at h
    rw [hlen]
    omega
end
end Vs

set_option maxRecDepth 100000
set_option maxHeartbeats 3200000
/-! ### set(xs) of a list of such tuples; sorted and len of the set -/
namespace Vs
open PySem PySem.Spec PyProof.Rows L2
/-- what the set holds of the first i -/
structure GotK (ks : List Kp) (i : Nat) (L : List Kp) : Prop where
  sub : ∀ p ∈ L, p ∈ ks.take i
  all : ∀ p ∈ ks.take i, p.1 ∈ L.map Prod.fst
  len : L.length ≤ i
theorem GotK.step {ks L L' : List Kp} {i : Nat} {x : Kp} (g : GotK ks i L) (h : ks[i]? = some x) (c1 : x.1 ∈ L.map Prod.fst → L' = L) (c2 : x.1 ∉ L.map Prod.fst → L'.Perm (x :: L)) : GotK ks (i + 1) L' := by
  have hn : ks.take (i + 1) = ks.take i ++ [x] := take_next h
  by_cases c : x.1 ∈ L.map Prod.fst
  · rw [c1 c]
    refine ⟨fun p hp => by rw [hn]; exact List.mem_append_left _ (g.sub p hp), fun p hp => ?_, Nat.le_succ_of_le g.len⟩
    rw [hn] at hp
    rcases List.mem_append.mp hp with z | z
    · exact g.all p z
    · rw [List.mem_singleton.mp z]; exact c
  · have pm := c2 c
    refine ⟨fun p hp => ?_, fun p hp => ?_, ?_⟩
    · rw [hn]
      rcases List.mem_cons.mp (pm.mem_iff.mp hp) with e | z
      · exact List.mem_append_right _ (List.mem_singleton.mpr e)
      · exact List.mem_append_left _ (g.sub p z)
    · rw [hn] at hp
      refine (pm.map Prod.fst).mem_iff.mpr ?_
      rcases List.mem_append.mp hp with z | z
      · exact List.mem_cons_of_mem _ (g.all p z)
      · rw [List.mem_singleton.mp z]; exact List.mem_cons_self
    · rw [pm.length_eq]; exact Nat.succ_le_succ g.len
section
variable {P : Program} {w : World} {A : Around} {E : Value → Shared → Prop} {s : Shared}
theorem KAt.keep {h h' : Heap} {k : NestedKey} {b : Addr} (x : KAt h k b) (e : ∀ c o, h.get? c = some o → h'.get? c = some o) : KAt h' k b := x.stays fun c o hc _ => e c o hc
theorem SetK.keep {h h' : Heap} {a : Addr} {L : List Kp} {es : Array (Int × Value)} {ep : Nat} {t : SetTable} (R : SetK w h a L es ep t) (ea : ∀ o, h.get? a = some o → h'.get? a = some o) (ek : ∀ p ∈ L, KAt h' p.1 p.2) : SetK w h' a L es ep t := by
  obtain ⟨o, ho, r⟩ := R.ob
  exact ⟨⟨o, ea o ho, r⟩, R.es, R.tab, R.nd, ek, R.plain, R.led, R.room⟩
theorem setK_new {h : Heap} {a : Addr} (ho : h.get? a = some (set0 w)) : SetK w h a [] #[] 0 (.fresh 0 0 (!w.params.followText "set-order")) := by
  refine ⟨⟨_, ho, ⟨rfl, rfl, rfl⟩, rfl⟩, rfl, ⟨List.Pairwise.nil, rfl, rfl, .inl (.inl rfl), fun x hx => (by cases hx), fun i h j hi => (by simp at hi)⟩, List.nodup_nil, fun p hp => (by cases hp), rfl, ?_, by show 0 * 5 < 7 * 3; decide⟩
  show _ ∨ (!w.params.followText "set-order") = true
  cases w.params.followText "set-order" with
  | false => exact .inr rfl
  | true => exact .inl rfl
/-- the loop of set.update -/
theorem fill {I : Addr} {fp wr : List Addr} {G : Array GenState → Array GenState → Prop} {n : Nat} {Pv : Nat → Value → Prop} {St : Nat → Shared → Prop} {R : Result → Shared → Prop} (W : WalksS P w A.in1 I fp wr G n Pv St) (S : Addr) (hSf : S ∉ fp) (ks : List Kp) (hn : n = ks.length) (few : ks.length ≤ 306)
    (val : ∀ i v, Pv i v → ∃ p, ks[i]? = some p ∧ v = .ref p.2) (h0 : Heap) (hk : ∀ p ∈ ks, KAt h0 p.1 p.2) (hS0 : h0.get? S = none) (hw0 : ∀ b ∈ wr, h0.get? b = none) (hu : A.in1.units + 8 < cLine) :
    ∀ (m i : Nat) (s : Shared), n - i = m → i ≤ n → St i s → (∀ b o, h0.get? b = some o → s.heap.get? b = some o) → (∃ L es ep t, SetK w s.heap S L es ep t ∧ GotK ks i L) →
      (∀ s' L es ep t, Moved (S :: wr) G s s' → SetK w s'.heap S L es ep t → GotK ks n L → (∀ b o, h0.get? b = some o → s'.heap.get? b = some o) → R (.ok (.ret .none)) s') → codeAny (model P w) A (.builtin "set.update.loop" ⟨[.ref S, .ref I], []⟩) R s := by
  have hSw : S ∉ wr := fun h => hSf (W.sub _ h)
  have wide : ∀ b ∈ wr, b ∈ S :: wr := fun b hb => List.mem_cons_of_mem _ hb
  have old : ∀ {s s' : Shared}, Moved wr G s s' → (∀ b o, h0.get? b = some o → s.heap.get? b = some o) → ∀ b o, h0.get? b = some o → s'.heap.get? b = some o :=
    fun mv hkp b o e => mv.heap b o (fun hb => by rw [hw0 b hb] at e; cases e) (hkp b o e)
  intro m
  induction m with
  | zero =>
    intro i s hm hi hst hkp ⟨L, es, ep, t, hS, g⟩ hR
    obtain rfl : i = n := by omega
    refine codeAny_builtin F.entry_set_update_loop ?_
    rw [Around.under_plainId F.plain_set_update_loop _]
    show wpAny _ A.in1 (pyNext (.ref I) >>= _) _ _ s
    refine wpAny_bind (W.done s _ _ hst fun s' mv => ?_)
    show wpAny _ A.in1 (ret Value.none) _ _ s'
    have hkp' := old mv hkp
    exact wpAny_pure (hR s' L es ep t (mv.mono wide) (hS.keep (fun o e => mv.heap S o hSw e) fun p hp => (hk p (List.mem_of_mem_take (g.sub p hp))).keep hkp') g hkp')
  | succ m ih =>
    intro i s hm hi hst hkp ⟨L, es, ep, t, hS, g⟩ hR
    have hlt : i < n := by omega
    refine codeAny_builtin F.entry_set_update_loop ?_
    rw [Around.under_plainId F.plain_set_update_loop _]
    show wpAny _ A.in1 (pyNext (.ref I) >>= _) _ _ s
    refine wpAny_bind (W.item i s _ _ hlt hst fun v s' hP hst' mv => ?_)
    obtain ⟨p, hp, rfl⟩ := val i v hP
    have hkp' := old mv hkp
    have hS' : SetK w s'.heap S L es ep t := hS.keep (fun o e => mv.heap S o hSw e) fun q hq => (hk q (List.mem_of_mem_take (g.sub q hq))).keep hkp'
    have hx : KAt s'.heap p.1 p.2 := (hk p (List.mem_of_getElem? hp)).keep hkp'
    show wpAny _ A.in1 (holding [Value.ref p.2] (setAdd S (.ref p.2)) >>= _) _ _ s'
    refine wpAny_bind (wpAny_holding ?_)
    unfold setAdd
    refine wpAny_holding ?_
    refine wpAny_bind ((nestedKind P w).pyHash hu hx.nk ?_)
    refine addK (s := { s' with toks := s'.toks + p.1.draws }) hS' hx hu (by have := g.len; omega) fun b h' L' es' ep' t' hsb hS2 c1 c2 => ?_
    have hkp2 : ∀ b o, h0.get? b = some o → h'.get? b = some o := fun b o e => (hsb.2 b (fun z => by rw [z, hS0] at e; cases e)).trans (hkp' b o e)
    refine wpAny_pure ⟨plainId_quiet F.plain_set_update_loop _, ih (i + 1) _ (by omega) hlt (W.frame _ s' _ _ hst' (Nat.le_add_right _ _) fun b hb o e => ?_) hkp2 ⟨L', es', ep', t', hS2, g.step hp c1 c2⟩ fun s'' L2 es2 ep2 t2 mv2 hS'' g'' hkp'' => ?_⟩
    · rw [hsb.2 b (fun h : b = S => hSf (by rw [← h]; exact hb))]; exact e
    · refine hR s'' L2 es2 ep2 t2 (Moved.trans W.gtrans ((mv.mono wide).then_heap (Nat.le_add_right _ _) fun b o hb e => ?_) mv2) hS'' g'' hkp''
      rw [hsb.2 b (fun h : b = S => hb (by rw [h]; exact List.mem_cons_self))]; exact e
/-- set(xs), xs a list -/
theorem make {l : Addr} {items : Array Value} (ks : List Kp) {Q : Value → Shared → Prop} (hh : A.handled = none) (hl : s.heap.IsList l items) (hit : items.toList = ks.map fun p => Value.ref p.2) (hk : ∀ p ∈ ks, KAt s.heap p.1 p.2) (few : ks.length ≤ 306) (hu : A.units + 16 < cLine)
    (q : ∀ (h' : Heap) (tk : Nat) L es ep t, SetK w h' s.heap.objs.size L es ep t → GotK ks ks.length L → (∀ b o, s.heap.get? b = some o → h'.get? b = some o) → Q (.ref s.heap.objs.size) { s with heap := h', toks := tk }) :
    wpAny (model P w) A (call (.type "set") [.ref l]) Q E s := by
  have hisz : items.size = ks.length := by rw [← Array.length_toList, hit, List.length_map]
  obtain ⟨c, tl, hmro⟩ := F.called_set.mro
  have hmade := F.called_set.made
  have hsub := F.called_set.sub
  refine wpAny_call (codeAny_of_tree ?_)
  show wpAny _ _ (callAny (.type "set") _) _ _ _
  refine wpAny_pure ⟨Code.quiet_builtin _ (by decide +kernel), codeAny_builtin F.entry_type_call ?_⟩
  rw [Around.under_plain (weight_type_call_type "set" [.ref l] []) rfl]
  have h1 := F.called_set.notType
  have h2 := F.called_set.canCreate
  have hct := F.typeCall_set_1 (.ref l)
  repeat (any_goals (first | assumption | wp_step))
  refine codeAny_mono (code_set_led1 (.ref l) (E := E) (Q₁ := fun obj s₁ => obj = .ref s.heap.objs.size ∧ s₁ = { s with heap := s.heap.push (set0 w) }) ⟨rfl, rfl⟩) fun r s₁ hr => ?_
  cases r with
  | error e => exact hr
  | ok fl =>
    cases fl with
    | ret obj =>
      obtain ⟨rfl, rfl⟩ := hr
      have hS : (s.heap.push (set0 w)).get? s.heap.objs.size = some (set0 w) := Heap.get?_push_size _ rfl
      have hT : Shared.TypeIs { s with heap := s.heap.push (set0 w) } (.ref s.heap.objs.size) "set" := ⟨_, hS, rfl⟩
      have hli := F.called_set.init.lookup
      have hbi := F.called_set.init.bind (.ref s.heap.objs.size)
      repeat (any_goals (first | assumption | wp_step))
      refine codeAny_mono (codeAny_call_builtin (R := wants (fun r s₂ => r = .none ∧ ∃ h' tk L es ep t, s₂ = { s with heap := h', toks := tk } ∧ SetK w h' s.heap.objs.size L es ep t ∧ GotK ks ks.length L ∧ (∀ b o, s.heap.get? b = some o → h'.get? b = some o)) E)
        F.called_set.init.plain F.entry_set_init (check_set_init_1 hT ?_)) fun r₂ s₂ hr₂ => ?_
      · obtain ⟨ol, hol, hcl, nl, hdl⟩ := hl
        obtain ⟨ocls, odict, odata, oslots⟩ := ol
        simp only at hcl hdl
        subst hcl; subst hdl
        have hol' : (s.heap.push (set0 w)).get? l = some { cls := .type "list", dict := odict, data := .seq items nl, slots := oslots } := Heap.get?_push_of_some _ hol
        have hsls := F.sub_list_set
        have hslf := F.sub_list_frozenset
        have hne : (Value.type "list" == Value.type "dict") = false := by decide
        have hl1 : (s.heap.push (set0 w)).IsList l items := ⟨_, hol', rfl, nl, rfl⟩
        unfold Builtin.«set.__init__» noKeywords Builtin.Frozenset.updateFrom
        generalize hPI : pyIter = PI
        wp_walk
        subst hPI
        refine wpAny_pyIter_list hl1 ?_
        refine wpAny_bind (wpAny_runValue ?_)
        have hlS : l < s.heap.objs.size := Heap.lt_size hol
        have hh3 : A.in1.in1.in1.handled = none := by simp [hh]
        have hneI : l ≠ (s.heap.push (set0 w)).objs.size := by rw [Heap.size_push]; exact Nat.ne_of_lt (Nat.lt_succ_of_lt hlS)
        have hSf : s.heap.objs.size ∉ [(s.heap.push (set0 w)).objs.size, l] := by
          rw [Heap.size_push]
          intro z
          rcases List.mem_cons.mp z with z | z
          · exact Nat.ne_of_lt (Nat.lt_succ_self _) z
          · exact Nat.ne_of_gt hlS (List.mem_singleton.mp z)
        have val : ∀ (i : Nat) (v : Value), items[i]? = some v → ∃ p, ks[i]? = some p ∧ v = .ref p.2 := fun i v hv => by
          rw [← Array.getElem?_toList, hit, List.getElem?_map] at hv
          obtain ⟨p, hp, e⟩ := Option.map_eq_some_iff.mp hv
          exact ⟨p, hp, e.symm⟩
        have none_of : ∀ b, s.heap.objs.size ≤ b → s.heap.get? b = none := fun b hb => by
          cases z : s.heap.get? b with
          | none => rfl
          | some o => exact absurd (Nat.lt_of_lt_of_le (Heap.lt_size z) hb) (Nat.lt_irrefl _)
        refine fill ((Walks.list hh3 _ l hneI items).toS) s.heap.objs.size hSf ks hisz few val s.heap hk (none_of _ (Nat.le_refl _)) (fun b hb => none_of b (by rw [List.mem_singleton.mp hb, Heap.size_push]; exact Nat.le_succ _)) (by show A.units + 1 + 1 + 1 + 8 < cLine; omega) (items.size - 0) 0 _ (by omega) (Nat.zero_le _)
          ⟨⟨_, Heap.get?_push_size _ rfl, rfl, rfl⟩, (hl1.push _)⟩ (fun b o e => Heap.get?_push_of_some _ (Heap.get?_push_of_some _ e)) ?hS0 ?hR
        case hS0 => exact ⟨[], #[], 0, _, setK_new (Heap.get?_push_of_some _ hS), ⟨fun p h => (by cases h), fun p h => (by simp at h), Nat.le_refl _⟩⟩
        case hR =>
          intro s' L es ep t mv hS' g' hkp
          obtain ⟨h', g2, d', tk', os'⟩ := s'
          have eg : g2 = s.gens := mv.gens
          have ed : d' = s.drawn := mv.drawn
          have eo : os' = s.os := mv.os
          subst eg; subst ed; subst eo
          show wpAny _ _ _ _ _ _
          refine wpAny_pure ?_
          show wpAny _ _ (ret Value.none) _ _ _
          rw [hisz] at g'
          exact wpAny_pure ⟨rfl, h', tk', L, es, ep, t, rfl, hS', g', hkp⟩
      · cases r₂ with
        | error e => exact hr₂
        | ok fl₂ =>
          cases fl₂ with
          | ret r =>
            obtain ⟨rfl, h', tk, L, es, ep, t, rfl, hS', g', hk'⟩ := hr₂
            repeat (any_goals (first | assumption | wp_step))
            exact q _ _ _ _ _ _ hS' g' hk'
          | _ => exact hr₂.elim
    | _ => exact hr.elim
end
end Vs

set_option maxRecDepth 100000
set_option maxHeartbeats 1600000
/-! ### sorted(set(xs)) and len(set(xs)), xs a list of tuples in tuples of ints -/
namespace Vi
open PySem PySem.Spec PyProof.Rows L2 Evl Vs
mutual
def intD : Dt → Bool
  | .int _ => true
  | .tup l => intDs l
  | _ => false
def intDs : List Dt → Bool
  | [] => true
  | d :: r => intD d && intDs r
end
mutual
def kD : NestedKey → Dt
  | .none => .non
  | .num i => .int i
  | .text x => .str x
  | .tup ks => .tup (kDs ks)
def kDs : List NestedKey → List Dt
  | [] => []
  | k :: ks => kD k :: kDs ks
end
mutual
theorem keyN_int : ∀ (d : Dt), intD d = true → ∃ k, keyN d = some k ∧ kD k = d ∧ numK k = true
  | .int i, _ => ⟨.num i, rfl, rfl, rfl⟩
  | .tup l, h => by
    obtain ⟨ks, h1, h2, h3⟩ := keyNs_int l (by unfold intD at h; exact h)
    exact ⟨.tup ks, by unfold keyN; rw [h1], by unfold kD; rw [h2], by unfold numK; exact h3⟩
  | .non, h => by simp [intD] at h
  | .bl _, h => by simp [intD] at h
  | .str _, h => by simp [intD] at h
  | .lst _, h => by simp [intD] at h
  | .dct _ _, h => by simp [intD] at h
  | .dck _ _, h => by simp [intD] at h
  | .set _, h => by simp [intD] at h
  | .ins _ _, h => by simp [intD] at h
  | .scr _, h => by simp [intD] at h
theorem keyNs_int : ∀ (l : List Dt), intDs l = true → ∃ ks, keyNs l = some ks ∧ kDs ks = l ∧ numKs ks = true
  | [], _ => ⟨[], rfl, rfl, rfl⟩
  | d :: r, h => by
    unfold intDs at h
    rw [Bool.and_eq_true] at h
    obtain ⟨k, h1, h2, h3⟩ := keyN_int d h.1
    obtain ⟨ks, g1, g2, g3⟩ := keyNs_int r h.2
    exact ⟨k :: ks, by unfold keyNs; rw [h1, g1], by unfold kDs; rw [h2, g2], by unfold numKs; rw [h3, g3]; rfl⟩
end
/-- the key of a tuple -/
def keyT : Dt → Option NestedKey
  | .tup l => match intDs l, keyNs l with
    | true, some ks => match decide (NestedKey.depthAll ks ≤ 7) with
      | true => some (.tup ks)
      | false => none
    | _, _ => none
  | _ => none
def keysT : List Dt → Option (List NestedKey)
  | [] => some []
  | d :: r => match keyT d, keysT r with
    | some k, some ks => some (k :: ks)
    | _, _ => none
def nubK : List NestedKey → List NestedKey
  | [] => []
  | k :: r => match decide (k ∈ r) with
    | true => nubK r
    | false => k :: nubK r
/-- strictly ascending -/
def strictD : List Dt → Bool
  | [] => true
  | a :: r => r.all (fun b => !leD b a) && strictD r
def ssKp (l : List Dt) : Option Dt := match keysT l, decide (l.length ≤ 300) with
  | some ks, true => match sortP [.lst ((nubK ks).map kD)] with
    | some (.lst o) => match strictD o with
      | true => some (.lst o)
      | false => none
    | _ => none
  | _, _ => none
def ssK (f : Den) : DenD := fun ρ h => (f ρ h).bind fun x h1 => match bor h1 x with
  | some (.lst l) => match ssKp l with
    | some d => .ok d h1
    | none => .bad
  | _ => .bad
def lsK (f : Den) : Den := fun ρ h => (f ρ h).bind fun x h1 => match bor h1 x with
  | some (.lst l) => match keysT l, decide (l.length ≤ 300) with
    | some ks, true => .ok (.d (.int ((nubK ks).length : Int))) h1
    | _, _ => .bad
  | _ => .bad
mutual
theorem rd_int {C : Ct} {X : Cx} {pins : List (Addr × Obj)} {σ : L2.St} {H : Hp} {s : Shared} {F : List Addr} (I : Inv X pins σ H s) : ∀ {d : Dt} {v : V} {u : Value}, Di C.K C.ly F H v d → RelV v u → intD d = true → Reads s.heap u d.py []
  | .int i, _, _, h, r, _ => by cases h; obtain ⟨t, rfl⟩ := r; exact .int i t
  | .tup l, _, _, h, r, e => by
    obtain ⟨a, xs, rfl, h1, h2⟩ := h.tup_inv
    cases r
    obtain ⟨its, rv, ⟨o, ho, hc, n, hd⟩, _⟩ := I.tuple (sqT_of h1)
    exact .tuple ho hc hd (rd_ints I h2 rv (by unfold intD at e; exact e))
  | .non, _, _, _, _, e => by simp [intD] at e
  | .bl _, _, _, _, _, e => by simp [intD] at e
  | .str _, _, _, _, _, e => by simp [intD] at e
  | .lst _, _, _, _, _, e => by simp [intD] at e
  | .dct _ _, _, _, _, _, e => by simp [intD] at e
  | .dck _ _, _, _, _, _, e => by simp [intD] at e
  | .set _, _, _, _, _, e => by simp [intD] at e
  | .ins _ _, _, _, _, _, e => by simp [intD] at e
  | .scr _, _, _, _, _, e => by simp [intD] at e
theorem rd_ints {C : Ct} {X : Cx} {pins : List (Addr × Obj)} {σ : L2.St} {H : Hp} {s : Shared} {F : List Addr} (I : Inv X pins σ H s) : ∀ {l : List Dt} {xs : List V} {us : List Value}, Dis C.K C.ly F H xs l → Vals xs us → intDs l = true → ReadsAll s.heap us (pyAll l) []
  | [], _, _, h, r, _ => by cases h; cases r; exact .nil
  | d :: l, _, _, h, r, e => by
    unfold intDs at e
    rw [Bool.and_eq_true] at e
    cases h with
    | cons h hs =>
      cases r with
      | cons r rs =>
        have := ReadsAll.cons (rd_int I h r e.1) (rd_ints I hs rs e.2)
        exact this
end
section
variable {X : Cx}
/-- what is asked of the list: keys at addresses -/
def SetArg (X : Cx) (H1 : Hp) (x : V) (ks : List Kp) : Prop := (∃ l, x = V.ref l ∧ SqL X.K H1 l (ks.map fun p => V.ref p.2)) ∧ ks.length ≤ 300 ∧ ∀ pins σ s, Inv X pins σ H1 s → ∀ p ∈ ks, KAt s.heap p.1 p.2 ∧ Reads s.heap (.ref p.2) (kD p.1).py []
def tLenK (X : Cx) (ta : TE) : TE := fun σ H Q => ta σ H fun x H1 => ∃ ks, SetArg X H1 x ks ∧ ∀ L : List Kp, (L.map Prod.fst).Nodup → (∀ p ∈ L, p ∈ ks) → (∀ p ∈ ks, p.1 ∈ L.map Prod.fst) → Q (.int L.length) H1
def tSortK (X : Cx) (ta : TE) : TE := fun σ H Q => ta σ H fun x H1 => ∃ ks, SetArg X H1 x ks ∧ PySem.W.AllAlike (ks.map fun p => (kD p.1).py) ∧ PySem.W.Sortable (ks.map fun p => (kD p.1).py) ∧ (∀ p ∈ ks, (kD p.1).py.depth ≤ 20) ∧
  ∀ (L : List Kp) (p : Addr), (L.map Prod.fst).Nodup → (∀ p ∈ L, p ∈ ks) → (∀ p ∈ ks, p.1 ∈ L.map Prod.fst) → H1 p = none → Q (.ref p) (upd H1 p (.lst ((L.mergeSort (PySem.W.dataLe false fun p : Kp => (kD p.1).py)).map fun r => V.ref r.2)))
end
section
variable {C : Ct} {e : Expr} {f : Den}
end
end Vi

set_option maxRecDepth 100000
set_option maxHeartbeats 1000000
/-! ### dict([(k, x), ..]): a new dict of tuple keys -/
namespace Vi
open PySem L2 Evl
def dictP : List Dt → Option Dt
  | [.lst l] => match pairsD l, decide (l.length < 100000) with
    | some prs, true => match allD (updKV [] [] prs).2 with
      | some vs => some (.dct (updKV [] [] prs).1 vs)
      | none => none
    | _, _ => none
  | _ => none
end Vi

set_option maxRecDepth 100000
set_option maxHeartbeats 1000000
namespace Vi
open PySem L2 Evl PyProof.Rows
/-! ### range(i, j, c) with a step c > 0 -/
def rngC (lo c : Int) (n : Nat) : List Dt := (List.range n).map fun (i : Nat) => Dt.int (lo + (i : Int) * c)
/-- how many numbers there are -/
def cntC (i j c : Int) : Nat := if i < j then ((j - i - 1) / c + 1).toNat else 0
def okC (i j c : Int) : Bool := decide (-(2 ^ 30) < i) && decide (i < 2 ^ 30) && decide (-(2 ^ 30) < j) && decide (j < 2 ^ 30) && decide (0 < c) && decide (c < 2 ^ 30)
def rng3 (f g k : Den) : DenI := fun ρ h => (f ρ h).bind fun x h1 => (g ρ h1).bind fun y h2 => (k ρ h2).bind fun z h3 => match x, y, z with
  | .d (.int i), .d (.int j), .d (.int c) => match okC i j c with
    | true => .ok (.fx (rngC i c (cntC i j c))) h3
    | false => .bad
  | _, _, _ => .bad
def dct1 (fk fv : Den) : DenD := fun ρ h => match fk ρ h with
  | .ok (.d x) h1 => match fv ρ h1 with
    | .ok (.d y) h2 => match keyOk x with
      | true => .ok (.dct [x] [y]) h2
      | false => .bad
    | _ => .bad
  | _ => .bad
end Vi

set_option maxRecDepth 100000
set_option maxHeartbeats 1000000
namespace Vi
open PySem L2 Evl PyProof.Rows
/-! ### [x for a in xs for b in range(n)] -/
def RunI (X : Cx) (tg it : Expr) : TI := fun σ H R => ∀ (pins : List (Addr × Obj)) (s : Shared), Inv X pins σ H s → wpAny (model X.prog X.w) X.A (eval it X.env) (fun v s1 => wpAny (model X.prog X.w) X.A (pyIter v) (PIE X pins σ tg R) X.xe s1) X.xe s
def bG (X : Cx) (sco : Scope) (tg : Expr) : TG := fun x σ H Q => ∀ s Hh Cc cl fp, RunG (X.blk s Hh sco (compEnvC sco cl Cc X.env) fp) tg x σ H Q
def bT (X : Cx) (sco : Scope) (ifs : List Expr) : TT := fun σ H Q => ∀ s Hh Cc cl fp, RunTs (X.blk s Hh sco (compEnvC sco cl Cc X.env) fp) ifs σ H Q
def bE (X : Cx) (sco : Scope) (e : Expr) : TE := fun σ H Q => ∀ s Hh Cc cl fp, RunE (X.blk s Hh sco (compEnvC sco cl Cc X.env) fp) e σ H Q
def bI (X : Cx) (sco : Scope) (tg it : Expr) : TI := fun σ H Q => ∀ s Hh Cc cl fp, RunI (X.blk s Hh sco (compEnvC sco cl Cc X.env) fp) tg it σ H Q
def lc2L (g : Tgt) (vs1 : List Nat) (fa : Den) (g1 : Tgt) (t1 : DenT) (f : Den) (ρ : En) : List Dt → Hs → Res (List Dt)
  | [], h => .ok [] h
  | d :: ds, h => match g (.d d) ρ with
    | none => .bad
    | some ρ1 => match fa ρ1 h with
      | .ok (.d (.int n)) h1 => match r62 n with
        | true => match lcL g1 t1 f (wipeR ρ1 vs1) (rngD 0 n.toNat) h1 with
          | .ok ys h2 => match lc2L g vs1 fa g1 t1 f ρ ds h2 with
            | .ok zs h3 => .ok (ys ++ zs) h3
            | _ => .bad
          | _ => .bad
        | false => .bad
      | _ => .bad
def lc2F (ws vs1 : List Nat) (src : DenI) (g : Tgt) (fa : Den) (g1 : Tgt) (t1 : DenT) (f : Den) : DenD := fun ρ h => (src ρ h).bind fun s h1 => match s with
  | .fx ds => match lc2L g vs1 fa g1 t1 f (wipeR ρ ws) ds h1 with
    | .ok ys h2 => match decide (ys.length ≤ 100000) with
      | true => .ok (.lst ys) h2
      | false => .bad
    | _ => .bad
  | _ => .bad
section
variable {C : Ct} {elt tg it tg1 a1 : Expr} {ifs1 : List Expr} {scope : Scope} {own : List (Str × Nat)} {vs1 : List Nat} {pos pr posr : Pos} {src : DenI} {g g1 : Tgt} {t1 : DenT} {f fa : Den} {ws ws1 : List Nat}
end
end Vi

set_option maxRecDepth 100000
set_option maxHeartbeats 1000000
namespace Vi
open PySem L2 Evl PyProof.Rows Vs
/-! ### d.update(d2) -/
mutual
def hashN : NestedKey → Int
  | .none => reduceHash 0xFCA86420
  | .num i => hashInt i
  | .text _ => 0
  | .tup ks => reduceHash (Builtin.Tuple.tupleHashOf (hashNs ks))
def hashNs : List NestedKey → List Int
  | [] => []
  | k :: ks => hashN k :: hashNs ks
end
mutual
theorem hash_num (w : World) : ∀ k : NestedKey, numK k = true → k.hash w = hashN k
  | .none, _ => rfl
  | .num _, _ => rfl
  | .text _, h => by cases h
  | .tup ks, h => by
    rw [numK] at h
    unfold NestedKey.hash hashN
    rw [hashes_num w ks h]
theorem hashes_num (w : World) : ∀ ks : List NestedKey, numKs ks = true → NestedKey.hashes w ks = hashNs ks
  | [], _ => rfl
  | k :: ks, h => by
    rw [numKs, Bool.and_eq_true] at h
    unfold NestedKey.hashes hashNs
    rw [hash_num w k h.1, hashes_num w ks h.2]
end
/-- no two keys hash alike -/
def apartK (l : List Dt) : Bool := match keysT l with
  | some ks => decide ((ks.map hashN).Nodup)
  | none => false
section
variable {C : Ct} {X : Cx}
def rUpdD (C : Ct) (X : Cx) : V → List V → Hp → VK → Prop := fun o as H Q => ∃ a b ps ks F ps2 ks2 F2, o = .ref a ∧ as = [.ref b] ∧ a ≠ b ∧ H a = some (DG C.ly.P C.ly.w a ps) ∧ ks.map keyN = ps.map (fun p => some p.1) ∧ Dis C.K C.ly F H (ps.map fun p => .ref p.2.1) ks ∧
  H b = some (DG C.ly.P C.ly.w b ps2) ∧ ks2.map keyN = ps2.map (fun p => some p.1) ∧ Dis C.K C.ly F2 H (ps2.map fun p => .ref p.2.1) ks2 ∧ (ps ≠ [] ∨ apartK ks2 = true) ∧ ps.length + ps2.length < 100000 ∧
  (∀ (s : Shared) xs, DOpen X s a ps xs → Q .non (upd H a (DG C.ly.P C.ly.w a (updE ks ps (ks2.zip ps2)))))
end
def updDV (f g : Den) : Den := fun ρ h => (f ρ h).bind fun d h1 => match d with
  | .r n => match h1[n]? with
    | some (.dct _ _) => (g ρ h1).bind fun y h2 => match y, h2[n]? with
      | .d (.dct ks2 vs2), some (.dct ks vs) => match (!ks.isEmpty || apartK ks2) && decide (ks.length + ks2.length < 100000) with
        | true => .ok (.d .non) (h2.set n (.dct (updKV ks vs (ks2.zip (vs2.map Vl.d))).1 (updKV ks vs (ks2.zip (vs2.map Vl.d))).2))
        | false => .bad
      | _, _ => .bad
    | _ => .bad
  | _ => .bad
section
variable {C : Ct}
variable {a e : Expr} {f g : Den} {p1 p2 : Pos}
end
end Vi

set_option maxRecDepth 100000
set_option maxHeartbeats 1000000
namespace Vi
open PySem L2 Evl PyProof.Rows
/-! ### methods of texts, by one argument -/
def strsD : List Dt → Option (List Str)
  | [] => some []
  | .str x :: r => match strsD r with
    | some l => some (x :: l)
    | none => none
  | _ => none
def joinP (a : Str) : Dt → Option Dt
  | .lst l => match strsD l with
    | some ys => match decide ((ys.map (·.length)).sum + ys.length * a.length ≤ 100000) with
      | true => some (.str (Txt.join a ys))
      | false => none
    | none => none
  | _ => none
def countS (a : Str) : Dt → Option Dt
  | .str b => some (.int (Txt.count a b))
  | _ => none
def rMS (C : Ct) (p : Str → Dt → Option Dt) : V → List V → Hp → VK → Prop := fun o xs H Q => ∃ F a b d y, o = .str a ∧ xs = [y] ∧ Bv C.K C.ly F H y b ∧ p a b = some d ∧ ∀ v H', Ex H H' → Di C.K C.ly F H' v d → Q v H'
structure MsP (C : Ct) (id : String) (p : Str → Dt → Option Dt) : Prop where
  run : ∀ X, C.Of X → MtR X id (rMS C p)
theorem Dis.strs {K : PySem.W.Frag} {Ly : Lx} {F : List Addr} {H : Hp} : ∀ {vs : List V} {l : List Dt} {ys : List Str}, Dis K Ly F H vs l → strsD l = some ys → vs = ys.map V.str
  | _, [], ys, .nil, e => by cases e; rfl
  | _, d :: l, ys, .cons q t, e => by
    unfold strsD at e
    split at e
    · cases ‹_ = []›
    · rename_i x r hd
      cases hd
      split at e
      · rename_i l' hl
        cases e
        cases q
        rw [Dis.strs t hl]
        rfl
      · cases e
    · cases e
section
variable {C : Ct}
theorem ms_join : MsP C "str.join" joinP := ⟨fun X o pins s σ H ov as oV us Q I ro ras h => by
  obtain ⟨F, a, b, d, y, rfl, rfl, hb, hp, q⟩ := h
  unfold joinP at hp
  split at hp
  · rename_i l
    split at hp
    · rename_i ys hy
      split at hp
      · rename_i hz
        cases hp
        obtain ⟨p, vs, rfl, k1, k2⟩ := hb.lst_inv
        have e := k2.strs hy
        refine mt_join pins s σ H _ _ _ _ Q I ro ras ⟨a, p, ys, rfl, rfl, .inl (by rw [← e]; exact sqL_of k1), ?_, q _ H (Ex.refl H) (.str _)⟩
        have := of_decide_eq_true hz
        omega
      · cases hp
    · cases hp
  · cases hp⟩
end
def ms1 (p : Str → Dt → Option Dt) (f g : Den) : Den := fun ρ h => (f ρ h).bind fun x h1 => match x with
  | .d (.str a) => (g ρ h1).bind fun y h2 => match bor h2 y with
    | some b => match p a b with
      | some d => .ok (.d d) h2
      | none => .bad
    | none => .bad
  | _ => .bad
section
variable {C : Ct} {a b : Expr} {f g : Den} {p1 p2 : Pos} {p : Str → Dt → Option Dt} {name : Str} {id : String}
theorem se_ms1 (hm : MsP C id p) (slot : Slot "str" name id) (hty : typeOf (.builtin id) = pure (.type "method_descriptor")) (hbs : ∀ env, attributeBase a name env (eval a env) = eval a env) (hs : NoStar b []) (hline : (p1.endLine == p2.line) = true) (ha : SE C a f) (hb : SE C b g) : SE C (.Call (.Attribute a name p1) [b] [] p2) (ms1 p f g) := ⟨fun X o W tk Z m σ H ρ h Q r env q => by
  refine PEw (pe_m1 slot hty (hm.run X o) pe_w pe_w (hs _) (hbs _) hline) ?_
  refine ha.run X o W tk Z m σ H ρ h _ r env ((EOk.bind pass_e q).imp fun v H1 ⟨m1, x, h1, e1, r1, d1, q1⟩ => ?_)
  cases x with
  | r n => exact q1.elim
  | d x =>
    cases x with
    | str a =>
      dsimp only at q1
      have hv : v = .str a := by cases (show Di C.K C.ly (Z ++ m1) H1 v (.str a) from d1); rfl
      refine ⟨⟨a, hv⟩, ?_⟩
      refine hb.run X o W tk Z m1 σ H1 ρ h1 _ r1 (env.mono r e1) ((EOk.bind pass_e q1).imp fun w H2 ⟨m2, y, h2, e2, r2, d2, q2⟩ => ?_)
      cases z3 : bor h2 y with
      | none => rw [z3] at q2; exact q2.elim
      | some b0 =>
        rw [z3] at q2
        dsimp only at q2
        cases z4 : p a b0 with
        | none => rw [z4] at q2; exact q2.elim
        | some d =>
          rw [z4] at q2
          exact ⟨Z ++ m2, a, b0, d, w, hv, rfl, bor_ok r2 d2 z3, z4, fun v H' ex di => q2 v m2 H' (Evo.ex ex) (r2.ex ex) di⟩
    | _ => exact q1.elim⟩
/-- text.split(sep): a new list -/
def splitF (f g : Den) : DenD := fun ρ h => (f ρ h).bind fun x h1 => match x with
  | .d (.str a) => (g ρ h1).bind fun y h2 => match y with
    | .d (.str b) => match !(b.length == 0) && decide (a.length ≤ 90000) with
      | true => .ok (.lst ((Txt.split a b).map Dt.str)) h2
      | false => .bad
    | _ => .bad
  | _ => .bad
theorem dis_strs2 {K : PySem.W.Frag} {Ly : Lx} {F : List Addr} {H : Hp} : ∀ ys : List Str, Dis K Ly F H (ys.map V.str) (ys.map Dt.str)
  | [] => .nil
  | y :: ys => .cons (.str y) (dis_strs2 ys)
theorem sf_split (hbs : ∀ env, attributeBase a "split" env (eval a env) = eval a env) (hs : NoStar b []) (hline : (p1.endLine == p2.line) = true) (ha : SE C a f) (hb : SE C b g) : SF C (.Call (.Attribute a "split" p1) [b] [] p2) (splitF f g) := ⟨fun X o W tk Z m σ H ρ h Q r env q => by
  refine PEw (pe_m1 PySem.F.slot_str_split PySem.F.type_str_split mt_split pe_w pe_w (hs _) (hbs _) hline) ?_
  refine ha.run X o W tk Z m σ H ρ h _ r env ((EOk.bind pass_f q).imp fun v H1 ⟨m1, x, h1, e1, r1, d1, q1⟩ => ?_)
  cases x with
  | r n => exact q1.elim
  | d x =>
    cases x with
    | str a =>
      dsimp only at q1
      have hv : v = .str a := by cases (show Di C.K C.ly (Z ++ m1) H1 v (.str a) from d1); rfl
      refine ⟨⟨a, hv⟩, ?_⟩
      refine hb.run X o W tk Z m1 σ H1 ρ h1 _ r1 (env.mono r e1) ((EOk.bind pass_f q1).imp fun w H2 ⟨m2, y, h2, e2, r2, d2, q2⟩ => ?_)
      cases y with
      | r n => exact q2.elim
      | d y =>
        cases y with
        | str b =>
          have hw : w = .str b := by cases (show Di C.K C.ly (Z ++ m2) H2 w (.str b) from d2); rfl
          dsimp only at q2
          cases z : !(b.length == 0) && decide (a.length ≤ 90000) with
          | false => rw [z] at q2; exact q2.elim
          | true =>
            rw [z] at q2
            rw [Bool.and_eq_true, Bool.not_eq_true'] at z
            have hz := of_decide_eq_true z.2
            refine ⟨a, b, hv, by rw [hw], z.1, sz_of (by omega), fun p hn => ?_⟩
            have ex := Ex.new (o := .lst ((Txt.split a b).map V.str)) hn
            exact q2 p m2 _ (Evo.ex ex) (r2.addN ex hn upd_same (by intro _ z; cases z)) hn ⟨_, upd_same, dis_strs2 _⟩
        | _ => exact q2.elim
    | _ => exact q1.elim⟩
end
end Vi

set_option maxRecDepth 100000
set_option maxHeartbeats 1000000
namespace Vi
open PySem L2 Evl PyProof.Rows
/-! ### a text, so many times -/
def mulS : Dt → Dt → Option Dt
  | .str x, .int k => match decide (-1000 < k ∧ k < 1000 ∧ x.length ≤ 1000) with
    | true => some (.str (Txt.mul x k))
    | false => none
  | _, _ => none
section
variable {C : Ct}
end
/-! ### range(i, j, -1) -/
def okM (i j c : Int) : Bool := decide (-(2 ^ 30) < i) && decide (i < 2 ^ 30) && decide (-(2 ^ 30) < j) && decide (j < 2 ^ 30) && decide (c = -1)
def rng3m (f g k : Den) : DenI := fun ρ h => (f ρ h).bind fun x h1 => (g ρ h1).bind fun y h2 => (k ρ h2).bind fun z h3 => match x, y, z with
  | .d (.int i), .d (.int j), .d (.int c) => match okM i j c with
    | true => .ok (.fx (rngC i (-1) (i - j).toNat)) h3
    | false => .bad
  | _, _, _ => .bad
end Vi

set_option maxRecDepth 100000
set_option maxHeartbeats 1000000
/-! text.replace of written texts, where a call tells the text: behind a def that ends by "..".join(..) a token is out -/
namespace Vi
open PySem L2 Evl PyProof.Rows
/-! ### expressions and texts behind which a token is out -/
structure SET (C : Ct) (e : Expr) (f : Den) : Prop where
  run : ∀ X, C.Of X → ∀ W, TakesV C.dt X W → ∀ Z m σ H ρ h Q, Rl C Z m H h → EnvV C Z m H σ ρ → EOk C W Z σ m H Q (f ρ h) → ∀ (pins : List (Addr × Obj)) (s : Shared), Inv X pins σ H s → wpAny (model X.prog X.w) X.A (eval e X.env) (fun u s' => 1 ≤ s'.toks ∧ EP X pins σ Q u s') X.xe s
structure SBT (C : Ct) (st : List Stmt) (f : DenS) : Prop where
  run : ∀ X, C.Of X → Own X → ∀ W, TakesV C.dt X W → ∀ Z m σ H ρ h D, Rl C Z m H h → EnvV C Z m H σ ρ → SOk C W Z m H D (f ρ h) → ∀ (pins : List (Addr × Obj)) (s : Shared), Inv X pins σ H s → wpAny (model X.prog X.w) X.A (execs st X.env) (fun u s' => 1 ≤ s'.toks ∧ SP X pins D u s') X.xe s
/-- what only goes on -/
def onS (f : DenS) : DenS := fun ρ h => match f ρ h with
  | .nx ρ1 h1 => .nx ρ1 h1
  | .exc e ρ1 h1 => .exc e ρ1 h1
  | _ => .bad
section
variable {C : Ct} {e : Expr} {f : Den} {st : Stmt} {rest : List Stmt} {fs gs : DenS} {pos : Pos}
end
/-! ### defs behind which a token is out -/
structure FnOkT (P : Program) (w : World) (K : PySem.W.Frag) (mg : Str → Option Value) (base : Heap) (CX : CXT) (k : Nat) (f : Addr) (fd : FuncData) (ps : List Str) (sp : Sp) : Prop where
  len : ∀ vs H Q E, sp vs H Q E → vs.length = ps.length
  run : ∀ (A : Around) (outer : List Env) (s : Shared) (H : Hp) (args : Args) (us : List Value) (vs : List V) (Q : VK) (E : XK), Room k A → Env0 P w K mg base A outer s H → BindsTo s fd args (ps.zip us) → Vals vs us → sp vs H Q E →
    codeAny (model P w) A (.call (.ref f) args) (fun r s' => (∀ fl, r = .ok fl → 1 ≤ s'.toks) ∧ CR CX outer P w H s Q E r s') s
structure FnT (G : Cg) (k : Nat) (x : Str) (n : Nat) (g : Pf) : Prop where
  ex : ∃ f fd ps, FnOkT G.P G.w G.K G.mg G.base (CXV G.dt G.P G.w) k f fd ps (SpP G n g) ∧ G.mg x = some (.ref f) ∧ PySem.W.keepIn G.K (.ref f) = true ∧ Binds G.K fd ps []
section
variable {G : Cg}
end
/-! ### text.replace(y, z) -/
def replV (y z : Str) (f : Den) : Den := fun ρ h => (f ρ h).bind fun x h1 => match x with
  | .d (.str a) => match decide (a.length + (a.length + 1) * z.length ≤ 16777216) with
    | true => .ok (.d (.str (Txt.replace a y z))) h1
    | false => .bad
  | _ => .bad
def replK (y z : Str) (r : Res Vl) : Res Vl := r.bind fun x h1 => match x with
  | .d (.str a) => match decide (a.length + (a.length + 1) * z.length ≤ 16777216) with
    | true => .ok (.d (.str (Txt.replace a y z))) h1
    | false => .bad
  | _ => .bad
def callK (n : Nat) (g : Pf) (xs : List Vl) (h1 : Hs) : Res Vl := match allD xs with
  | some ds => match decide (ds.length = n) with
    | true => match g ds with
      | .ok d => .ok (.d d) h1
      | .exc e => .exc e h1
      | .bad => .bad
    | false => .bad
  | none => .bad
section
variable {C : Ct} {e : Expr} {es : List Expr} {fa : DenA} {pos pos2 p apos c0 c1 : Pos} {x y z : Str} {k n i j : Nat} {g : Pf}
end
end Vi

set_option maxRecDepth 100000
set_option maxHeartbeats 3200000
/-! ### sorted(set(t)), t a tuple of ints -/
namespace L2
open PySem PySem.Spec PyProof.Rows
section
variable {X : Cx}
def rSetOfTI (K : PySem.W.Frag) (w : World) : List V → Hp → VK → Prop := fun xs H Q => ∃ (l : Addr) (ns : List Int), xs = [V.ref l] ∧ SqT K H l (ns.map V.int) ∧ ns.length < 64 ∧
  ∀ a c, H a = none → c ≤ ns.length → Q (.ref a) (upd H a (SetO w a (fun j => decide (j ∈ ns)) c))
end
end L2
namespace Vi
open PySem L2 Evl
def ssT (f : Den) : DenD := fun ρ h => (f ρ h).bind fun x h1 => match x with
  | .d (.tup l) => match intsI l with
    | some ns => match decide (ns.length < 64) with
      | true => .ok (.lst ((sortN ns).map Dt.int)) h1
      | false => .bad
    | none => .bad
  | _ => .bad
section
variable {C : Ct} {e : Expr} {f : Den}
end
end Vi

set_option maxRecDepth 100000
set_option maxHeartbeats 4000000
namespace Vi
open PySem PySem.Spec PyProof.Rows L2 Evl
def mulT : Dt → Dt → Option Dt
  | .tup l, .int k => match decide (l ≠ [] ∧ -1000 < k ∧ k ≤ 1000 ∧ l.length ≤ 1000) with
    | true => some (.tup (List.replicate k.toNat l).flatten)
    | false => none
  | _, _ => none
section
variable {C : Ct}
end
end Vi

set_option maxRecDepth 100000
set_option maxHeartbeats 1000000
namespace Vi
open PySem PySem.Spec PyProof.Rows L2 Evl
section
variable {C : Ct} {pos p : Pos} {x : Str} {k n : Nat}
end
section
variable {C : Ct} {T : DrT C.K} {pc : Nat → Addr} {pf : Nat → List Str} {a b : Expr} {pos p p' : Pos} {f g : Den}
end
end Vi

set_option maxRecDepth 100000
set_option maxHeartbeats 2000000
/-! raise X(..) from e, in the suite of except Y as e -/
namespace HotX
open PySem PySem.Spec PyProof.Rows
/-- the heap behind «from e» -/
def fromE (h : Heap) (a x1 : Addr) : Heap := (h.update a (Obj.mapFields (·.setIfInBounds 3 (.ref x1)))).update a (Obj.mapFields (·.setIfInBounds 4 (.bool true)))
end HotX
namespace L2H
open PySem PySem.Spec PyProof.Rows L2 HotX
section
variable {X : Cx} {pins : List (Addr × Obj)} {σ : L2.St} {H : Hp} {s : Shared}
end
end L2H
namespace L2H
open PySem PySem.Spec PyProof.Rows L2 HotX
/-- what is wished of an exception that leaves an «as» suite -/
def xeAs (X : Cx) (a : Addr) (n : Str) (pos' : Pos) : Value → Shared → Prop := fun x s₃ =>
  wpAny (model X.prog X.w) (X.A.mark (some (.ref a))) (noteFrame x X.env) (fun _ s₃' =>
    wpAny (model X.prog X.w) (X.A.mark (some (.ref a))) (do bindName X.env n .none; unbindBehindTheSuite X.env n pos')
      (fun _ s₄ => wpAny (model X.prog X.w) (X.A.mark (some (.ref a))) (PySem.passOn "try.except-as" x X.env : Sem Flow) (fun _ _ => False) (notedBy (model X.prog X.w) (X.A.mark (some (.ref a))) X.env fun x s' => cameBackBy (model X.prog X.w) X.A X.env X.xe x s') s₄)
      (fun y s₄ => wpAny (model X.prog X.w) (X.A.mark (some (.ref a))) (setFlight x none) (fun _ s₅ => (notedBy (model X.prog X.w) (X.A.mark (some (.ref a))) X.env fun x s' => cameBackBy (model X.prog X.w) X.A X.env X.xe x s') y s₅) (notedBy (model X.prog X.w) (X.A.mark (some (.ref a))) X.env fun x s' => cameBackBy (model X.prog X.w) X.A X.env X.xe x s') s₄) s₃')
    (notedBy (model X.prog X.w) (X.A.mark (some (.ref a))) X.env fun x s' => cameBackBy (model X.prog X.w) X.A X.env X.xe x s') s₃
section
variable {X : Cx} {x n : Str} {c : Value} {i : Nat} {body suite : List Stmt} {b₀ : Stmt} {np pos pos' : Pos} {tb : WX → TS} {ts : Addr → Value → Option Addr → TS} {Wx : WX}
end
end L2H

set_option maxRecDepth 100000
set_option maxHeartbeats 2000000
namespace L2H
open PySem PySem.Spec PyProof.Rows L2 HotX
/-- what is wished of an exception of the body: the clause names it, and the suite goes on -/
def wFrom (K : PySem.W.Frag) (c : Value) (i : Nat) (ts : Addr → Value → Option Addr → TS) (D : Ends) : WX := fun cls d σ H => PySem.W.exmOne K cls c = some true ∧ ∀ a, H a = none → ts a cls d (Vi.behind i D) (σ.set i (some (.ref a))) H
section
variable {X : Cx} {x n : Str} {c : Value} {i : Nat} {body suite : List Stmt} {b₀ : Stmt} {np pos pos' : Pos} {tb : WX → TS} {ts : Addr → Value → Option Addr → TS} {Wx : WX}
end
end L2H
namespace Vi
open PySem L2 Evl
section
variable {C : Ct}
/-- an error class that may be raised while an exception is handled -/
structure ErH (G : Cg) (x : Str) (cl : Nat) (g : List Dt → Option (List (Str × Dt))) : Prop where
  make : ∀ (C : Ct), C.g = G → ∀ X, C.Of X → Gl X x → ∀ (e : Expr) (es : List Expr) (ta : TA) (p1 p2 : Pos), PA X (e :: es) ta → starEach (e :: es) X.env = (false, eval e X.env) :: starEach es X.env → (backTo p2 (starEach es X.env)).any (·.1) = false →
    ∃ t, L2H.PMk5 X (.Call (.Name x p1) (e :: es) [] p2) t ∧ ∀ σ H Q, ta σ H (fun vs H1 => ∃ Z ds fs, FA Z H1 ∧ Dis C.K C.ly Z H1 vs ds ∧ g ds = some fs ∧ ds.length ≤ 100 ∧ ∀ H2 d, Ex H1 H2 → ExR C Z H2 ⟨cl, fs⟩ d → Q (C.xc cl) d H2) → t σ H Q
def fromR (cl : Nat) (g : List Dt → Option (List (Str × Dt))) (ρ : En) : Res (List Vl) → ResS
  | .ok xs h => match allD xs with
    | some ds => match g ds, decide (ds.length ≤ 100) with
      | some fs, true => .exc ⟨cl, fs⟩ ρ h
      | _, _ => .bad
    | none => .bad
  | _ => .bad
/-- try: .. except C as n: raise Y(..) from n -/
def tryFromS (fb : DenS) (t : Nat → Option Bool) (i cl : Nat) (g : List Dt → Option (List (Str × Dt))) (fa : DenA) : DenS := fun ρ h => match fb ρ h with
  | .exc e ρ1 h1 => match t e.cls with
    | some true => fromR cl g (ρ1.set i none) (fa (ρ1.set i none) h1)
    | _ => .bad
  | r => r
end
/-- what is told of the classes at such a clause -/
def DtH (G : Cg) (t : Nat → Option Bool) (cl : Nat) : Prop := G.dt (G.xc cl) ∧ ∀ k, t k = some true → ¬ G.dt (G.xc k) ∧ PySem.W.subIn G.K (G.xc k) (.type "BaseException") = some true
theorem cxv_cx {dt : Value → Prop} {P : Program} {w : World} {outer : List Env} {H : Hp} {s : Shared} {E : XK} {u : Value} {s' : Shared} (h : CXV dt P w outer H s E u s') : L2.CX P w outer H s E u s' := by
  have zi : ∀ {h B : Heap} {a : Addr} {Z Z' : Obj → Prop} {fl : Value}, (∀ o, Z o → Z' o) → HandSPX.TracedZ h B a Z fl → HandSPX.TracedZ h B a Z' fl := fun z x => by
    obtain ⟨oe, vs, T, oT, ts, he, hz, r⟩ := x
    exact ⟨oe, vs, T, oT, ts, he, z _ hz, r⟩
  rcases h with h | h
  · obtain ⟨a, B, H', cls, d, e, fl, r⟩ := h
    exact ⟨a, B, H', cls, d, e, ⟨fl.1, fl.2.1, fl.2.2.1, zi (fun o z => z.zc) fl.2.2.2⟩, r⟩
  · obtain ⟨a, B, H', cls, d, e, fl, h1, h2, h3, h4, h5, h6⟩ := h
    exact ⟨a, B, H', cls, d, e, fl, h1, h2, h3, h4, h5, h6.2⟩
theorem fnok_cx {dt : Value → Prop} {P : Program} {w : World} {K : PySem.W.Frag} {mg : Str → Option Value} {base : Heap} {k : Nat} {f : Addr} {fd : FuncData} {ps : List Str} {sp : Sp} (F : FnOk P w K mg base (CXV dt P w) k f fd ps sp) : FnOk P w K mg base (L2.CX P w) k f fd ps sp :=
  ⟨F.len, fun A outer s H args us vs Q E hr he hb hv hs => codeAny_mono (F.run A outer s H args us vs Q E hr he hb hv hs) fun r s' hq => by
    cases r with
    | error e => exact cxv_cx hq
    | ok fl => cases fl <;> exact hq⟩
end Vi

set_option maxRecDepth 100000
set_option maxHeartbeats 2000000
namespace Vi
open PySem PySem.Spec PyProof.Rows L2 Evl
/-! ### classes with slots: things whose slots are all filled -/
structure SlC (C : Ct) (c : Nat) (CA : Addr) (ns : List Str) (ix : Nat → Nat) : Prop where
  lm : ∀ a H vs, C.lm c a H vs ↔ ∃ dx sl, H a = some (SlX.SlO a CA dx sl) ∧ H dx = some (.xd []) ∧ dx ≠ a ∧ vs.length = ns.length ∧ ∀ (j : Nat) (v : V), vs[j]? = some v → sl[ix j]? = some (some v)
  cls : SlX.SCls C.K CA
  sl : ∀ j f, ns[j]? = some f → ∃ p, SlX.Slot1 C.K CA f p (ix j)
  inj : ∀ j k, j < ns.length → k < ns.length → ix j = ix k → j = k
section
variable {C : Ct} {c i k n : Nat} {CA : Addr} {ns : List Str} {ix : Nat → Nat} {g' : If} {e o v a : Expr} {es : List Expr} {fl mn : Str} {pos p apos pos' : Pos} {f g : Den} {fa : DenA}
/-! ### methods -/
structure MnS (C : Ct) (CA : Addr) (k : Nat) (mn : Str) (n : Nat) (g : If) : Prop where
  ex : ∃ f fd ps, Meth C.K CA mn f ∧ FnOk C.P C.w C.K C.mg C.base (CXV C.dt C.P C.w) k f fd ps (SpI C.g n g) ∧ Binds C.K fd ps []
end
end Vi

set_option maxRecDepth 100000
set_option maxHeartbeats 2000000
namespace Vi
open PySem PySem.Spec PyProof.Rows L2 Evl
/-! ### making an instance with slots, each filled with an argument -/
/-- the promise of an __init__ that stores its arguments -/
def spSt (CA : Addr) (ix : Nat → Nat) (n : Nat) : Sp := fun vs H Q _ => ∃ x dx ws, vs = .ref x :: ws ∧ ws.length = n ∧ H x = some (.ins CA dx []) ∧ dx ≠ x ∧
  ∀ sl, (∀ (j : Nat) (v : V), ws[j]? = some v → sl[ix j]? = some (some v)) → Q .non (SlX.slH H x CA dx sl)
def makeT (c n : Nat) (fa : DenA) : Den := fun ρ h => (fa ρ h).bind fun xs h1 => match decide (xs.length = n) with
  | true => .ok (.r h1.length) (h1 ++ [.ins c xs])
  | false => .bad
structure MkS (C : Ct) (CA : Addr) (ix : Nat → Nat) (k : Nat) (x : Str) (n : Nat) : Prop where
  ex : ∃ f fd ps, L2.Mk C.K CA f ∧ FnOk C.P C.w C.K C.mg C.base (CXV C.dt C.P C.w) k f fd ps (spSt CA ix n) ∧ Binds C.K fd ps [] ∧ C.mg x = some (.ref CA)
section
variable {C : Ct} {c i k n : Nat} {CA : Addr} {ns : List Str} {ix : Nat → Nat} {e : Expr} {es : List Expr} {x : Str} {p pos : Pos} {fa : DenA}
/-- a new thing -/
theorem Rl.addT {Z m : List Addr} {H H2 : Hp} {h : Hs} {a : Addr} {u : HO} {ob : Ob} (r : Rl C Z m H h) (ex : Ex H H2) (hx : H a = none) (hX : H2 a = some u) (h1 : ∀ xs, u ≠ .tup xs) (h2 : ∀ y, u ≠ fixO y) (hob : ObD C.K C.ly C.lm Z (m ++ [a]) H2 a ob) :
    Rl C Z (m ++ [a]) H2 (h ++ [ob]) ∧ Evo m H (m ++ [a]) H2 := by
  have e : Evo m H (m ++ [a]) H2 := ⟨fun b u hb _ => ex b u hb, fun b u hb => ⟨u, ex b u hb⟩, [a], rfl, fun b hb => by rw [List.mem_singleton.mp hb]; exact hx⟩
  have k := r.keeps e
  have r1 := r.ex ex
  have xm : a ∉ m := fun z => by obtain ⟨u, hu⟩ := r.ma a z; rw [hx] at hu; cases hu
  have lm := r.len
  refine ⟨⟨?_, fun b hb z => ?_, by simp [lm], r1.za, fun b hb xs => ?_, fun b hb y => ?_, fun b hb => ?_, fun i b ob2 h1 h2 => ?_⟩, e⟩
  · rw [List.nodup_append]
    refine ⟨r.nd, by simp, fun a' ha b hb q => ?_⟩
    rw [List.mem_singleton] at hb
    exact xm (by rw [← hb, ← q]; exact ha)
  · rcases List.mem_append.mp hb with hb | hb
    · exact r.disj b hb z
    · rw [List.mem_singleton] at hb
      obtain ⟨u, hu⟩ := r.za b z
      rw [hb, hx] at hu; cases hu
  · rcases List.mem_append.mp hb with hb | hb
    · exact r1.notup b hb xs
    · rw [List.mem_singleton] at hb; rw [hb, hX]; intro q; exact h1 xs (Option.some.inj q)
  · rcases List.mem_append.mp hb with hb | hb
    · exact r1.own b hb y
    · rw [List.mem_singleton] at hb; rw [hb, hX]; intro q; exact h2 y (Option.some.inj q)
  · rcases List.mem_append.mp hb with hb | hb
    · exact r1.ma b hb
    · rw [List.mem_singleton] at hb; rw [hb]; exact ⟨_, hX⟩
  · by_cases hi : i < m.length
    · rw [List.getElem?_append_left hi] at h1
      rw [List.getElem?_append_left (by omega)] at h2
      have q := r.ob i b ob2 h1 h2
      obtain ⟨u, hu⟩ := r.ma b (List.mem_of_getElem? h1)
      cases ob2 with
      | lst ds => obtain ⟨vs, q1, q2⟩ := q; exact ⟨vs, ex _ _ q1, q2.mono C.lok k⟩
      | dct ks vs =>
        obtain ⟨kvs, q1, q2, q3⟩ := q
        exact ⟨kvs, ex _ _ q1, ⟨q2.1, q2.2.mono C.lok k⟩, q3.mono r e⟩
      | dck ks vs =>
        obtain ⟨kvs, q1, q2, q3⟩ := q
        exact ⟨kvs, ex _ _ q1, q2, q3.mono r e⟩
      | ins c fs =>
        obtain ⟨vs, q1, q2⟩ := q
        exact ⟨vs, C.lmok.stay _ _ _ _ _ q1 (by rw [hu, ex _ _ hu]) (fun b o hb _ => ex _ _ hb), q2.mono r e⟩
      | gone => obtain ⟨u', hu', hn⟩ := q; exact ⟨u', ex _ _ hu', hn⟩
    · have hl := (List.getElem?_eq_some_iff.mp h1).1
      rw [List.length_append, List.length_singleton] at hl
      have hi2 : i = m.length := by omega
      subst hi2
      rw [List.getElem?_append_right (Nat.le_refl _), Nat.sub_self] at h1
      rw [← lm, List.getElem?_append_right (Nat.le_refl _), Nat.sub_self] at h2
      cases h1
      cases h2
      exact hob
end
end Vi

set_option maxRecDepth 100000
set_option maxHeartbeats 2000000
namespace Vi
open PySem PySem.Spec PyProof.Rows L2 Evl
/-! ### with X(..) as y: .., nothing is raised within -/
def outW (g2 : If) (x : Vl) (h : Hs) : Option Hs := match g2 [x, .d .non, .d .non, .d .non] h with
  | .ok _ h4 => some h4
  | _ => none
def withS (i c : Nat) (g1 g2 : If) (fc : Den) (fb : DenS) : DenS := fun ρ h => bindS (fc ρ h) ρ fun x h1 => match isI c h1 x with
  | true => match g1 [x] h1 with
    | .ok y h2 => match fb (ρ.set i (some y)) h2 with
      | .nx ρ3 h3 => match outW g2 x h3 with
        | some h4 => .nx ρ3 h4
        | none => .bad
      | .rt v h3 => match outW g2 x h3 with
        | some h4 => .rt v h4
        | none => .bad
      | _ => .bad
    | _ => .bad
  | false => .bad
section
variable {C : Ct} {c i k1 k2 : Nat} {CA : Addr} {ns : List Str} {ctx : Expr} {y : Str} {py pos : Pos} {body : List Stmt} {g1 g2 : If} {fc : Den} {fb : DenS}
end
end Vi

set_option maxRecDepth 100000
set_option maxHeartbeats 1000000
namespace Vi
open PySem PySem.Spec PyProof.Rows L2 Evl LamX
/-! ### lambdas that are kept in a list: function objects that are known -/
/-- a function object, known -/
abbrev FunO (o : Obj) : HO := .frz o (.own 0)
/-- the lambda's function object -/
abbrev lamO (X : Cx) (q : Str) (params : Arguments) (body : Expr) (scope : Scope) (pm : Value) (c' : Addr) (ctv : Value) : Obj := PySem.W.kla_obj "<lambda>" q params body scope (cloFrom X.env.cells scope.names []) pm c' ctv
section
variable {X : Cx} {pins : List (Addr × Obj)} {σ : L2.St} {H : Hp} {s : Shared}
theorem lam_make4 {c P : Addr} {q : Str} {params : Arguments} {body : Expr} {scope : Scope} {pos : Pos} {E : Value → Shared → Prop} {Q : Value → Shared → Prop} (I : Inv X pins σ H s) (TB : TabB X.base X.mg c P) (hcode : X.env.code = .ref c)
    (hq : X.env.qual ++ "<lambda>" = q) (hT : TabS H P q) (hdef : defaultsOf params X.env = ([], [])) (hfree : ∀ y ∈ scope.names, y.2 = .free → ∃ c, X.env.cells.lookup y.1 = some c)
    (h : ∀ (f c' : Addr) (pm ctv : Value) (H1 : Hp) (s' : Shared), LamH H P pos q c' H1 → TabS H1 P q → H1 c' = some (CodeO c' q) → H1 f = none → Inv X pins σ (upd H1 f (FunO (lamO X q params body scope pm c' ctv))) s' → Q (.ref f) s') :
    wpAny (model X.prog X.w) X.A (eval (.Lambda params body scope pos) X.env) Q E s := by
  subst hq
  obtain ⟨ps, hP, ht, ha⟩ := hT
  refine PySem.W.kla_eval hdef ?_
  have bP : s.heap.BuiltinsAt X.mg P := TB.bm.keeps I.bk
  have hP' : s.heap.get? P = some { cls := .none, data := .fields ps } := I.hok P _ hP
  cases hc : codeAmong pos ps.toList with
  | none =>
    refine PySem.W.kla_makeFunction (mg := X.mg) (c := c) (P := P) (ps := ps) (closure_ok hfree) I.ok.glob (I.mod.glob.keeps I.bk) hcode (TB.code.keeps I.bk) hP' ht hc TB.gP bP fun c' ctv h' tk hx hge hlt hrec htb => ?_
    obtain ⟨c2, oc, vs, t, e2, hoc, hd, hv⟩ := hrec
    cases e2
    have nC : H c' = none := I.hok.fresh hge
    have I1 := inv_table (t' := tk) (more := #[rawInt pos.line, rawInt pos.col, .ref c']) (h' := h') I hP
      (fun b o hb e => hx b o hb e) htb hge ⟨oc, vs, t, hoc, hd, hv⟩
    have hfr : (lamH H P ps pos c' (X.env.qual ++ "<lambda>")) h'.objs.size = none := I1.hok.fresh (Nat.le_refl _)
    have I2 := I1.laid (a := h'.objs.size) (o := FunO (lamO X (X.env.qual ++ "<lambda>") params body scope ((X.mg "__name__").getD .none) c' ctv)) (t' := tk) (h' := h'.push (PySem.W.kla_obj "<lambda>" (X.env.qual ++ "<lambda>") params body scope (cloFrom X.env.cells scope.names []) ((X.mg "__name__").getD .none) c' ctv))
      (fun b u e => Heap.get?_push_of_some _ e) (Nat.le_refl _) ⟨Heap.get?_push_size _ rfl, ⟨_, Heap.get?_push_size _ rfl⟩⟩
    have eL : (ps ++ #[rawInt pos.line, rawInt pos.col, .ref c']).toList = ps.toList ++ [rawInt pos.line, rawInt pos.col, .ref c'] := by simp
    refine h h'.objs.size c' ((X.mg "__name__").getD .none) ctv _ _ (.inr ⟨ps, hP, nC, rfl⟩) ?_ upd_same hfr I2
    refine ⟨_, (by show upd (upd H P _) c' _ P = _; rw [upd_ne (ne_of_none hP nC), upd_same]), by rw [eL]; exact PySem.TriplesOk_snoc _ _ _ _ ht, fun p' cv hcv => ?_⟩
    rw [eL] at hcv
    rcases among_app _ ht hcv with z | z
    · obtain ⟨c0, e1, e2⟩ := ha p' cv z
      refine ⟨c0, e1, ?_⟩
      show upd (upd H P _) c' _ c0 = _
      rw [upd_ne (ne_of_none e2 nC), upd_ne (fun z => codeO_ne ps (Option.some.inj (e2.symm.trans (by rw [z]; exact hP))))]
      exact e2
    · exact ⟨c', z, upd_same⟩
  | some cv =>
    obtain ⟨c', e, hco⟩ := ha pos cv hc
    subst e
    refine PySem.W.kla_makeFunctionHit (mg := X.mg) (c := c) (P := P) (ps := ps) (closure_ok hfree) I.ok.glob (I.mod.glob.keeps I.bk) hcode (TB.code.keeps I.bk) hP' ht hc bP fun ctv h' tk hx hsz => ?_
    have I0 : Inv X pins σ H { s with heap := h', toks := tk } := I.kept fun b o e => hx b o e
    have hfr : H h'.objs.size = none := I0.hok.fresh (Nat.le_refl _)
    have I2 := I0.laid (a := h'.objs.size) (o := FunO (lamO X (X.env.qual ++ "<lambda>") params body scope ((X.mg "__name__").getD .none) c' ctv)) (t' := tk) (h' := h'.push (PySem.W.kla_obj "<lambda>" (X.env.qual ++ "<lambda>") params body scope (cloFrom X.env.cells scope.names []) ((X.mg "__name__").getD .none) c' ctv))
      (fun b u e => Heap.get?_push_of_some _ e) (Nat.le_refl _) ⟨Heap.get?_push_size _ rfl, ⟨_, Heap.get?_push_size _ rfl⟩⟩
    exact h h'.objs.size c' ((X.mg "__name__").getD .none) ctv H _ (.inl rfl) ⟨ps, hP, ht, ha⟩ hco hfr I2
end
end Vi

set_option maxRecDepth 100000
set_option maxHeartbeats 1000000
namespace Vi
open PySem PySem.Spec PyProof.Rows L2 Evl LamX HandSPX
section
variable {X : Cx}
end
end Vi

set_option maxRecDepth 100000
set_option maxHeartbeats 1000000
namespace Vi
open PySem PySem.Spec PyProof.Rows L2 Evl LamX
/-! ### a list of lambdas: works = [lambda: ..]; works.append(lambda: ..); [told(w) for w in works] -/
/-- told(f): what told makes of it -/
def callV (n : Nat) (fb : Den) (cl : List Cl) (ρ : En) (h : Hs) : Res Dt := match fb ρ h with
  | .ok _ h1 => .ok .non h1
  | .exc e h1 => match pickS cl e (List.replicate n none) [] with
    | .rt (.d d) [] => .ok d h1
    | _ => .bad
  | .bad => .bad
def wkL (n : Nat) (cl : List Cl) (ρ : En) : List Den → Hs → Res (List Dt)
  | [], h => .ok [] h
  | fb :: r, h => match callV n fb cl ρ h with
    | .ok x h1 => match wkL n cl ρ r h1 with
      | .ok xs h2 => .ok (x :: xs) h2
      | _ => .bad
    | _ => .bad
/-- where the place's table stands -/
def tabS (j : Nat) (i : Int) (B : DenS) : DenS := fun ρ h => match (h[j]? : Option Ob) with
  | some (.ins 1 [.d (.int i')]) => match decide (i' = i) with
    | true => B ρ h
    | false => .bad
  | _ => .bad
structure LamE (C : Ct) (k : Nat) (params : Arguments) (body : Expr) (scope : Scope) (fb : Den) : Prop where
  lam : LamS C.sc scope
  bind : ∀ (q : Str) (cl : List (Str × Addr)) (pm cv ctv : Value), bindArgs (PySem.W.kla_fn "<lambda>" q params body scope cl pm cv ctv) ⟨[], []⟩ = pure []
  body : SE (C.lamC scope k) body fb
def FnAt (C : Ct) (X : Cx) (Z : List Addr) (H : Hp) (k : Nat) (q : Str) (f : Addr) (fb : Den) : Prop :=
  f ∈ Z ∧ ∃ c' pm ctv params body scope, H f = some (FunO (lamO X q params body scope pm c' ctv)) ∧ H c' = some (CodeO c' q) ∧ LamE C k params body scope fb
structure WkAt (C : Ct) (X : Cx) (Z : List Addr) (H : Hp) (d k : Nat) (q : Str) (fbs : List Den) : Prop where
  ex : ∃ fs : List Addr, H d = some (.lst (fs.map V.ref)) ∧ d ∈ Z ∧ fs.length = fbs.length ∧ ∀ (i : Nat) f fb, fs[i]? = some f → fbs[i]? = some fb → FnAt C X Z H k q f fb
section
variable {C : Ct} {X : Cx} {Z m m' : List Addr} {H H' : Hp} {σ : L2.St} {ρ : En} {h h' : Hs} {k d : Nat} {q : Str}
theorem FnAt.mono {f : Addr} {fb : Den} (a : FnAt C X Z H k q f fb) (r : Rl C Z m H h) (e : Evo m H m' H') : FnAt C X Z H' k q f fb := by
  obtain ⟨hz, c', pm, ctv, params, body, scope, h1, h2, h3⟩ := a
  exact ⟨hz, c', pm, ctv, params, body, scope, e.keep _ _ h1 (fun z => r.disj _ z hz), e.keep _ _ h2 (fun z => r.own _ z (.inc c' q) h2), h3⟩
theorem FnAt.keep {f : Addr} {fb : Den} (a : FnAt C X Z H k q f fb) {Z' : List Addr} (hz : ∀ b ∈ Z, b ∈ Z') (e : ∀ b o, H b = some o → (∀ xs, o ≠ .lst xs) → H' b = some o) : FnAt C X Z' H' k q f fb := by
  obtain ⟨z, c', pm, ctv, params, body, scope, h1, h2, h3⟩ := a
  exact ⟨hz _ z, c', pm, ctv, params, body, scope, e _ _ h1 (fun xs z => by cases z), e _ _ h2 (fun xs z => by unfold CodeO at z; cases z), h3⟩
theorem WkAt.mono {fbs : List Den} (a : WkAt C X Z H d k q fbs) (r : Rl C Z m H h) (e : Evo m H m' H') : WkAt C X Z H' d k q fbs := by
  obtain ⟨fs, h1, h2, h3, h4⟩ := a.ex
  exact ⟨fs, e.keep _ _ h1 (fun z => r.disj _ z h2), h2, h3, fun i f fb e1 e2 => (h4 i f fb e1 e2).mono r e⟩
theorem Dv.dropZ {D : Addr} {v : V} {x : Vl} (q : Dv C.K C.ly (D :: Z) m H v x) : Dv C.K C.ly Z m H v x := by
  have k : Keeps (D :: Z ++ m) H (Z ++ m) H := keeps_sub fun a z => by rw [List.cons_append]; exact List.mem_cons_of_mem _ z
  cases x with
  | d y => exact Di.mono C.lok k q
  | r n => exact q
theorem EnvV.dropZ {D : Addr} (e : EnvV C (D :: Z) m H σ ρ) : EnvV C Z m H σ ρ := ⟨e.len, fun i x hx => by
  obtain ⟨v, h1, h2⟩ := e.get i x hx
  exact ⟨v, h1, h2.dropZ⟩⟩
theorem SOk.addZ {W : WX} {D : Ends} {R : ResS} {a : Addr} (q : SOk C W Z m H D R) : SOk C W (a :: Z) m H D R := by
  cases R with
  | nx x h' => exact fun v m' H' e r en => q v m' H' e r.dropZ en.dropZ
  | bk x h' => exact fun v m' H' e r en => q v m' H' e r.dropZ en.dropZ
  | ct x h' => exact fun v m' H' e r en => q v m' H' e r.dropZ en.dropZ
  | rt x h' => exact fun v m' H' e r dv => q v m' H' e r.dropZ dv.dropZ
  | exc x ρ h' => exact fun v m' H' d e r en xr => q v m' H' d e r.dropZ en.dropZ xr.dropZ
  | bad => exact q
theorem EnvV.addZ {D : Addr} {o : HO} (e : EnvV C Z m H σ ρ) (r : Rl C Z m H h) (hD : H D = none) (hn : ∀ xs, o ≠ .tup xs) : EnvV C (D :: Z) m (upd H D o) σ ρ := ⟨e.len, fun i x hx => by
  obtain ⟨v, h1, h2⟩ := e.get i x hx
  refine ⟨v, h1, ?_⟩
  cases x with
  | d y => exact Di.mono C.lok (r.addZ hD hn).2 h2
  | r n => exact h2⟩
end
end Vi

set_option maxRecDepth 100000
set_option maxHeartbeats 1000000
namespace Vi
open PySem PySem.Spec PyProof.Rows L2 Evl LamX
section
variable {C : Ct} {Z m : List Addr} {H : Hp} {σ : L2.St} {ρ : En} {h : Hs} {k : Nat} {q : Str}
/-- told(w), w in slot jw -/
def tTold (C : Ct) (X : Cx) (k : Nat) (q : Str) (cl : List Cl) (Ng : List Str) (sg : Scope) (jw : Nat) : L2.St → TE := fun σ σY HY Q => ∃ f c' pm ctv params body scope, ∃ t : XK → TE, σY[jw]? = some (some (.ref f)) ∧ HY c' = some (CodeO c' q) ∧ HY f = some (FunO (lamO X q params body scope pm c' ctv)) ∧ LamS X.env.scope scope ∧
      (∀ (q : Str) (cl : List (Str × Addr)) (pm cv ctv : Value), bindArgs (PySem.W.kla_fn "<lambda>" q params body scope cl pm cv ctv) ⟨[], []⟩ = pure []) ∧
      (∀ (A : Around) (outer : List Env) (s : Shared) (H : Hp) (E : XK), Room k (A.deeper (lamEnv X scope s.heap.objs.size f c')) → PE (lamCx X A outer s H E scope f c') body (t E)) ∧
      TTr (C.g.at Ng sg k) cl (fun E H' Q' => H' f = some (FunO (lamO X q params body scope pm c' ctv)) ∧ t E σ H' Q') HY Q
end
end Vi

set_option maxRecDepth 100000
set_option maxHeartbeats 1000000
namespace Vi
open PySem PySem.Spec PyProof.Rows L2 Evl LamX
def wkTest (n : Nat) (cl : List Cl) (fbs : List Den) (p : Dt → Dt → Option Dt) (g : Den) : DenT := fun ρ h => match wkL n cl ρ fbs h with
  | .ok ys h1 => (g ρ h1).bind fun y h2 => (ap2 p h2 (.d (.lst ys)) y).bind fun v h3 => isB h3 v
  | _ => .bad
/-- works = [lambda: ..] -/
def wkStart (j : Nat) (i : Int) (iw : Nat) (B : DenS) : DenS := tabS j i fun ρ h => B (ρ.set iw none) h
structure SK (C : Ct) (k : Nat) (q : Str) (iw : Nat) (fbs : List Den) (sts : List Stmt) (B : DenS) : Prop where
  run : ∀ X, C.Of X → Own X → ∀ W, TakesV C.dt X W → ∀ Z m σ H ρ h D d m0 H0, Evo m0 H0 m H → H0 d = none → Rl C Z m H h → EnvV C Z m H σ ρ → σ[iw]? = some (some (.ref d)) → WkAt C X Z H d k q fbs → SOk C W Z m0 H0 D (B ρ h) → RunB X sts D σ H
structure SKT (C : Ct) (k : Nat) (q : Str) (iw : Nat) (fbs : List Den) (e : Expr) (f : DenT) : Prop where
  run : ∀ X, C.Of X → ∀ W, TakesV C.dt X W → ∀ Z m σ H ρ h Q d, Rl C Z m H h → EnvV C Z m H σ ρ → σ[iw]? = some (some (.ref d)) → WkAt C X Z H d k q fbs → TOk C W Z σ m H Q (f ρ h) → RunT X e σ H Q
section
variable {C : Ct} {k iw : Nat} {q : Str} {fbs : List Den}
end
end Vi

set_option maxRecDepth 100000
namespace PySem
open Sem (wp)
section
variable {prog : Program} {w : World} {K : Type} [DecidableEq K] {knd : KeyKind prog w K} {A : Around} {E : Value → Shared → Prop} {s : Shared}
end
end PySem

set_option maxRecDepth 100000
set_option maxHeartbeats 1000000
/-! dicts as data, whose keys are texts -/
namespace Vi
open PySem L2 Evl PyProof.Rows
def findS : List Dt → Str → Option Nat
  | [], _ => none
  | .str j :: ks, i => match decide (j = i) with
    | true => some 0
    | false => (findS ks i).map (· + 1)
  | _ :: ks, i => (findS ks i).map (· + 1)
def repS {α : Type} : List Dt → Str → List α → α → List α
  | .str j :: ks, i, v :: vs, y => (match decide (j = i) with
    | true => y
    | false => v) :: repS ks i vs y
  | _ :: ks, i, v :: vs, y => v :: repS ks i vs y
  | _, _, vs, _ => vs
def putKS (ks : List Dt) (i : Str) : List Dt := match findS ks i with
  | some _ => ks
  | none => ks ++ [.str i]
def putVS {α : Type} (ks : List Dt) (vs : List α) (i : Str) (y : α) : List α := match findS ks i with
  | some _ => repS ks i vs y
  | none => vs ++ [y]
theorem findS_at {i : Str} : ∀ {kvs : List (Key × V)}, (findS (kvs.map fun p => keyD p.1) i = none → valV kvs (.inr i) = none) ∧ ∀ n, findS (kvs.map fun p => keyD p.1) i = some n → ∃ v, (kvs.map (·.2))[n]? = some v ∧ valV kvs (.inr i) = some v
  | [] => ⟨fun _ => rfl, fun n h => by cases h⟩
  | (k, v) :: kvs => by
    obtain ⟨h1, h2⟩ := @findS_at i kvs
    have more : ¬ k = .inr i → findS (((k, v) :: kvs).map fun p => keyD p.1) i = (findS (kvs.map fun p => keyD p.1) i).map (· + 1) := fun hn => by
      rw [List.map_cons]
      cases k with
      | inr j =>
        have : ¬ j = i := fun z => hn (by rw [z])
        show findS (.str j :: _) i = _
        rw [findS, decide_eq_false this]
      | inl s => rfl
    by_cases e : k = .inr i
    · subst e
      have e0 : findS (((.inr i, v) :: kvs).map fun p => keyD p.1) i = some 0 := by
        rw [List.map_cons]
        show findS (.str i :: _) i = _
        rw [findS, decide_eq_true rfl]
      rw [e0]
      exact ⟨fun z => (by cases z), fun n z => (by cases z; exact ⟨v, rfl, valV_pos rfl⟩)⟩
    · rw [more e, valV_neg e]
      refine ⟨fun z => h1 (by simpa using z), fun n z => ?_⟩
      cases z2 : findS (kvs.map fun p => keyD p.1) i with
      | none => rw [z2] at z; cases z
      | some j =>
        rw [z2] at z
        cases z
        obtain ⟨w, q1, q2⟩ := h2 j z2
        exact ⟨w, by simpa using q1, q2⟩
def inPs : Dt → Dt → Option Dt
  | .str x, .dck ks _ => some (.bl (findS ks x).isSome)
  | .str y, .str x => some (.bl (!(Builtin.Str.occurrences x y 0 x.length 1).isEmpty))
  | x, y => inP2 x y
def ninPs : Dt → Dt → Option Dt
  | .str x, .dck ks _ => some (.bl (!(findS ks x).isSome))
  | x, y => ninP2 x y
def ixPs : Dt → Dt → Option Dt
  | .dck ks vs, .str x => match findS ks x with
    | some i => vs[i]?
    | none => none
  | a, b => ixP3 a b
def orPs : Dt → Dt → Option Dt
  | .dck ks vs, .dck [.str x] [y] => match decide (ks.length < 100000) with
    | true => some (.dck (putKS ks x) (putVS ks vs x y))
    | false => none
  | _, _ => none
section
variable {C : Ct}
theorem findS_some {kvs : List (Key × V)} {x : Str} : (findS (kvs.map fun p => keyD p.1) x).isSome = (valV kvs (.inr x)).isSome := by
  obtain ⟨h1, h2⟩ := @findS_at x kvs
  cases z : findS (kvs.map fun p => keyD p.1) x with
  | none => rw [h1 z]; rfl
  | some n => obtain ⟨v, _, q⟩ := h2 n z; rw [q]; rfl
theorem cmp_inPs : CmpP C .In inPs := ⟨fun X o pins s σ H x y v u Q I rx ry h => by
  obtain ⟨F, a, b, d, fa, ha, hb, hp, q⟩ := h
  unfold inPs at hp
  have hu : X.A.units + 1 < cLine := by have := o.units; omega
  split at hp
  · rename_i t ks vs
    cases hp
    obtain ⟨ad, kvs, rfl, h1, rfl, h3⟩ := hb.dctK_inv
    rw [ha.str_inv] at rx
    cases ry
    refine d_in hu I (DGet.k (k := .inr t) h1) rx fun s' I' => ⟨.bl _, H, I', rfl, ?_⟩
    rw [findS_some] at q
    exact vbl q
  · rename_i y x
    cases hp
    rw [ha.str_inv] at rx
    rw [hb.str_inv] at ry
    obtain ⟨t, rfl⟩ := rx
    obtain ⟨u, rfl⟩ := ry
    exact PyProof.Rows.in_str ⟨.bl _, H, I, rfl, vbl q⟩
  · exact cmp_inP2.run X o pins s σ H x y v u Q I rx ry ⟨F, a, b, d, fa, ha, hb, hp, q⟩⟩
def dct1S (fk fv : Den) : DenD := fun ρ h => match fk ρ h with
  | .ok (.d (.str x)) h1 => match fv ρ h1 with
    | .ok (.d y) h2 => .ok (.dck [.str x] [y]) h2
    | _ => .bad
  | _ => .bad
end
end Vi

set_option maxRecDepth 100000
set_option maxHeartbeats 1000000
/-! strings that are walked, a written dict, copies and sorted keys of dicts, pop -/
namespace Vi
open PySem L2 Evl PyProof.Rows
/-! ### the signs of a text -/
def chD (z : Str) : List Dt := z.cps.toList.map fun c => Dt.str ⟨#[c]⟩
def strI (f : Den) : DenI := fun ρ h => (f ρ h).bind fun x h1 => match x with
  | .d (.str z) => .ok (.fx (chD z)) h1
  | _ => .bad
section
variable {C : Ct} {tg it a b e : Expr} {f g k : Den} {pos p p0 p1 p2 p' : Pos}
theorem it_str {Z m : List Addr} {H : Hp} {z : Str} : ItV C Z m H (Its z) (.fx (chD z)) := fun Z' m' H' h' _ e' _ i => by
  have hl : (chD z).length = z.cps.size := by unfold chD; simp
  refine ⟨fun d hd => ?_, fun hle => by rw [hl] at hle; exact hle⟩
  unfold chD at hd
  rw [List.getElem?_map, Array.getElem?_toList] at hd
  cases hc : z.cps[i]? with
  | none => rw [hc] at hd; cases hd
  | some c =>
    rw [hc] at hd
    cases hd
    refine ⟨(Array.getElem?_eq_some_iff.mp hc).1, fun x H'' y => ?_⟩
    obtain ⟨rfl, c', hc', rfl⟩ := y
    rw [hc] at hc'
    cases hc'
    exact ⟨Ex.refl _, .str _⟩
theorem si_str (hf : SE C it f) : SI C tg it (strI f) := ⟨fun X o W tk => ⟨_, pi_str pe_w, fun Z m σ H ρ h R r env q => by
  refine hf.run X o W tk Z m σ H ρ h _ r env ((EOk.bind pass_i q).imp fun v H1 ⟨m1, x, h1, e1, r1, d1, q1⟩ => ?_)
  cases x with
  | r n => exact q1.elim
  | d x =>
    cases x with
    | str z =>
      rw [Di.str_inv (show Di C.K C.ly (Z ++ m1) H1 v (.str z) from d1)]
      exact ⟨z, rfl, q1 _ m1 H1 (Evo.refl _ _) r1 it_str⟩
    | _ => exact q1.elim⟩⟩
/-! ### a dict that stands in the text -/
structure KTab (C : Ct) (x : Str) (tab : List (Str × Int)) : Prop where
  ex : ∃ a es n, C.mg x = some (.ref a) ∧ C.K.lookup a = some ⟨.type "dict", none, .dict es n, #[]⟩ ∧ PySem.W.KeysLit C.w.params es.toList ∧ (a == sysModules) = false ∧ ∀ z, match tab.lookup z with
    | some i => ∃ t, PySem.W.nsIn C.K a z = some (some (.int i t))
    | none => PySem.W.nsIn C.K a z = some none
def getG (tab : List (Str × Int)) (k g : Den) : Den := fun ρ h => (k ρ h).bind fun kx h1 => (g ρ h1).bind fun gx h2 => match kx with
  | .d (.str z) => match tab.lookup z with
    | some i => .ok (.d (.int i)) h2
    | none => .ok gx h2
  | _ => .bad
/-! ### dict(d) -/
def dictPs : List Dt → Option Dt
  | [.dck ks vs] => some (.dck ks vs)
  | a => dictP a
/-! ### sorted(d) -/
def sortPs : List Dt → Option Dt
  | [.dck ks _] => sortP [.lst ks]
  | a => sortP2 a
/-! ### d[k] = v of a dict that may change -/
def setKVs (f g k : Den) : DenS := fun ρ h => bindS (f ρ h) ρ fun y h1 => bindS (g ρ h1) ρ fun d h2 => bindS (k ρ h2) ρ fun x h3 => match d, x with
  | .r n, .d (.str i) => match (h3[n]? : Option Ob) with
    | some (.dck ks vs) => match decide (ks.length < 100000) with
      | true => .nx ρ (h3.set n (.dck (putKS ks i) (putVS ks vs i y)))
      | false => .bad
    | _ => .bad
  | _, _ => .bad
/-! ### l.pop() -/
def popV (f : Den) : Den := fun ρ h => (f ρ h).bind fun x h1 => match x with
  | .r n => match (h1[n]? : Option Ob) with
    | some (.lst l) => match l[l.length - 1]? with
      | some d => .ok (.d d) (h1.set n (.lst l.dropLast))
      | none => .bad
    | _ => .bad
  | _ => .bad
end
end Vi

set_option maxRecDepth 100000
set_option maxHeartbeats 1000000
/-! classmethods that make an instance by cls(..) first -/
namespace Vi
open PySem PySem.Spec PyProof.Rows L2 Evl
/-- statements behind the start of a classmethod -/
structure SBk (C : Ct) (CA : Addr) (st : List Stmt) (f : DenS) : Prop where
  run : ∀ X, C.Of X → Own X → ∀ W, TakesV C.dt X W → ∀ Z m σ H ρ h D, Rl C Z m H h → EnvV C Z m H σ ρ → σ[0]? = some (some (.ref CA)) → SOk C W Z m H D (f ρ h) → RunB X st D σ H
/-- the def's promise: of what comes behind the class -/
def SpK (CA : Addr) (G : Cg) (n : Nat) (g : If) : Sp := fun vs H Q E => ∃ ws, vs = .ref CA :: ws ∧ SpI G n g ws H Q E
def runK (nn : Nat) (B : DenS) : If := fun xs h => match B (none :: (xs.map some ++ List.replicate (nn - 1 - xs.length) none)) h with
  | .rt x h1 => .ok x h1
  | .nx _ h1 => .ok (.d .non) h1
  | .exc e _ h1 => .exc e h1
  | _ => .bad
/-- a classmethod of the class at CA -/
structure CmI (C : Ct) (CA : Addr) (k : Nat) (x mn : Str) (n : Nat) (g : If) : Prop where
  ex : ∃ p f fd ps, ClX.CRead C.K CA (.type "type") ∧ ClX.CMet C.K CA (.type "type") mn p f ∧ FnOk C.P C.w C.K C.mg C.base (CXV C.dt C.P C.w) k f fd ps (SpK CA C.g n g) ∧ Binds C.K fd ps []
  gm : C.mg x = some (.ref CA)
section
variable {C : Ct} {c i k n : Nat} {CA : Addr} {ns : List Str} {g : If} {e : Expr} {es : List Expr} {x y cl mn : Str} {p pos p1 p2 ps apos : Pos} {fa : DenA} {rest : List Stmt} {B : DenS} {CN : Str}
end
section
variable {X : Cx} {pins : List (Addr × Obj)} {σ : L2.St} {H : Hp} {s : Shared}
end
section
variable {C : Ct} {k n : Nat} {CA : Addr} {g : If} {e : Expr} {es : List Expr} {x mn : Str} {p pos apos : Pos} {fa : DenA}
end
end Vi

set_option maxRecDepth 100000
set_option maxHeartbeats 1000000
/-! methods of things with slots; a + b as a new list; d = dict(e); d[k] = v -/
namespace Vi
open PySem L2 Evl PyProof.Rows
section
variable {G : Cg}
end
def catF (f g : Den) : DenD := fun ρ h => (f ρ h).bind fun x h1 => (g ρ h1).bind fun y h2 => match bor h2 x, bor h2 y with
  | some (.lst a), some (.lst b) => match decide (a.length + b.length ≤ 100000) with
    | true => .ok (.lst (a ++ b)) h2
    | false => .bad
  | _, _ => .bad
/-- d = dict(e); d[k] = v -/
def cpS (i : Nat) (fd : DenD) (g k : Den) : DenS := fun ρ h => match fd ρ h with
  | .ok (.dck ks vs) h1 => match g (ρ.set i none) h1 with
    | .ok (.d y) h2 => match k (ρ.set i none) h2 with
      | .ok (.d (.str t)) h3 => match decide (ks.length < 100000) with
        | true => .nx (ρ.set i (some (.d (.dck (putKS ks t) (putVS ks vs t y))))) h3
        | false => .bad
      | _ => .bad
    | _ => .bad
  | _ => .bad
section
variable {C : Ct} {a b e e1 kx vx : Expr} {f g k : Den} {fd : DenD} {pos p p2 p3 ps1 ps2 : Pos} {i : Nat} {y : Str} {rest : List Stmt} {B : DenS}
theorem sf_catL (ha : SE C a f) (hb : SE C b g) : SF C (.BinOp a .Add b pos) (catF f g) := ⟨fun X o W tk Z m σ H ρ h Q r env q => by
  refine PEw (pe_op (op_cat) pe_w pe_w) ?_
  refine ha.run X o W tk Z m σ H ρ h _ r env ((EOk.bind pass_f q).imp fun v1 H1 ⟨m1, x, h1, e1, r1, d1, q1⟩ => ?_)
  refine hb.run X o W tk Z m1 σ H1 ρ h1 _ r1 (env.mono r e1) ((EOk.bind pass_f q1).imp fun v2 H2 ⟨m2, y, h2, e2, r2, d2, q2⟩ => ?_)
  have d1' := d1.mono r1 e2
  cases z1 : bor h2 x with
  | none => rw [z1] at q2; exact q2.elim
  | some xd =>
    cases z2 : bor h2 y with
    | none => rw [z1, z2] at q2; cases xd <;> exact q2.elim
    | some yd =>
      rw [z1, z2] at q2
      cases xd with
      | lst l =>
        cases yd with
        | lst l2 =>
          dsimp only at q2
          by_cases hl : l.length + l2.length ≤ 100000
          · rw [decide_eq_true hl] at q2
            obtain ⟨p1, xs, rfl, k1, k2⟩ := (bor_ok r2 d1' z1).lst_inv
            obtain ⟨p2, ys, rfl, k3, k4⟩ := (bor_ok r2 d2 z2).lst_inv
            refine ⟨p1, p2, xs, ys, rfl, rfl, k1, k3, sz_of (by rw [k2.length, k4.length]; exact hl), fun D hD => ?_⟩
            exact q2 D m2 _ (Evo.ex (Ex.new hD)) (r2.addN (Ex.new hD) hD upd_same (by intro xs z; cases z)) hD ⟨_, upd_same, (k2.append k4).mono C.lok (keeps_new (Ex.new hD) hD)⟩
          · rw [decide_eq_false hl] at q2; exact q2.elim
        | _ => exact q2.elim
      | _ => exact q2.elim⟩
end
end Vi

set_option maxRecDepth 100000
set_option maxHeartbeats 1000000
/-! x == (), l != []: nothing within is looked at -/
namespace Vi
open PySem L2 Evl PyProof.Rows
def eqEp : Dt → Dt → Option Dt
  | .tup l, .tup [] => some (.bl l.isEmpty)
  | .lst l, .lst [] => some (.bl l.isEmpty)
  | a, b => eqP a b
def neEp : Dt → Dt → Option Dt
  | .tup l, .tup [] => some (.bl (!l.isEmpty))
  | .lst l, .lst [] => some (.bl (!l.isEmpty))
  | a, b => neP a b
section
variable {C : Ct} {X : Cx} {pins : List (Addr × Obj)} {σ : L2.St} {H : Hp} {s : Shared}
end
end Vi

set_option maxRecDepth 100000
set_option maxHeartbeats 1000000
/-! for the end: a dict of the module -/
namespace Vi
open PySem L2 Evl PyProof.Rows
abbrev TRow := Int × Str × Tok × Int × Tok
def trow (r : TRow) : DictEntry := ⟨r.1, .str r.2.1 r.2.2.1, .int r.2.2.2.1 r.2.2.2.2⟩
end Vi

set_option maxRecDepth 100000
set_option maxHeartbeats 2000000
namespace Vi
open PySem PySem.Spec PyProof.Rows L2 Evl
/-! ### a def that raises nothing, called where something is handled -/
structure FnQ (P : Program) (w : World) (K : PySem.W.Frag) (mg : Str → Option Value) (base : Heap) (k : Nat) (f : Addr) (fd : FuncData) (ps : List Str) (sp : List V → Hp → VK → Prop) : Prop where
  len : ∀ vs H Q, sp vs H Q → vs.length = ps.length
  run : ∀ (A : Around) (outer : List Env) (s : Shared) (H : Hp) (args : Args) (us : List Value) (vs : List V) (Q : VK) (p : Addr × Obj), L2H.RoomH k A → L2H.PinOk outer H s p → Env0 P w K mg base A outer s H → BindsTo s fd args (ps.zip us) → Vals vs us → sp vs H Q →
    codeAny (model P w) A (.call (.ref f) args) (fun r s' => match r with
      | .ok (.ret u) => CE outer P w H s Q u s'
      | _ => False) s
/-- the context of such a def's body -/
abbrev cxQ (P : Program) (w : World) (K : PySem.W.Frag) (mg : Str → Option Value) (base : Heap) (N : List Str) (qual : Str) (scope : Scope) (f : Addr) (cd : Value) (A : Around) (outer : List Env) (s : Shared) (H : Hp) (p : Addr × Obj) : Cx :=
  L2H.cxH (fun _ _ _ _ _ _ => False) P w K mg base N qual scope f cd A outer s H (fun _ _ _ => False) p
/-- what such a def with the one argument that it reads makes -/
def spQ (G : Cg) (n : Nat) (B : DenS) : List V → Hp → VK → Prop := fun vs H Q => ∃ Z m h a x v1 v2 v3, vs = [a, v1, v2, v3] ∧ Rl G.ct Z m H h ∧ Dv G.K G.ly Z m H a x ∧
  match B (some x :: List.replicate (n - 1) none) h with
  | .nx _ h' => ∀ m' H', Evo m H m' H' → Rl G.ct Z m' H' h' → Q .non H'
  | _ => False
section
variable {G : Cg} {x qual : Str} {st : Stmt} {f : Addr} {fd : FuncData} {N ps : List Str} {k : Nat} {B : DenS}
end
/-- a method that is called where something is handled -/
structure MnQ (C : Ct) (CA : Addr) (k n : Nat) (mn : Str) (B : DenS) : Prop where
  ex : ∃ f fd ps, Meth C.K CA mn f ∧ FnQ C.P C.w C.K C.mg C.base k f fd ps (spQ C.g n B) ∧ ps.length = 4 ∧ Binds C.K fd ps []
section
variable {X : Cx} {k : Nat} {f : Addr} {fd : FuncData} {ps : List Str} {sp : List V → Hp → VK → Prop}
end
end Vi

set_option maxRecDepth 100000
set_option maxHeartbeats 2000000
namespace Vi
open PySem PySem.Spec PyProof.Rows L2 Evl
/-! ### with, what is raised within -/
section
variable {prog : Program} {w : World} {A : Around} {E : Value → Shared → Prop} {s : Shared} {env : Env} {K : PySem.W.Frag} {x C fe fx : Addr} {ox : Obj} {od : Option Obj} {pos : Pos}
/-- what was raised within meets the exit -/
def WithRaised (prog : Program) (w : World) (A : Around) (E : Value → Shared → Prop) (env : Env) (x fx : Addr) (Q : Flow → Shared → Prop) (e : Value) (s : Shared) : Prop :=
  wpAny (model prog w) A (noteFrame e env) (fun _ s₀ => wpAny (model prog w) A (setFlight e none) (fun _ s₁ =>
    wpAny (model prog w) A (typeOf e) (fun ty s₂ => wpAny (model prog w) A (tracebackOf e) (fun tb s₃ =>
      wpAny (model prog w) A (run (.call (.ref fx) ⟨[.ref x, ty, e, tb], []⟩) (some e)) (fun fl s₄ => fl = .ret .none ∧ wpAny (model prog w) A (passOn "with" e env : Sem Flow) Q E s₄) E s₃) E s₂) E s₁) E s₀) E s
end
end Vi

set_option maxRecDepth 100000
set_option maxHeartbeats 2000000
namespace Vi
open PySem PySem.Spec PyProof.Rows L2 Evl
/-! ### what was raised within a with: the exit is called, on it goes -/
section
variable {X : Cx} {D : Ends} {Wout W' : WX}
end
end Vi

set_option maxRecDepth 100000
set_option maxHeartbeats 2000000
namespace Vi
open PySem PySem.Spec PyProof.Rows L2 Evl
/-! ### with X(..) as y: .., what is raised within leaves it behind the exit -/
def outQ (n : Nat) (B2 : DenS) (x : Vl) (h : Hs) : Option Hs := match B2 (some x :: List.replicate (n - 1) none) h with
  | .nx _ h4 => some h4
  | _ => none
def wxR (okc : Nat → Bool) (n : Nat) (g2 : If) (B2 : DenS) (x : Vl) : ResS → ResS
  | .nx ρ3 h3 => match outW g2 x h3 with
    | some h4 => .nx ρ3 h4
    | none => .bad
  | .rt v h3 => match outW g2 x h3 with
    | some h4 => .rt v h4
    | none => .bad
  | .exc e ρ3 h3 => match okc e.cls, outQ n B2 x h3 with
    | true, some h4 => .exc e ρ3 h4
    | _, _ => .bad
  | _ => .bad
def withX (okc : Nat → Bool) (i c n : Nat) (g1 g2 : If) (B2 : DenS) (fc : Den) (fb : DenS) : DenS := fun ρ h => bindS (fc ρ h) ρ fun x h1 => match isI c h1 x with
  | true => match g1 [x] h1 with
    | .ok y h2 => wxR okc n g2 B2 x (fb (ρ.set i (some y)) h2)
    | _ => .bad
  | false => .bad
section
variable {C : Ct} {c i k1 k2 n : Nat} {CA : Addr} {ns : List Str} {ctx : Expr} {y : Str} {py pos : Pos} {body : List Stmt} {g1 g2 : If} {fc : Den} {fb B2 : DenS} {okc : Nat → Bool}
end
end Vi

set_option maxRecDepth 100000
set_option maxHeartbeats 2000000
namespace Vi
open PySem PySem.Spec PyProof.Rows L2 Evl LamX
/-! ### return [told(w) for w in works] op b -/
def wkVal (n : Nat) (cl : List Cl) (fbs : List Den) (p : Dt → Dt → Option Dt) (g : Den) : Den := fun ρ h => match wkL n cl ρ fbs h with
  | .ok ys h1 => (g ρ h1).bind fun y h2 => ap2 p h2 (.d (.lst ys)) y
  | _ => .bad
structure SKE (C : Ct) (k : Nat) (q : Str) (iw : Nat) (fbs : List Den) (e : Expr) (f : Den) : Prop where
  run : ∀ X, C.Of X → ∀ W, TakesV C.dt X W → ∀ Z m σ H ρ h Q d, Rl C Z m H h → EnvV C Z m H σ ρ → σ[iw]? = some (some (.ref d)) → WkAt C X Z H d k q fbs → EOk C W Z σ m H Q (f ρ h) → RunE X e σ H Q
section
variable {C : Ct} {k iw : Nat} {q : Str} {fbs : List Den}
end
end Vi

set_option maxRecDepth 100000
set_option maxHeartbeats 2000000
namespace Vi
open PySem L2 Evl
/-! ### for i, x in enumerate(xs), xs a list that may change -/
def forE (n : Nat) (g : Tgt) (body : DenS) : Nat → Nat → En → Hs → ResS
  | 0, i, ρ, h => match h[n]? with
    | some (.lst l) => match decide (l.length ≤ i) with
      | true => .nx ρ h
      | false => .bad
    | _ => .bad
  | k + 1, i, ρ, h => match h[n]? with
    | some (.lst l) => match l[i]? with
      | some d => match g (.d (.tup [.int (i : Int), d])) ρ with
        | none => .bad
        | some ρ1 => match body ρ1 h with
          | .nx ρ2 h2 => forE n g body k (i + 1) ρ2 h2
          | .ct ρ2 h2 => forE n g body k (i + 1) ρ2 h2
          | .bk ρ2 h2 => .nx ρ2 h2
          | .rt x h2 => .rt x h2
          | .exc e ρ2 h2 => .exc e ρ2 h2
          | .bad => .bad
      | none => .nx ρ h
    | _ => .bad
def forEK (g : Tgt) (body : DenS) (ρ : En) (x : Vl) (h1 : Hs) : ResS := match sqV x with
  | some l => forL g body (enumD 0 l) ρ h1
  | none => match x with
    | .r n => match h1[n]? with
      | some (.lst l) => forE n g body l.length 0 ρ h1
      | _ => .bad
    | _ => .bad
def forES (f : Den) (g : Tgt) (body : DenS) : DenS := fun ρ h => bindS (f ρ h) ρ fun x h1 => forEK g body ρ x h1
section
variable {C : Ct} {bd : List Stmt} {fs : DenS} {pos : Pos}
end
end Vi

set_option maxRecDepth 100000
set_option maxHeartbeats 2000000
namespace Vi
open PySem L2 Evl
/-! ### comprehensions whose elements may raise, over a list that may change -/
def lcRX (n : Nat) (g : Tgt) (t : DenT) (f : Den) (ρ : En) : Nat → Nat → Hs → Res (List Dt)
  | 0, i, h => match h[n]? with
    | some (.lst l) => match decide (l.length ≤ i) with
      | true => .ok [] h
      | false => .bad
    | _ => .bad
  | k + 1, i, h => match h[n]? with
    | some (.lst l) => match l[i]? with
      | none => .ok [] h
      | some d => match g (.d d) ρ with
        | none => .bad
        | some ρ1 => match t ρ1 h with
          | .ok true h1 => match f ρ1 h1 with
            | .ok (.d y) h2 => match lcRX n g t f ρ k (i + 1) h2 with
              | .ok ys h3 => .ok (y :: ys) h3
              | .exc e h3 => .exc e h3
              | .bad => .bad
            | .exc e h2 => .exc e h2
            | _ => .bad
          | .ok false h1 => lcRX n g t f ρ k (i + 1) h1
          | _ => .bad
    | _ => .bad
/-- as lcFX, of a list that may change, too -/
def lcFT (vs : List Nat) (src : DenI) (g : Tgt) (t : DenT) (f : Den) : DenD := fun ρ h => (src ρ h).bind fun s h1 => match s with
  | .fx ds => match decide (ds.length ≤ 100000) with
    | true => match lcLX g t f (wipeR ρ vs) ds h1 with
      | .ok ys h2 => .ok (.lst ys) h2
      | .exc e h2 => .exc e h2
      | .bad => .bad
    | false => .bad
  | .rf n len => match decide (len ≤ 100000) with
    | true => match lcRX n g t f (wipeR ρ vs) len 0 h1 with
      | .ok ys h2 => .ok (.lst ys) h2
      | .exc e h2 => .exc e h2
      | .bad => .bad
    | false => .bad
section
variable {C : Ct} {elt tg it : Expr} {ifs : List Expr} {scope : Scope} {own : List (Str × Nat)} {pos : Pos} {src : DenI} {g : Tgt} {t : DenT} {f : Den} {ws : List Nat}
end
end Vi

set_option maxRecDepth 100000
set_option maxHeartbeats 1000000
namespace Vi
open PySem L2 Evl
/-! ### isinstance of data, lists too -/
def tyDL : Dt → Option String
  | .lst _ => some "list"
  | d => tyD d
structure KitL (D : String) (p : Dt → Option Dt) : Prop where
  ok : ∀ d e, p d = some e → ∃ T r, tyDL d = some T ∧ kitB T D = some r ∧ e = .bl r
def isTupL : Dt → Option Dt
  | .lst _ => some (.bl false)
  | d => isTup d
section
variable {C : Ct}
end
end Vi

set_option maxRecDepth 100000
set_option maxHeartbeats 2000000
namespace Vi
open PySem PySem.Spec PyProof.Rows L2 Evl LamX
/-! ### lambdas with one parameter, known function objects -/
/-- the names of such a lambda: the parameter w; the rest captured or global -/
structure LamS1 (sc scope : Scope) (w : Str) : Prop where
  kind : scope.kind = .function
  co : scope.isCoroutine = false
  gen : scope.isGenerator = false
  par : scope.names.lookup w = some .local
  own : ∀ y ∈ scope.names, y.2 ≠ .cell ∧ (y.2 = .local → y.1 = w)
  free : ∀ y ∈ scope.names, y.2 = .free → sc.names.lookup y.1 = some .cell ∨ sc.names.lookup y.1 = some .free
def lamS1B (sc scope : Scope) (w : Str) : Bool :=
  decide (scope.kind = .function) && !scope.isCoroutine && !scope.isGenerator && decide (scope.names.lookup w = some .local) && scope.names.all fun y => !decide (y.2 = .cell) && (!decide (y.2 = .local) || decide (y.1 = w)) && (!decide (y.2 = .free) || decide (sc.names.lookup y.1 = some .cell) || decide (sc.names.lookup y.1 = some .free))
theorem lamS1_by {sc scope : Scope} {w : Str} (h : lamS1B sc scope w = true) : LamS1 sc scope w := by
  unfold lamS1B at h
  simp only [Bool.and_eq_true, Bool.or_eq_true, Bool.not_eq_true', decide_eq_true_eq, decide_eq_false_iff_not, List.all_eq_true] at h
  obtain ⟨⟨⟨⟨h1, h2⟩, h3⟩, h4⟩, h5⟩ := h
  refine ⟨h1, h2, h3, h4, fun y hy => ⟨(h5 y hy).1.1, fun z => ?_⟩, fun y hy z => ?_⟩
  · rcases (h5 y hy).1.2 with q | q
    · exact absurd z q
    · exact q
  · rcases (h5 y hy).2 with (q | q) | q
    · exact absurd z q
    · exact .inl q
    · exact .inr q
/-- the context of such a lambda's body: the maker's slots, then the parameter -/
def lamCx1 (X : Cx) (A : Around) (outer : List Env) (s : Shared) (H : Hp) (E : XK) (scope : Scope) (f c' : Addr) (w : Str) : Cx :=
  { lamCx X A outer s H E scope f c' with N := X.N ++ [w] }
section
variable {X : Cx} {pins : List (Addr × Obj)} {σ : L2.St} {H HZ : Hp} {s s1 : Shared}
theorem LamS1.has {scope : Scope} {w : Str} (L : LamS1 X.env.scope scope w) (ok : X.Ok) : ∀ y ∈ scope.names, y.2 = .free → ∃ c, X.env.cells.lookup y.1 = some c := fun y hy e => ok.has y.1 (L.free y hy e)
theorem lam_start1 {A : Around} {outer : List Env} {E : XK} {scope : Scope} {f c' : Addr} {w : Str} {u : Value} {v0 : V} {h₁ : Heap} {tk : Nat} (I : Inv X pins σ H s) (L : LamS1 X.env.scope scope w) (hw : w ∉ X.N) (ru : RelV v0 u) (e0 : Env0 X.prog X.w X.K X.mg X.base A outer s1 HZ) (hd : A.handled = none)
    (un : Un (frs X.stack) [] H HZ s.heap s1.heap) (hns : h₁.Ns s1.heap.objs.size fun y => ([(w, u)] : List (Str × Value)).reverse.lookup y) (kp : ∀ b o, s1.heap.get? b = some o → h₁.get? b = some o) :
    Inv (lamCx1 X A outer s1 HZ E scope f c' w) [] (σ ++ [some v0]) HZ { s1 with heap := h₁, toks := tk } := by
  have hfree := L.has I.ok
  have cm : ∀ {y c}, (cloFrom X.env.cells scope.names []).lookup y = some c → X.env.cells.lookup y = some c := fun {y c} e => by
    rcases cloFrom_mem (PySem.mem_of_lookup e) with hm | ⟨h1, h2⟩
    · cases hm
    · obtain ⟨c1, hc⟩ := hfree _ h1 rfl
      have hc : X.env.cells.lookup y = some c1 := hc
      have e2 : c = c1 := by rw [h2, hc] <;> rfl
      rw [e2]
      exact hc
  have look : ∀ {y}, scope.names.lookup y = some .free → ∃ c, (cloFrom X.env.cells scope.names []).lookup y = some c := fun {y} hl => mem_lookup (cloFrom_has (cells := X.env.cells) (acc := []) (PySem.mem_of_lookup hl))
  have cellK : ∀ {c : Addr} {v : Option Value}, H c = none → s.heap.IsCell c v → h₁.IsCell c v := fun {c v} n ⟨o, ho, hd⟩ => by
    obtain ⟨sl, q⟩ := un.any ho n (by simp)
    exact ⟨_, kp _ _ q, hd⟩
  have noA : ∀ b : Addr, b ∉ (lamCx1 X A outer s1 HZ E scope f c' w).ex := fun b z => absurd (show b ∈ ([] : List Addr) from z) (by simp)
  refine ⟨⟨e0.mod, L.kind, rfl, rfl, Nat.le_refl _, fun y z c e1 e2 => I.ok.inj y z c (cm e1) (cm e2), fun y hy => ?_, fun y c z _ => ?_, fun _ => hd, Around.frames_deeper e0.frames, .inr ⟨rfl, rfl⟩, fun b z => absurd z (noA b), e0.bs, e0.bsz, fun b _ _ => noA b,
      fun b z => absurd z (noA b), e0.funs, e0.frf⟩,
    rfl, e0.bare, Un.kept kp, ⟨_, hns, fun i y v e1 e2 e3 => ?_⟩, fun y c e => ?_, e0.hok.fresh (Nat.le_refl _), fun y c e => ?_, fun q hq => absurd (show q ∈ ([] : List (Addr × Obj)) ++ [] from hq) (by simp), e0.hok.kept kp, ?_⟩
  · have hy : scope.names.lookup y = some .cell ∨ scope.names.lookup y = some .free := hy
    rcases hy with hy | hy
    · exact absurd rfl (L.own _ (PySem.mem_of_lookup hy)).1
    · exact look hy
  · have z : false = true := z
    cases z
  · have e1 : (X.N ++ [w])[i]? = some y := e1
    have e2 : (σ ++ [some v0])[i]? = some (some v) := e2
    have e3 : Vis scope y := e3
    have hl := I.len
    by_cases hi : i < X.N.length
    · rw [List.getElem?_append_left hi] at e1
      rw [List.getElem?_append_left (by omega)] at e2
      have hyN : y ∈ X.N := List.mem_of_getElem? e1
      rcases e3 with k | k | k
      · exact absurd ((L.own _ (PySem.mem_of_lookup k)).2 rfl) (fun z => hw (by rw [← show y = w from z]; exact hyN))
      · exact absurd rfl (L.own _ (PySem.mem_of_lookup k)).1
      · obtain ⟨m, hn, hl⟩ := I.loc
        have hvis : Vis X.env.scope y := (L.free _ (PySem.mem_of_lookup k) rfl).elim (fun k => .inr (.inl k)) (fun k => .inr (.inr k))
        obtain ⟨w', r, q⟩ := hl i y v e1 e2 hvis
        obtain ⟨c2, h2⟩ := look k
        refine ⟨w', r, .inr ⟨.inr k, c2, h2, ?_⟩⟩
        have c1 := cm h2
        rcases q with ⟨k', _⟩ | ⟨_, c3, e', z⟩
        · have k' : X.env.scope.names.lookup y = some .local := k'
          rcases L.free _ (PySem.mem_of_lookup k) rfl with k2 | k2 <;> rw [show X.env.scope.names.lookup y = _ from k2] at k' <;> cases k'
        · rw [c1] at e'
          cases e'
          exact cellK (I.freeC y _ c1) z
    · rw [List.getElem?_append_right (by omega)] at e1
      rw [List.getElem?_append_right (by omega)] at e2
      have hi0 : i - X.N.length = 0 := by
        cases hj : i - X.N.length with
        | zero => rfl
        | succ j => rw [hj] at e1; simp at e1
      rw [hi0] at e1
      have e1' : w = y := by simpa using e1
      subst e1'
      have hi1 : i - σ.length = 0 := by omega
      rw [hi1] at e2
      have e2'' : v0 = v := by simpa using e2
      subst e2''
      refine ⟨u, ru, .inl ⟨L.par, ?_⟩⟩
      show ([(w, u)] : List (Str × Value)).reverse.lookup w = some u
      simp
  · obtain ⟨w', z⟩ := I.cell y c (cm e)
    exact ⟨w', cellK (I.freeC y c (cm e)) z⟩
  · obtain ⟨v, o, ho, hd⟩ := I.cell y c (cm e)
    exact un.free c o ho (I.freeC y c (cm e)) (by simp)
  · show (σ ++ [some v0]).length = (X.N ++ [w]).length
    rw [List.length_append, List.length_append, I.len]
    rfl
end
end Vi

set_option maxRecDepth 100000
set_option maxHeartbeats 2000000
namespace Vi
open PySem PySem.Spec PyProof.Rows L2 Evl LamX
section
variable {X : Cx} {pins : List (Addr × Obj)} {σ : L2.St} {H : Hp} {s : Shared}
/-- x(e), x a known function object, in a def that the maker called -/
theorem pe_act1F {CXg : CXT} {Eg : XK} {Ng : List Str} {qg : Str} {sg : Scope} {g f c' : Addr} {cdg pm ctv : Value} {q w : Str} {params : Arguments} {body e : Expr} {scope : Scope} {k i : Nat} {a : Str} {pn : List (Addr × Obj)} {xe : Value → Shared → Prop} {te tb : TE} {p1 p2 : Pos}
    (I : Inv X pins σ H s) (L : LamS1 X.env.scope scope w) (hw : w ∉ X.N) (hq : X.env.qual ++ "<lambda>" = q)
    (hbind : ∀ u, bindArgs (PySem.W.kla_fn "<lambda>" q params body scope (cloFrom X.env.cells scope.names []) pm (.ref c') ctv) ⟨[u], []⟩ = pure [(w, u)])
    (hr : Room (k + 1) (X.A.deeper (envOfC qg sg s.heap.objs.size g cdg)))
    (hbody : ∀ (A : Around) (outer : List Env) (s : Shared) (H : Hp), Room k (A.deeper (lamEnv X scope s.heap.objs.size f c')) → PE (lamCx1 X A outer s H (fun _ _ _ => False) scope f c' w).nox body tb)
    (hN : Ng[i]? = some a) (hv : Vis sg a) (he : PE ((cxOf CXg X.prog X.w X.K X.mg X.base Ng qg sg g cdg X.A X.stack s H Eg).tr pn xe) e te) (hs : ∀ env, starEach [e] env = (false, eval e env) :: starEach [] env)
    (hd : (a == ("__debug__" : Str)) = false) (hcd : (a == ("__classdict__" : Str)) = false) :
    PE ((cxOf CXg X.prog X.w X.K X.mg X.base Ng qg sg g cdg X.A X.stack s H Eg).tr pn xe) (.Call (.Name a p1) [e] [] p2)
      (fun σZ HZ Q => σZ[i]? = some (some (.ref f)) ∧ HZ f = some (FunO (lamO X q params body scope pm c' ctv)) ∧ te σZ HZ fun v H1 => H1 c' = some (CodeO c' q) ∧ H1 f = some (FunO (lamO X q params body scope pm c' ctv)) ∧ tb (σ ++ [some v]) H1 Q) := by
  subst hq
  refine ⟨fun pinsZ sZ σZ HZ Q IZ h => ?_⟩
  obtain ⟨hs0, hfo0, hte⟩ := h
  refine wpAny_Call_Name_kw (thn ((pe_var (pos := p1) (i := i) hN hv hd hcd).run pinsZ sZ σZ HZ (fun v H1 => v = .ref f ∧ H1 = HZ) IZ ⟨.ref f, hs0, rfl, rfl⟩) fun u s1 ⟨v, H1, I1, r1, q1⟩ => ?_)
  obtain ⟨ev, eH⟩ := q1
  subst ev
  rw [eH] at I1
  obtain rfl : u = Value.ref f := r1
  have of0 : s1.heap.get? f = some (PySem.W.kla_obj "<lambda>" (X.env.qual ++ "<lambda>") params body scope (cloFrom X.env.cells scope.names []) pm c' ctv) := (I1.hok f _ hfo0).1
  refine PySem.W.callWith_F ⟨_, _, _, _, of0⟩ (thn ((pa_cons he pa_nil (hs _)).run p2 pinsZ s1 σZ HZ (fun vs H1 => match vs with
    | [v] => H1 c' = some (CodeO c' (X.env.qual ++ "<lambda>")) ∧ H1 f = some (FunO (lamO X (X.env.qual ++ "<lambda>") params body scope pm c' ctv)) ∧ tb (σ ++ [some v]) H1 Q
    | _ => False) I1 hte) fun us s2 ⟨vs, H2, I2, r2, q2⟩ => ?_) (hs _) (by rfl)
  obtain ⟨v0, u0, rfl, rfl, ru⟩ : ∃ v0 u0, vs = [v0] ∧ us = [u0] ∧ RelV v0 u0 := by
    cases r2 with
    | nil => exact q2.elim
    | cons ru rr =>
      cases rr with
      | nil => exact ⟨_, _, rfl, rfl, ru⟩
      | cons _ _ => exact q2.elim
  obtain ⟨hc, hfo, ht⟩ := q2
  have of2 : s2.heap.get? f = some (PySem.W.kla_obj "<lambda>" (X.env.qual ++ "<lambda>") params body scope (cloFrom X.env.cells scope.names []) pm c' ctv) := (I2.hok f _ hfo).1
  refine ⟨⟨_, _, _, _, of2⟩, ?_⟩
  have un : Un (frs X.stack) [] H H2 s.heap s2.heap := I2.base
  obtain ⟨⟨oc, vs, t, hoc, hdc, hvc⟩, _, _⟩ := I2.hok c' _ hc
  have rc : codeAny (model X.prog X.w) (X.A.deeper (envOfC qg sg s.heap.objs.size g cdg)) (.call (.ref f) ⟨[u0], []⟩) (fun r s' => match r with
      | .ok (.ret u) => CE (envOfC qg sg s.heap.objs.size g cdg :: X.stack) X.prog X.w H2 s2 Q u s'
      | _ => False) s2 := by
    refine PySem.W.kla_callFunE hr.depth of2 rfl L.co L.gen rfl ⟨c', oc, vs, t, rfl, hoc, hdc, hvc⟩ ?_
    rw [hbind]
    refine wpAny_pure (wpAny_newFunctionEnv (fun y hy => (L.own y hy).1) (fun y hy => by
      rw [List.mem_singleton] at hy
      subst hy
      exact L.par) (fun h₁ hns hsb => ⟨I2.nolimit.fresh _ hsb, ?_⟩) L.kind)
    show codeAny _ _ (.expr body (lamEnv X scope s2.heap.objs.size f c')) _ _
    have kp : ∀ b o, s2.heap.get? b = some o → h₁.get? b = some o := fun b o e => hsb.extBut b o (Nat.ne_of_lt (Heap.lt_size e)) (Heap.get?_push_of_some _ e)
    have J : Inv (lamCx1 X (X.A.deeper (envOfC qg sg s.heap.objs.size g cdg)) (envOfC qg sg s.heap.objs.size g cdg :: X.stack) s2 H2 (fun _ _ _ => False) scope f c' w) [] (σ ++ [some v0]) H2 { s2 with heap := h₁, toks := s2.toks + ([(w, u0)] : List (Str × Value)).length } :=
      lam_start1 I L hw ru I2.env0 hr.hd un hns kp
    refine PySem.W.kla_codeExpr (wpAny_mono ((hbody _ _ s2 H2 (hr.deeper _)).run [] _ _ H2 Q (J.wish _) ht) (fun v s' hq => ?_) fun e s' hq => hq.elim)
    obtain ⟨w', H', J', rv, q⟩ := hq
    exact ⟨w', H', J'.os, J'.bare, J'.base, J'.hok, rv, q⟩
  refine wpAny_call (codeAny_mono rc fun r s' hq => ?_)
  cases r with
  | error e => exact hq.elim
  | ok fl =>
    cases fl with
    | ret u => exact I2.after hq
    | next => exact False.elim hq
    | brk => exact False.elim hq
    | cont => exact False.elim hq
end
end Vi

set_option maxRecDepth 100000
set_option maxHeartbeats 2000000
namespace Vi
open PySem PySem.Spec PyProof.Rows L2 Evl LamX
section
variable {X : Cx} {σ : L2.St} {H : Hp} {c P g CA : Addr} {q w mn : Str} {params : Arguments} {body o : Expr} {scope : Scope} {lpos pos apos : Pos} {ta : TE}
/-- o.mn(lambda w: ..): the call itself is still to be made -/
theorem pe_methL {pl : PySem.Sem Bool} (he : PE X o ta) (cl : Cls X.K CA) (hm : Meth X.K CA mn g) (TB : TabB X.base X.mg c P) (hcode : X.env.code = .ref c) (hq : X.env.qual ++ "<lambda>" = q) (L : LamS1 X.env.scope scope w) (hdef : defaultsOf params X.env = ([], []))
    (hst : starEach [.Lambda params body scope lpos] X.env = (false, eval (.Lambda params body scope lpos) X.env) :: starEach [] X.env)
    (ht : eval (.Call (.Attribute o mn apos) [.Lambda params body scope lpos] [] pos) X.env = (do
      let ov ← eval o X.env
      standAt apos.atName
      let (f, first) ← holding [ov] (getMethod ov mn pl)
      callWith pos f first (backTo pos (starEach [.Lambda params body scope lpos] X.env)) (backToKw pos (keywordEach [] X.env)))) :
    PE X (.Call (.Attribute o mn apos) [.Lambda params body scope lpos] [] pos) (fun σ H Q => ta σ H fun x H1 => ∃ a dx fs, x = .ref a ∧ H1 a = some (.ins CA dx fs) ∧ fs.lookup mn = none ∧ TabS H1 P q ∧
      ∀ f c' pm ctv H2, LamH H1 P lpos q c' H2 → TabS H2 P q → H2 c' = some (CodeO c' q) → H2 f = none → ∀ pins s, Inv X pins σ (upd H2 f (FunO (lamO X q params body scope pm c' ctv))) s →
        wpAny (model X.prog X.w) X.A (call (.ref g) [.ref a, .ref f]) (EP X pins σ Q) X.xe s) := ⟨fun pins s σ H Q I h => by
  refine PySem.W.methodCall_KW (pl := pl) (thn (he.run pins s σ H _ I h) fun u s1 hu => ?_) ht
  obtain ⟨x, H1, I1, rx, a, dx, gs, rfl, ea, l, tb, qq⟩ := hu
  obtain rfl : u = Value.ref a := rx
  refine getmeth_ok I1 ea cl hm l ?_
  refine PySem.W.callWith_K (first := [.ref a]) (h₀ := X.base) I.ok.mod.kin hm.kp ?_ hst (by rfl)
  rw [hst]
  show wpAny _ _ (spliced ((false, eval (.Lambda params body scope lpos) X.env) :: backTo pos (starEach [] X.env))) _ _ s1
  refine Calls.spliced_cons (lam_make4 I1 TB hcode hq tb hdef (L.has I1.ok) fun f c' pm ctv H2 s' lh t2 hc hf I2 => ?_)
  exact Calls.spliced_nil ⟨I2.kIn, qq f c' pm ctv H2 lh t2 hc hf pins s' I2⟩⟩
end
/-- the place of a one-parameter lambda's body -/
def Ct.lamC1 (C : Ct) (scope : Scope) (k : Nat) (w : Str) : Ct := { C with N := C.N ++ [w], sc := scope, lv := k, fn := false, cd := none }
structure LamE1 (C : Ct) (k : Nat) (params : Arguments) (body : Expr) (scope : Scope) (w : Str) (fb : Den) : Prop where
  lam : LamS1 C.sc scope w
  new : w ∉ C.N
  bind : ∀ (q : Str) (cl : List (Str × Addr)) (pm cv ctv u : Value), bindArgs (PySem.W.kla_fn "<lambda>" q params body scope cl pm cv ctv) ⟨[u], []⟩ = pure [(w, u)]
  dflt : ∀ env, defaultsOf params env = ([], [])
  body : SE (C.lamC1 scope k w) body fb
section
variable {C : Ct} {X : Cx} {Z m : List Addr} {H : Hp} {σ : L2.St} {ρ : En} {h : Hs}
theorem of_lam1 {scope : Scope} {k : Nat} {w : Str} (o : C.Of X) (hc : C.calm = true) {A : Around} {outer : List Env} {s : Shared} {Hh : Hp} {E : XK} {f c' : Addr} (hr : Room k (A.deeper (lamEnv X scope s.heap.objs.size f c'))) : (C.lamC1 scope k w).Of (lamCx1 X A outer s Hh E scope f c' w).nox :=
  ⟨o.prog, o.w, o.K, o.mg, o.base, (by show X.N ++ [w] = C.N ++ [w]; rw [o.N]), rfl, hc.symm, hr.units, fun _ => hr, fun z => (nomatch z), (by intro c z; cases z), (fun z => (nomatch z)), L2H.roomH_of hr⟩
theorem Rl.lam1 {scope : Scope} {k : Nat} {w : Str} (r : Rl C Z m H h) : Rl (C.lamC1 scope k w) Z m H h := ⟨r.nd, r.disj, r.len, r.za, r.notup, r.own, r.ma, r.ob⟩
theorem Rl.unlam1 {scope : Scope} {k : Nat} {w : Str} (r : Rl (C.lamC1 scope k w) Z m H h) : Rl C Z m H h := ⟨r.nd, r.disj, r.len, r.za, r.notup, r.own, r.ma, r.ob⟩
theorem EnvV.snoc1 {scope : Scope} {k : Nat} {w : Str} {v : V} {d : Dt} (e : EnvV C Z m H σ ρ) (dv : Di C.K C.ly (Z ++ m) H v d) : EnvV (C.lamC1 scope k w) Z m H (σ ++ [some v]) (ρ ++ [some (.d d)]) := ⟨by rw [List.length_append, List.length_append, e.len]; rfl, fun i x hx => by
  by_cases hi : i < ρ.length
  · rw [List.getElem?_append_left hi] at hx
    obtain ⟨u, h1, h2⟩ := e.get i x hx
    exact ⟨u, by rw [List.getElem?_append_left (by rw [e.len]; exact hi)]; exact h1, h2⟩
  · rw [List.getElem?_append_right (by omega)] at hx
    have hi0 : i - ρ.length = 0 := by
      cases hj : i - ρ.length with
      | zero => rfl
      | succ j => rw [hj] at hx; simp at hx
    rw [hi0] at hx
    cases hx
    refine ⟨v, ?_, dv⟩
    rw [List.getElem?_append_right (by rw [e.len]; omega), e.len, hi0]
    rfl⟩
/-- x(e), x the function object -/
def callD (fe fb : Den) (ρ : En) : Den := fun ρY h => (fe ρY h).bind fun x h1 => match x with
  | .d d => match fb (ρ ++ [some (.d d)]) h1 with
    | .ok y h2 => .ok y h2
    | _ => .bad
  | _ => .bad
def nwB (f1 : DenT) (fe : Den) (fr frest : DenS) (fb : Den) (ρ : En) : DenS := seqS (ifS (orT f1 (notT (asB (callD fe fb ρ)))) fr skipS) frest
def runK2 (n : Nat) (B : DenS) (x : Vl) (h : Hs) : Res Vl := match B (some x :: List.replicate (n - 1) none) h with
  | .rt y h2 => .ok y h2
  | .nx _ h2 => .ok (.d .non) h2
  | .exc e _ h2 => .exc e h2
  | _ => .bad
def tabD (tj : Nat) (ti : Int) (h : Hs) : Bool := match (h[tj]? : Option Ob) with
  | some (.ins 1 [.d (.int i')]) => decide (i' = ti)
  | _ => false
/-- o.mn(lambda ..) -/
def nwV (tj : Nat) (ti : Int) (c n : Nat) (f1 : DenT) (fe : Den) (fr frest : DenS) (fb fo : Den) : Den := fun ρ h => (fo ρ h).bind fun x h1 => match isI c h1 x, tabD tj ti h1 with
  | true, true => runK2 n (nwB f1 fe fr frest fb ρ) x h1
  | _, _ => .bad
end
end Vi

set_option maxRecDepth 100000
set_option maxHeartbeats 4000000
namespace Vi
open PySem PySem.Spec PyProof.Rows L2 Evl LamX
section
variable {C : Ct} {c k tj : Nat} {ti : Int} {cc P CA g : Addr} {ns Ng : List Str} {ql mn a s0 w qual : Str} {stg : Stmt} {fd : FuncData} {params : Arguments} {lbody o t1 e1 : Expr} {scope : Scope} {bd rest : List Stmt} {lpos pos apos p1 p2 p3 p4 p5 : Pos} {f1 : DenT} {fe fb fo : Den} {fr frest : DenS}
theorem se_nwL (D : LamD C cc P ql ti) (hc : C.calm = true) (PC : PlC C c CA ns) (hk : k + 3 ≤ C.lv) (F : Fun C.K mn qual stg g fd) (b : Binds C.K fd [s0, a] []) (hm : Meth C.K CA mn g) (no : mn ∉ ns) (Sg : FnScope Ng [s0, a] (defScope stg)) (hN1 : Ng[1]? = some a) (hva : Vis (defScope stg) a)
    (hbody : defBody stg = .If (.BoolOp .Or [t1, .UnaryOp .Not (.Call (.Name a p1) [e1] [] p2) p3] p4) bd [] p5 :: rest)
    (h1 : ST (C.g.at Ng (defScope stg) (k + 1)) t1 f1) (he1 : SE (C.g.at Ng (defScope stg) (k + 1)) e1 fe) (hr : SB (C.g.at Ng (defScope stg) (k + 1)) bd fr) (hrest : SB (C.g.at Ng (defScope stg) (k + 1)) rest frest) (hs1 : NoStar e1 [])
    (LE : LamE1 C k params lbody scope w fb) (hsl : NoStar (.Lambda params lbody scope lpos) []) {pl : Env → PySem.Sem Bool}
    (ht : ∀ env, eval (.Call (.Attribute o mn apos) [.Lambda params lbody scope lpos] [] pos) env = (do
      let ov ← eval o env
      standAt apos.atName
      let (f, first) ← holding [ov] (getMethod ov mn (pl env))
      callWith pos f first (backTo pos (starEach [.Lambda params lbody scope lpos] env)) (backToKw pos (keywordEach [] env))))
    (hplain : PlainT (.Call (.Name a p1) [e1] [] p2)) (ho : SE C o fo) (hda : (a == ("__debug__" : Str)) = false) (hca : (a == ("__classdict__" : Str)) = false) :
    SE C (.Call (.Attribute o mn apos) [.Lambda params lbody scope lpos] [] pos) (nwV tj ti c Ng.length f1 fe fr frest fb fo) := ⟨fun X o' W tk Z m σ H ρ h Q r env q => by
  obtain ⟨oc, od, kV, doc, pm0, an, cdv, ct, osl, rfl, lk, hcdi⟩ := F.ex
  have hroom : Room (k + 3) X.A := (o'.room hc).mono hk
  refine PEw (pe_methL (q := ql ++ "<lambda>") (w := w) pe_w (by rw [o'.K]; exact PC.cls) (by rw [o'.K]; exact hm) (by rw [o'.base, o'.mg]; exact D.tb) (o'.code _ D.cd).1 (by rw [(o'.code _ D.cd).2]) (by rw [o'.sc]; exact LE.lam) (LE.dflt _) (hsl _) (ht _)) (ho.run X o' W tk Z m σ H ρ h _ r env ((EOk.bind pass_e q).imp fun v H1 ⟨m1, x, h2, e1', r1, d1, q1⟩ => ?_))
  cases z : isI c h2 x with
  | false => rw [z] at q1; exact q1.elim
  | true =>
  rw [z] at q1
  cases zt : tabD tj ti h2 with
  | false => rw [zt] at q1; exact q1.elim
  | true =>
  rw [zt] at q1
  dsimp only at q1
  obtain ⟨aa, dx, gs, rfl, g2, g5⟩ := isI_ok PC r1 d1 z
  have z0 : h2[tj]? = some (.ins 1 [.d (.int ti)]) := by
    unfold tabD at zt
    split at zt
    · rename_i i' hob
      rw [hob, of_decide_eq_true zt]
    · cases zt
  obtain ⟨htab, hmk⟩ := lam_made (lpos := lpos) D r1 z0
  refine ⟨aa, dx, gs, rfl, g2, no_take no g5, htab, fun f c' pm ctv H2 lh t2 hcc hf2 pins s I => ?_⟩
  obtain ⟨r2, e2⟩ := hmk c' H2 lh t2
  have ex3 : Ex H2 (upd H2 f (FunO (lamO X (ql ++ "<lambda>") params lbody scope pm c' ctv))) := Ex.new hf2
  have r3 := r2.ex ex3
  have e3 := (e1'.trans e2).trans (Evo.ex (m := m1) ex3)
  have hf3 : (upd H2 f (FunO (lamO X (ql ++ "<lambda>") params lbody scope pm c' ctv))) f = some (FunO (lamO X (ql ++ "<lambda>") params lbody scope pm c' ctv)) := upd_same
  have hc3 : (upd H2 f (FunO (lamO X (ql ++ "<lambda>") params lbody scope pm c' ctv))) c' = some (CodeO c' (ql ++ "<lambda>")) := by rw [upd_ne (ne_of_none hcc hf2)]; exact hcc
  have d3 : Dv C.K C.ly Z m1 (upd H2 f (FunO (lamO X (ql ++ "<lambda>") params lbody scope pm c' ctv))) (.ref aa) x := (d1.mono r1 e2).mono r2 (Evo.ex ex3)
  have env3 : EnvV C Z m1 (upd H2 f (FunO (lamO X (ql ++ "<lambda>") params lbody scope pm c' ctv))) σ ρ := ((env.mono r e1').mono r1 e2).mono r2 (Evo.ex ex3)
  have hfm : f ∉ m1 := fun zz => by obtain ⟨o2, ho2⟩ := r2.ma f zz; rw [hf2] at ho2; cases ho2
  have hcm : c' ∉ m1 := fun zz => r2.own _ zz (.inc c' (ql ++ "<lambda>")) hcc
  generalize hH3 : upd H2 f (FunO (lamO X (ql ++ "<lambda>") params lbody scope pm c' ctv)) = H3 at *
  have q3 : EOk C W Z σ m1 H3 Q (runK2 Ng.length (nwB f1 fe fr frest fb ρ) x h2) := (EOk.at e2 q1).at (Evo.ex ex3)
  have kIn : C.K.In s.heap := by rw [← o'.K]; exact I.kIn
  have hbY := b s [.ref aa, .ref f] kIn rfl
  rw [List.append_nil] at hbY
  have rc : codeAny (model X.prog X.w) X.A (.call (.ref g) ⟨[.ref aa, .ref f], []⟩) (CR (CXV C.dt X.prog X.w) X.stack X.prog X.w H3 s Q (L2.WE W σ)) s := by
    refine run_ofS (N := Ng) (ps := [s0, a]) (us := [.ref aa, .ref f]) (vs := [.ref aa, .ref f]) (K := X.K) (mg := X.mg) (base := X.base) (by rw [o'.K]; exact lk) (by rw [o'.K]; exact hcdi) Sg (k := k + 2) hroom I.env0 hbY (.cons rfl (.cons rfl .nil)) rfl fun hr' => ?_
    rw [hbody]
    have hr1 : Room (k + 1) (X.A.deeper (envOfC qual (defScope stg) s.heap.objs.size g cdv)) := hr'.mono (by omega)
    obtain ⟨Y, hY⟩ : ∃ Y, Y = cxOf (CXV C.dt X.prog X.w) X.prog X.w X.K X.mg X.base Ng qual (defScope stg) g cdv X.A X.stack s H3 (L2.WE W σ) := ⟨_, rfl⟩
    have oY : (C.g.at Ng (defScope stg) (k + 1)).Of Y := by
      rw [hY]
      exact ⟨o'.prog, o'.w, o'.K, o'.mg, o'.base, rfl, rfl, rfl, hr1.units, fun _ => hr1, fun _ _ => rfl, (by intro c z; cases z), fun _ => ⟨rfl, rfl, rfl⟩, L2H.roomH_of hr1⟩
    have ownY : Own Y := by rw [hY]; exact ⟨passes_of rfl, rfl, rfl⟩
    have tkY : TakesV C.dt Y (fun cls d _ H => L2.WE W σ cls d H) := by rw [hY]; exact takes_ofV (E := L2.WE W σ) rfl rfl rfl rfl
    have hcall : PE Y (.Call (.Name a p1) [e1] [] p2) (fun σZ HZ Q => σZ[1]? = some (some (.ref f)) ∧ HZ f = some (FunO (lamO X (ql ++ "<lambda>") params lbody scope pm c' ctv)) ∧ RunE Y e1 σZ HZ fun v H1 => H1 c' = some (CodeO c' (ql ++ "<lambda>")) ∧ H1 f = some (FunO (lamO X (ql ++ "<lambda>") params lbody scope pm c' ctv)) ∧
        (fun σ' H' Q' => ∀ A outer s' Hh, Room k (A.deeper (lamEnv X scope s'.heap.objs.size f c')) → RunE (lamCx1 X A outer s' Hh (fun _ _ _ => False) scope f c' w).nox lbody σ' H' Q') (σ ++ [some v]) H1 Q) := by
      rw [hY]
      exact pe_act1F (X := X) (CXg := CXV C.dt X.prog X.w) (Eg := L2.WE W σ) (te := RunE (cxOf (CXV C.dt X.prog X.w) X.prog X.w X.K X.mg X.base Ng qual (defScope stg) g cdv X.A X.stack s H3 (L2.WE W σ)) e1) (pn := []) (i := 1) (w := w) (xe := (cxOf (CXV C.dt X.prog X.w) X.prog X.w X.K X.mg X.base Ng qual (defScope stg) g cdv X.A X.stack s H3 (L2.WE W σ)).xe) (tb := fun σ' H' Q' => ∀ A outer s' Hh, Room k (A.deeper (lamEnv X scope s'.heap.objs.size f c')) → RunE (lamCx1 X A outer s' Hh (fun _ _ _ => False) scope f c' w).nox lbody σ' H' Q') I (by rw [o'.sc]; exact LE.lam) (by rw [o'.N]; exact LE.new) (by rw [(o'.code _ D.cd).2]) (fun u => LE.bind _ _ _ _ _ u) hr1 (fun A outer s' Hh hroom' => ⟨fun pins s2 σ' H' Q' I h => h A outer s' Hh hroom' pins s2 I⟩) hN1 hva pe_w hs1 hda hca
    obtain ⟨σY, hσY⟩ : ∃ z, L2.start Ng [V.ref aa, V.ref f] = z := ⟨_, rfl⟩
    have hlenN : 2 ≤ Ng.length := by
      have := congrArg List.length Sg.pre
      rw [List.length_take] at this
      simp at this
      omega
    have hσ1 : σY[1]? = some (some (.ref f)) := by rw [← hσY]; rfl
    obtain ⟨ρY, hρY⟩ : ∃ z : En, (some x :: List.replicate (Ng.length - 1) none : En) = z := ⟨_, rfl⟩
    have envY : EnvV (C.g.at Ng (defScope stg) (k + 1)) Z m1 H3 σY ρY := by
      rw [← hσY, ← hρY]
      refine ⟨by unfold L2.start; simp; omega, fun i y hy => ?_⟩
      cases i with
      | zero =>
        cases hy
        exact ⟨.ref aa, rfl, d3⟩
      | succ i =>
        rw [List.getElem?_cons_succ, List.getElem?_replicate] at hy
        split at hy <;> cases hy
    have rY : Rl (C.g.at Ng (defScope stg) (k + 1)) Z m1 H3 h2 := r3.toG.toAt
    have qB : SOk (C.g.at Ng (defScope stg) (k + 1)) (fun cls d _ H => L2.WE W σ cls d H) Z m1 H3 { nx := fun _ H' => Q .non H', rt := Q } (nwB f1 fe fr frest fb ρ ρY h2) := by
      unfold runK2 at q3
      rw [hρY] at q3
      cases zb : nwB f1 fe fr frest fb ρ ρY h2 with
      | bad => rw [zb] at q3; exact q3.elim
      | bk _ _ => rw [zb] at q3; exact q3.elim
      | ct _ _ => rw [zb] at q3; exact q3.elim
      | nx ρ5 h5 => rw [zb] at q3; exact fun σ' m' H' e' r' en' => q3 .non m' H' e' r'.ofAt.toC Di.non
      | rt y h5 => rw [zb] at q3; exact fun v m' H' e' r' dv => q3 v m' H' e' r'.ofAt.toC dv
      | exc e5 ρ5 h5 => rw [zb] at q3; exact fun σ' m' H' d e' r' en' ex => q3 m' H' d e' r'.ofAt.toC ex
    have hT : ∀ R, TOk (C.g.at Ng (defScope stg) (k + 1)) (fun cls d _ H => L2.WE W σ cls d H) Z σY m1 H3 R (orT f1 (notT (asB (callD fe fb ρ))) ρY h2) → RunT Y (.BoolOp .Or [t1, .UnaryOp .Not (.Call (.Name a p1) [e1] [] p2) p3] p4) σY H3 R := fun R qT => by
      refine PTw (PW.pt (pw_or pt_w (pw_or1 (pt_not (pt_val hcall (hplain _)))))) ?_
      refine h1.run Y oY _ tkY Z m1 σY H3 ρY h2 _ rY envY ((TOk.bind pass_t qT).imp fun bb H4 ⟨m4, h4, e4, r4, q4⟩ => ?_)
      cases bb with
      | true => exact iteT (q4 m4 H4 (Evo.refl _ _) r4)
      | false =>
        refine iteF ⟨hσ1, e4.keep _ _ hf3 hfm, ?_⟩
        refine he1.run Y oY _ tkY Z m4 σY H4 ρY h4 _ r4 (envY.mono rY e4) ?_
        unfold notT asB callD at q4
        cases ze : fe ρY h4 with
        | bad => rw [ze] at q4; exact q4.elim
        | exc e5 h5 => rw [ze] at q4; exact q4
        | ok x5 h5 =>
          rw [ze] at q4
          cases x5 with
          | r i => exact q4.elim
          | d d5 =>
            dsimp only [Res.bind] at q4
            cases zb : fb (ρ ++ [some (.d d5)]) h5 with
            | bad => rw [zb] at q4; exact q4.elim
            | exc e6 h6 => rw [zb] at q4; exact q4.elim
            | ok y h6 =>
              rw [zb] at q4
              dsimp only [Res.bind] at q4
              intro v m5 H5 e5 r5 dv5
              have hc4 := e4.keep _ _ hc3 hcm
              have hf4 := e4.keep _ _ hf3 hfm
              have nm : ∀ {b : Addr} {u}, H3 b = some u → b ∉ m1 → b ∉ m4 := fun {b u} hb hn zz => by
                obtain ⟨n, rfl, hn2⟩ := e4.more
                rcases List.mem_append.mp zz with zz | zz
                · exact hn zz
                · rw [hn2 _ zz] at hb; cases hb
              refine ⟨e5.keep _ _ hc4 (nm hc3 hcm), e5.keep _ _ hf4 (nm hf3 hfm), fun A outer s' Hh hroom' => ?_⟩
              have env5 : EnvV C Z m5 H5 σ ρ := (env3.mono r3 e4).mono r4.ofAt.toC e5
              refine LE.body.run _ (of_lam1 o' hc hroom') _ takes0V Z m5 _ H5 _ h5 _ r5.ofAt.toC.lam1 (env5.snoc1 dv5) ?_
              rw [zb]
              intro v6 m6 H6 e6 r6 d6
              obtain ⟨b6, rfl, q6⟩ := isB_ok (C := C.g.at Ng (defScope stg) (k + 1)) pass_t d6 (TOk.at e6 (TOk.at e5 q4))
              exact ⟨b6, rfl, q6 m6 H6 (Evo.refl _ _) (Rl.toAt (Rl.toG r6.unlam1))⟩
    refine ⟨_, pss_cons (ps_if pt_w pb_w pss_nil) pb_w, ?_⟩
    rw [← hY, hσY]
    refine hT _ ?_
    unfold nwB seqS ifS at qB
    have key : SOk (C.g.at Ng (defScope stg) (k + 1)) (fun cls d _ H => L2.WE W σ cls d H) Z m1 H3 { nx := RunB Y rest { nx := fun _ H' => Q V.non H', rt := Q }, rt := Q } (bindS (orT f1 (notT (asB (callD fe fb ρ))) ρY h2) ρY fun b h1 => match b with | true => fr ρY h1 | false => skipS ρY h1) := by
      cases zt : orT f1 (notT (asB (callD fe fb ρ))) ρY h2 with
      | bad => rw [zt] at qB; exact qB.elim
      | exc e1 h1 => rw [zt] at qB; exact qB
      | ok b h1 =>
        rw [zt] at qB
        cases b with
        | true =>
          show SOk _ _ Z m1 H3 _ (fr ρY h1)
          have qB : SOk (C.g.at Ng (defScope stg) (k + 1)) (fun cls d _ H => L2.WE W σ cls d H) Z m1 H3 { nx := fun _ H' => Q .non H', rt := Q } (match fr ρY h1 with | .nx ρ1 h1 => frest ρ1 h1 | .rt x h1 => .rt x h1 | .bk ρ1 h1 => .bk ρ1 h1 | .ct ρ1 h1 => .ct ρ1 h1 | .exc e ρ1 h1 => .exc e ρ1 h1 | .bad => .bad) := qB
          cases zf : fr ρY h1 with
          | nx ρ2 h2 =>
            rw [zf] at qB
            exact fun σ' m' H' e' r' env' => hrest.run Y oY ownY _ tkY Z m' σ' H' ρ2 h2 _ r' env' (qB.at e')
          | rt x h2 => rw [zf] at qB; exact qB
          | bk x h2 => rw [zf] at qB; exact qB
          | ct x h2 => rw [zf] at qB; exact qB
          | exc e ρ2 h2 => rw [zf] at qB; exact qB
          | bad => rw [zf] at qB; exact qB
        | false =>
          have qB : SOk (C.g.at Ng (defScope stg) (k + 1)) (fun cls d _ H => L2.WE W σ cls d H) Z m1 H3 { nx := fun _ H' => Q .non H', rt := Q } (frest ρY h1) := qB
          exact fun σ' m' H' e' r' env' => hrest.run Y oY ownY _ tkY Z m' σ' H' ρY h1 _ r' env' (qB.at e')
    refine (TOk.toS rY envY key).imp fun b H4 ⟨m4, h4, e4, r4, q4⟩ => ?_
    cases b with
    | true => exact iteT (hr.run Y oY ownY _ tkY Z m4 σY H4 ρY h4 _ r4 (envY.mono rY e4) q4)
    | false => exact iteF (q4 σY m4 H4 (Evo.refl _ _) r4 (envY.mono rY e4))
  refine wpAny_call (codeAny_mono rc fun r s' hq => ?_)
  cases r with
  | error e => exact passAtV tk σ pins H3 s e s' I hq
  | ok fl =>
    cases fl with
    | ret u => exact I.after hq
    | next => exact False.elim hq
    | brk => exact False.elim hq
    | cont => exact False.elim hq⟩
end
end Vi

set_option maxRecDepth 100000
set_option maxHeartbeats 1000000
namespace Vi
open PySem PySem.Spec PyProof.Rows L2 Evl LamX
/-- a method that is handed a test for the next word -/
structure NwP (G : Cg) (CA : Addr) (ns : List Str) (k : Nat) (mn : Str) (n : Nat) (f1 : DenT) (fe : Den) (fr frest : DenS) : Prop where
  ex : ∃ (g : Addr) (fd : FuncData) (qual s0 a : Str) (stg : Stmt) (Ng : List Str) (t1 e1 : Expr) (bd rest : List Stmt) (p1 p2 p3 p4 p5 : Pos), Fun G.K mn qual stg g fd ∧ Binds G.K fd [s0, a] [] ∧ Meth G.K CA mn g ∧ FnScope Ng [s0, a] (defScope stg) ∧ Ng[1]? = some a ∧ Vis (defScope stg) a ∧
    defBody stg = .If (.BoolOp .Or [t1, .UnaryOp .Not (.Call (.Name a p1) [e1] [] p2) p3] p4) bd [] p5 :: rest ∧ ST (G.at Ng (defScope stg) (k + 1)) t1 f1 ∧ SE (G.at Ng (defScope stg) (k + 1)) e1 fe ∧ SB (G.at Ng (defScope stg) (k + 1)) bd fr ∧ SB (G.at Ng (defScope stg) (k + 1)) rest frest ∧
    NoStar e1 [] ∧ PlainT (.Call (.Name a p1) [e1] [] p2) ∧ (a == ("__debug__" : Str)) = false ∧ (a == ("__classdict__" : Str)) = false ∧ Ng.length = n
  no : mn ∉ ns
section
variable {C : Ct} {c k n : Nat} {ti : Int} {cc P CA : Addr} {ns : List Str} {ql mn w : Str} {params : Arguments} {lbody o : Expr} {scope : Scope} {lpos pos apos : Pos} {f1 : DenT} {fe fb fo : Den} {fr frest : DenS}
theorem se_nwR (tj : Nat) (D : LamG C.g cc P ql ti) (hcd : C.cd = some (cc, ql)) (hc : C.calm = true) (PC : PlC C c CA ns) (W : NwP C.g CA ns k mn n f1 fe fr frest) (hk : k + 3 ≤ C.lv)
    (LE : LamE1 C k params lbody scope w fb) (hsl : NoStar (.Lambda params lbody scope lpos) []) {pl : Env → PySem.Sem Bool}
    (ht : ∀ env, eval (.Call (.Attribute o mn apos) [.Lambda params lbody scope lpos] [] pos) env = (do
      let ov ← eval o env
      standAt apos.atName
      let (f, first) ← holding [ov] (getMethod ov mn (pl env))
      callWith pos f first (backTo pos (starEach [.Lambda params lbody scope lpos] env)) (backToKw pos (keywordEach [] env))))
    (ho : SE C o fo) : SE C (.Call (.Attribute o mn apos) [.Lambda params lbody scope lpos] [] pos) (nwV tj ti c n f1 fe fr frest fb fo) := by
  obtain ⟨g, fd, qual, s0, a, stg, Ng, t1, e1, bd, rest, p1, p2, p3, p4, p5, x1, x2, x3, x4, x5, x6, x7, x8, x9, x10, x11, x12, x13, x14, x15, rfl⟩ := W.ex
  exact se_nwL ⟨hcd, D.tb, D.lm⟩ hc PC hk x1 x2 x3 W.no x4 x5 x6 x7 x8 x9 x10 x11 x12 LE hsl ht x13 ho x14 x15
end
/-- int(n), int(text) -/
def intP2 : List Dt → Option Dt
  | [.str z] => match decide (z.length ≤ 640) with
    | true => match PySem.intText? z with
      | some n => some (.int n)
      | none => none
    | false => none
  | l => intP l
section
variable {C : Ct}
theorem c_intS : CallP C (.type "int") intP2 := ⟨fun X o pins s σ H xs us Q I r h => by
  obtain ⟨F, ds, d, fa, hb, hp, q⟩ := h
  unfold intP2 at hp
  split at hp
  · rename_i z
    by_cases hz : z.length ≤ 640
    · rw [decide_eq_true hz] at hp
      dsimp only at hp
      cases hn : PySem.intText? z with
      | none => rw [hn] at hp; cases hp
      | some n =>
        rw [hn] at hp
        cases hp
        obtain ⟨v, rfl, h1⟩ := bvs1 hb
        rw [h1.str_inv] at r
        exact call_int_str pins s σ H _ us Q I r ⟨_, _, rfl, hn, hz, vint q⟩
    · rw [decide_eq_false hz] at hp; cases hp
  · exact c_int.run X o pins s σ H xs us Q I r ⟨F, _, d, fa, hb, hp, q⟩⟩
end
section
variable {G : Cg}
theorem mni_mkT {x qual : Str} {st : Stmt} {f CA c : Addr} {fd : FuncData} {N ps ns : List Str} {k : Nat} {B : DenS} (F : Fun G.K x qual st f fd) (hcd : fd.code = .ref c) (S : FnScope N ps (defScope st)) (b : Binds G.K fd ps []) (mt : Meth G.K CA x f) (no : x ∉ ns)
    (body : SB ((G.at N (defScope st) k).tab (c, qual ++ ".<locals>.")) (defBody st) B) : MnI G.ct CA ns (k + 1) x ps.length (runI N.length B) := ⟨⟨f, fd, ps, mt, fok_mkT F hcd S body, b⟩, no⟩
/-- X.__init__(self, f, g): the promise -/
def spOI2 (K : PySem.W.Frag) (f1 f2 : Str) : Sp := fun vs H Q _ => ∃ (a C : Addr) (n1 n2 : Int), vs = [.ref a, .int n1, .int n2] ∧ OexC K C ∧ PySem.W.findIn K (.ref C) f1 = some none ∧ PySem.W.findIn K (.ref C) f2 = some none ∧ f2 ≠ f1 ∧ H a = some (exo a C none) ∧
  ∀ dx H1, Ex H H1 → H1 dx = none → dx ≠ a → Q .non (upd (upd (upd H1 dx (exd dx [(f1, .int n1)])) a (exo a C (some dx))) dx (exd dx [(f2, .int n2), (f1, .int n1)]))
theorem init2_ok {qual f1 f2 txt : Str} {st : Stmt} {f CL : Addr} {fd : FuncData} {j : Nat} {p1 p2 p3 p4 p5 p6 p7 p8 p9 q6 q7 q8 q9 pt : Pos} (F : Fun G.K "__init__" qual st f fd) (S : FnScope ["self", f1, f2] ["self", f1, f2] (defScope st)) (L : LineE G.K G.mg CL)
    (hb : defBody st = [.Expr (.Call (.Attribute (.Name "LineError" p1) "__init__" p2) [.Name "self" p3, .Constant (.str txt) j pt] [] p4) p5, .Assign [.Attribute (.Name "self" p6) f1 p7] (.Name f1 p8) p9, .Assign [.Attribute (.Name "self" q6) f2 q7] (.Name f2 q8) q9])
    (hg : (defScope st).names.lookup ("LineError" : Str) = some NameKind.globalImplicit) (hvs : Vis (defScope st) "self") (hvf : Vis (defScope st) f1) (hd : (f1 == ("__debug__" : Str)) = false) (hcd : (f1 == ("__classdict__" : Str)) = false) (hvf2 : Vis (defScope st) f2) (hd2 : (f2 == ("__debug__" : Str)) = false) (hcd2 : (f2 == ("__classdict__" : Str)) = false)
    (hs0 : NoStar (.Name "self" p3) [.Constant (.str txt) j pt]) (hpl : NoStars [.Constant (.str txt) j pt]) (hs1 : NoStar (.Constant (.str txt) j pt) []) {pl : Env → Sem Bool} (hc : ∀ env, eval (.Call (.Attribute (.Name "LineError" p1) "__init__" p2) [.Name "self" p3, .Constant (.str txt) j pt] [] p4) env = (do
      let ov ← eval (.Name "LineError" p1) env
      standAt p2.atName
      let (f, first) ← holding [ov] (getMethod ov "__init__" (pl env))
      callWith p4 f first (backTo p4 (starEach [.Name "self" p3, .Constant (.str txt) j pt] env)) (backToKw p4 (keywordEach [] env))))
    (hq : ∀ env, swapsWith (.Call (.Attribute (.Name "LineError" p1) "__init__" p2) [.Name "self" p3, .Constant (.str txt) j pt] [] p4) none p5.line env = pure false) (hw : ∀ env, swapsWith (.Name f1 p8) (some (.Attribute (.Name "self" p6) f1 p7)) p9.line env = pure false) (hw2 : ∀ env, swapsWith (.Name f2 q8) (some (.Attribute (.Name "self" q6) f2 q7)) q9.line env = pure false) :
    FnOk G.P G.w G.K G.mg G.base CX0 1 f fd ["self", f1, f2] (spOI2 G.K f1 f2) := by
  refine F.ok S (fun vs H Q E h => ?_) (fun cdv A outer s H vs Q E hr h => ?_)
  · obtain ⟨a, C, n1, n2, rfl, _⟩ := h
    rfl
  · obtain ⟨a, CI, n1, n2, rfl, T, hno, hno2, hne, hx, q⟩ := h
    refine ⟨_, pb_w, ?_⟩
    rw [hb]
    refine PBw (pss_cons (ps_expr (pe_leinit (p1 := p1) (p2 := p2) (pos := p4) (by exact hg) L.gm (by decide +kernel) L.sp L.rd L.vV (pa_cons (pe_var (i := 0) rfl hvs (by decide +kernel) (by decide +kernel)) (pa_cons pe_str pa_nil (hs1 _)) (hs0 _)) (hc _) (hs0 _) (hpl _ _)) (hq _)) (pss_cons (ps_ost (pe_var (i := 0) rfl hvs (by decide +kernel) (by decide +kernel)) (pe_var (i := 1) rfl hvf hd hcd) (hw _)) (pss_one (ps_ost (pe_var (i := 0) rfl hvs (by decide +kernel) (by decide +kernel)) (pe_var (i := 2) rfl hvf2 hd2 hcd2) (hw2 _))))) ?_
    refine ⟨.ref a, rfl, ?_⟩
    exact ⟨a, CI, [_], rfl, Nat.le_of_ble_eq_true rfl, T, hx, ⟨.int n1, rfl, .ref a, rfl, a, CI, rfl, T, hno, .inl ⟨hx, fun dx h1 h2 => ⟨.int n2, rfl, .ref a, rfl, a, CI, rfl, T, hno2, .inr ⟨dx, [(f1, .int n1)], upd_same, by rw [upd_ne h2, upd_same], Nat.le_of_ble_eq_true rfl, q dx H (Ex.refl H) h1 h2⟩⟩⟩⟩⟩
/-- an error with two numbers -/
theorem er2_mk {x f1 f2 : Str} {CE fI : Addr} {fd : FuncData} {ps : List Str} {cl : Nat} {g : List Dt → Option (List (Str × Dt))} (T : OexC G.K CE) (gC : G.mg x = some (.ref CE)) (nof : PySem.W.findIn G.K (.ref CE) f1 = some none) (nof2 : PySem.W.findIn G.K (.ref CE) f2 = some none) (hne : f2 ≠ f1) (iC : PySem.W.findIn G.K (.ref CE) "__init__" = some (some (.ref fI))) (tI : PySem.W.typeIn G.K (.ref fI) = some (.type "function"))
    (F1 : FnOk G.P G.w G.K G.mg G.base CX0 1 fI fd ps (spOI2 G.K f1 f2)) (b : Binds G.K fd ps []) (hx : G.xc cl = .ref CE) (hd : (x == ("__debug__" : Str)) = false) (hg0 : ∀ ds fs, g ds = some fs → ∃ n1 n2 : Int, ds = [.int n1, .int n2] ∧ fs = [(f2, .int n2), (f1, .int n1)]) : ErP G 2 x cl g := ⟨fun C hG hc X o hk hg e es ta p1 p2 ha hs hpl => by
  subst hG
  have oK := o.K
  refine ⟨fun σ H Q => ta σ H (fun vs H1 => ∃ Z ds fs, FA Z H1 ∧ Dis C.K C.ly Z H1 vs ds ∧ g ds = some fs ∧ ds.length ≤ 100 ∧ ∀ H2 d, Ex H1 H2 → ExR C Z H2 ⟨cl, fs⟩ d → Q (C.xc cl) d H2), fun pins s σ H Q I h => ?_, fun σ H Q h => h⟩
  refine (pmk_oex5 (pos := p2) (by rw [oK]; exact T) (by rw [oK]; exact iC) (by rw [oK]; exact tI) (by rw [o.prog, o.w, oK, o.mg, o.base]; exact F1) ((o.room hc).mono hk) (by rw [oK]; exact b) pass0 hg (by rw [o.mg]; exact gC) (pa_w (es := e :: es)) hd hs hpl).pmk pins s σ H Q I ?_
  refine (PAw ha h).imp fun vs H1 ⟨Z, ds, fs, fa, di, hgs, hl, k⟩ => ?_
  obtain ⟨n1, n2, rfl, rfl⟩ := hg0 ds fs hgs
  obtain ⟨v, v2, rfl, hv, hv2⟩ := dis2 di
  rw [hv.int_inv, hv2.int_inv]
  refine ⟨Nat.le_of_ble_eq_true rfl, fun a ha => ?_⟩
  refine ⟨a, CE, n1, n2, rfl, T, nof, nof2, hne, upd_same, fun dx H2 e2 hdx hna => ⟨rfl, dx, [(f2, .int n2), (f1, .int n1)], ?_, upd_same, ?_, ?_⟩⟩
  · rw [upd_ne (Ne.symm hna), upd_same]
  · exact fresh_back ((Ex.new ha).trans e2) hdx
  · have hx' : C.xc cl = .ref CE := hx
    have hdx1 : H1 dx = none := fresh_back ((Ex.new ha).trans e2) hdx
    rw [← hx']
    refine k _ (some dx) (fun c u hb => ?_) (.inr ⟨dx, [(f2, .int n2), (f1, .int n1)], rfl, upd_same, fun z => ?_, rfl, .cons (.int n2) (.cons (.int n1) .nil), by intro z; cases z⟩)
    · have nba : c ≠ a := ne_of_none hb ha
      have hb2 : H2 c = some u := e2 _ _ (by rw [upd_ne nba]; exact hb)
      have nbd : c ≠ dx := ne_of_none hb2 hdx
      rw [upd_ne nbd, del_ne nba, upd_ne nbd, upd_ne nba, upd_ne nbd]
      exact hb2
    · obtain ⟨u, hu⟩ := fa dx z
      rw [hdx1] at hu; cases hu⟩
end
end Vi

set_option maxRecDepth 100000
namespace Vi
open PySem L2 Evl
@[reducible] def ec_LineError : Nat := 0
def er_LineError : List Dt → Option (List (Str × Dt)) := fun _ => some []
def xt_LineError : Nat → Option Bool := fun n => match decide (n < 3) with
  | true => some ([0, 1, 2].contains n)
  | false => none
@[reducible] def ec_InvalidDrawing : Nat := 1
def er_InvalidDrawing : List Dt → Option (List (Str × Dt)) := fun ds => match ds with
  | [.int index_] => match decide (-1000 < index_ ∧ index_ < 1000) with
    | true => some [("index", .int index_)]
    | false => none
  | _ => none
def xt_InvalidDrawing : Nat → Option Bool := fun n => match decide (n < 3) with
  | true => some ([1].contains n)
  | false => none
@[reducible] def ec_InvalidText : Nat := 2
def er_InvalidText : List Dt → Option (List (Str × Dt)) := fun ds => match ds with
  | [.int row_, .int word_] => match decide (-1000 < row_ ∧ row_ < 1000) && decide (-1000 < word_ ∧ word_ < 1000) with
    | true => some [("word", .int word_), ("row", .int row_)]
    | false => none
  | _ => none
def xt_InvalidText : Nat → Option Bool := fun n => match decide (n < 3) with
  | true => some ([2].contains n)
  | false => none
def xt_ValueError : Nat → Option Bool := fun n => match decide (n < 3) with
  | true => some true
  | false => none
def ns_Row : List Str := ["number", "words", "spot"]
def cs_index : List Nat := [1]
def cs_row : List Nat := [2]
def cs_word : List Nat := [2]
def d_across : DenS := (retS (b2 subP (b2 mulP (b2 ixP2 (vr 0) (cI (0))) (b2 ixP2 (vr 1) (cI (1)))) (b2 mulP (b2 ixP2 (vr 0) (cI (1))) (b2 ixP2 (vr 1) (cI (0))))))
def p_across : Pf := runP 2 d_across
def d_way : DenS := (retS (tupV (consA (b2 subP (b2 ixP2 (vr 0) (cI (2))) (b2 ixP2 (vr 0) (cI (0)))) (consA (b2 subP (b2 ixP2 (vr 0) (cI (3))) (b2 ixP2 (vr 0) (cI (1)))) nilA))))
def p_way : Pf := runP 1 d_way
def d_divisor : DenS := (seqS (whS (fuI 1) (asB (b2 neP (vr 1) (cI (0)))) (par2 0 1 (vr 1) (b2 modP (cl intP (consA (vr 0) nilA)) (vr 1)))) (retS (cl absP (consA (vr 0) nilA))))
def p_divisor : Pf := runP 2 d_divisor
def d_fraction : DenS := (seqS (setS 2 (callP 2 p_divisor (consA (vr 0) (consA (vr 1) nilA)))) (seqS (setS 3 (ifV (asB (b2 gtP (vr 1) (cI (0)))) (cI (1)) (u1 negP (cI (1))))) (retS (tupV (consA (b2 divP (b2 mulP (vr 3) (vr 0)) (vr 2)) (consA (b2 divP (b2 mulP (vr 3) (vr 1)) (vr 2)) nilA))))))
def p_fraction : Pf := runP 4 d_fraction
def d_point_at : DenS := (seqS (setS 3 (callP 1 p_way (consA (vr 0) nilA))) (retS (tupV (consA (callP 2 p_fraction (consA (b2 addP (b2 mulP (b2 ixP2 (vr 0) (cI (0))) (vr 2)) (b2 mulP (b2 ixP2 (vr 3) (cI (0))) (vr 1))) (consA (vr 2) nilA))) (consA (callP 2 p_fraction (consA (b2 addP (b2 mulP (b2 ixP2 (vr 0) (cI (1))) (vr 2)) (b2 mulP (b2 ixP2 (vr 3) (cI (1))) (vr 1))) (consA (vr 2) nilA))) nilA)))))
def p_point_at : Pf := runP 4 d_point_at
def d_along : DenS := (seqS (setS 2 (callP 1 p_way (consA (vr 0) nilA))) (seqS (setS 3 (b2 addP (b2 mulP (b2 ixP2 (vr 2) (cI (0))) (b2 ixP2 (vr 2) (cI (0)))) (b2 mulP (b2 ixP2 (vr 2) (cI (1))) (b2 ixP2 (vr 2) (cI (1)))))) (seqS (setS 4 (newV (lstF nilA))) (seqS (forS (seqI (tupV (consA (slV (vr 1) noneO (someO (cI (2)))) (consA (slV (vr 1) (someO (cI (2))) noneO) nilA)))) (gT' 2 (gsCons (gN 5) (gsCons (gN 6) gsNil))) (exprS (appV (vr 4) (b2 addP (b2 mulP (b2 subP (vr 5) (b2 ixP2 (vr 0) (cI (0)))) (b2 ixP2 (vr 2) (cI (0)))) (b2 mulP (b2 subP (vr 6) (b2 ixP2 (vr 0) (cI (1)))) (b2 ixP2 (vr 2) (cI (1)))))))) (seqS (par2 7 8 (cl max2T (consA (cI (0)) (consA (cl min2T (consA (vr 4) nilA)) nilA))) (cl min2T (consA (vr 3) (consA (cl max2T (consA (vr 4) nilA)) nilA)))) (retS (ifV (asB (b2 leP (vr 7) (vr 8))) (tupV (consA (vr 7) (consA (vr 8) nilA))) (cN))))))))
def p_along : Pf := runP 9 d_along
def d_common_point : DenS := (seqS (par2 2 3 (callP 1 p_way (consA (vr 0) nilA)) (callP 1 p_way (consA (vr 1) nilA))) (seqS (setS 4 (tupV (consA (b2 subP (b2 ixP2 (vr 1) (cI (0))) (b2 ixP2 (vr 0) (cI (0)))) (consA (b2 subP (b2 ixP2 (vr 1) (cI (1))) (b2 ixP2 (vr 0) (cI (1)))) nilA)))) (seqS (setS 5 (callP 2 p_across (consA (vr 2) (consA (vr 3) nilA)))) (seqS (ifS (asB (b2 eqP (vr 5) (cI (0)))) (seqS (setS 6 (ifV (asB (b2 eqP (callP 2 p_across (consA (vr 2) (consA (vr 4) nilA))) (cI (0)))) (callP 2 p_along (consA (vr 0) (consA (vr 1) nilA))) (cN))) (retS (ifV (asB (b2 isP (vr 6) (cN))) (cN) (callP 3 p_point_at (consA (vr 0) (consA (b2 ixP2 (vr 6) (cI (0))) (consA (b2 addP (b2 mulP (b2 ixP2 (vr 2) (cI (0))) (b2 ixP2 (vr 2) (cI (0)))) (b2 mulP (b2 ixP2 (vr 2) (cI (1))) (b2 ixP2 (vr 2) (cI (1))))) nilA))))))) skipS) (seqS (setS 7 (ifV (asB (b2 gtP (vr 5) (cI (0)))) (cI (1)) (u1 negP (cI (1))))) (seqS (par2 8 9 (b2 mulP (vr 7) (callP 2 p_across (consA (vr 4) (consA (vr 3) nilA)))) (b2 mulP (vr 7) (callP 2 p_across (consA (vr 4) (consA (vr 2) nilA))))) (seqS (ifS ((orT (notT (ch3 leP leP (cI (0)) (vr 8) (b2 mulP (vr 7) (vr 5)))) (notT (ch3 leP leP (cI (0)) (vr 9) (b2 mulP (vr 7) (vr 5)))))) (retS (cN)) skipS) (retS (callP 3 p_point_at (consA (vr 0) (consA (vr 8) (consA (b2 mulP (vr 7) (vr 5)) nilA))))))))))))
def p_common_point : Pf := runP 10 d_common_point
def d_is_number : DenS := (retS ((andV (u1 isInt (vr 0)) (andV (notV (u1 isBool (vr 0))) (asV (ch3 leP leP (vr 1) (vr 0) (vr 2)))))))
def p_is_number : Pf := runP 3 d_is_number
def d_is_piece : DenS := (seqS (ifS ((orT (notT (asB (u1 isTup (vr 0)))) (orT (asB (b2 neP (cl lenP (consA (vr 0) nilA)) (cI (4)))) (notT (asB (cl allP (consA (frz (lcF [1] (seqI (vr 0)) (gN 1) yesT (callP 3 p_is_number (consA (vr 1) (consA (cI (0)) (consA (cI (60)) nilA)))))) nilA))))))) (retS (cB false)) skipS) (retS (b2 neP (slV (vr 0) noneO (someO (cI (2)))) (slV (vr 0) (someO (cI (2))) noneO))))
def p_is_piece : Pf := runP 2 d_is_piece
def d_overlap : DenS := (seqS (par2 2 3 (callP 1 p_way (consA (vr 0) nilA)) (tupV (consA (b2 subP (b2 ixP2 (vr 1) (cI (0))) (b2 ixP2 (vr 0) (cI (0)))) (consA (b2 subP (b2 ixP2 (vr 1) (cI (1))) (b2 ixP2 (vr 0) (cI (1)))) nilA)))) (seqS (ifS ((orT (asB (b2 neP (callP 2 p_across (consA (vr 2) (consA (callP 1 p_way (consA (vr 1) nilA)) nilA))) (cI (0)))) (asB (b2 neP (callP 2 p_across (consA (vr 2) (consA (vr 3) nilA))) (cI (0)))))) (retS (cB false)) skipS) (seqS (setS 4 (callP 2 p_along (consA (vr 0) (consA (vr 1) nilA)))) (retS ((andV (b2 isnP (vr 4) (cN)) (b2 ltP (b2 ixP2 (vr 4) (cI (0))) (b2 ixP2 (vr 4) (cI (1))))))))))
def p_overlap : Pf := runP 5 d_overlap
def d1_Drawing : DenS := forS (enumI (vr 1)) (gT' 2 (gsCons (gN 2) (gsCons (gN 3) gsNil))) (seqS (ifS ((orT (asB (b2 eqP (vr 2) (cI (6)))) (notT (asB (callP 1 p_is_piece (consA (vr 3) nilA)))))) (raiseS ec_InvalidDrawing er_InvalidDrawing (consA (vr 2) nilA)) skipS) (ifS (asB (cl anyP (consA (frz (lcF [7] (seqI (slV (vr 1) noneO (someO (vr 2)))) (gN 7) yesT (callP 2 p_overlap (consA (vr 3) (consA (vr 7) nilA))))) nilA))) (raiseS ec_InvalidDrawing er_InvalidDrawing (consA (vr 2) nilA)) skipS))
def d2_Drawing : DenS := (seqS (setP (newV (dct0)) (vr 0)) (forS (rng1 (cl lenP (consA (vr 1) nilA))) (gN 4) (forS (rng1 (vr 4)) (gN 5) (seqS (setS 6 (callP 2 p_common_point (consA (b2 ixP2 (vr 1) (vr 5)) (consA (b2 ixP2 (vr 1) (vr 4)) nilA)))) (ifS (asB (b2 isnP (vr 6) (cN))) (setItS (vr 6) (fldV 1 (vr 0)) (tupV (consA (vr 5) (consA (vr 4) nilA)))) skipS)))))
def p_Drawing : Pf := runC 8 d1_Drawing (vr 1) d2_Drawing
def n1_Row_next_word : DenT := (asB (b2 geP (fldM 2 2 (vr 0)) (cl lenP (consA (fldM 2 1 (vr 0)) nilA))))
def n2_Row_next_word : Den := (b2 ixP2 (fldM 2 1 (vr 0)) (fldM 2 2 (vr 0)))
def n3_Row_next_word : DenS := (raiseS ec_InvalidText er_InvalidText (consA (fldM 2 0 (vr 0)) (consA (fldM 2 2 (vr 0)) nilA)))
def n4_Row_next_word : DenS := (seqS (augM 2 2 (vr 0) (cI (1))) (retS (b2 ixP2 (fldM 2 1 (vr 0)) (b2 subP (fldM 2 2 (vr 0)) (cI (1))))))
def d_is_small : DenS := (seqS (ifS ((orT (notT (ch3 leP leP (cI (1)) (cl lenP (consA (vr 0) nilA)) (cI (2)))) (notT (asB (cl allP (consA (frz (lcF [1] (strI (vr 0)) (gN 1) yesT (b2 inPs (vr 1) (cS "0123456789")))) nilA)))))) (retS (cB false)) skipS) (retS ((orV (b2 eqP (vr 0) (cS "0")) (b2 neP (b2 ixP2 (vr 0) (cI (0))) (cS "0"))))))
def p_is_small : Pf := runP 2 d_is_small
def d_Row_read_piece : DenS := (seqS (exprS (nwV 0 (0) 2 2 n1_Row_next_word n2_Row_next_word n3_Row_next_word n4_Row_next_word ((andV (b2 eqP (vr 3) (cS "piece")) (b2 ltP (fldM 2 0 (vr 0)) (cI (6))))) (vr 0))) (seqS (setS 1 (frz (lcFX [2] (rng1 (cI (4))) (gN 2) yesT (cl intP2 (consA (nwV 0 (0) 2 2 n1_Row_next_word n2_Row_next_word n3_Row_next_word n4_Row_next_word ((andV (callP 1 p_is_small (consA (vr 3) nilA)) (b2 leP (cl intP2 (consA (vr 3) nilA)) (cI (60))))) (vr 0)) nilA))))) (seqS (ifS (asB (b2 ltP (fldM 2 2 (vr 0)) (cl lenP (consA (fldM 2 1 (vr 0)) nilA)))) (raiseS ec_InvalidText er_InvalidText (consA (fldM 2 0 (vr 0)) (consA (fldM 2 2 (vr 0)) nilA))) skipS) (retS (cl tupleP (consA (vr 1) nilA))))))
def p_Row_read_piece : If := runI 3 d_Row_read_piece
def d_Row___init__ : DenS := (seqS (setFM 2 0 (vr 1) (vr 0)) (seqS (setFM 2 1 (frz (splitF (vr 2) (cS " "))) (vr 0)) (setFM 2 2 (cI (0)) (vr 0))))
def p_Row___init__ : If := runI 3 d_Row___init__
def d_parse_drawing : DenS := (seqS (setS 1 (ifV (asB (b2 neP (vr 0) (cS ""))) (frz (splitF (vr 0) (cS "\n"))) (frz (lstF nilA)))) (retS (callP 1 p_Drawing (consA (cl tupleP (consA (frz (lcFX [2, 3] (enumI (vr 1)) (gT' 2 (gsCons (gN 2) (gsCons (gN 3) gsNil))) yesT (callM 2 1 p_Row_read_piece (makeI 2 2 p_Row___init__ (consA (vr 2) (consA (vr 3) nilA))) nilA))) nilA)) nilA))))
def p_parse_drawing : If := runI 4 d_parse_drawing
def d__law_place : DenS := (seqS (tryS (exprS (callI 1 p_parse_drawing (consA (ms1 joinP (cS "\n") (vr 0)) nilA))) ((xt_InvalidText, some 1, fun ex => retS ((tup2X (fldX cs_row "row") (fldX cs_word "word")) ex)) :: ((xt_InvalidDrawing, some 1, fun ex => retS ((tup2X (fun _ => (cS "drawing")) (fldX cs_index "index")) ex)) :: []))) (retS (cN)))
def p__law_place : If := runI 2 d__law_place
def d__law_taken : DenS := (seqS (ifS (asB (b2 gtP (b2 ixP2 (vr 0) (cI (3))) (cI (0)))) (seqS (setS 2 (b2 modP (cl intP (consA (b2 ixP2 (vr 0) (cI (3))) nilA)) (vr 1))) (seqS (setItS (b2 divP (b2 ixP2 (vr 0) (cI (3))) (vr 1)) (vr 0) (cI (3))) (retS (vr 2)))) skipS) (seqS (setItS (b2 addP (b2 ixP2 (vr 0) (cI (1))) (cI (1))) (vr 0) (cI (1))) (seqS (ifS (asB (b2 gtP (b2 ixP2 (vr 0) (cI (1))) (cl lenP (consA (b2 ixP2 (vr 0) (cI (0))) nilA)))) (seqS (setItS (b2 modP (cl intP (consA (b2 addP (b2 mulP (b2 ixP2 (vr 0) (cI (2))) (cI (48271))) (cI (11))) nilA)) (cI (2147483647))) (vr 0) (cI (2))) (retS (b2 modP (cl intP (consA (b2 divP (b2 ixP2 (vr 0) (cI (2))) (cI (7))) nilA)) (vr 1)))) skipS) (seqS (setS 3 (b2 ixP2 (b2 ixP2 (vr 0) (cI (0))) (b2 subP (b2 ixP2 (vr 0) (cI (1))) (cI (1))))) (seqS (setItS (b2 modP (cl intP (consA (b2 addP (b2 addP (b2 mulP (b2 ixP2 (vr 0) (cI (2))) (cI (48271))) (vr 3)) (cI (11))) nilA)) (cI (2147483647))) (vr 0) (cI (2))) (seqS (ifS (asB (b2 geP (vr 3) (b2 powP (cI (10)) (cI (18))))) (setItS (b2 divP (vr 3) (vr 1)) (vr 0) (cI (3))) skipS) (retS (b2 modP (cl intP (consA (vr 3) nilA)) (vr 1)))))))))
def p__law_taken : If := runI 4 d__law_taken
def d_law : DenS := (seqS (setS 1 (newV (lstF (consA (vr 0) (consA (cI (0)) (consA (cI (0)) (consA (cI (0)) nilA))))))) (seqS (setS 2 (frz (lstF (consA (cS "piece 0 0 60 0") (consA (cS "piece 5 1 5 9") (consA (cS "piece 60 60 0 59") nilA)))))) (seqS (ifS (asB (b2 isnP (callI 1 p__law_place (consA (vr 2) nilA)) (cN))) (retS (cB false)) skipS) (seqS (setS 3 (newV (lstF (consA (tupV (consA (cS "") (consA (cI (0)) nilA))) (consA (tupV (consA (cS "pieces 1 2 3 4") (consA (cI (0)) nilA))) (consA (tupV (consA (cS "piece") (consA (cI (1)) nilA))) (consA (tupV (consA (cS "piece 1") (consA (cI (2)) nilA))) (consA (tupV (consA (cS "piece 1 2 3") (consA (cI (4)) nilA))) (consA (tupV (consA (cS "piece 1 2 3 4 5") (consA (cI (5)) nilA))) nilA))))))))) (seqS (setS 3 (newV (catF (vr 3) (frz (lstF (consA (tupV (consA (cS "piece 61 2 3 4") (consA (cI (1)) nilA))) (consA (tupV (consA (cS "piece 1 2 3 61") (consA (cI (4)) nilA))) (consA (tupV (consA (cS "piece 01 2 3 4") (consA (cI (1)) nilA))) (consA (tupV (consA (cS "piece 1 00 3 4") (consA (cI (2)) nilA))) nilA))))))))) (seqS (setS 3 (newV (catF (vr 3) (frz (lstF (consA (tupV (consA (cS "piece -1 2 3 4") (consA (cI (1)) nilA))) (consA (tupV (consA (cS "piece  1 2 3") (consA (cI (1)) nilA))) (consA (tupV (consA (cS "piece 1 2 3 4 ") (consA (cI (5)) nilA))) (consA (tupV (consA (cS " piece 1 2 3 4") (consA (cI (0)) nilA))) nilA))))))))) (seqS (exprS (appV (vr 3) (tupV (consA (cS "piece 1 2 x 4") (consA (cI (3)) nilA))))) (seqS (setS 4 (frz (lstF (consA (tupV (consA (cS "piece 7 7 7 7") (consA (cI (0)) nilA))) (consA (tupV (consA (cS "piece 10 0 20 0") (consA (cI (1)) nilA))) (consA (tupV (consA (cS "piece 30 0 0 0") (consA (cI (1)) nilA))) (consA (tupV (consA (cS "piece 0 59 60 60") (consA (cI (3)) nilA))) nilA))))))) (seqS (forS (rng1 (cI (10))) (gN 5) (seqS (setS 6 (callI 2 p__law_taken (consA (vr 1) (consA (cI (4)) nilA)))) (seqS (asgS (gT' 2 (gsCons (gN 7) (gsCons (gN 8) gsNil))) (b2 ixP2 (vr 3) (callI 2 p__law_taken (consA (vr 1) (consA (cl lenP (consA (vr 3) nilA)) nilA))))) (seqS (ifS (asB (b2 neP (callI 1 p__law_place (consA (b2 addP (b2 addP (slV (vr 2) noneO (someO (vr 6))) (frz (lstF (consA (vr 7) nilA)))) (slV (vr 2) (someO (vr 6)) noneO)) nilA)) (tupV (consA (vr 6) (consA (vr 8) nilA))))) (retS (cB false)) skipS) (seqS (asgS (gT' 2 (gsCons (gN 7) (gsCons (gN 9) gsNil))) (b2 ixP2 (vr 4) (callI 2 p__law_taken (consA (vr 1) (consA (cI (4)) nilA))))) (seqS (ifS (asB (b2 neP (callI 1 p__law_place (consA (b2 addP (vr 2) (frz (lstF (consA (vr 7) nilA)))) nilA)) (tupV (consA (cS "drawing") (consA (cI (3)) nilA))))) (retS (cB false)) skipS) (seqS (ifS (asB (b2 neP (callI 1 p__law_place (consA (b2 addP (frz (lstF (consA (vr 7) nilA))) (vr 2)) nilA)) (tupV (consA (cS "drawing") (consA (vr 9) nilA))))) (retS (cB false)) skipS) (seqS (setS 10 (b2 addP (cI (4)) (callI 2 p__law_taken (consA (vr 1) (consA (cI (5)) nilA))))) (seqS (setS 11 (frz (lcF [12] (rng1 (vr 10)) (gN 12) yesT (b2 addP (b2 addP (b2 addP (b2 addP (cS "piece ") (cl strP (consA (vr 12) nilA))) (cS " 0 ")) (cl strP (consA (vr 12) nilA))) (cS " 9"))))) (ifS (asB (b2 neP (callI 1 p__law_place (consA (vr 11) nilA)) (ifV (asB (b2 gtP (vr 10) (cI (6)))) (tupV (consA (cI (6)) (consA (cI (0)) nilA))) (cN)))) (retS (cB false)) skipS)))))))))) (retS (cB true)))))))))))
def p_law : Pf := runP 13 d_law
end Vi

set_option maxRecDepth 100000
set_option maxHeartbeats 4000000
namespace Vi
open PySem L2 Evl
def top (i : Nat) : Stmt := PySem.Challenge.pw_ledlines_k43_texts_rejected.main.body.getD i (.Pass ⟨0, 0, 0, 0⟩)
abbrev s__wall : Stmt := top 0
abbrev s_InvalidDrawing___init__ : Stmt := inClass (top 3) 0
abbrev s_InvalidText___init__ : Stmt := inClass (top 4) 0
abbrev s_is_number : Stmt := top 9
abbrev s_is_piece : Stmt := top 10
abbrev s_divisor : Stmt := top 11
abbrev s_fraction : Stmt := top 12
abbrev s_across : Stmt := top 13
abbrev s_way : Stmt := top 14
abbrev s_along : Stmt := top 15
abbrev s_overlap : Stmt := top 16
abbrev s_point_at : Stmt := top 17
abbrev s_common_point : Stmt := top 18
abbrev s_Drawing___init__ : Stmt := inClass (top 19) 1
abbrev s_Drawing_pieces : Stmt := inClass (top 19) 2
abbrev s_Drawing___len__ : Stmt := inClass (top 19) 3
abbrev s_Drawing___eq__ : Stmt := inClass (top 19) 4
abbrev s_Drawing_check_piece : Stmt := inClass (top 19) 5
abbrev s_is_small : Stmt := top 24
abbrev s_Row___init__ : Stmt := inClass (top 25) 0
abbrev s_Row_next_word : Stmt := inClass (top 25) 1
abbrev s_Row_read_piece : Stmt := inClass (top 25) 2
abbrev s_parse_drawing : Stmt := top 26
abbrev s__law_taken : Stmt := top 28
abbrev s__law_place : Stmt := top 29
abbrev s_law : Stmt := top 30
/-- what the module's names hold -/
structure Fx (G : Cg) : Prop where
  m_abs : G.mg "abs" = none
  m_len : G.mg "len" = none
  m_int : G.mg "int" = none
  m_str : G.mg "str" = none
  m_all : G.mg "all" = none
  m_any : G.mg "any" = none
  m_sum : G.mg "sum" = none
  m_tuple : G.mg "tuple" = none
  m_list : G.mg "list" = none
  m_max : G.mg "max" = none
  m_min : G.mg "min" = none
  m_range : G.mg "range" = none
  m_isinstance : G.mg "isinstance" = none
  m_bool : G.mg "bool" = none
  m_sorted : G.mg "sorted" = none
  m_set : G.mg "set" = none
  m_zip : G.mg "zip" = none
  m_enumerate : G.mg "enumerate" = none
  m_dict : G.mg "dict" = none
  m_reversed : G.mg "reversed" = none
  c0___name__ : ∃ t, G.mg "__name__" = some (.str "law_ledlines_k43_texts_rejected" t)
  c0_FAR : ∃ t, G.mg "FAR" = some (.int (60) t)
  c0_MAX_PIECES : ∃ t, G.mg "MAX_PIECES" = some (.int (6) t)
  c0_PARTS : ∃ t, G.mg "PARTS" = some (.int (4) t)
  c0_DIGITS : ∃ t, G.mg "DIGITS" = some (.str "0123456789" t)
  c0_MOST_DIGITS : ∃ t, G.mg "MOST_DIGITS" = some (.int (2) t)
  c0_PIECE : ∃ t, G.mg "PIECE" = some (.str "piece" t)
theorem Fx.raw {G : Cg} {CD x dx : Addr} (X : Fx G) : Fx (G.raw CD x dx) := ⟨X.m_abs, X.m_len, X.m_int, X.m_str, X.m_all, X.m_any, X.m_sum, X.m_tuple, X.m_list, X.m_max, X.m_min, X.m_range, X.m_isinstance, X.m_bool, X.m_sorted, X.m_set, X.m_zip, X.m_enumerate, X.m_dict, X.m_reversed, X.c0___name__, X.c0_FAR, X.c0_MAX_PIECES, X.c0_PARTS, X.c0_DIGITS, X.c0_MOST_DIGITS, X.c0_PIECE⟩
theorem boot_abs : bootBuiltins ("abs" : Str) = some (.builtin "abs") := by decide +kernel
theorem boot_len : bootBuiltins ("len" : Str) = some (.builtin "len") := by decide +kernel
theorem boot_int : bootBuiltins ("int" : Str) = some (.type "int") := by decide +kernel
theorem boot_str : bootBuiltins ("str" : Str) = some (.type "str") := by decide +kernel
theorem boot_all : bootBuiltins ("all" : Str) = some (.builtin "all") := by decide +kernel
theorem boot_any : bootBuiltins ("any" : Str) = some (.builtin "any") := by decide +kernel
theorem boot_tuple : bootBuiltins ("tuple" : Str) = some (.type "tuple") := by decide +kernel
theorem boot_max : bootBuiltins ("max" : Str) = some (.builtin "max") := by decide +kernel
theorem boot_min : bootBuiltins ("min" : Str) = some (.builtin "min") := by decide +kernel
theorem boot_bool : bootBuiltins ("bool" : Str) = some (.type "bool") := by decide +kernel
theorem boot_enumerate : bootBuiltins ("enumerate" : Str) = some (.type "enumerate") := by decide +kernel
theorem Fx.c___name__ {G : Cg} (X : Fx G) : G.mg "__name__" = some (.str "law_ledlines_k43_texts_rejected" X.c0___name__.choose) := X.c0___name__.choose_spec
theorem Fx.c_FAR {G : Cg} (X : Fx G) : G.mg "FAR" = some (.int (60) X.c0_FAR.choose) := X.c0_FAR.choose_spec
theorem Fx.c_MAX_PIECES {G : Cg} (X : Fx G) : G.mg "MAX_PIECES" = some (.int (6) X.c0_MAX_PIECES.choose) := X.c0_MAX_PIECES.choose_spec
theorem Fx.c_PARTS {G : Cg} (X : Fx G) : G.mg "PARTS" = some (.int (4) X.c0_PARTS.choose) := X.c0_PARTS.choose_spec
theorem Fx.c_DIGITS {G : Cg} (X : Fx G) : G.mg "DIGITS" = some (.str "0123456789" X.c0_DIGITS.choose) := X.c0_DIGITS.choose_spec
theorem Fx.c_MOST_DIGITS {G : Cg} (X : Fx G) : G.mg "MOST_DIGITS" = some (.int (2) X.c0_MOST_DIGITS.choose) := X.c0_MOST_DIGITS.choose_spec
theorem Fx.c_PIECE {G : Cg} (X : Fx G) : G.mg "PIECE" = some (.str "piece" X.c0_PIECE.choose) := X.c0_PIECE.choose_spec
theorem sc_across : FnScope ["one", "other"] ["one", "other"] (defScope s_across) := ⟨rfl, rfl, rfl, by decide +kernel, rfl, by decide +kernel, by decide +kernel⟩
theorem b_across {G : Cg} (X : Fx G)  : SB (G.at ["one", "other"] (defScope s_across) 0) (defBody s_across) d_across := (sb_one (ss_ret (se_op op_subP (se_op op_mulP (se_ix ix_P2 (se_var 0 rfl (by first | exact Or.inl rfl | exact Or.inr (Or.inl rfl) | exact Or.inr (Or.inr rfl)) (by decide +kernel) (by decide +kernel)) (se_int) (fun _ _ => rfl)) (se_ix ix_P2 (se_var 1 rfl (by first | exact Or.inl rfl | exact Or.inr (Or.inl rfl) | exact Or.inr (Or.inr rfl)) (by decide +kernel) (by decide +kernel)) (se_int) (fun _ _ => rfl))) (se_op op_mulP (se_ix ix_P2 (se_var 0 rfl (by first | exact Or.inl rfl | exact Or.inr (Or.inl rfl) | exact Or.inr (Or.inr rfl)) (by decide +kernel) (by decide +kernel)) (se_int) (fun _ _ => rfl)) (se_ix ix_P2 (se_var 1 rfl (by first | exact Or.inl rfl | exact Or.inr (Or.inl rfl) | exact Or.inr (Or.inr rfl)) (by decide +kernel) (by decide +kernel)) (se_int) (fun _ _ => rfl))))))
theorem f_across {G : Cg} {f : Addr} {fd : FuncData} (X : Fx G) (F : Fun G.K "across" "across" s_across f fd) (b : Binds G.K fd ["one", "other"] []) (gm : G.mg "across" = some (.ref f))  : FnP G 1 "across" 2 p_across := fn_mk F sc_across b gm (b_across X )
theorem sc_way : FnScope ["piece"] ["piece"] (defScope s_way) := ⟨rfl, rfl, rfl, by decide +kernel, rfl, by decide +kernel, by decide +kernel⟩
theorem b_way {G : Cg} (X : Fx G)  : SB (G.at ["piece"] (defScope s_way) 0) (defBody s_way) d_way := (sb_one (ss_ret (se_tup (sa_cons (fun _ => rfl) (se_op op_subP (se_ix ix_P2 (se_var 0 rfl (by first | exact Or.inl rfl | exact Or.inr (Or.inl rfl) | exact Or.inr (Or.inr rfl)) (by decide +kernel) (by decide +kernel)) (se_int) (fun _ _ => rfl)) (se_ix ix_P2 (se_var 0 rfl (by first | exact Or.inl rfl | exact Or.inr (Or.inl rfl) | exact Or.inr (Or.inr rfl)) (by decide +kernel) (by decide +kernel)) (se_int) (fun _ _ => rfl))) (sa_cons (fun _ => rfl) (se_op op_subP (se_ix ix_P2 (se_var 0 rfl (by first | exact Or.inl rfl | exact Or.inr (Or.inl rfl) | exact Or.inr (Or.inr rfl)) (by decide +kernel) (by decide +kernel)) (se_int) (fun _ _ => rfl)) (se_ix ix_P2 (se_var 0 rfl (by first | exact Or.inl rfl | exact Or.inr (Or.inl rfl) | exact Or.inr (Or.inr rfl)) (by decide +kernel) (by decide +kernel)) (se_int) (fun _ _ => rfl))) sa_nil)))))
theorem f_way {G : Cg} {f : Addr} {fd : FuncData} (X : Fx G) (F : Fun G.K "way" "way" s_way f fd) (b : Binds G.K fd ["piece"] []) (gm : G.mg "way" = some (.ref f))  : FnP G 1 "way" 1 p_way := fn_mk F sc_way b gm (b_way X )
theorem sc_divisor : FnScope ["one", "other"] ["one", "other"] (defScope s_divisor) := ⟨rfl, rfl, rfl, by decide +kernel, rfl, by decide +kernel, by decide +kernel⟩
theorem b_divisor {G : Cg} (X : Fx G)  : SB (G.at ["one", "other"] (defScope s_divisor) 0) (defBody s_divisor) d_divisor := (sb_cons (ss_while (fuI 1) (st_cmp cmp_neP (se_var 1 rfl (by first | exact Or.inl rfl | exact Or.inr (Or.inl rfl) | exact Or.inr (Or.inr rfl)) (by decide +kernel) (by decide +kernel)) (se_int) (nomark _)) (sb_one (ss_par2 rfl sc_divisor.nd rfl rfl (by decide) rfl rfl (by intro env h; cases env; cases h; rfl) (by intro env h; cases env; cases h; rfl) (fun _ => rfl) (fun _ => rfl) (se_var 1 rfl (by first | exact Or.inl rfl | exact Or.inr (Or.inl rfl) | exact Or.inr (Or.inr rfl)) (by decide +kernel) (by decide +kernel)) (se_op op_modP (se_callT c_int rfl X.m_int boot_int (by decide +kernel) (by decide +kernel) (fun _ => rfl) (fun _ _ => rfl) (sa_cons (fun _ => rfl) (se_var 0 rfl (by first | exact Or.inl rfl | exact Or.inr (Or.inl rfl) | exact Or.inr (Or.inr rfl)) (by decide +kernel) (by decide +kernel)) sa_nil)) (se_var 1 rfl (by first | exact Or.inl rfl | exact Or.inr (Or.inl rfl) | exact Or.inr (Or.inr rfl)) (by decide +kernel) (by decide +kernel)))))) (sb_one (ss_ret (se_callB c_abs rfl X.m_abs boot_abs (by decide +kernel) (by decide +kernel) (fun _ => rfl) (fun _ _ => rfl) (sa_cons (fun _ => rfl) (se_var 0 rfl (by first | exact Or.inl rfl | exact Or.inr (Or.inl rfl) | exact Or.inr (Or.inr rfl)) (by decide +kernel) (by decide +kernel)) sa_nil)))))
theorem f_divisor {G : Cg} {f : Addr} {fd : FuncData} (X : Fx G) (F : Fun G.K "divisor" "divisor" s_divisor f fd) (b : Binds G.K fd ["one", "other"] []) (gm : G.mg "divisor" = some (.ref f))  : FnP G 1 "divisor" 2 p_divisor := fn_mk F sc_divisor b gm (b_divisor X )
theorem sc_fraction : FnScope ["top", "bottom", "common", "sign"] ["top", "bottom"] (defScope s_fraction) := ⟨rfl, rfl, rfl, by decide +kernel, rfl, by decide +kernel, by decide +kernel⟩
theorem b_fraction {G : Cg} (X : Fx G) (F_divisor : FnP G 1 "divisor" 2 p_divisor) : SB (G.at ["top", "bottom", "common", "sign"] (defScope s_fraction) 1) (defBody s_fraction) d_fraction := (sb_cons ((by first | exact ss_set sc_fraction.nd rfl rfl (fun _ => rfl) (se_call F_divisor (Nat.le_of_ble_eq_true rfl) rfl rfl (by decide +kernel) (fun _ => rfl) (fun _ _ => rfl) (sa_cons (fun _ => rfl) (se_var 0 rfl (by first | exact Or.inl rfl | exact Or.inr (Or.inl rfl) | exact Or.inr (Or.inr rfl)) (by decide +kernel) (by decide +kernel)) (sa_cons (fun _ => rfl) (se_var 1 rfl (by first | exact Or.inl rfl | exact Or.inr (Or.inl rfl) | exact Or.inr (Or.inr rfl)) (by decide +kernel) (by decide +kernel)) sa_nil))) | exact ss_setC sc_fraction.nd rfl rfl rfl (fun _ => rfl) (se_call F_divisor (Nat.le_of_ble_eq_true rfl) rfl rfl (by decide +kernel) (fun _ => rfl) (fun _ _ => rfl) (sa_cons (fun _ => rfl) (se_var 0 rfl (by first | exact Or.inl rfl | exact Or.inr (Or.inl rfl) | exact Or.inr (Or.inr rfl)) (by decide +kernel) (by decide +kernel)) (sa_cons (fun _ => rfl) (se_var 1 rfl (by first | exact Or.inl rfl | exact Or.inr (Or.inl rfl) | exact Or.inr (Or.inr rfl)) (by decide +kernel) (by decide +kernel)) sa_nil))))) (sb_cons ((by first | exact ss_set sc_fraction.nd rfl rfl (fun _ => rfl) (se_if (st_cmp cmp_gtP (se_var 1 rfl (by first | exact Or.inl rfl | exact Or.inr (Or.inl rfl) | exact Or.inr (Or.inr rfl)) (by decide +kernel) (by decide +kernel)) (se_int) (nomark _)) (se_int) (se_un un_negP (se_int))) | exact ss_setC sc_fraction.nd rfl rfl rfl (fun _ => rfl) (se_if (st_cmp cmp_gtP (se_var 1 rfl (by first | exact Or.inl rfl | exact Or.inr (Or.inl rfl) | exact Or.inr (Or.inr rfl)) (by decide +kernel) (by decide +kernel)) (se_int) (nomark _)) (se_int) (se_un un_negP (se_int))))) (sb_one (ss_ret (se_tup (sa_cons (fun _ => rfl) (se_op op_divP (se_op op_mulP (se_var 3 rfl (by first | exact Or.inl rfl | exact Or.inr (Or.inl rfl) | exact Or.inr (Or.inr rfl)) (by decide +kernel) (by decide +kernel)) (se_var 0 rfl (by first | exact Or.inl rfl | exact Or.inr (Or.inl rfl) | exact Or.inr (Or.inr rfl)) (by decide +kernel) (by decide +kernel))) (se_var 2 rfl (by first | exact Or.inl rfl | exact Or.inr (Or.inl rfl) | exact Or.inr (Or.inr rfl)) (by decide +kernel) (by decide +kernel))) (sa_cons (fun _ => rfl) (se_op op_divP (se_op op_mulP (se_var 3 rfl (by first | exact Or.inl rfl | exact Or.inr (Or.inl rfl) | exact Or.inr (Or.inr rfl)) (by decide +kernel) (by decide +kernel)) (se_var 1 rfl (by first | exact Or.inl rfl | exact Or.inr (Or.inl rfl) | exact Or.inr (Or.inr rfl)) (by decide +kernel) (by decide +kernel))) (se_var 2 rfl (by first | exact Or.inl rfl | exact Or.inr (Or.inl rfl) | exact Or.inr (Or.inr rfl)) (by decide +kernel) (by decide +kernel))) sa_nil)))))))
theorem f_fraction {G : Cg} {f : Addr} {fd : FuncData} (X : Fx G) (F : Fun G.K "fraction" "fraction" s_fraction f fd) (b : Binds G.K fd ["top", "bottom"] []) (gm : G.mg "fraction" = some (.ref f)) (F_divisor : FnP G 1 "divisor" 2 p_divisor) : FnP G 2 "fraction" 2 p_fraction := fn_mk F sc_fraction b gm (b_fraction X F_divisor)
theorem sc_point_at : FnScope ["piece", "top", "bottom", "step"] ["piece", "top", "bottom"] (defScope s_point_at) := ⟨rfl, rfl, rfl, by decide +kernel, rfl, by decide +kernel, by decide +kernel⟩
theorem b_point_at {G : Cg} (X : Fx G) (F_way : FnP G 1 "way" 1 p_way) (F_fraction : FnP G 2 "fraction" 2 p_fraction) : SB (G.at ["piece", "top", "bottom", "step"] (defScope s_point_at) 2) (defBody s_point_at) d_point_at := (sb_cons ((by first | exact ss_set sc_point_at.nd rfl rfl (fun _ => rfl) (se_call F_way (Nat.le_of_ble_eq_true rfl) rfl rfl (by decide +kernel) (fun _ => rfl) (fun _ _ => rfl) (sa_cons (fun _ => rfl) (se_var 0 rfl (by first | exact Or.inl rfl | exact Or.inr (Or.inl rfl) | exact Or.inr (Or.inr rfl)) (by decide +kernel) (by decide +kernel)) sa_nil)) | exact ss_setC sc_point_at.nd rfl rfl rfl (fun _ => rfl) (se_call F_way (Nat.le_of_ble_eq_true rfl) rfl rfl (by decide +kernel) (fun _ => rfl) (fun _ _ => rfl) (sa_cons (fun _ => rfl) (se_var 0 rfl (by first | exact Or.inl rfl | exact Or.inr (Or.inl rfl) | exact Or.inr (Or.inr rfl)) (by decide +kernel) (by decide +kernel)) sa_nil)))) (sb_one (ss_ret (se_tup (sa_cons (fun _ => rfl) (se_call F_fraction (Nat.le_of_ble_eq_true rfl) rfl rfl (by decide +kernel) (fun _ => rfl) (fun _ _ => rfl) (sa_cons (fun _ => rfl) (se_op op_addP (se_op op_mulP (se_ix ix_P2 (se_var 0 rfl (by first | exact Or.inl rfl | exact Or.inr (Or.inl rfl) | exact Or.inr (Or.inr rfl)) (by decide +kernel) (by decide +kernel)) (se_int) (fun _ _ => rfl)) (se_var 2 rfl (by first | exact Or.inl rfl | exact Or.inr (Or.inl rfl) | exact Or.inr (Or.inr rfl)) (by decide +kernel) (by decide +kernel))) (se_op op_mulP (se_ix ix_P2 (se_var 3 rfl (by first | exact Or.inl rfl | exact Or.inr (Or.inl rfl) | exact Or.inr (Or.inr rfl)) (by decide +kernel) (by decide +kernel)) (se_int) (fun _ _ => rfl)) (se_var 1 rfl (by first | exact Or.inl rfl | exact Or.inr (Or.inl rfl) | exact Or.inr (Or.inr rfl)) (by decide +kernel) (by decide +kernel)))) (sa_cons (fun _ => rfl) (se_var 2 rfl (by first | exact Or.inl rfl | exact Or.inr (Or.inl rfl) | exact Or.inr (Or.inr rfl)) (by decide +kernel) (by decide +kernel)) sa_nil))) (sa_cons (fun _ => rfl) (se_call F_fraction (Nat.le_of_ble_eq_true rfl) rfl rfl (by decide +kernel) (fun _ => rfl) (fun _ _ => rfl) (sa_cons (fun _ => rfl) (se_op op_addP (se_op op_mulP (se_ix ix_P2 (se_var 0 rfl (by first | exact Or.inl rfl | exact Or.inr (Or.inl rfl) | exact Or.inr (Or.inr rfl)) (by decide +kernel) (by decide +kernel)) (se_int) (fun _ _ => rfl)) (se_var 2 rfl (by first | exact Or.inl rfl | exact Or.inr (Or.inl rfl) | exact Or.inr (Or.inr rfl)) (by decide +kernel) (by decide +kernel))) (se_op op_mulP (se_ix ix_P2 (se_var 3 rfl (by first | exact Or.inl rfl | exact Or.inr (Or.inl rfl) | exact Or.inr (Or.inr rfl)) (by decide +kernel) (by decide +kernel)) (se_int) (fun _ _ => rfl)) (se_var 1 rfl (by first | exact Or.inl rfl | exact Or.inr (Or.inl rfl) | exact Or.inr (Or.inr rfl)) (by decide +kernel) (by decide +kernel)))) (sa_cons (fun _ => rfl) (se_var 2 rfl (by first | exact Or.inl rfl | exact Or.inr (Or.inl rfl) | exact Or.inr (Or.inr rfl)) (by decide +kernel) (by decide +kernel)) sa_nil))) sa_nil))))))
theorem f_point_at {G : Cg} {f : Addr} {fd : FuncData} (X : Fx G) (F : Fun G.K "point_at" "point_at" s_point_at f fd) (b : Binds G.K fd ["piece", "top", "bottom"] []) (gm : G.mg "point_at" = some (.ref f)) (F_way : FnP G 1 "way" 1 p_way) (F_fraction : FnP G 2 "fraction" 2 p_fraction) : FnP G 3 "point_at" 3 p_point_at := fn_mk F sc_point_at b gm (b_point_at X F_way F_fraction)
theorem sc_along : FnScope ["one", "other", "step", "length", "ends", "x", "y", "low", "high"] ["one", "other"] (defScope s_along) := ⟨rfl, rfl, rfl, by decide +kernel, rfl, by decide +kernel, by decide +kernel⟩
theorem b_along {G : Cg} (X : Fx G) (F_way : FnP G 1 "way" 1 p_way) : SB (G.at ["one", "other", "step", "length", "ends", "x", "y", "low", "high"] (defScope s_along) 1) (defBody s_along) d_along := (sb_cons ((by first | exact ss_set sc_along.nd rfl rfl (fun _ => rfl) (se_call F_way (Nat.le_of_ble_eq_true rfl) rfl rfl (by decide +kernel) (fun _ => rfl) (fun _ _ => rfl) (sa_cons (fun _ => rfl) (se_var 0 rfl (by first | exact Or.inl rfl | exact Or.inr (Or.inl rfl) | exact Or.inr (Or.inr rfl)) (by decide +kernel) (by decide +kernel)) sa_nil)) | exact ss_setC sc_along.nd rfl rfl rfl (fun _ => rfl) (se_call F_way (Nat.le_of_ble_eq_true rfl) rfl rfl (by decide +kernel) (fun _ => rfl) (fun _ _ => rfl) (sa_cons (fun _ => rfl) (se_var 0 rfl (by first | exact Or.inl rfl | exact Or.inr (Or.inl rfl) | exact Or.inr (Or.inr rfl)) (by decide +kernel) (by decide +kernel)) sa_nil)))) (sb_cons ((by first | exact ss_set sc_along.nd rfl rfl (fun _ => rfl) (se_op op_addP (se_op op_mulP (se_ix ix_P2 (se_var 2 rfl (by first | exact Or.inl rfl | exact Or.inr (Or.inl rfl) | exact Or.inr (Or.inr rfl)) (by decide +kernel) (by decide +kernel)) (se_int) (fun _ _ => rfl)) (se_ix ix_P2 (se_var 2 rfl (by first | exact Or.inl rfl | exact Or.inr (Or.inl rfl) | exact Or.inr (Or.inr rfl)) (by decide +kernel) (by decide +kernel)) (se_int) (fun _ _ => rfl))) (se_op op_mulP (se_ix ix_P2 (se_var 2 rfl (by first | exact Or.inl rfl | exact Or.inr (Or.inl rfl) | exact Or.inr (Or.inr rfl)) (by decide +kernel) (by decide +kernel)) (se_int) (fun _ _ => rfl)) (se_ix ix_P2 (se_var 2 rfl (by first | exact Or.inl rfl | exact Or.inr (Or.inl rfl) | exact Or.inr (Or.inr rfl)) (by decide +kernel) (by decide +kernel)) (se_int) (fun _ _ => rfl)))) | exact ss_setC sc_along.nd rfl rfl rfl (fun _ => rfl) (se_op op_addP (se_op op_mulP (se_ix ix_P2 (se_var 2 rfl (by first | exact Or.inl rfl | exact Or.inr (Or.inl rfl) | exact Or.inr (Or.inr rfl)) (by decide +kernel) (by decide +kernel)) (se_int) (fun _ _ => rfl)) (se_ix ix_P2 (se_var 2 rfl (by first | exact Or.inl rfl | exact Or.inr (Or.inl rfl) | exact Or.inr (Or.inr rfl)) (by decide +kernel) (by decide +kernel)) (se_int) (fun _ _ => rfl))) (se_op op_mulP (se_ix ix_P2 (se_var 2 rfl (by first | exact Or.inl rfl | exact Or.inr (Or.inl rfl) | exact Or.inr (Or.inr rfl)) (by decide +kernel) (by decide +kernel)) (se_int) (fun _ _ => rfl)) (se_ix ix_P2 (se_var 2 rfl (by first | exact Or.inl rfl | exact Or.inr (Or.inl rfl) | exact Or.inr (Or.inr rfl)) (by decide +kernel) (by decide +kernel)) (se_int) (fun _ _ => rfl)))))) (sb_cons ((by first | exact ss_set sc_along.nd rfl rfl (fun _ => rfl) (se_new (sf_lst sa_nil)) | exact ss_setC sc_along.nd rfl rfl rfl (fun _ => rfl) (se_new (sf_lst sa_nil)))) (sb_cons (ss_for rfl (fun _ _ => rfl) (si_seq (se_tup (sa_cons (fun _ => rfl) (se_sl (se_var 1 rfl (by first | exact Or.inl rfl | exact Or.inr (Or.inl rfl) | exact Or.inr (Or.inr rfl)) (by decide +kernel) (by decide +kernel)) so_none (so_some (se_int))) (sa_cons (fun _ => rfl) (se_sl (se_var 1 rfl (by first | exact Or.inl rfl | exact Or.inr (Or.inl rfl) | exact Or.inr (Or.inr rfl)) (by decide +kernel) (by decide +kernel)) (so_some (se_int)) so_none) sa_nil)))) (sg_tup rfl (fun _ => rfl) (fun _ => rfl) (sgs_cons (fun _ => rfl) (by first | exact sg_name sc_along.nd rfl rfl | exact sg_nameC sc_along.nd rfl rfl rfl) (sgs_cons (fun _ => rfl) (by first | exact sg_name sc_along.nd rfl rfl | exact sg_nameC sc_along.nd rfl rfl rfl) sgs_nil))) (sb_one (ss_expr (fun _ => rfl) (se_append (fun _ => rfl) (fun _ => rfl) (fun _ => rfl) rfl (se_var 4 rfl (by first | exact Or.inl rfl | exact Or.inr (Or.inl rfl) | exact Or.inr (Or.inr rfl)) (by decide +kernel) (by decide +kernel)) (se_op op_addP (se_op op_mulP (se_op op_subP (se_var 5 rfl (by first | exact Or.inl rfl | exact Or.inr (Or.inl rfl) | exact Or.inr (Or.inr rfl)) (by decide +kernel) (by decide +kernel)) (se_ix ix_P2 (se_var 0 rfl (by first | exact Or.inl rfl | exact Or.inr (Or.inl rfl) | exact Or.inr (Or.inr rfl)) (by decide +kernel) (by decide +kernel)) (se_int) (fun _ _ => rfl))) (se_ix ix_P2 (se_var 2 rfl (by first | exact Or.inl rfl | exact Or.inr (Or.inl rfl) | exact Or.inr (Or.inr rfl)) (by decide +kernel) (by decide +kernel)) (se_int) (fun _ _ => rfl))) (se_op op_mulP (se_op op_subP (se_var 6 rfl (by first | exact Or.inl rfl | exact Or.inr (Or.inl rfl) | exact Or.inr (Or.inr rfl)) (by decide +kernel) (by decide +kernel)) (se_ix ix_P2 (se_var 0 rfl (by first | exact Or.inl rfl | exact Or.inr (Or.inl rfl) | exact Or.inr (Or.inr rfl)) (by decide +kernel) (by decide +kernel)) (se_int) (fun _ _ => rfl))) (se_ix ix_P2 (se_var 2 rfl (by first | exact Or.inl rfl | exact Or.inr (Or.inl rfl) | exact Or.inr (Or.inr rfl)) (by decide +kernel) (by decide +kernel)) (se_int) (fun _ _ => rfl)))))))) (sb_cons (ss_par2 rfl sc_along.nd rfl rfl (by decide) rfl rfl (by intro env h; cases env; cases h; rfl) (by intro env h; cases env; cases h; rfl) (fun _ => rfl) (fun _ => rfl) (se_callB (c_maxA rfl) rfl X.m_max boot_max (by decide +kernel) (by decide +kernel) (fun _ => rfl) (fun _ _ => rfl) (sa_cons (fun _ => rfl) (se_int) (sa_cons (fun _ => rfl) (se_callB (c_minA rfl) rfl X.m_min boot_min (by decide +kernel) (by decide +kernel) (fun _ => rfl) (fun _ _ => rfl) (sa_cons (fun _ => rfl) (se_var 4 rfl (by first | exact Or.inl rfl | exact Or.inr (Or.inl rfl) | exact Or.inr (Or.inr rfl)) (by decide +kernel) (by decide +kernel)) sa_nil)) sa_nil))) (se_callB (c_minA rfl) rfl X.m_min boot_min (by decide +kernel) (by decide +kernel) (fun _ => rfl) (fun _ _ => rfl) (sa_cons (fun _ => rfl) (se_var 3 rfl (by first | exact Or.inl rfl | exact Or.inr (Or.inl rfl) | exact Or.inr (Or.inr rfl)) (by decide +kernel) (by decide +kernel)) (sa_cons (fun _ => rfl) (se_callB (c_maxA rfl) rfl X.m_max boot_max (by decide +kernel) (by decide +kernel) (fun _ => rfl) (fun _ _ => rfl) (sa_cons (fun _ => rfl) (se_var 4 rfl (by first | exact Or.inl rfl | exact Or.inr (Or.inl rfl) | exact Or.inr (Or.inr rfl)) (by decide +kernel) (by decide +kernel)) sa_nil)) sa_nil)))) (sb_one (ss_ret (se_if (st_cmp cmp_leP (se_var 7 rfl (by first | exact Or.inl rfl | exact Or.inr (Or.inl rfl) | exact Or.inr (Or.inr rfl)) (by decide +kernel) (by decide +kernel)) (se_var 8 rfl (by first | exact Or.inl rfl | exact Or.inr (Or.inl rfl) | exact Or.inr (Or.inr rfl)) (by decide +kernel) (by decide +kernel)) (nomark _)) (se_tup (sa_cons (fun _ => rfl) (se_var 7 rfl (by first | exact Or.inl rfl | exact Or.inr (Or.inl rfl) | exact Or.inr (Or.inr rfl)) (by decide +kernel) (by decide +kernel)) (sa_cons (fun _ => rfl) (se_var 8 rfl (by first | exact Or.inl rfl | exact Or.inr (Or.inl rfl) | exact Or.inr (Or.inr rfl)) (by decide +kernel) (by decide +kernel)) sa_nil))) (se_non)))))))))
theorem f_along {G : Cg} {f : Addr} {fd : FuncData} (X : Fx G) (F : Fun G.K "along" "along" s_along f fd) (b : Binds G.K fd ["one", "other"] []) (gm : G.mg "along" = some (.ref f)) (F_way : FnP G 1 "way" 1 p_way) : FnP G 2 "along" 2 p_along := fn_mk F sc_along b gm (b_along X F_way)
theorem sc_common_point : FnScope ["one", "other", "step", "second", "gap", "turn", "found", "sign", "top", "other_top"] ["one", "other"] (defScope s_common_point) := ⟨rfl, rfl, rfl, by decide +kernel, rfl, by decide +kernel, by decide +kernel⟩
theorem b_common_point {G : Cg} (X : Fx G) (F_way : FnP G 1 "way" 1 p_way) (F_across : FnP G 1 "across" 2 p_across) (F_along : FnP G 2 "along" 2 p_along) (F_point_at : FnP G 3 "point_at" 3 p_point_at) : SB (G.at ["one", "other", "step", "second", "gap", "turn", "found", "sign", "top", "other_top"] (defScope s_common_point) 3) (defBody s_common_point) d_common_point := (sb_cons (ss_par2 rfl sc_common_point.nd rfl rfl (by decide) rfl rfl (by intro env h; cases env; cases h; rfl) (by intro env h; cases env; cases h; rfl) (fun _ => rfl) (fun _ => rfl) (se_call F_way (Nat.le_of_ble_eq_true rfl) rfl rfl (by decide +kernel) (fun _ => rfl) (fun _ _ => rfl) (sa_cons (fun _ => rfl) (se_var 0 rfl (by first | exact Or.inl rfl | exact Or.inr (Or.inl rfl) | exact Or.inr (Or.inr rfl)) (by decide +kernel) (by decide +kernel)) sa_nil)) (se_call F_way (Nat.le_of_ble_eq_true rfl) rfl rfl (by decide +kernel) (fun _ => rfl) (fun _ _ => rfl) (sa_cons (fun _ => rfl) (se_var 1 rfl (by first | exact Or.inl rfl | exact Or.inr (Or.inl rfl) | exact Or.inr (Or.inr rfl)) (by decide +kernel) (by decide +kernel)) sa_nil))) (sb_cons ((by first | exact ss_set sc_common_point.nd rfl rfl (fun _ => rfl) (se_tup (sa_cons (fun _ => rfl) (se_op op_subP (se_ix ix_P2 (se_var 1 rfl (by first | exact Or.inl rfl | exact Or.inr (Or.inl rfl) | exact Or.inr (Or.inr rfl)) (by decide +kernel) (by decide +kernel)) (se_int) (fun _ _ => rfl)) (se_ix ix_P2 (se_var 0 rfl (by first | exact Or.inl rfl | exact Or.inr (Or.inl rfl) | exact Or.inr (Or.inr rfl)) (by decide +kernel) (by decide +kernel)) (se_int) (fun _ _ => rfl))) (sa_cons (fun _ => rfl) (se_op op_subP (se_ix ix_P2 (se_var 1 rfl (by first | exact Or.inl rfl | exact Or.inr (Or.inl rfl) | exact Or.inr (Or.inr rfl)) (by decide +kernel) (by decide +kernel)) (se_int) (fun _ _ => rfl)) (se_ix ix_P2 (se_var 0 rfl (by first | exact Or.inl rfl | exact Or.inr (Or.inl rfl) | exact Or.inr (Or.inr rfl)) (by decide +kernel) (by decide +kernel)) (se_int) (fun _ _ => rfl))) sa_nil))) | exact ss_setC sc_common_point.nd rfl rfl rfl (fun _ => rfl) (se_tup (sa_cons (fun _ => rfl) (se_op op_subP (se_ix ix_P2 (se_var 1 rfl (by first | exact Or.inl rfl | exact Or.inr (Or.inl rfl) | exact Or.inr (Or.inr rfl)) (by decide +kernel) (by decide +kernel)) (se_int) (fun _ _ => rfl)) (se_ix ix_P2 (se_var 0 rfl (by first | exact Or.inl rfl | exact Or.inr (Or.inl rfl) | exact Or.inr (Or.inr rfl)) (by decide +kernel) (by decide +kernel)) (se_int) (fun _ _ => rfl))) (sa_cons (fun _ => rfl) (se_op op_subP (se_ix ix_P2 (se_var 1 rfl (by first | exact Or.inl rfl | exact Or.inr (Or.inl rfl) | exact Or.inr (Or.inr rfl)) (by decide +kernel) (by decide +kernel)) (se_int) (fun _ _ => rfl)) (se_ix ix_P2 (se_var 0 rfl (by first | exact Or.inl rfl | exact Or.inr (Or.inl rfl) | exact Or.inr (Or.inr rfl)) (by decide +kernel) (by decide +kernel)) (se_int) (fun _ _ => rfl))) sa_nil))))) (sb_cons ((by first | exact ss_set sc_common_point.nd rfl rfl (fun _ => rfl) (se_call F_across (Nat.le_of_ble_eq_true rfl) rfl rfl (by decide +kernel) (fun _ => rfl) (fun _ _ => rfl) (sa_cons (fun _ => rfl) (se_var 2 rfl (by first | exact Or.inl rfl | exact Or.inr (Or.inl rfl) | exact Or.inr (Or.inr rfl)) (by decide +kernel) (by decide +kernel)) (sa_cons (fun _ => rfl) (se_var 3 rfl (by first | exact Or.inl rfl | exact Or.inr (Or.inl rfl) | exact Or.inr (Or.inr rfl)) (by decide +kernel) (by decide +kernel)) sa_nil))) | exact ss_setC sc_common_point.nd rfl rfl rfl (fun _ => rfl) (se_call F_across (Nat.le_of_ble_eq_true rfl) rfl rfl (by decide +kernel) (fun _ => rfl) (fun _ _ => rfl) (sa_cons (fun _ => rfl) (se_var 2 rfl (by first | exact Or.inl rfl | exact Or.inr (Or.inl rfl) | exact Or.inr (Or.inr rfl)) (by decide +kernel) (by decide +kernel)) (sa_cons (fun _ => rfl) (se_var 3 rfl (by first | exact Or.inl rfl | exact Or.inr (Or.inl rfl) | exact Or.inr (Or.inr rfl)) (by decide +kernel) (by decide +kernel)) sa_nil))))) (sb_cons (ss_if (st_cmp cmp_eqP (se_var 5 rfl (by first | exact Or.inl rfl | exact Or.inr (Or.inl rfl) | exact Or.inr (Or.inr rfl)) (by decide +kernel) (by decide +kernel)) (se_int) (nomark _)) (sb_cons ((by first | exact ss_set sc_common_point.nd rfl rfl (fun _ => rfl) (se_if (st_cmp cmp_eqP (se_call F_across (Nat.le_of_ble_eq_true rfl) rfl rfl (by decide +kernel) (fun _ => rfl) (fun _ _ => rfl) (sa_cons (fun _ => rfl) (se_var 2 rfl (by first | exact Or.inl rfl | exact Or.inr (Or.inl rfl) | exact Or.inr (Or.inr rfl)) (by decide +kernel) (by decide +kernel)) (sa_cons (fun _ => rfl) (se_var 4 rfl (by first | exact Or.inl rfl | exact Or.inr (Or.inl rfl) | exact Or.inr (Or.inr rfl)) (by decide +kernel) (by decide +kernel)) sa_nil))) (se_int) (nomark _)) (se_call F_along (Nat.le_of_ble_eq_true rfl) rfl rfl (by decide +kernel) (fun _ => rfl) (fun _ _ => rfl) (sa_cons (fun _ => rfl) (se_var 0 rfl (by first | exact Or.inl rfl | exact Or.inr (Or.inl rfl) | exact Or.inr (Or.inr rfl)) (by decide +kernel) (by decide +kernel)) (sa_cons (fun _ => rfl) (se_var 1 rfl (by first | exact Or.inl rfl | exact Or.inr (Or.inl rfl) | exact Or.inr (Or.inr rfl)) (by decide +kernel) (by decide +kernel)) sa_nil))) (se_non)) | exact ss_setC sc_common_point.nd rfl rfl rfl (fun _ => rfl) (se_if (st_cmp cmp_eqP (se_call F_across (Nat.le_of_ble_eq_true rfl) rfl rfl (by decide +kernel) (fun _ => rfl) (fun _ _ => rfl) (sa_cons (fun _ => rfl) (se_var 2 rfl (by first | exact Or.inl rfl | exact Or.inr (Or.inl rfl) | exact Or.inr (Or.inr rfl)) (by decide +kernel) (by decide +kernel)) (sa_cons (fun _ => rfl) (se_var 4 rfl (by first | exact Or.inl rfl | exact Or.inr (Or.inl rfl) | exact Or.inr (Or.inr rfl)) (by decide +kernel) (by decide +kernel)) sa_nil))) (se_int) (nomark _)) (se_call F_along (Nat.le_of_ble_eq_true rfl) rfl rfl (by decide +kernel) (fun _ => rfl) (fun _ _ => rfl) (sa_cons (fun _ => rfl) (se_var 0 rfl (by first | exact Or.inl rfl | exact Or.inr (Or.inl rfl) | exact Or.inr (Or.inr rfl)) (by decide +kernel) (by decide +kernel)) (sa_cons (fun _ => rfl) (se_var 1 rfl (by first | exact Or.inl rfl | exact Or.inr (Or.inl rfl) | exact Or.inr (Or.inr rfl)) (by decide +kernel) (by decide +kernel)) sa_nil))) (se_non)))) (sb_one (ss_ret (se_if (st_cmp cmp_isP (se_var 6 rfl (by first | exact Or.inl rfl | exact Or.inr (Or.inl rfl) | exact Or.inr (Or.inr rfl)) (by decide +kernel) (by decide +kernel)) (se_non) (nomark _)) (se_non) (se_call F_point_at (Nat.le_of_ble_eq_true rfl) rfl rfl (by decide +kernel) (fun _ => rfl) (fun _ _ => rfl) (sa_cons (fun _ => rfl) (se_var 0 rfl (by first | exact Or.inl rfl | exact Or.inr (Or.inl rfl) | exact Or.inr (Or.inr rfl)) (by decide +kernel) (by decide +kernel)) (sa_cons (fun _ => rfl) (se_ix ix_P2 (se_var 6 rfl (by first | exact Or.inl rfl | exact Or.inr (Or.inl rfl) | exact Or.inr (Or.inr rfl)) (by decide +kernel) (by decide +kernel)) (se_int) (fun _ _ => rfl)) (sa_cons (fun _ => rfl) (se_op op_addP (se_op op_mulP (se_ix ix_P2 (se_var 2 rfl (by first | exact Or.inl rfl | exact Or.inr (Or.inl rfl) | exact Or.inr (Or.inr rfl)) (by decide +kernel) (by decide +kernel)) (se_int) (fun _ _ => rfl)) (se_ix ix_P2 (se_var 2 rfl (by first | exact Or.inl rfl | exact Or.inr (Or.inl rfl) | exact Or.inr (Or.inr rfl)) (by decide +kernel) (by decide +kernel)) (se_int) (fun _ _ => rfl))) (se_op op_mulP (se_ix ix_P2 (se_var 2 rfl (by first | exact Or.inl rfl | exact Or.inr (Or.inl rfl) | exact Or.inr (Or.inr rfl)) (by decide +kernel) (by decide +kernel)) (se_int) (fun _ _ => rfl)) (se_ix ix_P2 (se_var 2 rfl (by first | exact Or.inl rfl | exact Or.inr (Or.inl rfl) | exact Or.inr (Or.inr rfl)) (by decide +kernel) (by decide +kernel)) (se_int) (fun _ _ => rfl)))) sa_nil)))))))) sb_nil) (sb_cons ((by first | exact ss_set sc_common_point.nd rfl rfl (fun _ => rfl) (se_if (st_cmp cmp_gtP (se_var 5 rfl (by first | exact Or.inl rfl | exact Or.inr (Or.inl rfl) | exact Or.inr (Or.inr rfl)) (by decide +kernel) (by decide +kernel)) (se_int) (nomark _)) (se_int) (se_un un_negP (se_int))) | exact ss_setC sc_common_point.nd rfl rfl rfl (fun _ => rfl) (se_if (st_cmp cmp_gtP (se_var 5 rfl (by first | exact Or.inl rfl | exact Or.inr (Or.inl rfl) | exact Or.inr (Or.inr rfl)) (by decide +kernel) (by decide +kernel)) (se_int) (nomark _)) (se_int) (se_un un_negP (se_int))))) (sb_cons (ss_par2 rfl sc_common_point.nd rfl rfl (by decide) rfl rfl (by intro env h; cases env; cases h; rfl) (by intro env h; cases env; cases h; rfl) (fun _ => rfl) (fun _ => rfl) (se_op op_mulP (se_var 7 rfl (by first | exact Or.inl rfl | exact Or.inr (Or.inl rfl) | exact Or.inr (Or.inr rfl)) (by decide +kernel) (by decide +kernel)) (se_call F_across (Nat.le_of_ble_eq_true rfl) rfl rfl (by decide +kernel) (fun _ => rfl) (fun _ _ => rfl) (sa_cons (fun _ => rfl) (se_var 4 rfl (by first | exact Or.inl rfl | exact Or.inr (Or.inl rfl) | exact Or.inr (Or.inr rfl)) (by decide +kernel) (by decide +kernel)) (sa_cons (fun _ => rfl) (se_var 3 rfl (by first | exact Or.inl rfl | exact Or.inr (Or.inl rfl) | exact Or.inr (Or.inr rfl)) (by decide +kernel) (by decide +kernel)) sa_nil)))) (se_op op_mulP (se_var 7 rfl (by first | exact Or.inl rfl | exact Or.inr (Or.inl rfl) | exact Or.inr (Or.inr rfl)) (by decide +kernel) (by decide +kernel)) (se_call F_across (Nat.le_of_ble_eq_true rfl) rfl rfl (by decide +kernel) (fun _ => rfl) (fun _ _ => rfl) (sa_cons (fun _ => rfl) (se_var 4 rfl (by first | exact Or.inl rfl | exact Or.inr (Or.inl rfl) | exact Or.inr (Or.inr rfl)) (by decide +kernel) (by decide +kernel)) (sa_cons (fun _ => rfl) (se_var 2 rfl (by first | exact Or.inl rfl | exact Or.inr (Or.inl rfl) | exact Or.inr (Or.inr rfl)) (by decide +kernel) (by decide +kernel)) sa_nil))))) (sb_cons (ss_if (st_w (sw_or (st_not (st_chain cmp_leP cmp_leP (se_int) (se_var 8 rfl (by first | exact Or.inl rfl | exact Or.inr (Or.inl rfl) | exact Or.inr (Or.inr rfl)) (by decide +kernel) (by decide +kernel)) (se_op op_mulP (se_var 7 rfl (by first | exact Or.inl rfl | exact Or.inr (Or.inl rfl) | exact Or.inr (Or.inr rfl)) (by decide +kernel) (by decide +kernel)) (se_var 5 rfl (by first | exact Or.inl rfl | exact Or.inr (Or.inl rfl) | exact Or.inr (Or.inr rfl)) (by decide +kernel) (by decide +kernel))) (by with_unfolding_all rfl))) (sw_or1 (st_not (st_chain cmp_leP cmp_leP (se_int) (se_var 9 rfl (by first | exact Or.inl rfl | exact Or.inr (Or.inl rfl) | exact Or.inr (Or.inr rfl)) (by decide +kernel) (by decide +kernel)) (se_op op_mulP (se_var 7 rfl (by first | exact Or.inl rfl | exact Or.inr (Or.inl rfl) | exact Or.inr (Or.inr rfl)) (by decide +kernel) (by decide +kernel)) (se_var 5 rfl (by first | exact Or.inl rfl | exact Or.inr (Or.inl rfl) | exact Or.inr (Or.inr rfl)) (by decide +kernel) (by decide +kernel))) (by with_unfolding_all rfl)))))) (sb_one (ss_ret (se_non))) sb_nil) (sb_one (ss_ret (se_call F_point_at (Nat.le_of_ble_eq_true rfl) rfl rfl (by decide +kernel) (fun _ => rfl) (fun _ _ => rfl) (sa_cons (fun _ => rfl) (se_var 0 rfl (by first | exact Or.inl rfl | exact Or.inr (Or.inl rfl) | exact Or.inr (Or.inr rfl)) (by decide +kernel) (by decide +kernel)) (sa_cons (fun _ => rfl) (se_var 8 rfl (by first | exact Or.inl rfl | exact Or.inr (Or.inl rfl) | exact Or.inr (Or.inr rfl)) (by decide +kernel) (by decide +kernel)) (sa_cons (fun _ => rfl) (se_op op_mulP (se_var 7 rfl (by first | exact Or.inl rfl | exact Or.inr (Or.inl rfl) | exact Or.inr (Or.inr rfl)) (by decide +kernel) (by decide +kernel)) (se_var 5 rfl (by first | exact Or.inl rfl | exact Or.inr (Or.inl rfl) | exact Or.inr (Or.inr rfl)) (by decide +kernel) (by decide +kernel))) sa_nil)))))))))))))
theorem f_common_point {G : Cg} {f : Addr} {fd : FuncData} (X : Fx G) (F : Fun G.K "common_point" "common_point" s_common_point f fd) (b : Binds G.K fd ["one", "other"] []) (gm : G.mg "common_point" = some (.ref f)) (F_way : FnP G 1 "way" 1 p_way) (F_across : FnP G 1 "across" 2 p_across) (F_along : FnP G 2 "along" 2 p_along) (F_point_at : FnP G 3 "point_at" 3 p_point_at) : FnP G 4 "common_point" 2 p_common_point := fn_mk F sc_common_point b gm (b_common_point X F_way F_across F_along F_point_at)
theorem sc_is_number : FnScope ["value", "smallest", "largest"] ["value", "smallest", "largest"] (defScope s_is_number) := ⟨rfl, rfl, rfl, by decide +kernel, rfl, by decide +kernel, by decide +kernel⟩
theorem b_is_number {G : Cg} (X : Fx G)  : SB (G.at ["value", "smallest", "largest"] (defScope s_is_number) 0) (defBody s_is_number) d_is_number := (sb_one (ss_ret (se_and (se_isi kit_int (fun _ => rfl) rfl X.m_isinstance rfl X.m_int boot_int (by decide +kernel) (by decide +kernel) (se_var 0 rfl (by first | exact Or.inl rfl | exact Or.inr (Or.inl rfl) | exact Or.inr (Or.inr rfl)) (by decide +kernel) (by decide +kernel))) (se_and (se_not (se_isi kit_bool (fun _ => rfl) rfl X.m_isinstance rfl X.m_bool boot_bool (by decide +kernel) (by decide +kernel) (se_var 0 rfl (by first | exact Or.inl rfl | exact Or.inr (Or.inl rfl) | exact Or.inr (Or.inr rfl)) (by decide +kernel) (by decide +kernel)))) (se_one (se_chain cmp_leP cmp_leP (se_var 1 rfl (by first | exact Or.inl rfl | exact Or.inr (Or.inl rfl) | exact Or.inr (Or.inr rfl)) (by decide +kernel) (by decide +kernel)) (se_var 0 rfl (by first | exact Or.inl rfl | exact Or.inr (Or.inl rfl) | exact Or.inr (Or.inr rfl)) (by decide +kernel) (by decide +kernel)) (se_var 2 rfl (by first | exact Or.inl rfl | exact Or.inr (Or.inl rfl) | exact Or.inr (Or.inr rfl)) (by decide +kernel) (by decide +kernel)) (by with_unfolding_all rfl)))))))
theorem f_is_number {G : Cg} {f : Addr} {fd : FuncData} (X : Fx G) (F : Fun G.K "is_number" "is_number" s_is_number f fd) (b : Binds G.K fd ["value", "smallest", "largest"] []) (gm : G.mg "is_number" = some (.ref f))  : FnP G 1 "is_number" 3 p_is_number := fn_mk F sc_is_number b gm (b_is_number X )
theorem sc_is_piece : FnScope ["value", "part"] ["value"] (defScope s_is_piece) := ⟨rfl, rfl, rfl, by decide +kernel, rfl, by decide +kernel, by decide +kernel⟩
theorem b_is_piece {G : Cg} (X : Fx G) (F_is_number : FnP G 1 "is_number" 3 p_is_number) : SB (G.at ["value", "part"] (defScope s_is_piece) 1) (defBody s_is_piece) d_is_piece := (sb_cons (ss_if (st_w (sw_or (st_not (st_val (fun _ _ => rfl) (se_isi kit_tuple (fun _ => rfl) rfl X.m_isinstance rfl X.m_tuple boot_tuple (by decide +kernel) (by decide +kernel) (se_var 0 rfl (by first | exact Or.inl rfl | exact Or.inr (Or.inl rfl) | exact Or.inr (Or.inr rfl)) (by decide +kernel) (by decide +kernel))))) (sw_or (st_cmp cmp_neP (se_callB c_len rfl X.m_len boot_len (by decide +kernel) (by decide +kernel) (fun _ => rfl) (fun _ _ => rfl) (sa_cons (fun _ => rfl) (se_var 0 rfl (by first | exact Or.inl rfl | exact Or.inr (Or.inl rfl) | exact Or.inr (Or.inr rfl)) (by decide +kernel) (by decide +kernel)) sa_nil)) (se_globI rfl X.c_PARTS (by decide +kernel)) (nomark _)) (sw_or1 (st_not (st_val (fun _ _ => rfl) (se_callB (c_all rfl) rfl X.m_all boot_all (by decide +kernel) (by decide +kernel) (fun _ => rfl) (fun _ _ => rfl) (sa_cons (fun _ => rfl) (se_frz (sf_lc (own := [("part", 1)]) (ws := [1]) rfl sc_is_piece.nd (fun _ _ => rfl) (blkOk_by (by kernel_rfl)) (by decide +kernel) (si_seq (se_var 0 rfl (by first | exact Or.inl rfl | exact Or.inr (Or.inl rfl) | exact Or.inr (Or.inr rfl)) (by decide +kernel) (by decide +kernel))) (by first | exact sg_name sc_is_piece.nd rfl rfl | exact sg_nameC sc_is_piece.nd rfl rfl rfl) sif_nil (se_call F_is_number (Nat.le_of_ble_eq_true rfl) rfl rfl (by decide +kernel) (fun _ => rfl) (fun _ _ => rfl) (sa_cons (fun _ => rfl) (se_var 1 rfl (by first | exact Or.inl rfl | exact Or.inr (Or.inl rfl) | exact Or.inr (Or.inr rfl)) (by decide +kernel) (by decide +kernel)) (sa_cons (fun _ => rfl) (se_int) (sa_cons (fun _ => rfl) (se_globI rfl X.c_FAR (by decide +kernel)) sa_nil)))))) sa_nil)))))))) (sb_one (ss_ret (se_bl))) sb_nil) (sb_one (ss_ret (se_cmp cmp_neP (se_sl (se_var 0 rfl (by first | exact Or.inl rfl | exact Or.inr (Or.inl rfl) | exact Or.inr (Or.inr rfl)) (by decide +kernel) (by decide +kernel)) so_none (so_some (se_int))) (se_sl (se_var 0 rfl (by first | exact Or.inl rfl | exact Or.inr (Or.inl rfl) | exact Or.inr (Or.inr rfl)) (by decide +kernel) (by decide +kernel)) (so_some (se_int)) so_none) (nomark _)))))
theorem f_is_piece {G : Cg} {f : Addr} {fd : FuncData} (X : Fx G) (F : Fun G.K "is_piece" "is_piece" s_is_piece f fd) (b : Binds G.K fd ["value"] []) (gm : G.mg "is_piece" = some (.ref f)) (F_is_number : FnP G 1 "is_number" 3 p_is_number) : FnP G 2 "is_piece" 1 p_is_piece := fn_mk F sc_is_piece b gm (b_is_piece X F_is_number)
theorem sc_overlap : FnScope ["one", "other", "step", "gap", "found"] ["one", "other"] (defScope s_overlap) := ⟨rfl, rfl, rfl, by decide +kernel, rfl, by decide +kernel, by decide +kernel⟩
theorem b_overlap {G : Cg} (X : Fx G) (F_way : FnP G 1 "way" 1 p_way) (F_across : FnP G 1 "across" 2 p_across) (F_along : FnP G 2 "along" 2 p_along) : SB (G.at ["one", "other", "step", "gap", "found"] (defScope s_overlap) 2) (defBody s_overlap) d_overlap := (sb_cons (ss_par2 rfl sc_overlap.nd rfl rfl (by decide) rfl rfl (by intro env h; cases env; cases h; rfl) (by intro env h; cases env; cases h; rfl) (fun _ => rfl) (fun _ => rfl) (se_call F_way (Nat.le_of_ble_eq_true rfl) rfl rfl (by decide +kernel) (fun _ => rfl) (fun _ _ => rfl) (sa_cons (fun _ => rfl) (se_var 0 rfl (by first | exact Or.inl rfl | exact Or.inr (Or.inl rfl) | exact Or.inr (Or.inr rfl)) (by decide +kernel) (by decide +kernel)) sa_nil)) (se_tup (sa_cons (fun _ => rfl) (se_op op_subP (se_ix ix_P2 (se_var 1 rfl (by first | exact Or.inl rfl | exact Or.inr (Or.inl rfl) | exact Or.inr (Or.inr rfl)) (by decide +kernel) (by decide +kernel)) (se_int) (fun _ _ => rfl)) (se_ix ix_P2 (se_var 0 rfl (by first | exact Or.inl rfl | exact Or.inr (Or.inl rfl) | exact Or.inr (Or.inr rfl)) (by decide +kernel) (by decide +kernel)) (se_int) (fun _ _ => rfl))) (sa_cons (fun _ => rfl) (se_op op_subP (se_ix ix_P2 (se_var 1 rfl (by first | exact Or.inl rfl | exact Or.inr (Or.inl rfl) | exact Or.inr (Or.inr rfl)) (by decide +kernel) (by decide +kernel)) (se_int) (fun _ _ => rfl)) (se_ix ix_P2 (se_var 0 rfl (by first | exact Or.inl rfl | exact Or.inr (Or.inl rfl) | exact Or.inr (Or.inr rfl)) (by decide +kernel) (by decide +kernel)) (se_int) (fun _ _ => rfl))) sa_nil)))) (sb_cons (ss_if (st_w (sw_or (st_cmp cmp_neP (se_call F_across (Nat.le_of_ble_eq_true rfl) rfl rfl (by decide +kernel) (fun _ => rfl) (fun _ _ => rfl) (sa_cons (fun _ => rfl) (se_var 2 rfl (by first | exact Or.inl rfl | exact Or.inr (Or.inl rfl) | exact Or.inr (Or.inr rfl)) (by decide +kernel) (by decide +kernel)) (sa_cons (fun _ => rfl) (se_call F_way (Nat.le_of_ble_eq_true rfl) rfl rfl (by decide +kernel) (fun _ => rfl) (fun _ _ => rfl) (sa_cons (fun _ => rfl) (se_var 1 rfl (by first | exact Or.inl rfl | exact Or.inr (Or.inl rfl) | exact Or.inr (Or.inr rfl)) (by decide +kernel) (by decide +kernel)) sa_nil)) sa_nil))) (se_int) (nomark _)) (sw_or1 (st_cmp cmp_neP (se_call F_across (Nat.le_of_ble_eq_true rfl) rfl rfl (by decide +kernel) (fun _ => rfl) (fun _ _ => rfl) (sa_cons (fun _ => rfl) (se_var 2 rfl (by first | exact Or.inl rfl | exact Or.inr (Or.inl rfl) | exact Or.inr (Or.inr rfl)) (by decide +kernel) (by decide +kernel)) (sa_cons (fun _ => rfl) (se_var 3 rfl (by first | exact Or.inl rfl | exact Or.inr (Or.inl rfl) | exact Or.inr (Or.inr rfl)) (by decide +kernel) (by decide +kernel)) sa_nil))) (se_int) (nomark _))))) (sb_one (ss_ret (se_bl))) sb_nil) (sb_cons ((by first | exact ss_set sc_overlap.nd rfl rfl (fun _ => rfl) (se_call F_along (Nat.le_of_ble_eq_true rfl) rfl rfl (by decide +kernel) (fun _ => rfl) (fun _ _ => rfl) (sa_cons (fun _ => rfl) (se_var 0 rfl (by first | exact Or.inl rfl | exact Or.inr (Or.inl rfl) | exact Or.inr (Or.inr rfl)) (by decide +kernel) (by decide +kernel)) (sa_cons (fun _ => rfl) (se_var 1 rfl (by first | exact Or.inl rfl | exact Or.inr (Or.inl rfl) | exact Or.inr (Or.inr rfl)) (by decide +kernel) (by decide +kernel)) sa_nil))) | exact ss_setC sc_overlap.nd rfl rfl rfl (fun _ => rfl) (se_call F_along (Nat.le_of_ble_eq_true rfl) rfl rfl (by decide +kernel) (fun _ => rfl) (fun _ _ => rfl) (sa_cons (fun _ => rfl) (se_var 0 rfl (by first | exact Or.inl rfl | exact Or.inr (Or.inl rfl) | exact Or.inr (Or.inr rfl)) (by decide +kernel) (by decide +kernel)) (sa_cons (fun _ => rfl) (se_var 1 rfl (by first | exact Or.inl rfl | exact Or.inr (Or.inl rfl) | exact Or.inr (Or.inr rfl)) (by decide +kernel) (by decide +kernel)) sa_nil))))) (sb_one (ss_ret (se_and (se_cmp cmp_isnP (se_var 4 rfl (by first | exact Or.inl rfl | exact Or.inr (Or.inl rfl) | exact Or.inr (Or.inr rfl)) (by decide +kernel) (by decide +kernel)) (se_non) (nomark _)) (se_one (se_cmp cmp_ltP (se_ix ix_P2 (se_var 4 rfl (by first | exact Or.inl rfl | exact Or.inr (Or.inl rfl) | exact Or.inr (Or.inr rfl)) (by decide +kernel) (by decide +kernel)) (se_int) (fun _ _ => rfl)) (se_ix ix_P2 (se_var 4 rfl (by first | exact Or.inl rfl | exact Or.inr (Or.inl rfl) | exact Or.inr (Or.inr rfl)) (by decide +kernel) (by decide +kernel)) (se_int) (fun _ _ => rfl)) (nomark _)))))))))
theorem f_overlap {G : Cg} {f : Addr} {fd : FuncData} (X : Fx G) (F : Fun G.K "overlap" "overlap" s_overlap f fd) (b : Binds G.K fd ["one", "other"] []) (gm : G.mg "overlap" = some (.ref f)) (F_way : FnP G 1 "way" 1 p_way) (F_across : FnP G 1 "across" 2 p_across) (F_along : FnP G 2 "along" 2 p_along) : FnP G 3 "overlap" 2 p_overlap := fn_mk F sc_overlap b gm (b_overlap X F_way F_across F_along)
theorem sc_Drawing___init__ : FnScope ["self", "pieces", "index", "piece", "other", "one", "point", "earlier"] ["self", "pieces"] (defScope s_Drawing___init__) := ⟨rfl, rfl, rfl, by decide +kernel, rfl, by decide +kernel, by decide +kernel⟩
theorem b1_Drawing {G : Cg} (X : Fx G) (F_is_piece : FnP G 2 "is_piece" 1 p_is_piece) (F_overlap : FnP G 3 "overlap" 2 p_overlap) (E_InvalidDrawing : ErP G 2 "InvalidDrawing" 1 er_InvalidDrawing) : SS (G.at ["self", "pieces", "index", "piece", "other", "one", "point", "earlier"] (defScope s_Drawing___init__) 4) ((defBody s_Drawing___init__).getD 0 (.Pass ⟨0, 0, 0, 0⟩)) d1_Drawing := ss_for rfl (fun _ _ => rfl) (si_enum (fun _ => rfl) rfl X.m_enumerate (se_var 1 rfl (by first | exact Or.inl rfl | exact Or.inr (Or.inl rfl) | exact Or.inr (Or.inr rfl)) (by decide +kernel) (by decide +kernel))) (sg_tup rfl (fun _ => rfl) (fun _ => rfl) (sgs_cons (fun _ => rfl) (by first | exact sg_name sc_Drawing___init__.nd rfl rfl | exact sg_nameC sc_Drawing___init__.nd rfl rfl rfl) (sgs_cons (fun _ => rfl) (by first | exact sg_name sc_Drawing___init__.nd rfl rfl | exact sg_nameC sc_Drawing___init__.nd rfl rfl rfl) sgs_nil))) (sb_cons (ss_if (st_w (sw_or (st_cmp cmp_eqP (se_var 2 rfl (by first | exact Or.inl rfl | exact Or.inr (Or.inl rfl) | exact Or.inr (Or.inr rfl)) (by decide +kernel) (by decide +kernel)) (se_globI rfl X.c_MAX_PIECES (by decide +kernel)) (nomark _)) (sw_or1 (st_not (st_val (fun _ _ => rfl) (se_call F_is_piece (Nat.le_of_ble_eq_true rfl) rfl rfl (by decide +kernel) (fun _ => rfl) (fun _ _ => rfl) (sa_cons (fun _ => rfl) (se_var 3 rfl (by first | exact Or.inl rfl | exact Or.inr (Or.inl rfl) | exact Or.inr (Or.inr rfl)) (by decide +kernel) (by decide +kernel)) sa_nil))))))) (sb_one (ss_raise E_InvalidDrawing rfl rfl (Nat.le_of_ble_eq_true rfl) rfl (fun _ => rfl) (fun _ _ => rfl) (sa_cons (fun _ => rfl) (se_var 2 rfl (by first | exact Or.inl rfl | exact Or.inr (Or.inl rfl) | exact Or.inr (Or.inr rfl)) (by decide +kernel) (by decide +kernel)) sa_nil))) sb_nil) (sb_one (ss_if (st_val (fun _ _ => rfl) (se_callB (c_any rfl) rfl X.m_any boot_any (by decide +kernel) (by decide +kernel) (fun _ => rfl) (fun _ _ => rfl) (sa_cons (fun _ => rfl) (se_frz (sf_lc (own := [("earlier", 7)]) (ws := [7]) rfl sc_Drawing___init__.nd (fun _ _ => rfl) (blkOk_by (by kernel_rfl)) (by decide +kernel) (si_seq (se_sl (se_var 1 rfl (by first | exact Or.inl rfl | exact Or.inr (Or.inl rfl) | exact Or.inr (Or.inr rfl)) (by decide +kernel) (by decide +kernel)) so_none (so_some (se_var 2 rfl (by first | exact Or.inl rfl | exact Or.inr (Or.inl rfl) | exact Or.inr (Or.inr rfl)) (by decide +kernel) (by decide +kernel))))) (by first | exact sg_name sc_Drawing___init__.nd rfl rfl | exact sg_nameC sc_Drawing___init__.nd rfl rfl rfl) sif_nil (se_call F_overlap (Nat.le_of_ble_eq_true rfl) rfl rfl (by decide +kernel) (fun _ => rfl) (fun _ _ => rfl) (sa_cons (fun _ => rfl) (se_var 3 rfl (by first | exact Or.inl rfl | exact Or.inr (Or.inl rfl) | exact Or.inr (Or.inr rfl)) (by decide +kernel) (by decide +kernel)) (sa_cons (fun _ => rfl) (se_var 7 rfl (by first | exact Or.inl rfl | exact Or.inr (Or.inl rfl) | exact Or.inr (Or.inr rfl)) (by decide +kernel) (by decide +kernel)) sa_nil))))) sa_nil))) (sb_one (ss_raise E_InvalidDrawing rfl rfl (Nat.le_of_ble_eq_true rfl) rfl (fun _ => rfl) (fun _ _ => rfl) (sa_cons (fun _ => rfl) (se_var 2 rfl (by first | exact Or.inl rfl | exact Or.inr (Or.inl rfl) | exact Or.inr (Or.inr rfl)) (by decide +kernel) (by decide +kernel)) sa_nil))) sb_nil)))
theorem b2_Drawing {G : Cg} (X : Fx G) {T : DrT G.K} {pc : Nat → Addr} {pf : Nat → List Str} (HD : HasG G T pc pf) (F_is_piece : FnP G 2 "is_piece" 1 p_is_piece) (F_overlap : FnP G 3 "overlap" 2 p_overlap) (F_common_point : FnP G 4 "common_point" 2 p_common_point) (E_InvalidDrawing : ErP G 2 "InvalidDrawing" 1 er_InvalidDrawing) : SB (G.at ["self", "pieces", "index", "piece", "other", "one", "point", "earlier"] (defScope s_Drawing___init__) 4) ((defBody s_Drawing___init__).drop 2) d2_Drawing := (sb_cons (ss_setP ⟨HD.1, HD.2⟩ (fun _ => rfl) (se_new (sf_dict0)) (se_var 0 rfl (by first | exact Or.inl rfl | exact Or.inr (Or.inl rfl) | exact Or.inr (Or.inr rfl)) (by decide +kernel) (by decide +kernel))) (sb_one (ss_for rfl (fun _ _ => rfl) (si_r1 (fun _ => rfl) rfl X.m_range (se_callB c_len rfl X.m_len boot_len (by decide +kernel) (by decide +kernel) (fun _ => rfl) (fun _ _ => rfl) (sa_cons (fun _ => rfl) (se_var 1 rfl (by first | exact Or.inl rfl | exact Or.inr (Or.inl rfl) | exact Or.inr (Or.inr rfl)) (by decide +kernel) (by decide +kernel)) sa_nil))) (by first | exact sg_name sc_Drawing___init__.nd rfl rfl | exact sg_nameC sc_Drawing___init__.nd rfl rfl rfl) (sb_one (ss_for rfl (fun _ _ => rfl) (si_r1 (fun _ => rfl) rfl X.m_range (se_var 4 rfl (by first | exact Or.inl rfl | exact Or.inr (Or.inl rfl) | exact Or.inr (Or.inr rfl)) (by decide +kernel) (by decide +kernel))) (by first | exact sg_name sc_Drawing___init__.nd rfl rfl | exact sg_nameC sc_Drawing___init__.nd rfl rfl rfl) (sb_cons ((by first | exact ss_set sc_Drawing___init__.nd rfl rfl (fun _ => rfl) (se_call F_common_point (Nat.le_of_ble_eq_true rfl) rfl rfl (by decide +kernel) (fun _ => rfl) (fun _ _ => rfl) (sa_cons (fun _ => rfl) (se_ix ix_P2 (se_var 1 rfl (by first | exact Or.inl rfl | exact Or.inr (Or.inl rfl) | exact Or.inr (Or.inr rfl)) (by decide +kernel) (by decide +kernel)) (se_var 5 rfl (by first | exact Or.inl rfl | exact Or.inr (Or.inl rfl) | exact Or.inr (Or.inr rfl)) (by decide +kernel) (by decide +kernel)) (fun _ _ => rfl)) (sa_cons (fun _ => rfl) (se_ix ix_P2 (se_var 1 rfl (by first | exact Or.inl rfl | exact Or.inr (Or.inl rfl) | exact Or.inr (Or.inr rfl)) (by decide +kernel) (by decide +kernel)) (se_var 4 rfl (by first | exact Or.inl rfl | exact Or.inr (Or.inl rfl) | exact Or.inr (Or.inr rfl)) (by decide +kernel) (by decide +kernel)) (fun _ _ => rfl)) sa_nil))) | exact ss_setC sc_Drawing___init__.nd rfl rfl rfl (fun _ => rfl) (se_call F_common_point (Nat.le_of_ble_eq_true rfl) rfl rfl (by decide +kernel) (fun _ => rfl) (fun _ _ => rfl) (sa_cons (fun _ => rfl) (se_ix ix_P2 (se_var 1 rfl (by first | exact Or.inl rfl | exact Or.inr (Or.inl rfl) | exact Or.inr (Or.inr rfl)) (by decide +kernel) (by decide +kernel)) (se_var 5 rfl (by first | exact Or.inl rfl | exact Or.inr (Or.inl rfl) | exact Or.inr (Or.inr rfl)) (by decide +kernel) (by decide +kernel)) (fun _ _ => rfl)) (sa_cons (fun _ => rfl) (se_ix ix_P2 (se_var 1 rfl (by first | exact Or.inl rfl | exact Or.inr (Or.inl rfl) | exact Or.inr (Or.inr rfl)) (by decide +kernel) (by decide +kernel)) (se_var 4 rfl (by first | exact Or.inl rfl | exact Or.inr (Or.inl rfl) | exact Or.inr (Or.inr rfl)) (by decide +kernel) (by decide +kernel)) (fun _ _ => rfl)) sa_nil))))) (sb_one (ss_if (st_cmp cmp_isnP (se_var 6 rfl (by first | exact Or.inl rfl | exact Or.inr (Or.inl rfl) | exact Or.inr (Or.inr rfl)) (by decide +kernel) (by decide +kernel)) (se_non) (nomark _)) (sb_one (ss_setIt (fun _ => rfl) (fun _ => rfl) (fun _ => rfl) (fun _ _ => rfl) (se_var 6 rfl (by first | exact Or.inl rfl | exact Or.inr (Or.inl rfl) | exact Or.inr (Or.inr rfl)) (by decide +kernel) (by decide +kernel)) (se_fld ⟨HD.1, HD.2⟩ (by first | exact Or.inl ⟨rfl, rfl⟩ | exact Or.inr ⟨rfl, rfl⟩) (fun _ => rfl) (se_var 0 rfl (by first | exact Or.inl rfl | exact Or.inr (Or.inl rfl) | exact Or.inr (Or.inr rfl)) (by decide +kernel) (by decide +kernel))) (se_tup (sa_cons (fun _ => rfl) (se_var 5 rfl (by first | exact Or.inl rfl | exact Or.inr (Or.inl rfl) | exact Or.inr (Or.inr rfl)) (by decide +kernel) (by decide +kernel)) (sa_cons (fun _ => rfl) (se_var 4 rfl (by first | exact Or.inl rfl | exact Or.inr (Or.inl rfl) | exact Or.inr (Or.inr rfl)) (by decide +kernel) (by decide +kernel)) sa_nil))))) sb_nil))))))))
theorem f_Drawing {G : Cg} {f : Addr} {fd : FuncData} (X : Fx G) {T : DrT G.K} {pc : Nat → Addr} {pf : Nat → List Str} (HD : HasG G T pc pf) (F_is_piece : FnP G 2 "is_piece" 1 p_is_piece) (F_overlap : FnP G 3 "overlap" 2 p_overlap) (F_common_point : FnP G 4 "common_point" 2 p_common_point) (E_InvalidDrawing : ErP G 2 "InvalidDrawing" 1 er_InvalidDrawing) (M : Mk G.K T.CD f) (F : Fun G.K "__init__" "Drawing.__init__" s_Drawing___init__ f fd) (b : Binds G.K fd ["self", "pieces"] []) (gm : G.mg "Drawing" = some (.ref T.CD)) : ClP G T 5 "Drawing" 1 p_Drawing := cl_mk (x := "Drawing") (s1 := ((defBody s_Drawing___init__).getD 0 (.Pass ⟨0, 0, 0, 0⟩))) (rest := ((defBody s_Drawing___init__).drop 2)) ⟨HD.1, HD.2⟩ M F sc_Drawing___init__ b gm rfl rfl (fun _ => rfl) (by first | exact Or.inl rfl | exact Or.inr (Or.inl rfl) | exact Or.inr (Or.inr rfl)) (by decide +kernel) (by decide +kernel) (fun x dx => b1_Drawing X.raw F_is_piece.raw F_overlap.raw E_InvalidDrawing.raw) (fun x dx => (se_var 1 rfl (by first | exact Or.inl rfl | exact Or.inr (Or.inl rfl) | exact Or.inr (Or.inr rfl)) (by decide +kernel) (by decide +kernel))) (b2_Drawing X HD F_is_piece F_overlap F_common_point E_InvalidDrawing)
theorem sc_Row_next_word : FnScope ["self", "is_right"] ["self", "is_right"] (defScope s_Row_next_word) := ⟨rfl, rfl, rfl, by decide +kernel, rfl, by decide +kernel, by decide +kernel⟩
theorem f_Row_next_word {G : Cg} {f : Addr} {fd : FuncData} (X : Fx G) {CA_Row : Addr} (PC_Row : PlC G.ct 2 CA_Row ns_Row)  (E_InvalidText : ErP G 2 "InvalidText" 2 er_InvalidText) (F : Fun G.K "next_word" "Row.next_word" s_Row_next_word f fd) (b : Binds G.K fd ["self", "is_right"] []) (mt : Meth G.K CA_Row "next_word" f) : NwP G CA_Row ns_Row 3 "next_word" 2 n1_Row_next_word n2_Row_next_word n3_Row_next_word n4_Row_next_word := ⟨⟨f, fd, "Row.next_word", "self", "is_right", s_Row_next_word, ["self", "is_right"], _, _, _, _, _, _, _, _, _, F, b, mt, sc_Row_next_word, rfl, (by first | exact Or.inl rfl | exact Or.inr (Or.inl rfl) | exact Or.inr (Or.inr rfl)), rfl, (st_cmp cmp_geP (se_fldM ⟨PC_Row.lm, PC_Row.cls, PC_Row.na, PC_Row.nd, PC_Row.len⟩ rfl (fun _ => rfl) (se_var 0 rfl (by first | exact Or.inl rfl | exact Or.inr (Or.inl rfl) | exact Or.inr (Or.inr rfl)) (by decide +kernel) (by decide +kernel))) (se_callB c_len rfl X.m_len boot_len (by decide +kernel) (by decide +kernel) (fun _ => rfl) (fun _ _ => rfl) (sa_cons (fun _ => rfl) (se_fldM ⟨PC_Row.lm, PC_Row.cls, PC_Row.na, PC_Row.nd, PC_Row.len⟩ rfl (fun _ => rfl) (se_var 0 rfl (by first | exact Or.inl rfl | exact Or.inr (Or.inl rfl) | exact Or.inr (Or.inr rfl)) (by decide +kernel) (by decide +kernel))) sa_nil)) (nomark _)), (se_ix ix_P2 (se_fldM ⟨PC_Row.lm, PC_Row.cls, PC_Row.na, PC_Row.nd, PC_Row.len⟩ rfl (fun _ => rfl) (se_var 0 rfl (by first | exact Or.inl rfl | exact Or.inr (Or.inl rfl) | exact Or.inr (Or.inr rfl)) (by decide +kernel) (by decide +kernel))) (se_fldM ⟨PC_Row.lm, PC_Row.cls, PC_Row.na, PC_Row.nd, PC_Row.len⟩ rfl (fun _ => rfl) (se_var 0 rfl (by first | exact Or.inl rfl | exact Or.inr (Or.inl rfl) | exact Or.inr (Or.inr rfl)) (by decide +kernel) (by decide +kernel))) (fun _ _ => rfl)), (sb_one (ss_raise E_InvalidText rfl rfl (Nat.le_of_ble_eq_true rfl) rfl (fun _ => rfl) (fun _ _ => rfl) (sa_cons (fun _ => rfl) (se_fldM ⟨PC_Row.lm, PC_Row.cls, PC_Row.na, PC_Row.nd, PC_Row.len⟩ rfl (fun _ => rfl) (se_var 0 rfl (by first | exact Or.inl rfl | exact Or.inr (Or.inl rfl) | exact Or.inr (Or.inr rfl)) (by decide +kernel) (by decide +kernel))) (sa_cons (fun _ => rfl) (se_fldM ⟨PC_Row.lm, PC_Row.cls, PC_Row.na, PC_Row.nd, PC_Row.len⟩ rfl (fun _ => rfl) (se_var 0 rfl (by first | exact Or.inl rfl | exact Or.inr (Or.inl rfl) | exact Or.inr (Or.inr rfl)) (by decide +kernel) (by decide +kernel))) sa_nil)))), (sb_cons (ss_augM ⟨PC_Row.lm, PC_Row.cls, PC_Row.na, PC_Row.nd, PC_Row.len⟩ rfl (se_var 0 rfl (by first | exact Or.inl rfl | exact Or.inr (Or.inl rfl) | exact Or.inr (Or.inr rfl)) (by decide +kernel) (by decide +kernel)) (se_int)) (sb_one (ss_ret (se_ix ix_P2 (se_fldM ⟨PC_Row.lm, PC_Row.cls, PC_Row.na, PC_Row.nd, PC_Row.len⟩ rfl (fun _ => rfl) (se_var 0 rfl (by first | exact Or.inl rfl | exact Or.inr (Or.inl rfl) | exact Or.inr (Or.inr rfl)) (by decide +kernel) (by decide +kernel))) (se_op op_subP (se_fldM ⟨PC_Row.lm, PC_Row.cls, PC_Row.na, PC_Row.nd, PC_Row.len⟩ rfl (fun _ => rfl) (se_var 0 rfl (by first | exact Or.inl rfl | exact Or.inr (Or.inl rfl) | exact Or.inr (Or.inr rfl)) (by decide +kernel) (by decide +kernel))) (se_int)) (fun _ _ => rfl))))), (fun _ => rfl), (fun _ _ => rfl), (by decide +kernel), (by decide +kernel), rfl⟩, by decide +kernel⟩
theorem sc_is_small : FnScope ["word", "sign"] ["word"] (defScope s_is_small) := ⟨rfl, rfl, rfl, by decide +kernel, rfl, by decide +kernel, by decide +kernel⟩
theorem b_is_small {G : Cg} (X : Fx G)  : SB (G.at ["word", "sign"] (defScope s_is_small) 0) (defBody s_is_small) d_is_small := (sb_cons (ss_if (st_w (sw_or (st_not (st_chain cmp_leP cmp_leP (se_int) (se_callB c_len rfl X.m_len boot_len (by decide +kernel) (by decide +kernel) (fun _ => rfl) (fun _ _ => rfl) (sa_cons (fun _ => rfl) (se_var 0 rfl (by first | exact Or.inl rfl | exact Or.inr (Or.inl rfl) | exact Or.inr (Or.inr rfl)) (by decide +kernel) (by decide +kernel)) sa_nil)) (se_globI rfl X.c_MOST_DIGITS (by decide +kernel)) (by with_unfolding_all rfl))) (sw_or1 (st_not (st_val (fun _ _ => rfl) (se_callB (c_all rfl) rfl X.m_all boot_all (by decide +kernel) (by decide +kernel) (fun _ => rfl) (fun _ _ => rfl) (sa_cons (fun _ => rfl) (se_frz (sf_lc (own := [("sign", 1)]) (ws := [1]) rfl sc_is_small.nd (fun _ _ => rfl) (blkOk_by (by kernel_rfl)) (by decide +kernel) (si_str (se_var 0 rfl (by first | exact Or.inl rfl | exact Or.inr (Or.inl rfl) | exact Or.inr (Or.inr rfl)) (by decide +kernel) (by decide +kernel))) (by first | exact sg_name sc_is_small.nd rfl rfl | exact sg_nameC sc_is_small.nd rfl rfl rfl) sif_nil (se_cmp cmp_inPs (se_var 1 rfl (by first | exact Or.inl rfl | exact Or.inr (Or.inl rfl) | exact Or.inr (Or.inr rfl)) (by decide +kernel) (by decide +kernel)) (se_globS rfl X.c_DIGITS (by decide +kernel)) rfl))) sa_nil))))))) (sb_one (ss_ret (se_bl))) sb_nil) (sb_one (ss_ret (se_or (se_cmp cmp_eqP (se_var 0 rfl (by first | exact Or.inl rfl | exact Or.inr (Or.inl rfl) | exact Or.inr (Or.inr rfl)) (by decide +kernel) (by decide +kernel)) (se_str) (nomark _)) (se_one (se_cmp cmp_neP (se_ix ix_P2 (se_var 0 rfl (by first | exact Or.inl rfl | exact Or.inr (Or.inl rfl) | exact Or.inr (Or.inr rfl)) (by decide +kernel) (by decide +kernel)) (se_int) (fun _ _ => rfl)) (se_str) (nomark _)))))))
theorem f_is_small {G : Cg} {f : Addr} {fd : FuncData} (X : Fx G) (F : Fun G.K "is_small" "is_small" s_is_small f fd) (b : Binds G.K fd ["word"] []) (gm : G.mg "is_small" = some (.ref f))  : FnP G 1 "is_small" 1 p_is_small := fn_mk F sc_is_small b gm (b_is_small X )
theorem sc_Row_read_piece : FnScope ["self", "found", "turn"] ["self"] (defScope s_Row_read_piece) := ⟨rfl, rfl, rfl, by decide +kernel, rfl, by decide +kernel, by decide +kernel⟩
theorem b_Row_read_piece {G : Cg} (X : Fx G) {c P : Addr} (LD : LamG G c P ("Row.read_piece" ++ ".<locals>.") (0)) {CA_Row : Addr} (PC_Row : PlC G.ct 2 CA_Row ns_Row) (F_Row_next_word : NwP G CA_Row ns_Row 3 "next_word" 2 n1_Row_next_word n2_Row_next_word n3_Row_next_word n4_Row_next_word) (F_is_small : FnP G 1 "is_small" 1 p_is_small) (E_InvalidText : ErP G 2 "InvalidText" 2 er_InvalidText) : SB ((G.at ["self", "found", "turn"] (defScope s_Row_read_piece) 6).tab (c, "Row.read_piece" ++ ".<locals>.")) (defBody s_Row_read_piece) d_Row_read_piece := (sb_cons (ss_expr (fun _ => rfl) (se_nwR 0 LD rfl rfl ⟨PC_Row.lm, PC_Row.cls, PC_Row.na, PC_Row.nd, PC_Row.len⟩ ⟨F_Row_next_word.ex, F_Row_next_word.no⟩ (Nat.le_of_ble_eq_true rfl) ⟨lamS1_by (by kernel_rfl), (show ("word" : Str) ∉ (["self", "found", "turn"] : List Str) from by decide +kernel), fun _ _ _ _ _ _ => rfl, fun _ => rfl, (se_and (se_cmp cmp_eqP (se_var 3 rfl (by first | exact Or.inl rfl | exact Or.inr (Or.inl rfl) | exact Or.inr (Or.inr rfl)) (by decide +kernel) (by decide +kernel)) (se_globS rfl X.c_PIECE (by decide +kernel)) (nomark _)) (se_one (se_cmp cmp_ltP (se_fldM ⟨PC_Row.lm, PC_Row.cls, PC_Row.na, PC_Row.nd, PC_Row.len⟩ rfl (fun _ => rfl) (se_var 0 rfl (by first | exact Or.inl rfl | exact Or.inr (Or.inl rfl) | exact Or.inr (Or.inr rfl)) (by decide +kernel) (by decide +kernel))) (se_globI rfl X.c_MAX_PIECES (by decide +kernel)) (nomark _))))⟩ (fun _ => rfl) (fun _ => rfl) (se_var 0 rfl (by first | exact Or.inl rfl | exact Or.inr (Or.inl rfl) | exact Or.inr (Or.inr rfl)) (by decide +kernel) (by decide +kernel)))) (sb_cons ((by first | exact ss_setLcX t2_frz (own := [("turn", 2)]) (ws := [2]) rfl sc_Row_read_piece.nd rfl rfl (by intro env h; cases env; cases h; rfl) (fun _ _ => rfl) (blkOk_by (by kernel_rfl)) (by decide +kernel) (si_r1 (fun _ => rfl) rfl X.m_range (se_globI rfl X.c_PARTS (by decide +kernel))) (by first | exact sg_name sc_Row_read_piece.nd rfl rfl | exact sg_nameC sc_Row_read_piece.nd rfl rfl rfl) sif_nil (se_callT c_intS rfl X.m_int boot_int (by decide +kernel) (by decide +kernel) (fun _ => rfl) (fun _ _ => rfl) (sa_cons (fun _ => rfl) (se_nwR 0 LD rfl rfl ⟨PC_Row.lm, PC_Row.cls, PC_Row.na, PC_Row.nd, PC_Row.len⟩ ⟨F_Row_next_word.ex, F_Row_next_word.no⟩ (Nat.le_of_ble_eq_true rfl) ⟨lamS1_by (by kernel_rfl), (show ("word" : Str) ∉ (["self", "found", "turn"] : List Str) from by decide +kernel), fun _ _ _ _ _ _ => rfl, fun _ => rfl, (se_and (se_call F_is_small (Nat.le_of_ble_eq_true rfl) rfl rfl (by decide +kernel) (fun _ => rfl) (fun _ _ => rfl) (sa_cons (fun _ => rfl) (se_var 3 rfl (by first | exact Or.inl rfl | exact Or.inr (Or.inl rfl) | exact Or.inr (Or.inr rfl)) (by decide +kernel) (by decide +kernel)) sa_nil)) (se_one (se_cmp cmp_leP (se_callT c_intS rfl X.m_int boot_int (by decide +kernel) (by decide +kernel) (fun _ => rfl) (fun _ _ => rfl) (sa_cons (fun _ => rfl) (se_var 3 rfl (by first | exact Or.inl rfl | exact Or.inr (Or.inl rfl) | exact Or.inr (Or.inr rfl)) (by decide +kernel) (by decide +kernel)) sa_nil)) (se_globI rfl X.c_FAR (by decide +kernel)) (nomark _))))⟩ (fun _ => rfl) (fun _ => rfl) (se_var 0 rfl (by first | exact Or.inl rfl | exact Or.inr (Or.inl rfl) | exact Or.inr (Or.inr rfl)) (by decide +kernel) (by decide +kernel))) sa_nil)) | exact ss_set sc_Row_read_piece.nd rfl rfl (fun _ => rfl) (se_frz (sf_lcX (own := [("turn", 2)]) (ws := [2]) rfl rfl sc_Row_read_piece.nd (fun _ _ => rfl) (blkOk_by (by kernel_rfl)) (by decide +kernel) (si_r1 (fun _ => rfl) rfl X.m_range (se_globI rfl X.c_PARTS (by decide +kernel))) (by first | exact sg_name sc_Row_read_piece.nd rfl rfl | exact sg_nameC sc_Row_read_piece.nd rfl rfl rfl) sif_nil (se_callT c_intS rfl X.m_int boot_int (by decide +kernel) (by decide +kernel) (fun _ => rfl) (fun _ _ => rfl) (sa_cons (fun _ => rfl) (se_nwR 0 LD rfl rfl ⟨PC_Row.lm, PC_Row.cls, PC_Row.na, PC_Row.nd, PC_Row.len⟩ ⟨F_Row_next_word.ex, F_Row_next_word.no⟩ (Nat.le_of_ble_eq_true rfl) ⟨lamS1_by (by kernel_rfl), (show ("word" : Str) ∉ (["self", "found", "turn"] : List Str) from by decide +kernel), fun _ _ _ _ _ _ => rfl, fun _ => rfl, (se_and (se_call F_is_small (Nat.le_of_ble_eq_true rfl) rfl rfl (by decide +kernel) (fun _ => rfl) (fun _ _ => rfl) (sa_cons (fun _ => rfl) (se_var 3 rfl (by first | exact Or.inl rfl | exact Or.inr (Or.inl rfl) | exact Or.inr (Or.inr rfl)) (by decide +kernel) (by decide +kernel)) sa_nil)) (se_one (se_cmp cmp_leP (se_callT c_intS rfl X.m_int boot_int (by decide +kernel) (by decide +kernel) (fun _ => rfl) (fun _ _ => rfl) (sa_cons (fun _ => rfl) (se_var 3 rfl (by first | exact Or.inl rfl | exact Or.inr (Or.inl rfl) | exact Or.inr (Or.inr rfl)) (by decide +kernel) (by decide +kernel)) sa_nil)) (se_globI rfl X.c_FAR (by decide +kernel)) (nomark _))))⟩ (fun _ => rfl) (fun _ => rfl) (se_var 0 rfl (by first | exact Or.inl rfl | exact Or.inr (Or.inl rfl) | exact Or.inr (Or.inr rfl)) (by decide +kernel) (by decide +kernel))) sa_nil)))) | exact ss_setCs sc_Row_read_piece.nd rfl rfl rfl (by intro env h; cases env; cases h; rfl) (se_frz (sf_lcX (own := [("turn", 2)]) (ws := [2]) rfl rfl sc_Row_read_piece.nd (fun _ _ => rfl) (blkOk_by (by kernel_rfl)) (by decide +kernel) (si_r1 (fun _ => rfl) rfl X.m_range (se_globI rfl X.c_PARTS (by decide +kernel))) (by first | exact sg_name sc_Row_read_piece.nd rfl rfl | exact sg_nameC sc_Row_read_piece.nd rfl rfl rfl) sif_nil (se_callT c_intS rfl X.m_int boot_int (by decide +kernel) (by decide +kernel) (fun _ => rfl) (fun _ _ => rfl) (sa_cons (fun _ => rfl) (se_nwR 0 LD rfl rfl ⟨PC_Row.lm, PC_Row.cls, PC_Row.na, PC_Row.nd, PC_Row.len⟩ ⟨F_Row_next_word.ex, F_Row_next_word.no⟩ (Nat.le_of_ble_eq_true rfl) ⟨lamS1_by (by kernel_rfl), (show ("word" : Str) ∉ (["self", "found", "turn"] : List Str) from by decide +kernel), fun _ _ _ _ _ _ => rfl, fun _ => rfl, (se_and (se_call F_is_small (Nat.le_of_ble_eq_true rfl) rfl rfl (by decide +kernel) (fun _ => rfl) (fun _ _ => rfl) (sa_cons (fun _ => rfl) (se_var 3 rfl (by first | exact Or.inl rfl | exact Or.inr (Or.inl rfl) | exact Or.inr (Or.inr rfl)) (by decide +kernel) (by decide +kernel)) sa_nil)) (se_one (se_cmp cmp_leP (se_callT c_intS rfl X.m_int boot_int (by decide +kernel) (by decide +kernel) (fun _ => rfl) (fun _ _ => rfl) (sa_cons (fun _ => rfl) (se_var 3 rfl (by first | exact Or.inl rfl | exact Or.inr (Or.inl rfl) | exact Or.inr (Or.inr rfl)) (by decide +kernel) (by decide +kernel)) sa_nil)) (se_globI rfl X.c_FAR (by decide +kernel)) (nomark _))))⟩ (fun _ => rfl) (fun _ => rfl) (se_var 0 rfl (by first | exact Or.inl rfl | exact Or.inr (Or.inl rfl) | exact Or.inr (Or.inr rfl)) (by decide +kernel) (by decide +kernel))) sa_nil)))))) (sb_cons (ss_if (st_cmp cmp_ltP (se_fldM ⟨PC_Row.lm, PC_Row.cls, PC_Row.na, PC_Row.nd, PC_Row.len⟩ rfl (fun _ => rfl) (se_var 0 rfl (by first | exact Or.inl rfl | exact Or.inr (Or.inl rfl) | exact Or.inr (Or.inr rfl)) (by decide +kernel) (by decide +kernel))) (se_callB c_len rfl X.m_len boot_len (by decide +kernel) (by decide +kernel) (fun _ => rfl) (fun _ _ => rfl) (sa_cons (fun _ => rfl) (se_fldM ⟨PC_Row.lm, PC_Row.cls, PC_Row.na, PC_Row.nd, PC_Row.len⟩ rfl (fun _ => rfl) (se_var 0 rfl (by first | exact Or.inl rfl | exact Or.inr (Or.inl rfl) | exact Or.inr (Or.inr rfl)) (by decide +kernel) (by decide +kernel))) sa_nil)) (nomark _)) (sb_one (ss_raise E_InvalidText rfl rfl (Nat.le_of_ble_eq_true rfl) rfl (fun _ => rfl) (fun _ _ => rfl) (sa_cons (fun _ => rfl) (se_fldM ⟨PC_Row.lm, PC_Row.cls, PC_Row.na, PC_Row.nd, PC_Row.len⟩ rfl (fun _ => rfl) (se_var 0 rfl (by first | exact Or.inl rfl | exact Or.inr (Or.inl rfl) | exact Or.inr (Or.inr rfl)) (by decide +kernel) (by decide +kernel))) (sa_cons (fun _ => rfl) (se_fldM ⟨PC_Row.lm, PC_Row.cls, PC_Row.na, PC_Row.nd, PC_Row.len⟩ rfl (fun _ => rfl) (se_var 0 rfl (by first | exact Or.inl rfl | exact Or.inr (Or.inl rfl) | exact Or.inr (Or.inr rfl)) (by decide +kernel) (by decide +kernel))) sa_nil)))) sb_nil) (sb_one (ss_ret (se_callT c_tuple rfl X.m_tuple boot_tuple (by decide +kernel) (by decide +kernel) (fun _ => rfl) (fun _ _ => rfl) (sa_cons (fun _ => rfl) (se_var 1 rfl (by first | exact Or.inl rfl | exact Or.inr (Or.inl rfl) | exact Or.inr (Or.inr rfl)) (by decide +kernel) (by decide +kernel)) sa_nil)))))))
theorem f_Row_read_piece {G : Cg} {f : Addr} {fd : FuncData} (X : Fx G) {c P : Addr} (LD : LamG G c P ("Row.read_piece" ++ ".<locals>.") (0)) {CA_Row : Addr} (PC_Row : PlC G.ct 2 CA_Row ns_Row) (F_Row_next_word : NwP G CA_Row ns_Row 3 "next_word" 2 n1_Row_next_word n2_Row_next_word n3_Row_next_word n4_Row_next_word) (F_is_small : FnP G 1 "is_small" 1 p_is_small) (E_InvalidText : ErP G 2 "InvalidText" 2 er_InvalidText) (F : Fun G.K "read_piece" "Row.read_piece" s_Row_read_piece f fd) (b : Binds G.K fd ["self"] []) (mt : Meth G.K CA_Row "read_piece" f) (hcd : fd.code = .ref c) : MnI G.ct CA_Row ns_Row 7 "read_piece" 1 p_Row_read_piece := mni_mkT F hcd sc_Row_read_piece b mt (by decide +kernel) (b_Row_read_piece X LD PC_Row F_Row_next_word F_is_small E_InvalidText)
theorem sc_Row___init__ : FnScope ["self", "number", "text"] ["self", "number", "text"] (defScope s_Row___init__) := ⟨rfl, rfl, rfl, by decide +kernel, rfl, by decide +kernel, by decide +kernel⟩
theorem b_Row___init__ {G : Cg} (X : Fx G) {CA_Row : Addr} (PC_Row : PlC G.ct 2 CA_Row ns_Row)  : SB (G.at ["self", "number", "text"] (defScope s_Row___init__) 0) (defBody s_Row___init__) d_Row___init__ := (sb_cons (ss_fldM ⟨PC_Row.lm, PC_Row.cls, PC_Row.na, PC_Row.nd, PC_Row.len⟩ rfl (fun _ => rfl) (se_var 1 rfl (by first | exact Or.inl rfl | exact Or.inr (Or.inl rfl) | exact Or.inr (Or.inr rfl)) (by decide +kernel) (by decide +kernel)) (se_var 0 rfl (by first | exact Or.inl rfl | exact Or.inr (Or.inl rfl) | exact Or.inr (Or.inr rfl)) (by decide +kernel) (by decide +kernel))) (sb_cons (ss_fldM ⟨PC_Row.lm, PC_Row.cls, PC_Row.na, PC_Row.nd, PC_Row.len⟩ rfl (fun _ => rfl) (se_frz (sf_split (fun _ => rfl) (fun _ => rfl) rfl (se_var 2 rfl (by first | exact Or.inl rfl | exact Or.inr (Or.inl rfl) | exact Or.inr (Or.inr rfl)) (by decide +kernel) (by decide +kernel)) (se_str))) (se_var 0 rfl (by first | exact Or.inl rfl | exact Or.inr (Or.inl rfl) | exact Or.inr (Or.inr rfl)) (by decide +kernel) (by decide +kernel))) (sb_one (ss_fldM ⟨PC_Row.lm, PC_Row.cls, PC_Row.na, PC_Row.nd, PC_Row.len⟩ rfl (fun _ => rfl) (se_int) (se_var 0 rfl (by first | exact Or.inl rfl | exact Or.inr (Or.inl rfl) | exact Or.inr (Or.inr rfl)) (by decide +kernel) (by decide +kernel))))))
theorem f_Row___init__ {G : Cg} {f : Addr} {fd : FuncData} (X : Fx G) {CA_Row : Addr} (PC_Row : PlC G.ct 2 CA_Row ns_Row)  (F : Fun G.K "__init__" "Row.__init__" s_Row___init__ f fd) (b : Binds G.K fd ["self", "number", "text"] []) (M : L2.Mk G.K CA_Row f) (gm : G.mg "Row" = some (.ref CA_Row)) : MkI G.ct CA_Row 1 "Row" 2 p_Row___init__ := mki_mk F sc_Row___init__ b rfl M gm (b_Row___init__ X PC_Row )
theorem sc_parse_drawing : FnScope ["text", "lines", "number", "line"] ["text"] (defScope s_parse_drawing) := ⟨rfl, rfl, rfl, by decide +kernel, rfl, by decide +kernel, by decide +kernel⟩
theorem b_parse_drawing {G : Cg} (X : Fx G) {T : DrT G.K} {pc : Nat → Addr} {pf : Nat → List Str} (HD : HasG G T pc pf) {CA_Row : Addr} (PC_Row : PlC G.ct 2 CA_Row ns_Row) (F_Row___init__ : MkI G.ct CA_Row 1 "Row" 2 p_Row___init__) (F_Row_read_piece : MnI G.ct CA_Row ns_Row 7 "read_piece" 1 p_Row_read_piece) (F_Drawing___init__ : ClP G T 5 "Drawing" 1 p_Drawing) : SB (G.at ["text", "lines", "number", "line"] (defScope s_parse_drawing) 7) (defBody s_parse_drawing) d_parse_drawing := (sb_cons ((by first | exact ss_set sc_parse_drawing.nd rfl rfl (fun _ => rfl) (se_if (st_cmp cmp_neP (se_var 0 rfl (by first | exact Or.inl rfl | exact Or.inr (Or.inl rfl) | exact Or.inr (Or.inr rfl)) (by decide +kernel) (by decide +kernel)) (se_str) (nomark _)) (se_frz (sf_split (fun _ => rfl) (fun _ => rfl) rfl (se_var 0 rfl (by first | exact Or.inl rfl | exact Or.inr (Or.inl rfl) | exact Or.inr (Or.inr rfl)) (by decide +kernel) (by decide +kernel)) (se_str))) (se_frz (sf_lst sa_nil))) | exact ss_setC sc_parse_drawing.nd rfl rfl rfl (fun _ => rfl) (se_if (st_cmp cmp_neP (se_var 0 rfl (by first | exact Or.inl rfl | exact Or.inr (Or.inl rfl) | exact Or.inr (Or.inr rfl)) (by decide +kernel) (by decide +kernel)) (se_str) (nomark _)) (se_frz (sf_split (fun _ => rfl) (fun _ => rfl) rfl (se_var 0 rfl (by first | exact Or.inl rfl | exact Or.inr (Or.inl rfl) | exact Or.inr (Or.inr rfl)) (by decide +kernel) (by decide +kernel)) (se_str))) (se_frz (sf_lst sa_nil))))) (sb_one (ss_ret (se_make F_Drawing___init__ (Nat.le_of_ble_eq_true rfl) rfl rfl (by decide +kernel) (fun _ => rfl) (fun _ _ => rfl) (sa_cons (fun _ => rfl) (se_callT c_tuple rfl X.m_tuple boot_tuple (by decide +kernel) (by decide +kernel) (fun _ => rfl) (fun _ _ => rfl) (sa_cons (fun _ => rfl) (se_frz (sf_lcX (own := [("number", 2), ("line", 3)]) (ws := ([2] ++ ([3] ++ []))) rfl rfl sc_parse_drawing.nd (fun _ _ => rfl) (blkOk_by (by kernel_rfl)) (by decide +kernel) (si_enum (fun _ => rfl) rfl X.m_enumerate (se_var 1 rfl (by first | exact Or.inl rfl | exact Or.inr (Or.inl rfl) | exact Or.inr (Or.inr rfl)) (by decide +kernel) (by decide +kernel))) (sg_tup rfl (fun _ => rfl) (fun _ => rfl) (sgs_cons (fun _ => rfl) (by first | exact sg_name sc_parse_drawing.nd rfl rfl | exact sg_nameC sc_parse_drawing.nd rfl rfl rfl) (sgs_cons (fun _ => rfl) (by first | exact sg_name sc_parse_drawing.nd rfl rfl | exact sg_nameC sc_parse_drawing.nd rfl rfl rfl) sgs_nil))) sif_nil (se_methI0 ⟨PC_Row.lm, PC_Row.cls, PC_Row.na, PC_Row.nd, PC_Row.len⟩ ⟨F_Row_read_piece.ex, F_Row_read_piece.no⟩ (Nat.le_of_ble_eq_true rfl) rfl (fun _ => rfl) (se_makeI ⟨PC_Row.lm, PC_Row.cls, PC_Row.na, PC_Row.nd, PC_Row.len⟩ ⟨F_Row___init__.ex⟩ (Nat.le_of_ble_eq_true rfl) rfl rfl (by decide +kernel) (fun _ => rfl) (fun _ _ => rfl) (sa_cons (fun _ => rfl) (se_var 2 rfl (by first | exact Or.inl rfl | exact Or.inr (Or.inl rfl) | exact Or.inr (Or.inr rfl)) (by decide +kernel) (by decide +kernel)) (sa_cons (fun _ => rfl) (se_var 3 rfl (by first | exact Or.inl rfl | exact Or.inr (Or.inl rfl) | exact Or.inr (Or.inr rfl)) (by decide +kernel) (by decide +kernel)) sa_nil)))))) sa_nil)) sa_nil)))))
theorem f_parse_drawing {G : Cg} {f : Addr} {fd : FuncData} (X : Fx G) (F : Fun G.K "parse_drawing" "parse_drawing" s_parse_drawing f fd) (b : Binds G.K fd ["text"] []) (gm : G.mg "parse_drawing" = some (.ref f)) {T : DrT G.K} {pc : Nat → Addr} {pf : Nat → List Str} (HD : HasG G T pc pf) {CA_Row : Addr} (PC_Row : PlC G.ct 2 CA_Row ns_Row) (F_Row___init__ : MkI G.ct CA_Row 1 "Row" 2 p_Row___init__) (F_Row_read_piece : MnI G.ct CA_Row ns_Row 7 "read_piece" 1 p_Row_read_piece) (F_Drawing___init__ : ClP G T 5 "Drawing" 1 p_Drawing) : FnI G 8 "parse_drawing" 1 p_parse_drawing := fn_mkI F sc_parse_drawing b gm (b_parse_drawing X HD PC_Row F_Row___init__ F_Row_read_piece F_Drawing___init__)
theorem sc__law_place : FnScope ["_law_rows", "e"] ["_law_rows"] (defScope s__law_place) := ⟨rfl, rfl, rfl, by decide +kernel, rfl, by decide +kernel, by decide +kernel⟩
theorem b__law_place {G : Cg} (X : Fx G) (F_parse_drawing : FnI G 8 "parse_drawing" 1 p_parse_drawing) (T_InvalidDrawing : XcN G.ct "InvalidDrawing" xt_InvalidDrawing) (T_InvalidText : XcN G.ct "InvalidText" xt_InvalidText) (XF_index : XfF G.ct cs_index "index") (XF_row : XfF G.ct cs_row "row") (XF_word : XfF G.ct cs_word "word") : SB (G.at ["_law_rows", "e"] (defScope s__law_place) 8) (defBody s__law_place) d__law_place := (sb_cons (ss_try sc__law_place.nd (sb_one (ss_expr (fun _ => rfl) (se_callI F_parse_drawing (Nat.le_of_ble_eq_true rfl) rfl rfl (by decide +kernel) (fun _ => rfl) (fun _ _ => rfl) (sa_cons (fun _ => rfl) (se_ms1 ms_join PySem.F.slot_str_join PySem.F.type_str_join (fun _ => rfl) (fun _ => rfl) rfl (se_str) (se_var 0 rfl (by first | exact Or.inl rfl | exact Or.inr (Or.inl rfl) | exact Or.inr (Or.inr rfl)) (by decide +kernel) (by decide +kernel))) sa_nil)))) (shs_as rfl rfl ⟨T_InvalidText.c⟩ rfl (by decide +kernel) (sh_ret (Nat.le_of_ble_eq_true rfl) (sx_tup2 (fun _ => rfl) (fun _ => rfl) (sx_fld ⟨XF_row.at'⟩ rfl rfl (by decide +kernel) (by decide +kernel)) (sx_fld ⟨XF_word.at'⟩ rfl rfl (by decide +kernel) (by decide +kernel)))) (shs_as rfl rfl ⟨T_InvalidDrawing.c⟩ rfl (by decide +kernel) (sh_ret (Nat.le_of_ble_eq_true rfl) (sx_tup2 (fun _ => rfl) (fun _ => rfl) (sx_of (se_str)) (sx_fld ⟨XF_index.at'⟩ rfl rfl (by decide +kernel) (by decide +kernel)))) shs_nil))) (sb_one (ss_ret (se_non))))
theorem f__law_place {G : Cg} {f : Addr} {fd : FuncData} (X : Fx G) (F : Fun G.K "_law_place" "_law_place" s__law_place f fd) (b : Binds G.K fd ["_law_rows"] []) (gm : G.mg "_law_place" = some (.ref f)) (F_parse_drawing : FnI G 8 "parse_drawing" 1 p_parse_drawing) (T_InvalidDrawing : XcN G.ct "InvalidDrawing" xt_InvalidDrawing) (T_InvalidText : XcN G.ct "InvalidText" xt_InvalidText) (XF_index : XfF G.ct cs_index "index") (XF_row : XfF G.ct cs_row "row") (XF_word : XfF G.ct cs_word "word") : FnI G 9 "_law_place" 1 p__law_place := fn_mkI F sc__law_place b gm (b__law_place X F_parse_drawing T_InvalidDrawing T_InvalidText XF_index XF_row XF_word)
theorem sc__law_taken : FnScope ["_law_row", "_law_many", "_law_found", "_law_cell"] ["_law_row", "_law_many"] (defScope s__law_taken) := ⟨rfl, rfl, rfl, by decide +kernel, rfl, by decide +kernel, by decide +kernel⟩
theorem b__law_taken {G : Cg} (X : Fx G)  : SB (G.at ["_law_row", "_law_many", "_law_found", "_law_cell"] (defScope s__law_taken) 0) (defBody s__law_taken) d__law_taken := (sb_cons (ss_if (st_cmp cmp_gtP (se_ix ix_P2 (se_var 0 rfl (by first | exact Or.inl rfl | exact Or.inr (Or.inl rfl) | exact Or.inr (Or.inr rfl)) (by decide +kernel) (by decide +kernel)) (se_int) (fun _ _ => rfl)) (se_int) (nomark _)) (sb_cons ((by first | exact ss_set sc__law_taken.nd rfl rfl (fun _ => rfl) (se_op op_modP (se_callT c_int rfl X.m_int boot_int (by decide +kernel) (by decide +kernel) (fun _ => rfl) (fun _ _ => rfl) (sa_cons (fun _ => rfl) (se_ix ix_P2 (se_var 0 rfl (by first | exact Or.inl rfl | exact Or.inr (Or.inl rfl) | exact Or.inr (Or.inr rfl)) (by decide +kernel) (by decide +kernel)) (se_int) (fun _ _ => rfl)) sa_nil)) (se_var 1 rfl (by first | exact Or.inl rfl | exact Or.inr (Or.inl rfl) | exact Or.inr (Or.inr rfl)) (by decide +kernel) (by decide +kernel))) | exact ss_setC sc__law_taken.nd rfl rfl rfl (fun _ => rfl) (se_op op_modP (se_callT c_int rfl X.m_int boot_int (by decide +kernel) (by decide +kernel) (fun _ => rfl) (fun _ _ => rfl) (sa_cons (fun _ => rfl) (se_ix ix_P2 (se_var 0 rfl (by first | exact Or.inl rfl | exact Or.inr (Or.inl rfl) | exact Or.inr (Or.inr rfl)) (by decide +kernel) (by decide +kernel)) (se_int) (fun _ _ => rfl)) sa_nil)) (se_var 1 rfl (by first | exact Or.inl rfl | exact Or.inr (Or.inl rfl) | exact Or.inr (Or.inr rfl)) (by decide +kernel) (by decide +kernel))))) (sb_cons (ss_setIt (fun _ => rfl) (fun _ => rfl) (fun _ => rfl) (fun _ _ => rfl) (se_op op_divP (se_ix ix_P2 (se_var 0 rfl (by first | exact Or.inl rfl | exact Or.inr (Or.inl rfl) | exact Or.inr (Or.inr rfl)) (by decide +kernel) (by decide +kernel)) (se_int) (fun _ _ => rfl)) (se_var 1 rfl (by first | exact Or.inl rfl | exact Or.inr (Or.inl rfl) | exact Or.inr (Or.inr rfl)) (by decide +kernel) (by decide +kernel))) (se_var 0 rfl (by first | exact Or.inl rfl | exact Or.inr (Or.inl rfl) | exact Or.inr (Or.inr rfl)) (by decide +kernel) (by decide +kernel)) (se_int)) (sb_one (ss_ret (se_var 2 rfl (by first | exact Or.inl rfl | exact Or.inr (Or.inl rfl) | exact Or.inr (Or.inr rfl)) (by decide +kernel) (by decide +kernel)))))) sb_nil) (sb_cons (ss_setIt (fun _ => rfl) (fun _ => rfl) (fun _ => rfl) (fun _ _ => rfl) (se_op op_addP (se_ix ix_P2 (se_var 0 rfl (by first | exact Or.inl rfl | exact Or.inr (Or.inl rfl) | exact Or.inr (Or.inr rfl)) (by decide +kernel) (by decide +kernel)) (se_int) (fun _ _ => rfl)) (se_int)) (se_var 0 rfl (by first | exact Or.inl rfl | exact Or.inr (Or.inl rfl) | exact Or.inr (Or.inr rfl)) (by decide +kernel) (by decide +kernel)) (se_int)) (sb_cons (ss_if (st_cmp cmp_gtP (se_ix ix_P2 (se_var 0 rfl (by first | exact Or.inl rfl | exact Or.inr (Or.inl rfl) | exact Or.inr (Or.inr rfl)) (by decide +kernel) (by decide +kernel)) (se_int) (fun _ _ => rfl)) (se_callB c_len rfl X.m_len boot_len (by decide +kernel) (by decide +kernel) (fun _ => rfl) (fun _ _ => rfl) (sa_cons (fun _ => rfl) (se_ix ix_P2 (se_var 0 rfl (by first | exact Or.inl rfl | exact Or.inr (Or.inl rfl) | exact Or.inr (Or.inr rfl)) (by decide +kernel) (by decide +kernel)) (se_int) (fun _ _ => rfl)) sa_nil)) (nomark _)) (sb_cons (ss_setIt (fun _ => rfl) (fun _ => rfl) (fun _ => rfl) (fun _ _ => rfl) (se_op op_modP (se_callT c_int rfl X.m_int boot_int (by decide +kernel) (by decide +kernel) (fun _ => rfl) (fun _ _ => rfl) (sa_cons (fun _ => rfl) (se_op op_addP (se_op op_mulP (se_ix ix_P2 (se_var 0 rfl (by first | exact Or.inl rfl | exact Or.inr (Or.inl rfl) | exact Or.inr (Or.inr rfl)) (by decide +kernel) (by decide +kernel)) (se_int) (fun _ _ => rfl)) (se_int)) (se_int)) sa_nil)) (se_int)) (se_var 0 rfl (by first | exact Or.inl rfl | exact Or.inr (Or.inl rfl) | exact Or.inr (Or.inr rfl)) (by decide +kernel) (by decide +kernel)) (se_int)) (sb_one (ss_ret (se_op op_modP (se_callT c_int rfl X.m_int boot_int (by decide +kernel) (by decide +kernel) (fun _ => rfl) (fun _ _ => rfl) (sa_cons (fun _ => rfl) (se_op op_divP (se_ix ix_P2 (se_var 0 rfl (by first | exact Or.inl rfl | exact Or.inr (Or.inl rfl) | exact Or.inr (Or.inr rfl)) (by decide +kernel) (by decide +kernel)) (se_int) (fun _ _ => rfl)) (se_int)) sa_nil)) (se_var 1 rfl (by first | exact Or.inl rfl | exact Or.inr (Or.inl rfl) | exact Or.inr (Or.inr rfl)) (by decide +kernel) (by decide +kernel)))))) sb_nil) (sb_cons ((by first | exact ss_set sc__law_taken.nd rfl rfl (fun _ => rfl) (se_ix ix_P2 (se_ix ix_P2 (se_var 0 rfl (by first | exact Or.inl rfl | exact Or.inr (Or.inl rfl) | exact Or.inr (Or.inr rfl)) (by decide +kernel) (by decide +kernel)) (se_int) (fun _ _ => rfl)) (se_op op_subP (se_ix ix_P2 (se_var 0 rfl (by first | exact Or.inl rfl | exact Or.inr (Or.inl rfl) | exact Or.inr (Or.inr rfl)) (by decide +kernel) (by decide +kernel)) (se_int) (fun _ _ => rfl)) (se_int)) (fun _ _ => rfl)) | exact ss_setC sc__law_taken.nd rfl rfl rfl (fun _ => rfl) (se_ix ix_P2 (se_ix ix_P2 (se_var 0 rfl (by first | exact Or.inl rfl | exact Or.inr (Or.inl rfl) | exact Or.inr (Or.inr rfl)) (by decide +kernel) (by decide +kernel)) (se_int) (fun _ _ => rfl)) (se_op op_subP (se_ix ix_P2 (se_var 0 rfl (by first | exact Or.inl rfl | exact Or.inr (Or.inl rfl) | exact Or.inr (Or.inr rfl)) (by decide +kernel) (by decide +kernel)) (se_int) (fun _ _ => rfl)) (se_int)) (fun _ _ => rfl)))) (sb_cons (ss_setIt (fun _ => rfl) (fun _ => rfl) (fun _ => rfl) (fun _ _ => rfl) (se_op op_modP (se_callT c_int rfl X.m_int boot_int (by decide +kernel) (by decide +kernel) (fun _ => rfl) (fun _ _ => rfl) (sa_cons (fun _ => rfl) (se_op op_addP (se_op op_addP (se_op op_mulP (se_ix ix_P2 (se_var 0 rfl (by first | exact Or.inl rfl | exact Or.inr (Or.inl rfl) | exact Or.inr (Or.inr rfl)) (by decide +kernel) (by decide +kernel)) (se_int) (fun _ _ => rfl)) (se_int)) (se_var 3 rfl (by first | exact Or.inl rfl | exact Or.inr (Or.inl rfl) | exact Or.inr (Or.inr rfl)) (by decide +kernel) (by decide +kernel))) (se_int)) sa_nil)) (se_int)) (se_var 0 rfl (by first | exact Or.inl rfl | exact Or.inr (Or.inl rfl) | exact Or.inr (Or.inr rfl)) (by decide +kernel) (by decide +kernel)) (se_int)) (sb_cons (ss_if (st_cmp cmp_geP (se_var 3 rfl (by first | exact Or.inl rfl | exact Or.inr (Or.inl rfl) | exact Or.inr (Or.inr rfl)) (by decide +kernel) (by decide +kernel)) (se_op op_powP (se_int) (se_int)) (nomark _)) (sb_one (ss_setIt (fun _ => rfl) (fun _ => rfl) (fun _ => rfl) (fun _ _ => rfl) (se_op op_divP (se_var 3 rfl (by first | exact Or.inl rfl | exact Or.inr (Or.inl rfl) | exact Or.inr (Or.inr rfl)) (by decide +kernel) (by decide +kernel)) (se_var 1 rfl (by first | exact Or.inl rfl | exact Or.inr (Or.inl rfl) | exact Or.inr (Or.inr rfl)) (by decide +kernel) (by decide +kernel))) (se_var 0 rfl (by first | exact Or.inl rfl | exact Or.inr (Or.inl rfl) | exact Or.inr (Or.inr rfl)) (by decide +kernel) (by decide +kernel)) (se_int))) sb_nil) (sb_one (ss_ret (se_op op_modP (se_callT c_int rfl X.m_int boot_int (by decide +kernel) (by decide +kernel) (fun _ => rfl) (fun _ _ => rfl) (sa_cons (fun _ => rfl) (se_var 3 rfl (by first | exact Or.inl rfl | exact Or.inr (Or.inl rfl) | exact Or.inr (Or.inr rfl)) (by decide +kernel) (by decide +kernel)) sa_nil)) (se_var 1 rfl (by first | exact Or.inl rfl | exact Or.inr (Or.inl rfl) | exact Or.inr (Or.inr rfl)) (by decide +kernel) (by decide +kernel)))))))))))
theorem f__law_taken {G : Cg} {f : Addr} {fd : FuncData} (X : Fx G) (F : Fun G.K "_law_taken" "_law_taken" s__law_taken f fd) (b : Binds G.K fd ["_law_row", "_law_many"] []) (gm : G.mg "_law_taken" = some (.ref f))  : FnI G 1 "_law_taken" 2 p__law_taken := fn_mkI F sc__law_taken b gm (b__law_taken X )
theorem sc_law : FnScope ["_law_script", "_law_row", "_law_good", "_law_wrong", "_law_odd", "_law_turn", "_law_k", "_law_line", "_law_word", "_law_late", "_law_many", "_law_lines", "_law_j"] ["_law_script"] (defScope s_law) := ⟨rfl, rfl, rfl, by decide +kernel, rfl, by decide +kernel, by decide +kernel⟩
theorem b_law {G : Cg} (X : Fx G) (F__law_place : FnI G 9 "_law_place" 1 p__law_place) (F__law_taken : FnI G 1 "_law_taken" 2 p__law_taken) : SB (G.at ["_law_script", "_law_row", "_law_good", "_law_wrong", "_law_odd", "_law_turn", "_law_k", "_law_line", "_law_word", "_law_late", "_law_many", "_law_lines", "_law_j"] (defScope s_law) 9) (defBody s_law) d_law := (sb_cons ((by first | exact ss_set sc_law.nd rfl rfl (fun _ => rfl) (se_new (sf_lst (sa_cons (fun _ => rfl) (se_var 0 rfl (by first | exact Or.inl rfl | exact Or.inr (Or.inl rfl) | exact Or.inr (Or.inr rfl)) (by decide +kernel) (by decide +kernel)) (sa_cons (fun _ => rfl) (se_int) (sa_cons (fun _ => rfl) (se_int) (sa_cons (fun _ => rfl) (se_int) sa_nil)))))) | exact ss_setC sc_law.nd rfl rfl rfl (fun _ => rfl) (se_new (sf_lst (sa_cons (fun _ => rfl) (se_var 0 rfl (by first | exact Or.inl rfl | exact Or.inr (Or.inl rfl) | exact Or.inr (Or.inr rfl)) (by decide +kernel) (by decide +kernel)) (sa_cons (fun _ => rfl) (se_int) (sa_cons (fun _ => rfl) (se_int) (sa_cons (fun _ => rfl) (se_int) sa_nil)))))))) (sb_cons ((by first | exact ss_set sc_law.nd rfl rfl (fun _ => rfl) (se_frz (sf_lst (sa_cons (fun _ => rfl) (se_str) (sa_cons (fun _ => rfl) (se_str) (sa_cons (fun _ => rfl) (se_str) sa_nil))))) | exact ss_setC sc_law.nd rfl rfl rfl (fun _ => rfl) (se_frz (sf_lst (sa_cons (fun _ => rfl) (se_str) (sa_cons (fun _ => rfl) (se_str) (sa_cons (fun _ => rfl) (se_str) sa_nil))))))) (sb_cons (ss_if (st_cmp cmp_isnP (se_callI F__law_place (Nat.le_of_ble_eq_true rfl) rfl rfl (by decide +kernel) (fun _ => rfl) (fun _ _ => rfl) (sa_cons (fun _ => rfl) (se_var 2 rfl (by first | exact Or.inl rfl | exact Or.inr (Or.inl rfl) | exact Or.inr (Or.inr rfl)) (by decide +kernel) (by decide +kernel)) sa_nil)) (se_non) (nomark _)) (sb_one (ss_ret (se_bl))) sb_nil) (sb_cons ((by first | exact ss_set sc_law.nd rfl rfl (fun _ => rfl) (se_new (sf_lst (sa_cons (fun _ => rfl) (se_tup (sa_cons (fun _ => rfl) (se_str) (sa_cons (fun _ => rfl) (se_int) sa_nil))) (sa_cons (fun _ => rfl) (se_tup (sa_cons (fun _ => rfl) (se_str) (sa_cons (fun _ => rfl) (se_int) sa_nil))) (sa_cons (fun _ => rfl) (se_tup (sa_cons (fun _ => rfl) (se_str) (sa_cons (fun _ => rfl) (se_int) sa_nil))) (sa_cons (fun _ => rfl) (se_tup (sa_cons (fun _ => rfl) (se_str) (sa_cons (fun _ => rfl) (se_int) sa_nil))) (sa_cons (fun _ => rfl) (se_tup (sa_cons (fun _ => rfl) (se_str) (sa_cons (fun _ => rfl) (se_int) sa_nil))) (sa_cons (fun _ => rfl) (se_tup (sa_cons (fun _ => rfl) (se_str) (sa_cons (fun _ => rfl) (se_int) sa_nil))) sa_nil)))))))) | exact ss_setC sc_law.nd rfl rfl rfl (fun _ => rfl) (se_new (sf_lst (sa_cons (fun _ => rfl) (se_tup (sa_cons (fun _ => rfl) (se_str) (sa_cons (fun _ => rfl) (se_int) sa_nil))) (sa_cons (fun _ => rfl) (se_tup (sa_cons (fun _ => rfl) (se_str) (sa_cons (fun _ => rfl) (se_int) sa_nil))) (sa_cons (fun _ => rfl) (se_tup (sa_cons (fun _ => rfl) (se_str) (sa_cons (fun _ => rfl) (se_int) sa_nil))) (sa_cons (fun _ => rfl) (se_tup (sa_cons (fun _ => rfl) (se_str) (sa_cons (fun _ => rfl) (se_int) sa_nil))) (sa_cons (fun _ => rfl) (se_tup (sa_cons (fun _ => rfl) (se_str) (sa_cons (fun _ => rfl) (se_int) sa_nil))) (sa_cons (fun _ => rfl) (se_tup (sa_cons (fun _ => rfl) (se_str) (sa_cons (fun _ => rfl) (se_int) sa_nil))) sa_nil)))))))))) (sb_cons ((by first | exact ss_set sc_law.nd rfl rfl (fun _ => rfl) (se_new (sf_catL (se_var 3 rfl (by first | exact Or.inl rfl | exact Or.inr (Or.inl rfl) | exact Or.inr (Or.inr rfl)) (by decide +kernel) (by decide +kernel)) (se_frz (sf_lst (sa_cons (fun _ => rfl) (se_tup (sa_cons (fun _ => rfl) (se_str) (sa_cons (fun _ => rfl) (se_int) sa_nil))) (sa_cons (fun _ => rfl) (se_tup (sa_cons (fun _ => rfl) (se_str) (sa_cons (fun _ => rfl) (se_int) sa_nil))) (sa_cons (fun _ => rfl) (se_tup (sa_cons (fun _ => rfl) (se_str) (sa_cons (fun _ => rfl) (se_int) sa_nil))) (sa_cons (fun _ => rfl) (se_tup (sa_cons (fun _ => rfl) (se_str) (sa_cons (fun _ => rfl) (se_int) sa_nil))) sa_nil)))))))) | exact ss_setC sc_law.nd rfl rfl rfl (fun _ => rfl) (se_new (sf_catL (se_var 3 rfl (by first | exact Or.inl rfl | exact Or.inr (Or.inl rfl) | exact Or.inr (Or.inr rfl)) (by decide +kernel) (by decide +kernel)) (se_frz (sf_lst (sa_cons (fun _ => rfl) (se_tup (sa_cons (fun _ => rfl) (se_str) (sa_cons (fun _ => rfl) (se_int) sa_nil))) (sa_cons (fun _ => rfl) (se_tup (sa_cons (fun _ => rfl) (se_str) (sa_cons (fun _ => rfl) (se_int) sa_nil))) (sa_cons (fun _ => rfl) (se_tup (sa_cons (fun _ => rfl) (se_str) (sa_cons (fun _ => rfl) (se_int) sa_nil))) (sa_cons (fun _ => rfl) (se_tup (sa_cons (fun _ => rfl) (se_str) (sa_cons (fun _ => rfl) (se_int) sa_nil))) sa_nil)))))))))) (sb_cons ((by first | exact ss_set sc_law.nd rfl rfl (fun _ => rfl) (se_new (sf_catL (se_var 3 rfl (by first | exact Or.inl rfl | exact Or.inr (Or.inl rfl) | exact Or.inr (Or.inr rfl)) (by decide +kernel) (by decide +kernel)) (se_frz (sf_lst (sa_cons (fun _ => rfl) (se_tup (sa_cons (fun _ => rfl) (se_str) (sa_cons (fun _ => rfl) (se_int) sa_nil))) (sa_cons (fun _ => rfl) (se_tup (sa_cons (fun _ => rfl) (se_str) (sa_cons (fun _ => rfl) (se_int) sa_nil))) (sa_cons (fun _ => rfl) (se_tup (sa_cons (fun _ => rfl) (se_str) (sa_cons (fun _ => rfl) (se_int) sa_nil))) (sa_cons (fun _ => rfl) (se_tup (sa_cons (fun _ => rfl) (se_str) (sa_cons (fun _ => rfl) (se_int) sa_nil))) sa_nil)))))))) | exact ss_setC sc_law.nd rfl rfl rfl (fun _ => rfl) (se_new (sf_catL (se_var 3 rfl (by first | exact Or.inl rfl | exact Or.inr (Or.inl rfl) | exact Or.inr (Or.inr rfl)) (by decide +kernel) (by decide +kernel)) (se_frz (sf_lst (sa_cons (fun _ => rfl) (se_tup (sa_cons (fun _ => rfl) (se_str) (sa_cons (fun _ => rfl) (se_int) sa_nil))) (sa_cons (fun _ => rfl) (se_tup (sa_cons (fun _ => rfl) (se_str) (sa_cons (fun _ => rfl) (se_int) sa_nil))) (sa_cons (fun _ => rfl) (se_tup (sa_cons (fun _ => rfl) (se_str) (sa_cons (fun _ => rfl) (se_int) sa_nil))) (sa_cons (fun _ => rfl) (se_tup (sa_cons (fun _ => rfl) (se_str) (sa_cons (fun _ => rfl) (se_int) sa_nil))) sa_nil)))))))))) (sb_cons (ss_expr (fun _ => rfl) (se_append (fun _ => rfl) (fun _ => rfl) (fun _ => rfl) rfl (se_var 3 rfl (by first | exact Or.inl rfl | exact Or.inr (Or.inl rfl) | exact Or.inr (Or.inr rfl)) (by decide +kernel) (by decide +kernel)) (se_tup (sa_cons (fun _ => rfl) (se_str) (sa_cons (fun _ => rfl) (se_int) sa_nil))))) (sb_cons ((by first | exact ss_set sc_law.nd rfl rfl (fun _ => rfl) (se_frz (sf_lst (sa_cons (fun _ => rfl) (se_tup (sa_cons (fun _ => rfl) (se_str) (sa_cons (fun _ => rfl) (se_int) sa_nil))) (sa_cons (fun _ => rfl) (se_tup (sa_cons (fun _ => rfl) (se_str) (sa_cons (fun _ => rfl) (se_int) sa_nil))) (sa_cons (fun _ => rfl) (se_tup (sa_cons (fun _ => rfl) (se_str) (sa_cons (fun _ => rfl) (se_int) sa_nil))) (sa_cons (fun _ => rfl) (se_tup (sa_cons (fun _ => rfl) (se_str) (sa_cons (fun _ => rfl) (se_int) sa_nil))) sa_nil)))))) | exact ss_setC sc_law.nd rfl rfl rfl (fun _ => rfl) (se_frz (sf_lst (sa_cons (fun _ => rfl) (se_tup (sa_cons (fun _ => rfl) (se_str) (sa_cons (fun _ => rfl) (se_int) sa_nil))) (sa_cons (fun _ => rfl) (se_tup (sa_cons (fun _ => rfl) (se_str) (sa_cons (fun _ => rfl) (se_int) sa_nil))) (sa_cons (fun _ => rfl) (se_tup (sa_cons (fun _ => rfl) (se_str) (sa_cons (fun _ => rfl) (se_int) sa_nil))) (sa_cons (fun _ => rfl) (se_tup (sa_cons (fun _ => rfl) (se_str) (sa_cons (fun _ => rfl) (se_int) sa_nil))) sa_nil)))))))) (sb_cons (ss_for rfl (fun _ _ => rfl) (si_r1 (fun _ => rfl) rfl X.m_range (se_int)) (by first | exact sg_name sc_law.nd rfl rfl | exact sg_nameC sc_law.nd rfl rfl rfl) (sb_cons ((by first | exact ss_set sc_law.nd rfl rfl (fun _ => rfl) (se_callI F__law_taken (Nat.le_of_ble_eq_true rfl) rfl rfl (by decide +kernel) (fun _ => rfl) (fun _ _ => rfl) (sa_cons (fun _ => rfl) (se_var 1 rfl (by first | exact Or.inl rfl | exact Or.inr (Or.inl rfl) | exact Or.inr (Or.inr rfl)) (by decide +kernel) (by decide +kernel)) (sa_cons (fun _ => rfl) (se_int) sa_nil))) | exact ss_setC sc_law.nd rfl rfl rfl (fun _ => rfl) (se_callI F__law_taken (Nat.le_of_ble_eq_true rfl) rfl rfl (by decide +kernel) (fun _ => rfl) (fun _ _ => rfl) (sa_cons (fun _ => rfl) (se_var 1 rfl (by first | exact Or.inl rfl | exact Or.inr (Or.inl rfl) | exact Or.inr (Or.inr rfl)) (by decide +kernel) (by decide +kernel)) (sa_cons (fun _ => rfl) (se_int) sa_nil))))) (sb_cons (ss_asg (by intro env h; cases env; cases h; rfl) (by intro env h; cases env; cases h; rfl) (fun _ => rfl) (se_ix ix_P2 (se_var 3 rfl (by first | exact Or.inl rfl | exact Or.inr (Or.inl rfl) | exact Or.inr (Or.inr rfl)) (by decide +kernel) (by decide +kernel)) (se_callI F__law_taken (Nat.le_of_ble_eq_true rfl) rfl rfl (by decide +kernel) (fun _ => rfl) (fun _ _ => rfl) (sa_cons (fun _ => rfl) (se_var 1 rfl (by first | exact Or.inl rfl | exact Or.inr (Or.inl rfl) | exact Or.inr (Or.inr rfl)) (by decide +kernel) (by decide +kernel)) (sa_cons (fun _ => rfl) (se_callB c_len rfl X.m_len boot_len (by decide +kernel) (by decide +kernel) (fun _ => rfl) (fun _ _ => rfl) (sa_cons (fun _ => rfl) (se_var 3 rfl (by first | exact Or.inl rfl | exact Or.inr (Or.inl rfl) | exact Or.inr (Or.inr rfl)) (by decide +kernel) (by decide +kernel)) sa_nil)) sa_nil))) (fun _ _ => rfl)) (sg_tup rfl (fun _ => rfl) (fun _ => rfl) (sgs_cons (fun _ => rfl) (by first | exact sg_name sc_law.nd rfl rfl | exact sg_nameC sc_law.nd rfl rfl rfl) (sgs_cons (fun _ => rfl) (by first | exact sg_name sc_law.nd rfl rfl | exact sg_nameC sc_law.nd rfl rfl rfl) sgs_nil)))) (sb_cons (ss_if (st_cmp cmp_neP (se_callI F__law_place (Nat.le_of_ble_eq_true rfl) rfl rfl (by decide +kernel) (fun _ => rfl) (fun _ _ => rfl) (sa_cons (fun _ => rfl) (se_op op_addP (se_op op_addP (se_sl (se_var 2 rfl (by first | exact Or.inl rfl | exact Or.inr (Or.inl rfl) | exact Or.inr (Or.inr rfl)) (by decide +kernel) (by decide +kernel)) so_none (so_some (se_var 6 rfl (by first | exact Or.inl rfl | exact Or.inr (Or.inl rfl) | exact Or.inr (Or.inr rfl)) (by decide +kernel) (by decide +kernel)))) (se_frz (sf_lst (sa_cons (fun _ => rfl) (se_var 7 rfl (by first | exact Or.inl rfl | exact Or.inr (Or.inl rfl) | exact Or.inr (Or.inr rfl)) (by decide +kernel) (by decide +kernel)) sa_nil)))) (se_sl (se_var 2 rfl (by first | exact Or.inl rfl | exact Or.inr (Or.inl rfl) | exact Or.inr (Or.inr rfl)) (by decide +kernel) (by decide +kernel)) (so_some (se_var 6 rfl (by first | exact Or.inl rfl | exact Or.inr (Or.inl rfl) | exact Or.inr (Or.inr rfl)) (by decide +kernel) (by decide +kernel))) so_none)) sa_nil)) (se_tup (sa_cons (fun _ => rfl) (se_var 6 rfl (by first | exact Or.inl rfl | exact Or.inr (Or.inl rfl) | exact Or.inr (Or.inr rfl)) (by decide +kernel) (by decide +kernel)) (sa_cons (fun _ => rfl) (se_var 8 rfl (by first | exact Or.inl rfl | exact Or.inr (Or.inl rfl) | exact Or.inr (Or.inr rfl)) (by decide +kernel) (by decide +kernel)) sa_nil))) (nomark _)) (sb_one (ss_ret (se_bl))) sb_nil) (sb_cons (ss_asg (by intro env h; cases env; cases h; rfl) (by intro env h; cases env; cases h; rfl) (fun _ => rfl) (se_ix ix_P2 (se_var 4 rfl (by first | exact Or.inl rfl | exact Or.inr (Or.inl rfl) | exact Or.inr (Or.inr rfl)) (by decide +kernel) (by decide +kernel)) (se_callI F__law_taken (Nat.le_of_ble_eq_true rfl) rfl rfl (by decide +kernel) (fun _ => rfl) (fun _ _ => rfl) (sa_cons (fun _ => rfl) (se_var 1 rfl (by first | exact Or.inl rfl | exact Or.inr (Or.inl rfl) | exact Or.inr (Or.inr rfl)) (by decide +kernel) (by decide +kernel)) (sa_cons (fun _ => rfl) (se_int) sa_nil))) (fun _ _ => rfl)) (sg_tup rfl (fun _ => rfl) (fun _ => rfl) (sgs_cons (fun _ => rfl) (by first | exact sg_name sc_law.nd rfl rfl | exact sg_nameC sc_law.nd rfl rfl rfl) (sgs_cons (fun _ => rfl) (by first | exact sg_name sc_law.nd rfl rfl | exact sg_nameC sc_law.nd rfl rfl rfl) sgs_nil)))) (sb_cons (ss_if (st_cmp cmp_neP (se_callI F__law_place (Nat.le_of_ble_eq_true rfl) rfl rfl (by decide +kernel) (fun _ => rfl) (fun _ _ => rfl) (sa_cons (fun _ => rfl) (se_op op_addP (se_var 2 rfl (by first | exact Or.inl rfl | exact Or.inr (Or.inl rfl) | exact Or.inr (Or.inr rfl)) (by decide +kernel) (by decide +kernel)) (se_frz (sf_lst (sa_cons (fun _ => rfl) (se_var 7 rfl (by first | exact Or.inl rfl | exact Or.inr (Or.inl rfl) | exact Or.inr (Or.inr rfl)) (by decide +kernel) (by decide +kernel)) sa_nil)))) sa_nil)) (se_tup (sa_cons (fun _ => rfl) (se_str) (sa_cons (fun _ => rfl) (se_int) sa_nil))) (nomark _)) (sb_one (ss_ret (se_bl))) sb_nil) (sb_cons (ss_if (st_cmp cmp_neP (se_callI F__law_place (Nat.le_of_ble_eq_true rfl) rfl rfl (by decide +kernel) (fun _ => rfl) (fun _ _ => rfl) (sa_cons (fun _ => rfl) (se_op op_addP (se_frz (sf_lst (sa_cons (fun _ => rfl) (se_var 7 rfl (by first | exact Or.inl rfl | exact Or.inr (Or.inl rfl) | exact Or.inr (Or.inr rfl)) (by decide +kernel) (by decide +kernel)) sa_nil))) (se_var 2 rfl (by first | exact Or.inl rfl | exact Or.inr (Or.inl rfl) | exact Or.inr (Or.inr rfl)) (by decide +kernel) (by decide +kernel))) sa_nil)) (se_tup (sa_cons (fun _ => rfl) (se_str) (sa_cons (fun _ => rfl) (se_var 9 rfl (by first | exact Or.inl rfl | exact Or.inr (Or.inl rfl) | exact Or.inr (Or.inr rfl)) (by decide +kernel) (by decide +kernel)) sa_nil))) (nomark _)) (sb_one (ss_ret (se_bl))) sb_nil) (sb_cons ((by first | exact ss_set sc_law.nd rfl rfl (fun _ => rfl) (se_op op_addP (se_int) (se_callI F__law_taken (Nat.le_of_ble_eq_true rfl) rfl rfl (by decide +kernel) (fun _ => rfl) (fun _ _ => rfl) (sa_cons (fun _ => rfl) (se_var 1 rfl (by first | exact Or.inl rfl | exact Or.inr (Or.inl rfl) | exact Or.inr (Or.inr rfl)) (by decide +kernel) (by decide +kernel)) (sa_cons (fun _ => rfl) (se_int) sa_nil)))) | exact ss_setC sc_law.nd rfl rfl rfl (fun _ => rfl) (se_op op_addP (se_int) (se_callI F__law_taken (Nat.le_of_ble_eq_true rfl) rfl rfl (by decide +kernel) (fun _ => rfl) (fun _ _ => rfl) (sa_cons (fun _ => rfl) (se_var 1 rfl (by first | exact Or.inl rfl | exact Or.inr (Or.inl rfl) | exact Or.inr (Or.inr rfl)) (by decide +kernel) (by decide +kernel)) (sa_cons (fun _ => rfl) (se_int) sa_nil)))))) (sb_cons ((by first | exact ss_setLc t2_frz (own := [("_law_j", 12)]) (ws := [12]) rfl sc_law.nd rfl rfl (by intro env h; cases env; cases h; rfl) (fun _ _ => rfl) (blkOk_by (by kernel_rfl)) (by decide +kernel) (si_r1 (fun _ => rfl) rfl X.m_range (se_var 10 rfl (by first | exact Or.inl rfl | exact Or.inr (Or.inl rfl) | exact Or.inr (Or.inr rfl)) (by decide +kernel) (by decide +kernel))) (by first | exact sg_name sc_law.nd rfl rfl | exact sg_nameC sc_law.nd rfl rfl rfl) sif_nil (se_op op_addP (se_op op_addP (se_op op_addP (se_op op_addP (se_str) (se_callT c_str rfl X.m_str boot_str (by decide +kernel) (by decide +kernel) (fun _ => rfl) (fun _ _ => rfl) (sa_cons (fun _ => rfl) (se_var 12 rfl (by first | exact Or.inl rfl | exact Or.inr (Or.inl rfl) | exact Or.inr (Or.inr rfl)) (by decide +kernel) (by decide +kernel)) sa_nil))) (se_str)) (se_callT c_str rfl X.m_str boot_str (by decide +kernel) (by decide +kernel) (fun _ => rfl) (fun _ _ => rfl) (sa_cons (fun _ => rfl) (se_var 12 rfl (by first | exact Or.inl rfl | exact Or.inr (Or.inl rfl) | exact Or.inr (Or.inr rfl)) (by decide +kernel) (by decide +kernel)) sa_nil))) (se_str)) | exact ss_set sc_law.nd rfl rfl (fun _ => rfl) (se_frz (sf_lc (own := [("_law_j", 12)]) (ws := [12]) rfl sc_law.nd (fun _ _ => rfl) (blkOk_by (by kernel_rfl)) (by decide +kernel) (si_r1 (fun _ => rfl) rfl X.m_range (se_var 10 rfl (by first | exact Or.inl rfl | exact Or.inr (Or.inl rfl) | exact Or.inr (Or.inr rfl)) (by decide +kernel) (by decide +kernel))) (by first | exact sg_name sc_law.nd rfl rfl | exact sg_nameC sc_law.nd rfl rfl rfl) sif_nil (se_op op_addP (se_op op_addP (se_op op_addP (se_op op_addP (se_str) (se_callT c_str rfl X.m_str boot_str (by decide +kernel) (by decide +kernel) (fun _ => rfl) (fun _ _ => rfl) (sa_cons (fun _ => rfl) (se_var 12 rfl (by first | exact Or.inl rfl | exact Or.inr (Or.inl rfl) | exact Or.inr (Or.inr rfl)) (by decide +kernel) (by decide +kernel)) sa_nil))) (se_str)) (se_callT c_str rfl X.m_str boot_str (by decide +kernel) (by decide +kernel) (fun _ => rfl) (fun _ _ => rfl) (sa_cons (fun _ => rfl) (se_var 12 rfl (by first | exact Or.inl rfl | exact Or.inr (Or.inl rfl) | exact Or.inr (Or.inr rfl)) (by decide +kernel) (by decide +kernel)) sa_nil))) (se_str)))) | exact ss_setCs sc_law.nd rfl rfl rfl (by intro env h; cases env; cases h; rfl) (se_frz (sf_lc (own := [("_law_j", 12)]) (ws := [12]) rfl sc_law.nd (fun _ _ => rfl) (blkOk_by (by kernel_rfl)) (by decide +kernel) (si_r1 (fun _ => rfl) rfl X.m_range (se_var 10 rfl (by first | exact Or.inl rfl | exact Or.inr (Or.inl rfl) | exact Or.inr (Or.inr rfl)) (by decide +kernel) (by decide +kernel))) (by first | exact sg_name sc_law.nd rfl rfl | exact sg_nameC sc_law.nd rfl rfl rfl) sif_nil (se_op op_addP (se_op op_addP (se_op op_addP (se_op op_addP (se_str) (se_callT c_str rfl X.m_str boot_str (by decide +kernel) (by decide +kernel) (fun _ => rfl) (fun _ _ => rfl) (sa_cons (fun _ => rfl) (se_var 12 rfl (by first | exact Or.inl rfl | exact Or.inr (Or.inl rfl) | exact Or.inr (Or.inr rfl)) (by decide +kernel) (by decide +kernel)) sa_nil))) (se_str)) (se_callT c_str rfl X.m_str boot_str (by decide +kernel) (by decide +kernel) (fun _ => rfl) (fun _ _ => rfl) (sa_cons (fun _ => rfl) (se_var 12 rfl (by first | exact Or.inl rfl | exact Or.inr (Or.inl rfl) | exact Or.inr (Or.inr rfl)) (by decide +kernel) (by decide +kernel)) sa_nil))) (se_str)))))) (sb_one (ss_if (st_cmp cmp_neP (se_callI F__law_place (Nat.le_of_ble_eq_true rfl) rfl rfl (by decide +kernel) (fun _ => rfl) (fun _ _ => rfl) (sa_cons (fun _ => rfl) (se_var 11 rfl (by first | exact Or.inl rfl | exact Or.inr (Or.inl rfl) | exact Or.inr (Or.inr rfl)) (by decide +kernel) (by decide +kernel)) sa_nil)) (se_if (st_cmp cmp_gtP (se_var 10 rfl (by first | exact Or.inl rfl | exact Or.inr (Or.inl rfl) | exact Or.inr (Or.inr rfl)) (by decide +kernel) (by decide +kernel)) (se_int) (nomark _)) (se_tup (sa_cons (fun _ => rfl) (se_int) (sa_cons (fun _ => rfl) (se_int) sa_nil))) (se_non)) (nomark _)) (sb_one (ss_ret (se_bl))) sb_nil))))))))))) (sb_one (ss_ret (se_bl))))))))))))
end Vi

set_option maxRecDepth 100000
/-! How denotations are evaluated: rewriting rules. -/
namespace Vi
open PySem L2
section
variable {α β : Type} {a : α} {h h1 : Hs} {e : Exn} {ρ : En}
@[simp] theorem ev_bok {k : α → Hs → Res β} : (Res.ok a h).bind k = k a h := (rfl)
@[simp] theorem ev_bex {k : α → Hs → Res β} : (Res.exc e h : Res α).bind k = .exc e h := (rfl)
@[simp] theorem ev_bbad {k : α → Hs → Res β} : (Res.bad : Res α).bind k = .bad := (rfl)
@[simp] theorem ev_sok {k : α → Hs → ResS} : bindS (Res.ok a h) ρ k = k a h := (rfl)
@[simp] theorem ev_sex {k : α → Hs → ResS} : bindS (Res.exc e h : Res α) ρ k = .exc e ρ h := (rfl)
@[simp] theorem ev_sbad {k : α → Hs → ResS} : bindS (Res.bad : Res α) ρ k = .bad := (rfl)
@[simp] theorem get0 {l : List α} : (a :: l)[0]? = some a := (rfl)
@[simp] theorem get1 {b : α} {l : List α} : (a :: b :: l)[1]? = some b := (rfl)
@[simp] theorem get2 {b c : α} {l : List α} : (a :: b :: c :: l)[2]? = some c := (rfl)
@[simp] theorem get3 {b c d : α} {l : List α} : (a :: b :: c :: d :: l)[3]? = some d := (rfl)
def gv (h : Hs) : Option (Option Vl) → Res Vl
  | some (some x) => .ok x h
  | _ => .bad
def rd (h : Hs) : Option Dt → Res Vl
  | some d => .ok (.d d) h
  | none => .bad
@[simp] theorem gv_some {x : Vl} : gv h (some (some x)) = .ok x h := (rfl)
@[simp] theorem rd_some {x : Dt} : rd h (some x) = .ok (.d x) h := (rfl)
@[simp] theorem ev_vr {i : Nat} : vr i ρ h = gv h ρ[i]? := by
  unfold vr gv; split <;> simp_all
@[simp] theorem ev_cI {i : Int} : cI i ρ h = .ok (.d (.int i)) h := (rfl)
@[simp] theorem ev_cB {i : Bool} : cB i ρ h = .ok (.d (.bl i)) h := (rfl)
@[simp] theorem ev_cN : cN ρ h = .ok (.d .non) h := (rfl)
@[simp] theorem ev_cS {i : Str} : cS i ρ h = .ok (.d (.str i)) h := (rfl)
@[simp] theorem bor_d {x : Dt} : bor h (.d x) = some x := (rfl)
@[simp] theorem ev_ap1 {p : Dt → Option Dt} {x : Dt} : ap1 p h (.d x) = rd h (p x) := by
  rfl
@[simp] theorem ev_ap2 {p : Dt → Dt → Option Dt} {x y : Dt} : ap2 p h (.d x) (.d y) = rd h (p x y) := by
  rfl
theorem ev_ap2' {p : Dt → Dt → Option Dt} {x y : Vl} {a b : Dt} (q : bor h x = some a) (q2 : bor h y = some b) : ap2 p h x y = rd h (p a b) := by
  unfold ap2; rw [q, q2]; rfl
@[simp] theorem ev_u1 {p : Dt → Option Dt} {f : Den} : u1 p f ρ h = (f ρ h).bind fun x h1 => ap1 p h1 x := (rfl)
@[simp] theorem ev_b2 {p : Dt → Dt → Option Dt} {f g : Den} : b2 p f g ρ h = (f ρ h).bind fun x h1 => (g ρ h1).bind fun y h2 => ap2 p h2 x y := (rfl)
@[simp] theorem ev_asB {f : Den} : asB f ρ h = (f ρ h).bind fun x h1 => isB h1 x := (rfl)
@[simp] theorem ev_isB {b : Bool} : isB h (.d (.bl b)) = .ok b h := (rfl)
@[simp] theorem ev_notT {f : DenT} : notT f ρ h = (f ρ h).bind fun x h1 => .ok (!x) h1 := (rfl)
def cnd (b : Bool) (x y : α) : α := match b with
  | true => x
  | false => y
@[simp] theorem cnd_t {x y : α} : cnd true x y = x := (rfl)
@[simp] theorem cnd_f {x y : α} : cnd false x y = y := (rfl)
@[simp] theorem ev_andT {f g : DenT} : andT f g ρ h = (f ρ h).bind fun x h1 => cnd x (g ρ h1) (.ok false h1) := (rfl)
@[simp] theorem ev_orT {f g : DenT} : orT f g ρ h = (f ρ h).bind fun x h1 => cnd x (.ok true h1) (g ρ h1) := (rfl)
@[simp] theorem ev_andV {f g : Den} : andV f g ρ h = (f ρ h).bind fun x h1 => (isB h1 x).bind fun b h2 => cnd b (g ρ h2) (.ok (.d (.bl false)) h2) := (rfl)
@[simp] theorem ev_orV {f g : Den} : orV f g ρ h = (f ρ h).bind fun x h1 => (isB h1 x).bind fun b h2 => cnd b (.ok (.d (.bl true)) h2) (g ρ h2) := (rfl)
@[simp] theorem ev_notV {f : Den} : notV f ρ h = (f ρ h).bind fun x h1 => (isB h1 x).bind fun b h2 => .ok (.d (.bl (!b))) h2 := (rfl)
@[simp] theorem ev_ifV {c : DenT} {f g : Den} : ifV c f g ρ h = (c ρ h).bind fun b h1 => cnd b (f ρ h1) (g ρ h1) := (rfl)
@[simp] theorem ev_nilA : nilA ρ h = .ok [] h := (rfl)
@[simp] theorem ev_consA {f : Den} {g : DenA} : consA f g ρ h = (f ρ h).bind fun x h1 => (g ρ h1).bind fun xs h2 => .ok (x :: xs) h2 := (rfl)
@[simp] theorem allD_nil : allD [] = some [] := (rfl)
@[simp] theorem allD_cons {x : Dt} {r : List Vl} : allD (.d x :: r) = (allD r).map (x :: ·) := by
  show (match allD r with | some l => some (x :: l) | none => none) = _
  cases allD r <;> rfl
def tp (h : Hs) : Option (List Dt) → Res Vl
  | some l => cnd (decide (l.length ≤ 100000)) (.ok (.d (.tup l)) h) .bad
  | none => .bad
def ls (h : Hs) : Option (List Dt) → Res Dt
  | some l => cnd (decide (l.length ≤ 100000)) (.ok (.lst l) h) .bad
  | none => .bad
@[simp] theorem tp_some {l : List Dt} : tp h (some l) = cnd (decide (l.length ≤ 100000)) (.ok (.d (.tup l)) h) .bad := (rfl)
@[simp] theorem ls_some {l : List Dt} : ls h (some l) = cnd (decide (l.length ≤ 100000)) (.ok (.lst l) h) .bad := (rfl)
@[simp] theorem ev_tupV {f : DenA} : tupV f ρ h = (f ρ h).bind fun xs h1 => tp h1 (allD xs) := (rfl)
@[simp] theorem ev_lstF {f : DenA} : lstF f ρ h = (f ρ h).bind fun xs h1 => ls h1 (allD xs) := (rfl)
@[simp] theorem ev_frz {f : DenD} : frz f ρ h = (f ρ h).bind fun x h1 => .ok (.d x) h1 := (rfl)
def srt (h : Hs) (g : DenA) (ρ : En) : Option Dt → Res (List Vl)
  | some d => match seqOf d with
    | some l => (g ρ h).bind fun xs h2 => .ok (l.map Vl.d ++ xs) h2
    | none => .bad
  | none => .bad
@[simp] theorem ev_starA {f : Den} {g : DenA} : starA f g ρ h = (f ρ h).bind fun x h1 => srt h1 g ρ (bor h1 x) := (rfl)
@[simp] theorem srt_t {g : DenA} {l : List Dt} : srt h g ρ (some (.tup l)) = (g ρ h).bind fun xs h2 => .ok (l.map Vl.d ++ xs) h2 := (rfl)
@[simp] theorem srt_l {g : DenA} {l : List Dt} : srt h g ρ (some (.lst l)) = (g ρ h).bind fun xs h2 => .ok (l.map Vl.d ++ xs) h2 := (rfl)
@[simp] theorem ev_ch3 {p p' : Dt → Dt → Option Dt} {f g k : Den} : ch3 p p' f g k ρ h = (f ρ h).bind fun x h1 => (g ρ h1).bind fun y h2 => (ap2 p h2 x y).bind fun z h3 => (isB h3 z).bind fun b h4 => cnd b ((k ρ h4).bind fun w h5 => (ap2 p' h5 y w).bind fun z h6 => isB h6 z) (.ok false h4) := (rfl)
@[simp] theorem ev_asV {f : DenT} : asV f ρ h = (f ρ h).bind fun b h1 => .ok (.d (.bl b)) h1 := (rfl)
def nw (h : Hs) : Option Ob → Res Vl
  | some o => .ok (.r h.length) (h ++ [o])
  | none => .bad
@[simp] theorem nw_s {o : Ob} : nw h (some o) = .ok (.r h.length) (h ++ [o]) := (rfl)
@[simp] theorem ev_newV {f : DenD} : newV f ρ h = (f ρ h).bind fun d h1 => nw h1 (newOb d) := (rfl)
@[simp] theorem newOb_l {l : List Dt} : newOb (.lst l) = some (.lst l) := (rfl)
@[simp] theorem newOb_d {ks vs : List Dt} : newOb (.dct ks vs) = some (.dct ks (vs.map Vl.d)) := (rfl)
/-! ### prims -/
@[simp] theorem addP_i {i j : Int} : addP (.int i) (.int j) = some (.int (i + j)) := (rfl)
@[simp] theorem subP_i {i j : Int} : subP (.int i) (.int j) = some (.int (i - j)) := (rfl)
@[simp] theorem mulP_i {i j : Int} (q : (-18446744073709551616 < i ∧ i < 18446744073709551616) ∨ (-18446744073709551616 < j ∧ j < 18446744073709551616)) : mulP (.int i) (.int j) = some (.int (i * j)) := by
  have : CMul i j := q
  simp [mulP, this]
@[simp] theorem divP_i {i j : Int} (q : 0 < j ∧ j < 1073741824) : divP (.int i) (.int j) = some (.int (i / j)) := by
  have : CDiv i j := q
  simp [divP, this]
@[simp] theorem modP_i {i j : Int} (q : 0 < j) : modP (.int i) (.int j) = some (.int (i % j)) := by
  simp [modP, q, Int.ne_of_gt q]
@[simp] theorem negP_i {i : Int} : negP (.int i) = some (.int (-i)) := (rfl)
@[simp] theorem absP_i {i : Int} : absP [.int i] = some (.int (if i < 0 then -i else i)) := (rfl)
@[simp] theorem lenP_t {l : List Dt} : lenP [.tup l] = some (.int l.length) := (rfl)
@[simp] theorem lenP_l {l : List Dt} : lenP [.lst l] = some (.int l.length) := (rfl)
@[simp] theorem lenP_s {l : List Int} : lenP [.scr l] = some (.int l.length) := (rfl)
@[simp] theorem intP_i {i : Int} : intP [.int i] = some (.int i) := (rfl)
@[simp] theorem tupleP_l {l : List Dt} : tupleP [.lst l] = some (.tup l) := (rfl)
@[simp] theorem tupleP_t {l : List Dt} : tupleP [.tup l] = some (.tup l) := (rfl)

@[simp] theorem eqP_i {i j : Int} : eqP (.int i) (.int j) = some (.bl (decide (i = j))) := by
  simp only [eqP, okD, Bool.and_self]
  congr 2
@[simp] theorem neP_i {i j : Int} : neP (.int i) (.int j) = some (.bl (!decide (i = j))) := by
  simp only [neP, okD, Bool.and_self]
  congr 2
@[simp] theorem ltP_i {i j : Int} : ltP (.int i) (.int j) = some (.bl (decide (i < j))) := (rfl)
@[simp] theorem leP_i {i j : Int} : leP (.int i) (.int j) = some (.bl (decide (i ≤ j))) := (rfl)
@[simp] theorem gtP_i {i j : Int} : gtP (.int i) (.int j) = some (.bl (decide (j < i))) := (rfl)
@[simp] theorem geP_i {i j : Int} : geP (.int i) (.int j) = some (.bl (decide (j ≤ i))) := (rfl)
@[simp] theorem isP_n {a : Dt} : isP a .non = some (.bl a.isN) := by cases a <;> rfl
@[simp] theorem isnP_n {a : Dt} : isnP a .non = some (.bl (!a.isN)) := by cases a <;> rfl
@[simp] theorem isN_non : Dt.isN .non = true := (rfl)
@[simp] theorem isN_int {i : Int} : Dt.isN (.int i) = false := (rfl)
@[simp] theorem isN_tup {i : List Dt} : Dt.isN (.tup i) = false := (rfl)
@[simp] theorem isN_lst {i : List Dt} : Dt.isN (.lst i) = false := (rfl)
@[simp] theorem isInt_i {i : Int} : isInt (.int i) = some (.bl true) := (rfl)
@[simp] theorem isInt_b {i : Bool} : isInt (.bl i) = some (.bl true) := (rfl)
@[simp] theorem isInt_t {i : List Dt} : isInt (.tup i) = some (.bl false) := (rfl)
@[simp] theorem isBool_i {i : Int} : isBool (.int i) = some (.bl false) := (rfl)
@[simp] theorem isBool_b {i : Bool} : isBool (.bl i) = some (.bl true) := (rfl)
@[simp] theorem isTup_t {i : List Dt} : isTup (.tup i) = some (.bl true) := (rfl)
@[simp] theorem addP_t {a b : List Dt} : addP (.tup a) (.tup b) = cnd (decide (a.length + b.length ≤ 100000)) (some (.tup (a ++ b))) none := (rfl)
@[simp] theorem addP_l {a b : List Dt} : addP (.lst a) (.lst b) = cnd (decide (a.length + b.length ≤ 100000)) (some (.lst (a ++ b))) none := (rfl)
/-! ### places -/
@[simp] theorem ixP2_t {l : List Dt} {i : Int} : ixP2 (.tup l) (.int i) = atI l i := (rfl)
@[simp] theorem ixP2_l {l : List Dt} {i : Int} : ixP2 (.lst l) (.int i) = atI l i := (rfl)
theorem atI_nat {l : List α} {i : Nat} : atI l (i : Int) = l[i]? := by
  unfold atI ixN
  rw [if_pos (by omega)]
  by_cases q : i < l.length
  · rw [if_pos (by omega)]; simp
  · rw [if_neg (by omega)]; simp at q; simp [q]
@[simp] theorem atI_0 {l : List α} : atI l 0 = l[0]? := atI_nat (i := 0)
@[simp] theorem atI_1 {l : List α} : atI l 1 = l[1]? := atI_nat (i := 1)
@[simp] theorem atI_2 {l : List α} : atI l 2 = l[2]? := atI_nat (i := 2)
@[simp] theorem atI_3 {l : List α} : atI l 3 = l[3]? := atI_nat (i := 3)
@[simp] theorem atI_n {l : List α} {i : Nat} : atI l (i : Int) = l[i]? := atI_nat
@[simp] theorem ixP2_s {l : List Int} {i : Int} : ixP2 (.scr l) (.int i) = (atI l i).map Dt.int := by
  show (match atI l i with | some n => some (Dt.int n) | none => none) = _
  cases atI l i <;> rfl
@[simp] theorem cutD_h2 {a b : Dt} {l : List Dt} : cutD (a :: b :: l) none (some 2) = [a, b] := by
  simp [cutD, HT.sIx]
@[simp] theorem cutD_t2 {a b : Dt} {l : List Dt} : cutD (a :: b :: l) (some 2) none = l := by
  simp [cutD, HT.sIx]
@[simp] theorem slP_t {lo hi : Option Int} {l : List Dt} : slP lo hi (.tup l) = some (.tup (cutD l lo hi)) := (rfl)
@[simp] theorem slP_l {lo hi : Option Int} {l : List Dt} : slP lo hi (.lst l) = some (.lst (cutD l lo hi)) := (rfl)
@[simp] theorem ev_noneO : noneO ρ h = .ok none h := (rfl)
def oi (h : Hs) : Vl → Res (Option Int)
  | .d (.int i) => .ok (some i) h
  | _ => .bad
@[simp] theorem oi_i {i : Int} : oi h (.d (.int i)) = .ok (some i) h := (rfl)
@[simp] theorem ev_someO {f : Den} : someO f ρ h = (f ρ h).bind fun x h1 => oi h1 x := (rfl)
@[simp] theorem ev_slV {f : Den} {lo hi : DenO} : slV f lo hi ρ h = (f ρ h).bind fun x h1 => (lo ρ h1).bind fun l h2 => (hi ρ h2).bind fun u h3 => ap1 (slP l u) h3 x := (rfl)
/-! ### calls -/
@[simp] theorem borAll_nil : borAll h [] = some [] := (rfl)
@[simp] theorem borAll_cons {x : Dt} {r : List Vl} : borAll h (.d x :: r) = (borAll h r).map (x :: ·) := by
  show (match bor h (.d x), borAll h r with | some a, some l => some (a :: l) | _, _ => none) = _
  rw [bor_d]
  cases borAll h r <;> rfl
def apO (p : List Dt → Option Dt) (h : Hs) : Option (List Dt) → Res Vl
  | some ds => rd h (p ds)
  | none => .bad
def apFO (p : List Dt → Option Dt) (h : Hs) : Option (List Dt) → Res Dt
  | some ds => match p ds with
    | some d => .ok d h
    | none => .bad
  | none => .bad
def rdF (h : Hs) : Option Dt → Res Dt
  | some d => .ok d h
  | none => .bad
@[simp] theorem rdF_s {d : Dt} : rdF h (some d) = .ok d h := (rfl)
@[simp] theorem apO_s {p : List Dt → Option Dt} {ds : List Dt} : apO p h (some ds) = rd h (p ds) := (rfl)
@[simp] theorem apFO_s {p : List Dt → Option Dt} {ds : List Dt} : apFO p h (some ds) = rdF h (p ds) := (rfl)
@[simp] theorem ev_cl {p : List Dt → Option Dt} {fa : DenA} : cl p fa ρ h = (fa ρ h).bind fun xs h1 => apO p h1 (borAll h1 xs) := by
  unfold cl; congr 1
@[simp] theorem ev_clF {p : List Dt → Option Dt} {fa : DenA} : clF p fa ρ h = (fa ρ h).bind fun xs h1 => apFO p h1 (borAll h1 xs) := by
  unfold clF; congr 1
def cp (h : Hs) : PRes → Res Vl
  | .ok d => .ok (.d d) h
  | .exc e => .exc e h
  | .bad => .bad
@[simp] theorem cp_ok {d : Dt} : cp h (.ok d) = .ok (.d d) h := (rfl)
@[simp] theorem cp_ex : cp h (.exc e) = .exc e h := (rfl)
def cpO (n : Nat) (g : Pf) (h : Hs) : Option (List Dt) → Res Vl
  | some ds => cnd (decide (ds.length = n)) (cp h (g ds)) .bad
  | none => .bad
@[simp] theorem cpO_s {n : Nat} {g : Pf} {ds : List Dt} : cpO n g h (some ds) = cnd (decide (ds.length = n)) (cp h (g ds)) .bad := (rfl)
@[simp] theorem ev_callP {n : Nat} {g : Pf} {fa : DenA} : callP n g fa ρ h = (fa ρ h).bind fun xs h1 => cpO n g h1 (allD xs) := (rfl)
@[simp] theorem ev_callI {n : Nat} {g : If} {fa : DenA} : callI n g fa ρ h = (fa ρ h).bind fun xs h1 => cnd (decide (xs.length = n)) (g xs h1) .bad := (rfl)
/-! ### statements -/
def sqs (k : DenS) : ResS → ResS
  | .nx ρ1 h1 => k ρ1 h1
  | .rt x h1 => .rt x h1
  | .bk ρ1 h1 => .bk ρ1 h1
  | .ct ρ1 h1 => .ct ρ1 h1
  | .exc e ρ1 h1 => .exc e ρ1 h1
  | .bad => .bad
variable {x : Vl} {k : DenS}
@[simp] theorem sqs_nx : sqs k (.nx ρ h) = k ρ h := (rfl)
@[simp] theorem sqs_rt : sqs k (.rt x h) = .rt x h := (rfl)
@[simp] theorem sqs_bk : sqs k (.bk ρ h) = .bk ρ h := (rfl)
@[simp] theorem sqs_ct : sqs k (.ct ρ h) = .ct ρ h := (rfl)
@[simp] theorem sqs_ex : sqs k (.exc e ρ h) = .exc e ρ h := (rfl)
theorem ev_seqS {f g : DenS} : seqS f g ρ h = sqs g (f ρ h) := (rfl)
@[simp] theorem ev_skipS : skipS ρ h = .nx ρ h := (rfl)
@[simp] theorem ev_brkS : brkS ρ h = .bk ρ h := (rfl)
@[simp] theorem ev_contS : contS ρ h = .ct ρ h := (rfl)
@[simp] theorem ev_exprS {f : Den} : exprS f ρ h = bindS (f ρ h) ρ fun _ h1 => .nx ρ h1 := (rfl)
@[simp] theorem ev_retS {f : Den} : retS f ρ h = bindS (f ρ h) ρ fun x h1 => .rt x h1 := (rfl)
@[simp] theorem ev_retNS : retNS ρ h = .rt (.d .non) h := (rfl)
@[simp] theorem ev_setS {i : Nat} {f : Den} : setS i f ρ h = bindS (f ρ h) ρ fun x h1 => .nx (ρ.set i (some x)) h1 := (rfl)
def gas (h : Hs) : Option En → ResS
  | some ρ1 => .nx ρ1 h
  | none => .bad
@[simp] theorem gas_s {ρ1 : En} : gas h (some ρ1) = .nx ρ1 h := (rfl)
@[simp] theorem ev_asgS {g : Tgt} {f : Den} : asgS g f ρ h = bindS (f ρ h) ρ fun x h1 => gas h1 (g x ρ) := (rfl)
@[simp] theorem ev_par2 {i j : Nat} {f g : Den} : par2 i j f g ρ h = bindS (f ρ h) ρ fun x h1 => bindS (g ρ h1) ρ fun y h2 => .nx ((ρ.set i (some x)).set j (some y)) h2 := (rfl)
@[simp] theorem ev_par3 {i j l : Nat} {f g k : Den} : par3 i j l f g k ρ h = bindS (f ρ h) ρ fun x h1 => bindS (g ρ h1) ρ fun y h2 => bindS (k ρ h2) ρ fun z h3 => .nx (((ρ.set i (some x)).set j (some y)).set l (some z)) h3 := (rfl)
@[simp] theorem ev_ifS {t : DenT} {f g : DenS} : ifS t f g ρ h = bindS (t ρ h) ρ fun b h1 => cnd b (f ρ h1) (g ρ h1) := (rfl)
@[simp] theorem ev_parG {n : Nat} {gs : List Vl → En → Option En} {fa : DenA} : parG n gs fa ρ h = bindS (fa ρ h) ρ fun xs h1 => cnd (decide (xs.length = n) && decide (n ≤ 1000)) (gas h1 (gs xs ρ)) .bad := (rfl)
@[simp] theorem ev_gN {i : Nat} {x : Vl} : gN i x ρ = some (ρ.set i (some x)) := (rfl)
@[simp] theorem ev_gsNil : gsNil [] ρ = some ρ := (rfl)
@[simp] theorem ev_gsCons {g : Tgt} {gs : List Vl → En → Option En} {x : Vl} {r : List Vl} : gsCons g gs (x :: r) ρ = (g x ρ).bind (gs r) := by
  show (match g x ρ with | some ρ1 => gs r ρ1 | none => none) = _
  cases g x ρ <;> rfl
@[simp] theorem ev_gT {n : Nat} {gs : List Vl → En → Option En} {l : List Dt} : gT' n gs (.d (.tup l)) ρ = cnd (decide (l.length = n)) (gs (l.map Vl.d) ρ) none := (rfl)
/-! ### walks -/
def sqI (h : Hs) : Vl → Res Src
  | .d (.lst l) => .ok (.fx l) h
  | .d (.tup l) => .ok (.fx l) h
  | .r n => match h[n]? with
    | some (.lst l) => .ok (.rf n l.length) h
    | _ => .bad
  | _ => .bad
@[simp] theorem sqI_l {l : List Dt} : sqI h (.d (.lst l)) = .ok (.fx l) h := (rfl)
@[simp] theorem sqI_t {l : List Dt} : sqI h (.d (.tup l)) = .ok (.fx l) h := (rfl)
@[simp] theorem ev_seqI {f : Den} : seqI f ρ h = (f ρ h).bind fun x h1 => sqI h1 x := by
  unfold seqI; congr 1
def rg1 (h : Hs) : Vl → Res Src
  | .d (.int n) => cnd (r62 n) (.ok (.fx (rngD 0 n.toNat)) h) .bad
  | _ => .bad
@[simp] theorem rg1_i {n : Int} : rg1 h (.d (.int n)) = cnd (r62 n) (.ok (.fx (rngD 0 n.toNat)) h) .bad := (rfl)
@[simp] theorem ev_rng1 {f : Den} : rng1 f ρ h = (f ρ h).bind fun x h1 => rg1 h1 x := (rfl)
def rg2 (h : Hs) : Vl → Vl → Res Src
  | .d (.int i), .d (.int j) => cnd (r62 i && r62 j) (.ok (.fx (rngD i (j - i).toNat)) h) .bad
  | _, _ => .bad
@[simp] theorem rg2_i {i j : Int} : rg2 h (.d (.int i)) (.d (.int j)) = cnd (r62 i && r62 j) (.ok (.fx (rngD i (j - i).toNat)) h) .bad := (rfl)
@[simp] theorem ev_rng2 {f g : Den} : rng2 f g ρ h = (f ρ h).bind fun x h1 => (g ρ h1).bind fun y h2 => rg2 h2 x y := (rfl)
@[simp] theorem r62_i {n : Int} (q : -4611686018427387904 ≤ n ∧ n < 4611686018427387904) : r62 n = true := by
  simp [r62]; omega
@[simp] theorem sqV_l {l : List Dt} : sqV (.d (.lst l)) = some l := (rfl)
@[simp] theorem sqV_t {l : List Dt} : sqV (.d (.tup l)) = some l := (rfl)
def enI (h : Hs) : Option (List Dt) → Res Src
  | some l => .ok (.fx (enumD 0 l)) h
  | none => .bad
@[simp] theorem enI_s {l : List Dt} : enI h (some l) = .ok (.fx (enumD 0 l)) h := (rfl)
@[simp] theorem ev_enumI {f : Den} : enumI f ρ h = (f ρ h).bind fun x h1 => enI h1 (sqV x) := (rfl)
def zi2 (h : Hs) : Option (List Dt) → Option (List Dt) → Res Src
  | some l, some m => .ok (.fx (zipD2 l m)) h
  | _, _ => .bad
@[simp] theorem zi2_s {l m : List Dt} : zi2 h (some l) (some m) = .ok (.fx (zipD2 l m)) h := (rfl)
@[simp] theorem ev_zipI2 {f g : Den} : zipI2 f g ρ h = (f ρ h).bind fun x h1 => (g ρ h1).bind fun y h2 => zi2 h2 (sqV x) (sqV y) := (rfl)
def zi3 (h : Hs) : Option (List Dt) → Option (List Dt) → Option (List Dt) → Res Src
  | some l, some m, some n => .ok (.fx (zipD3 l m n)) h
  | _, _, _ => .bad
@[simp] theorem zi3_s {l m n : List Dt} : zi3 h (some l) (some m) (some n) = .ok (.fx (zipD3 l m n)) h := (rfl)
@[simp] theorem ev_zipI3 {f g k : Den} : zipI3 f g k ρ h = (f ρ h).bind fun x h1 => (g ρ h1).bind fun y h2 => (k ρ h2).bind fun z h3 => zi3 h3 (sqV x) (sqV y) (sqV z) := (rfl)
def fo (g : Tgt) (body : DenS) (ρ : En) (h : Hs) : Src → ResS
  | .fx ds => forL g body ds ρ h
  | .rf n len => forR n g body len 0 ρ h
@[simp] theorem fo_fx {g : Tgt} {body : DenS} {ds : List Dt} : fo g body ρ h (.fx ds) = forL g body ds ρ h := (rfl)
@[simp] theorem fo_rf {g : Tgt} {body : DenS} {n len : Nat} : fo g body ρ h (.rf n len) = forR n g body len 0 ρ h := (rfl)
@[simp] theorem ev_forS {src : DenI} {g : Tgt} {body : DenS} : forS src g body ρ h = bindS (src ρ h) ρ fun s h1 => fo g body ρ h1 s := (rfl)
/-- what is done behind a turn -/
def lpk (k : En → Hs → ResS) : ResS → ResS
  | .nx ρ2 h2 => k ρ2 h2
  | .ct ρ2 h2 => k ρ2 h2
  | .bk ρ2 h2 => .nx ρ2 h2
  | .rt x h2 => .rt x h2
  | .exc e ρ2 h2 => .exc e ρ2 h2
  | .bad => .bad
variable {kk : En → Hs → ResS}
@[simp] theorem lpk_nx : lpk kk (.nx ρ h) = kk ρ h := (rfl)
@[simp] theorem lpk_ct : lpk kk (.ct ρ h) = kk ρ h := (rfl)
@[simp] theorem lpk_bk : lpk kk (.bk ρ h) = .nx ρ h := (rfl)
@[simp] theorem lpk_rt : lpk kk (.rt x h) = .rt x h := (rfl)
@[simp] theorem lpk_ex : lpk kk (.exc e ρ h) = .exc e ρ h := (rfl)
@[simp] theorem ev_forL0 {g : Tgt} {body : DenS} : forL g body [] ρ h = .nx ρ h := (rfl)
def gk (k : En → ResS) : Option En → ResS
  | none => .bad
  | some ρ => k ρ
@[simp] theorem gk_s {k : En → ResS} : gk k (some ρ) = k ρ := (rfl)
theorem ev_forL {g : Tgt} {body : DenS} {d : Dt} {ds : List Dt} : forL g body (d :: ds) ρ h = gk (fun ρ1 => lpk (forL g body ds) (body ρ1 h)) (g (.d d) ρ) := (rfl)
@[simp] theorem ev_whS {fu : En → Nat} {t : DenT} {body : DenS} : whS fu t body ρ h = whL t body (fu ρ) ρ h := (rfl)
/-! ### comprehensions -/
def lcK (r : Hs → Res (List Dt)) (y : Dt) (h : Hs) : Res (List Dt) := match r h with
  | .ok ys h3 => .ok (y :: ys) h3
  | _ => .bad
@[simp] theorem ev_lcL0 {g : Tgt} {t : DenT} {f : Den} : lcL g t f ρ [] h = .ok [] h := (rfl)
@[simp] theorem ev_yesT : yesT ρ h = .ok true h := (rfl)
def lc3 (y : Dt) : Res (List Dt) → Res (List Dt)
  | .ok ys h3 => .ok (y :: ys) h3
  | _ => .bad
def lc2 (r : Hs → Res (List Dt)) : Res Vl → Res (List Dt)
  | .ok (.d y) h2 => lc3 y (r h2)
  | _ => .bad
def lc1 (f : Den) (ρ1 : En) (r : Hs → Res (List Dt)) : Res Bool → Res (List Dt)
  | .ok true h1 => lc2 r (f ρ1 h1)
  | .ok false h1 => r h1
  | _ => .bad
def lc0 (t : DenT) (f : Den) (h : Hs) (r : Hs → Res (List Dt)) : Option En → Res (List Dt)
  | none => .bad
  | some ρ1 => lc1 f ρ1 r (t ρ1 h)
@[simp] theorem lc3_ok {y : Dt} {ys : List Dt} : lc3 y (.ok ys h) = .ok (y :: ys) h := (rfl)
@[simp] theorem lc2_ok {y : Dt} {r : Hs → Res (List Dt)} : lc2 r (.ok (.d y) h) = lc3 y (r h) := (rfl)
@[simp] theorem lc1_t {f : Den} {r : Hs → Res (List Dt)} : lc1 f ρ r (.ok true h) = lc2 r (f ρ h) := (rfl)
@[simp] theorem lc1_f {f : Den} {r : Hs → Res (List Dt)} : lc1 f ρ r (.ok false h) = r h := (rfl)
@[simp] theorem lc0_s {t : DenT} {f : Den} {r : Hs → Res (List Dt)} : lc0 t f h r (some ρ) = lc1 f ρ r (t ρ h) := (rfl)
def lcW : Res (List Dt) → Res Dt
  | .ok ys h2 => .ok (.lst ys) h2
  | _ => .bad
@[simp] theorem lcW_ok {ys : List Dt} : lcW (.ok ys h) = .ok (.lst ys) h := (rfl)
def lcS (g : Tgt) (t : DenT) (f : Den) (ρ : En) (h : Hs) : Src → Res Dt
  | .fx ds => cnd (decide (ds.length ≤ 100000)) (lcW (lcL g t f ρ ds h)) .bad
  | .rf n len => cnd (decide (len ≤ 100000)) (lcW (lcR n g t f ρ len 0 h)) .bad
@[simp] theorem lcS_rf {g : Tgt} {t : DenT} {f : Den} {n len : Nat} : lcS g t f ρ h (.rf n len) = cnd (decide (len ≤ 100000)) (lcW (lcR n g t f ρ len 0 h)) .bad := (rfl)
@[simp] theorem lcS_fx {g : Tgt} {t : DenT} {f : Den} {ds : List Dt} : lcS g t f ρ h (.fx ds) = cnd (decide (ds.length ≤ 100000)) (lcW (lcL g t f ρ ds h)) .bad := (rfl)
@[simp] theorem wipeR_nil : wipeR ρ [] = ρ := (rfl)
@[simp] theorem wipeR_cons {v : Nat} {vs : List Nat} : wipeR ρ (v :: vs) = (wipeR ρ vs).set v none := (rfl)
@[simp] theorem ev_lcS {vs : List Nat} {src : DenI} {g : Tgt} {t : DenT} {f : Den} : lcF vs src g t f ρ h = (src ρ h).bind fun s h1 => lcS g t f (wipeR ρ vs) h1 s := by
  unfold lcF
  congr 1
/-! ### things -/
def apr2 (n : Nat) (h : Hs) : Vl → Option Ob → Res Vl
  | .d y, some (.lst l) => cnd (decide (l.length < 100000)) (.ok (.d .non) (h.set n (.lst (l ++ [y])))) .bad
  | _, _ => .bad
def apr1 (g : Den) (ρ : En) (n : Nat) (h : Hs) : Option Ob → Res Vl
  | some (.lst _) => (g ρ h).bind fun y h2 => apr2 n h2 y h2[n]?
  | _ => .bad
def apr (g : Den) (ρ : En) (h : Hs) : Vl → Res Vl
  | .r n => apr1 g ρ n h h[n]?
  | _ => .bad
@[simp] theorem apr_r {g : Den} {n : Nat} : apr g ρ h (.r n) = apr1 g ρ n h h[n]? := (rfl)
@[simp] theorem apr1_l {g : Den} {n : Nat} {l : List Dt} : apr1 g ρ n h (some (.lst l)) = (g ρ h).bind fun y h2 => apr2 n h2 y h2[n]? := (rfl)
@[simp] theorem apr2_l {n : Nat} {l : List Dt} {y : Dt} : apr2 n h (.d y) (some (.lst l)) = cnd (decide (l.length < 100000)) (.ok (.d .non) (h.set n (.lst (l ++ [y])))) .bad := (rfl)
@[simp] theorem ev_appV {f g : Den} : appV f g ρ h = (f ρ h).bind fun x h1 => apr g ρ h1 x := (rfl)
def exr2 (n : Nat) (h : Hs) : Option (List Dt) → Option Ob → Res Vl
  | some l2, some (.lst l) => cnd (decide (l.length + l2.length ≤ 100000)) (.ok (.d .non) (h.set n (.lst (l ++ l2)))) .bad
  | _, _ => .bad
def exr1 (g : Den) (ρ : En) (n : Nat) (h : Hs) : Option Ob → Res Vl
  | some (.lst _) => (g ρ h).bind fun y h2 => exr2 n h2 (sqV y) h2[n]?
  | _ => .bad
def exr (g : Den) (ρ : En) (h : Hs) : Vl → Res Vl
  | .r n => exr1 g ρ n h h[n]?
  | _ => .bad
@[simp] theorem exr_r {g : Den} {n : Nat} : exr g ρ h (.r n) = exr1 g ρ n h h[n]? := (rfl)
@[simp] theorem exr1_l {g : Den} {n : Nat} {l : List Dt} : exr1 g ρ n h (some (.lst l)) = (g ρ h).bind fun y h2 => exr2 n h2 (sqV y) h2[n]? := (rfl)
@[simp] theorem exr2_l {n : Nat} {l l2 : List Dt} : exr2 n h (some l2) (some (.lst l)) = cnd (decide (l.length + l2.length ≤ 100000)) (.ok (.d .non) (h.set n (.lst (l ++ l2)))) .bad := (rfl)
@[simp] theorem ev_extB {f g : Den} : extB f g ρ h = (f ρ h).bind fun x h1 => exr g ρ h1 x := (rfl)
/-- what is read of a thing -/
def borO : Option Ob → Option Dt
  | some (.lst l) => some (.lst l)
  | some (.dct ks vs) => (allD vs).map (.dct ks)
  | some (.dck ks vs) => (allD vs).map (.dck ks)
  | _ => none
@[simp] theorem borO_l {l : List Dt} : borO (some (.lst l)) = some (.lst l) := (rfl)
@[simp] theorem borO_d {ks : List Dt} {vs : List Vl} : borO (some (.dct ks vs)) = (allD vs).map (.dct ks) := (rfl)
@[simp] theorem bor_r {n : Nat} : bor h (.r n) = borO h[n]? := by
  unfold bor
  dsimp only
  generalize h[n]? = o
  cases o with
  | none => rfl
  | some o =>
    cases o with
    | lst l => rfl
    | dct ks vs => simp only [borO]; cases allD vs <;> rfl
    | dck ks vs => simp only [borO]; cases allD vs <;> rfl
    | ins c l => rfl
    | gone => rfl
@[simp] theorem borAll_r {n : Nat} {r : List Vl} : borAll h (.r n :: r) = (borO h[n]?).bind fun a => (borAll h r).map (a :: ·) := by
  show (match bor h (.r n), borAll h r with | some a, some l => some (a :: l) | _, _ => none) = _
  rw [bor_r]
  cases borO h[n]? with
  | none => rfl
  | some a => cases borAll h r <;> rfl
def apx (p : Dt → Option Dt) (h : Hs) : Option Dt → Res Vl
  | some a => rd h (p a)
  | none => .bad
def apxx (p : Dt → Dt → Option Dt) (h : Hs) : Option Dt → Option Dt → Res Vl
  | some a, some b => rd h (p a b)
  | _, _ => .bad
@[simp] theorem apx_s {p : Dt → Option Dt} {d : Dt} : apx p h (some d) = rd h (p d) := (rfl)
@[simp] theorem apxx_s {p : Dt → Dt → Option Dt} {d d2 : Dt} : apxx p h (some d) (some d2) = rd h (p d d2) := (rfl)
@[simp] theorem ev_ap1r {p : Dt → Option Dt} {n : Nat} : ap1 p h (.r n) = apx p h (borO h[n]?) := by
  unfold ap1; rw [bor_r]; cases borO h[n]? <;> rfl
@[simp] theorem ev_ap2r {p : Dt → Dt → Option Dt} {n : Nat} {d : Dt} : ap2 p h (.r n) (.d d) = apxx p h (borO h[n]?) (some d) := by
  unfold ap2; rw [bor_r]; cases borO h[n]? <;> rfl
@[simp] theorem ev_ap2r2 {p : Dt → Dt → Option Dt} {n : Nat} {d : Dt} : ap2 p h (.d d) (.r n) = apxx p h (some d) (borO h[n]?) := by
  unfold ap2; rw [bor_r, bor_d]; cases borO h[n]? <;> rfl
@[simp] theorem sqI_r {n : Nat} : sqI h (.r n) = (match h[n]? with
    | some (.lst l) => .ok (.rf n l.length) h
    | _ => .bad) := (rfl)
/-! ### defs -/
def fin : ResS → PRes
  | .rt x h => match fzn h x with
    | some d => .ok d
    | none => .bad
  | .nx _ _ => .ok .non
  | .exc e _ _ => .exc e
  | _ => .bad
def finO : Option Dt → PRes
  | some d => .ok d
  | none => .bad
@[simp] theorem finO_s {d : Dt} : finO (some d) = .ok d := (rfl)
def fznO (h : Hs) : Option Ob → Option Dt
  | some (.lst l) => some (.lst l)
  | some (.dct ks vs) => (fzAll h vs).map (.dct ks)
  | some (.dck ks vs) => (fzAll h vs).map (.dck ks)
  | _ => none
@[simp] theorem fznO_l {l : List Dt} : fznO h (some (.lst l)) = some (.lst l) := (rfl)
@[simp] theorem fznO_d {ks : List Dt} {vs : List Vl} : fznO h (some (.dct ks vs)) = (fzAll h vs).map (.dct ks) := (rfl)
theorem fzn_r {n : Nat} : fzn h (.r n) = fznO h h[n]? := by
  unfold fzn
  dsimp only
  generalize h[n]? = o
  cases o with
  | none => rfl
  | some o =>
    cases o with
    | lst l => rfl
    | dct ks vs => simp only [fznO]; cases fzAll h vs <;> rfl
    | dck ks vs => simp only [fznO]; cases fzAll h vs <;> rfl
    | ins c l => rfl
    | gone => rfl
@[simp] theorem fin_rtr {n : Nat} : fin (.rt (.r n) h) = finO (fznO h h[n]?) := by
  unfold fin
  simp only [fzn_r]
  cases fznO h h[n]? <;> rfl
@[simp] theorem fin_rt {d : Dt} : fin (.rt (.d d) h) = .ok d := (rfl)
@[simp] theorem fin_nx : fin (.nx ρ h) = .ok .non := (rfl)
@[simp] theorem fin_ex : fin (.exc e ρ h) = .exc e := (rfl)
def finI : ResS → Res Vl
  | .rt x h1 => .ok x h1
  | .nx _ h1 => .ok (.d .non) h1
  | .exc e _ h1 => .exc e h1
  | _ => .bad
@[simp] theorem finI_rt : finI (.rt x h) = .ok x h := (rfl)
@[simp] theorem finI_nx : finI (.nx ρ h) = .ok (.d .non) h := (rfl)
@[simp] theorem finI_ex : finI (.exc e ρ h) = .exc e h := (rfl)
theorem ev_runI {n : Nat} {B : DenS} {xs : List Vl} : runI n B xs h = finI (B (xs.map some ++ List.replicate (n - xs.length) none) h) := (rfl)
end
end Vi
namespace Vi
open PySem L2
section
variable {ρ : En} {h : Hs}
def fl (k : Nat) (h : Hs) : Vl → Res Vl
  | .d (.ins 0 ds) => rd h ds[k]?
  | .r n => match h[n]? with
    | some (.ins 0 fs) => match fs[k]? with
      | some y => .ok y h
      | none => .bad
    | _ => .bad
  | _ => .bad
@[simp] theorem fl_d {k : Nat} {ds : List Dt} : fl k h (.d (.ins 0 ds)) = rd h ds[k]? := (rfl)
def fl2 (h : Hs) : Option Vl → Res Vl
  | some y => .ok y h
  | none => .bad
@[simp] theorem fl2_s {y : Vl} : fl2 h (some y) = .ok y h := (rfl)
def fl1 (k : Nat) (h : Hs) : Option Ob → Res Vl
  | some (.ins 0 fs) => fl2 h fs[k]?
  | _ => .bad
@[simp] theorem fl1_s {k : Nat} {fs : List Vl} : fl1 k h (some (.ins 0 fs)) = fl2 h fs[k]? := (rfl)
@[simp] theorem fl_r {k n : Nat} : fl k h (.r n) = fl1 k h h[n]? := by
  unfold fl
  dsimp only
  generalize h[n]? = o
  cases o with
  | none => rfl
  | some o =>
    cases o with
    | ins c l => cases c <;> rfl
    | lst l => rfl
    | dct a b => rfl
    | dck a b => rfl
    | gone => rfl
@[simp] theorem ev_fldV {k : Nat} {f : Den} : fldV k f ρ h = (f ρ h).bind fun x h1 => fl k h1 x := by
  unfold fldV
  congr 1
def st2 (n : Nat) (y : Vl) (x : Dt) (ρ : En) (h : Hs) : Option Ob → ResS
  | some (.dct ks vs) => cnd (keyOk x && decide (ks.length < 100000)) (.nx ρ (h.set n (.dct (putK ks x) (putV ks vs x y)))) .bad
  | some (.lst l) => match y, x with
    | .d y, .int i => match ixN l.length i with
      | some j => .nx ρ (h.set n (.lst (l.set j y)))
      | none => .bad
    | _, _ => .bad
  | _ => .bad
@[simp] theorem st2_d {n : Nat} {y : Vl} {x : Dt} {ks : List Dt} {vs : List Vl} : st2 n y x ρ h (some (.dct ks vs)) = cnd (keyOk x && decide (ks.length < 100000)) (.nx ρ (h.set n (.dct (putK ks x) (putV ks vs x y)))) .bad := (rfl)
def stL (n : Nat) (y : Dt) (l : List Dt) (ρ : En) (h : Hs) : Option Nat → ResS
  | some j => .nx ρ (h.set n (.lst (l.set j y)))
  | none => .bad
@[simp] theorem stL_s {n j : Nat} {y : Dt} {l : List Dt} : stL n y l ρ h (some j) = .nx ρ (h.set n (.lst (l.set j y))) := (rfl)
@[simp] theorem st2_l {n : Nat} {y : Dt} {i : Int} {l : List Dt} : st2 n (.d y) (.int i) ρ h (some (.lst l)) = stL n y l ρ h (ixN l.length i) := by
  show (match ixN l.length i with | some j => ResS.nx ρ (h.set n (.lst (l.set j y))) | none => .bad) = _
  cases ixN l.length i <;> rfl
def st1 (y : Vl) (ρ : En) (h : Hs) : Vl → Vl → ResS
  | .r n, .d x => st2 n y x ρ h h[n]?
  | _, _ => .bad
@[simp] theorem st1_s {n : Nat} {y : Vl} {x : Dt} : st1 y ρ h (.r n) (.d x) = st2 n y x ρ h h[n]? := (rfl)
@[simp] theorem ev_setItS {f g k : Den} : setItS f g k ρ h = bindS (f ρ h) ρ fun y h1 => bindS (g ρ h1) ρ fun d h2 => bindS (k ρ h2) ρ fun x h3 => st1 y ρ h3 d x := by
  unfold setItS
  congr 1
def sp1 (y : Vl) (n : Nat) (ρ : En) (h : Hs) : Option Ob → ResS
  | some (.ins 0 [z]) => .nx ρ (h.set n (.ins 0 [z, y]))
  | _ => .bad
@[simp] theorem sp1_s {y z : Vl} {n : Nat} : sp1 y n ρ h (some (.ins 0 [z])) = .nx ρ (h.set n (.ins 0 [z, y])) := (rfl)
def sp0 (y : Vl) (ρ : En) (h : Hs) : Vl → ResS
  | .r n => sp1 y n ρ h h[n]?
  | _ => .bad
@[simp] theorem sp0_r {y : Vl} {n : Nat} : sp0 y ρ h (.r n) = sp1 y n ρ h h[n]? := (rfl)
@[simp] theorem ev_setP {f g : Den} : setP f g ρ h = bindS (f ρ h) ρ fun y h1 => bindS (g ρ h1) ρ fun d h2 => sp0 y ρ h2 d := by
  unfold setP
  congr 1
@[simp] theorem ev_dct0 : dct0 ρ h = .ok (.dct [] []) h := (rfl)
end
end Vi
namespace Vi
open PySem L2
section
variable {ρ : En} {h : Hs}
def prr (g : Pf) (h : Hs) : Vl → Res Vl
  | .d (.ins 0 ds) => match g [.ins 0 ds] with
    | .ok d => .ok (.d d) h
    | _ => .bad
  | _ => .bad
def prk (h : Hs) : PRes → Res Vl
  | .ok d => .ok (.d d) h
  | _ => .bad
@[simp] theorem prk_ok {d : Dt} : prk h (.ok d) = .ok (.d d) h := (rfl)
@[simp] theorem prr_d {g : Pf} {ds : List Dt} : prr g h (.d (.ins 0 ds)) = prk h (g [.ins 0 ds]) := by
  show (match g [.ins 0 ds] with | .ok d => Res.ok (Vl.d d) h | _ => .bad) = _
  cases g [.ins 0 ds] <;> rfl
@[simp] theorem ev_propP {g : Pf} {f : Den} : propP g f ρ h = (f ρ h).bind fun x h1 => prr g h1 x := by
  unfold propP
  congr 1
def itk (h : Hs) : Option Dt → Res Dt
  | some (.dct ks vs) => .ok (.lst (itemsD ks vs)) h
  | _ => .bad
@[simp] theorem itk_d {ks vs : List Dt} : itk h (some (.dct ks vs)) = .ok (.lst (itemsD ks vs)) h := (rfl)
@[simp] theorem ev_itemsF {f : Den} : itemsF f ρ h = (f ρ h).bind fun x h1 => itk h1 (bor h1 x) := by
  unfold itemsF
  congr 1
def sd4 (h : Hs) : Option Vl → Res Vl
  | some w => .ok w h
  | none => .bad
@[simp] theorem sd4_s {w : Vl} : sd4 h (some w) = .ok w h := (rfl)
def sd3 (n : Nat) (ks : List Dt) (vs : List Vl) (x : Dt) (y : Vl) (h : Hs) : Option Nat → Res Vl
  | some i => sd4 h vs[i]?
  | none => .ok y (h.set n (.dct (putK ks x) (putV ks vs x y)))
@[simp] theorem sd3_s {n i : Nat} {ks : List Dt} {vs : List Vl} {x : Dt} {y : Vl} : sd3 n ks vs x y h (some i) = sd4 h vs[i]? := (rfl)
@[simp] theorem sd3_n {n : Nat} {ks : List Dt} {vs : List Vl} {x : Dt} {y : Vl} : sd3 n ks vs x y h none = .ok y (h.set n (.dct (putK ks x) (putV ks vs x y))) := (rfl)
def sd2 (n : Nat) (y : Vl) (h : Hs) : Vl → Option Ob → Res Vl
  | .d x, some (.dct ks vs) => cnd (keyOk x && decide (ks.length < 100000)) (sd3 n ks vs x y h (findK ks x)) .bad
  | _, _ => .bad
@[simp] theorem sd2_s {n : Nat} {ks : List Dt} {vs : List Vl} {x : Dt} {y : Vl} : sd2 n y h (.d x) (some (.dct ks vs)) = cnd (keyOk x && decide (ks.length < 100000)) (sd3 n ks vs x y h (findK ks x)) .bad := (rfl)
def sd1 (k g : Den) (ρ : En) (n : Nat) (h : Hs) : Option Ob → Res Vl
  | some (.dct _ _) => (k ρ h).bind fun x h2 => (g ρ h2).bind fun y h3 => sd2 n y h3 x h3[n]?
  | _ => .bad
@[simp] theorem sd1_s {k g : Den} {n : Nat} {ks : List Dt} {vs : List Vl} : sd1 k g ρ n h (some (.dct ks vs)) = (k ρ h).bind fun x h2 => (g ρ h2).bind fun y h3 => sd2 n y h3 x h3[n]? := (rfl)
def sd0 (k g : Den) (ρ : En) (h : Hs) : Vl → Res Vl
  | .r n => sd1 k g ρ n h h[n]?
  | _ => .bad
@[simp] theorem sd0_r {k g : Den} {n : Nat} : sd0 k g ρ h (.r n) = sd1 k g ρ n h h[n]? := (rfl)
@[simp] theorem ev_sdV {f k g : Den} : sdV f k g ρ h = (f ρ h).bind fun d h1 => sd0 k g ρ h1 d := by
  unfold sdV
  congr 1
end
end Vi
namespace Vi
open PySem L2
section
variable {ρ : En} {h : Hs}
def up3 (n : Nat) (ks : List Dt) (vs : List Vl) (l : List Dt) (h : Hs) : Option (List (Dt × Vl)) → Res Vl
  | some prs => cnd (decide (ks.length + l.length < 100000)) (.ok (.d .non) (h.set n (.dct (updKV ks vs prs).1 (updKV ks vs prs).2))) .bad
  | none => .bad
@[simp] theorem up3_s {n : Nat} {ks : List Dt} {vs : List Vl} {l : List Dt} {prs : List (Dt × Vl)} : up3 n ks vs l h (some prs) = cnd (decide (ks.length + l.length < 100000)) (.ok (.d .non) (h.set n (.dct (updKV ks vs prs).1 (updKV ks vs prs).2))) .bad := (rfl)
def up2 (n : Nat) (h : Hs) : Vl → Option Ob → Res Vl
  | .d (.lst l), some (.dct ks vs) => up3 n ks vs l h (pairsD l)
  | _, _ => .bad
@[simp] theorem up2_s {n : Nat} {ks : List Dt} {vs : List Vl} {l : List Dt} : up2 n h (.d (.lst l)) (some (.dct ks vs)) = up3 n ks vs l h (pairsD l) := (rfl)
def up1 (g : Den) (ρ : En) (n : Nat) (h : Hs) : Option Ob → Res Vl
  | some (.dct _ _) => (g ρ h).bind fun y h2 => up2 n h2 y h2[n]?
  | _ => .bad
@[simp] theorem up1_s {g : Den} {n : Nat} {ks : List Dt} {vs : List Vl} : up1 g ρ n h (some (.dct ks vs)) = (g ρ h).bind fun y h2 => up2 n h2 y h2[n]? := (rfl)
def up0 (g : Den) (ρ : En) (h : Hs) : Vl → Res Vl
  | .r n => up1 g ρ n h h[n]?
  | _ => .bad
@[simp] theorem up0_r {g : Den} {n : Nat} : up0 g ρ h (.r n) = up1 g ρ n h h[n]? := (rfl)
@[simp] theorem ev_updV {f g : Den} : updV f g ρ h = (f ρ h).bind fun d h1 => up0 g ρ h1 d := by
  unfold updV
  congr 1
  funext d h1
  cases d with
  | d x => rfl
  | r n =>
    simp only [up0_r]
    generalize h1[n]? = o
    cases o with
    | none => rfl
    | some o =>
      cases o with
      | dct ks vs =>
        simp only [up1_s]
        congr 1
        funext y h2
        cases y with
        | r k => rfl
        | d y =>
          cases y with
          | lst l =>
            generalize h2[n]? = o2
            cases o2 with
            | none => rfl
            | some o2 =>
              cases o2 with
              | dct ks vs =>
                simp only [up2_s]
                cases pairsD l with
                | none => rfl
                | some prs => simp only [up3_s]; by_cases q : ks.length + l.length < 100000 <;> simp [q]
              | lst l => rfl
              | dck a b => rfl
              | ins a b => rfl
              | gone => rfl
          | non => rfl
          | bl b => rfl
          | int b => rfl
          | str b => rfl
          | tup b => rfl
          | dct a b => rfl
          | dck a b => rfl
          | set b => rfl
          | ins a b => rfl
          | scr b => rfl
      | lst l => rfl
      | dck a b => rfl
      | ins a b => rfl
      | gone => rfl
@[simp] theorem ev_parNS {i : Nat} {f1 f2 g k : Den} : parNS i f1 f2 g k ρ h = bindS (f1 ρ h) ρ fun x h1 => bindS (f2 ρ h1) ρ fun y h2 => bindS (g (ρ.set i (some x)) h2) (ρ.set i (some x)) fun d h3 => bindS (k (ρ.set i (some x)) h3) (ρ.set i (some x)) fun z h4 => st1 y (ρ.set i (some x)) h4 d z := by
  unfold parNS setT
  congr 1
end
end Vi

set_option maxRecDepth 100000
/-! Typed data in Dt: equality, order, sorting. -/
namespace Vi
open PySem L2
class Em (α : Type) [DecidableEq α] where
  em : α → Dt
  dp : Nat
  ok : ∀ a, okD dp (em a) = true
  eq : ∀ a b, (em a).eq (em b) = decide (a = b)
open Em (em)
mutual
theorem okD_mono : ∀ {n m : Nat} (d : Dt), n ≤ m → okD n d = true → okD m d = true
  | _, _, .non, _, _ => by unfold okD; rfl
  | _, _, .bl _, _, _ => by unfold okD; rfl
  | _, _, .int _, _, _ => by unfold okD; rfl
  | _, _, .str _, _, _ => by unfold okD; rfl
  | n + 1, m + 1, .tup l, h, q => by
    unfold okD at q ⊢
    exact okDs_mono l (Nat.le_of_succ_le_succ h) q
  | n + 1, m + 1, .lst l, h, q => by
    unfold okD at q ⊢
    exact okDs_mono l (Nat.le_of_succ_le_succ h) q
  | 0, _, .tup _, _, q => by simp [okD] at q
  | 0, _, .lst _, _, q => by simp [okD] at q
  | 0, _, .dct _ _, _, q => by simp [okD] at q
  | n + 1, _, .dct _ _, _, q => by simp [okD] at q
  | 0, _, .dck _ _, _, q => by simp [okD] at q
  | n + 1, _, .dck _ _, _, q => by simp [okD] at q
  | 0, _, .set _, _, q => by simp [okD] at q
  | n + 1, _, .set _, _, q => by simp [okD] at q
  | 0, _, .ins _ _, _, q => by simp [okD] at q
  | n + 1, _, .ins _ _, _, q => by simp [okD] at q
  | 0, _, .scr _, _, q => by simp [okD] at q
  | n + 1, _, .scr _, _, q => by simp [okD] at q
theorem okDs_mono : ∀ {n m : Nat} (l : List Dt), n ≤ m → l.all (okD n) = true → l.all (okD m) = true
  | _, _, [], _, _ => rfl
  | n, m, d :: l, h, q => by
    rw [List.all_cons, Bool.and_eq_true] at q ⊢
    exact ⟨okD_mono d h q.1, okDs_mono l h q.2⟩
end
theorem beq_dec {α : Type} [BEq α] [LawfulBEq α] [DecidableEq α] (a b : α) : (a == b) = decide (a = b) := by
  rw [Bool.eq_iff_iff, beq_iff_eq, decide_eq_true_eq]
section
variable {α β : Type} [DecidableEq α] [Em α] [DecidableEq β] [Em β]
instance : Em Int where
  em := .int
  dp := 0
  ok _ := by unfold okD; rfl
  eq a b := by
    unfold Dt.eq
    simp only [Dt.py, PyData.eqv]
    exact beq_dec a b
instance : Em Bool where
  em := .bl
  dp := 0
  ok _ := by unfold okD; rfl
  eq a b := by
    unfold Dt.eq
    simp only [Dt.py, PyData.eqv]
    exact beq_dec a b
instance : Em Str where
  em := .str
  dp := 0
  ok _ := by unfold okD; rfl
  eq a b := by
    unfold Dt.eq
    simp only [Dt.py, PyData.eqv]
    exact beq_dec a b
instance : Em (α × β) where
  em p := .tup [em p.1, em p.2]
  dp := max (Em.dp α) (Em.dp β) + 1
  ok p := by
    unfold okD
    simp only [List.all_cons, List.all_nil, Bool.and_true, Bool.and_eq_true]
    exact ⟨okD_mono _ (Nat.le_max_left _ _) (Em.ok p.1), okD_mono _ (Nat.le_max_right _ _) (Em.ok p.2)⟩
  eq p q := by
    have h1 := Em.eq p.1 q.1
    have h2 := Em.eq p.2 q.2
    unfold Dt.eq at *
    simp only [Dt.py, pyAll, PyData.eqv, PyData.eqvAll, h1, h2, Bool.and_true]
    rw [← Bool.decide_and]
    exact decide_eq_decide.mpr ⟨fun e => Prod.ext e.1 e.2, fun e => by rw [e]; exact ⟨rfl, rfl⟩⟩
theorem eqvAll_em : ∀ xs ys : List α, PyData.eqvAll (pyAll (xs.map em)) (pyAll (ys.map em)) = decide (xs = ys)
  | [], [] => by simp only [List.map_nil, pyAll, PyData.eqvAll, decide_true]
  | [], _ :: _ => by simp [pyAll, PyData.eqvAll]
  | _ :: _, [] => by simp [pyAll, PyData.eqvAll]
  | x :: xs, y :: ys => by
    have h1 := Em.eq x y
    unfold Dt.eq at h1
    rw [List.map_cons, List.map_cons, pyAll, pyAll, PyData.eqvAll, h1, eqvAll_em xs ys, ← Bool.decide_and]
    exact decide_eq_decide.mpr (by rw [List.cons.injEq])
theorem all_ok (l : List α) {n : Nat} (h : Em.dp α ≤ n) : (l.map em).all (okD n) = true := by
  rw [List.all_map, List.all_eq_true]
  exact fun a _ => okD_mono _ h (Em.ok a)
instance : Em (List α) where
  em l := .lst (l.map em)
  dp := Em.dp α + 1
  ok l := by unfold okD; exact all_ok l (Nat.le_refl _)
  eq l m := by
    unfold Dt.eq
    simp only [Dt.py, PyData.eqv]
    exact eqvAll_em l m
/-- a tuple of any length -/
structure Tu (α : Type) where
  l : List α
deriving DecidableEq
instance : Em (Tu α) where
  em t := .tup (t.l.map em)
  dp := Em.dp α + 1
  ok t := by unfold okD; exact all_ok t.l (Nat.le_refl _)
  eq t u := by
    unfold Dt.eq
    simp only [Dt.py, PyData.eqv]
    rw [eqvAll_em]
    exact decide_eq_decide.mpr ⟨fun e => by cases t; cases u; exact congrArg Tu.mk e, fun e => by rw [e]⟩
/-- never None -/
class Nn (α : Type) [DecidableEq α] [Em α] : Prop where
  nn : ∀ a : α, (em a).isN = false
instance : Nn Int := ⟨fun _ => rfl⟩
instance : Nn (α × β) := ⟨fun _ => rfl⟩
instance : Nn (List α) := ⟨fun _ => rfl⟩
instance : Nn (Tu α) := ⟨fun _ => rfl⟩
def emO : Option α → Dt
  | none => .non
  | some a => em a
end
/-! ### order -/
class EmO (α : Type) [DecidableEq α] [Em α] where
  lt : α → α → Bool
  al : ∀ a b : α, PySem.W.alike (em a).py (em b).py = true
  lt_eq : ∀ a b : α, PySem.W.dataLt (em a).py (em b).py = lt a b
  nn : ∀ a : α, (em a).isN = false
  irr : ∀ a : α, lt a a = false
  tr : ∀ a b c : α, lt a b = true → lt b c = true → lt a c = true
  tot : ∀ a b : α, a ≠ b → lt a b = true ∨ lt b a = true
instance : EmO Int where
  lt a b := decide (a < b)
  al _ _ := by simp only [em, Dt.py, PySem.W.alike]
  lt_eq a b := PySem.W.dataLt_int a b
  nn _ := rfl
  irr a := by simp
  tr a b c := by simp; omega
  tot a b := by simp; omega
instance : EmO Bool where
  lt a b := !a && b
  al _ _ := by simp only [em, Dt.py, PySem.W.alike]
  lt_eq a b := by
    show PySem.W.dataLt (.bool a) (.bool b) = _
    rw [PySem.W.dataLt_bool]; cases a <;> cases b <;> decide
  nn _ := rfl
  irr a := by cases a <;> rfl
  tr a b c := by cases a <;> cases b <;> cases c <;> simp
  tot a b := by cases a <;> cases b <;> simp
section
variable {α β : Type} [DecidableEq α] [Em α] [EmO α] [DecidableEq β] [Em β] [EmO β]
def ltP2 (p q : α × β) : Bool := EmO.lt p.1 q.1 || (decide (p.1 = q.1) && EmO.lt p.2 q.2)
theorem dataLt_nil : PyProof.Rows.lexLt PyProof.Rows.itemOrd (PySem.W.keyToksAll []) (PySem.W.keyToksAll []) = false := by decide +kernel
theorem lt_pair (p q : α × β) : PySem.W.dataLt (em p).py (em q).py = ltP2 p q := by
  show PySem.W.dataLt (.tuple (pyAll [em p.1, em p.2])) (.tuple (pyAll [em q.1, em q.2])) = _
  rw [PySem.W.dataLt_tuple]
  simp only [pyAll]
  have e1 := Em.eq p.1 q.1
  have e2 := Em.eq p.2 q.2
  unfold Dt.eq at e1 e2
  by_cases h : p.1 = q.1
  · rw [PySem.W.dataLt_all_yes (EmO.al _ _) (by rw [e1]; simp [h])]
    by_cases h2 : p.2 = q.2
    · rw [PySem.W.dataLt_all_yes (EmO.al _ _) (by rw [e2]; simp [h2]), dataLt_nil]
      simp [ltP2, h, h2, EmO.irr]
    · rw [PySem.W.dataLt_all_no (EmO.al _ _) (by rw [e2]; simp [h2]), EmO.lt_eq]
      simp [ltP2, h, EmO.irr]
  · rw [PySem.W.dataLt_all_no (EmO.al _ _) (by rw [e1]; simp [h]), EmO.lt_eq]
    simp [ltP2, h]
instance : EmO (α × β) where
  lt := ltP2
  al p q := by
    show PySem.W.alike (.tuple (pyAll [em p.1, em p.2])) (.tuple (pyAll [em q.1, em q.2])) = true
    simp only [pyAll, PySem.W.alike, PySem.W.alikeAll, EmO.al, Bool.and_self]
  lt_eq := lt_pair
  nn _ := rfl
  irr p := by simp [ltP2, EmO.irr]
  tr p q r := by
    simp only [ltP2, Bool.or_eq_true, Bool.and_eq_true, decide_eq_true_eq]
    intro h1 h2
    rcases h1 with h1 | ⟨h1, k1⟩
    · rcases h2 with h2 | ⟨h2, k2⟩
      · exact Or.inl (EmO.tr _ _ _ h1 h2)
      · rw [← h2]; exact Or.inl h1
    · rcases h2 with h2 | ⟨h2, k2⟩
      · rw [h1]; exact Or.inl h2
      · exact Or.inr ⟨h1.trans h2, EmO.tr _ _ _ k1 k2⟩
  tot p q h := by
    simp only [ltP2, Bool.or_eq_true, Bool.and_eq_true, decide_eq_true_eq]
    by_cases h1 : p.1 = q.1
    · have h2 : p.2 ≠ q.2 := fun e => h (Prod.ext h1 e)
      rcases EmO.tot _ _ h2 with k | k
      · exact Or.inl (Or.inr ⟨h1, k⟩)
      · exact Or.inr (Or.inr ⟨h1.symm, k⟩)
    · rcases EmO.tot _ _ h1 with k | k
      · exact Or.inl (Or.inl k)
      · exact Or.inr (Or.inl k)
variable {γ : Type} [DecidableEq γ] [Em γ] [EmO γ]
/-- insertion sort -/
def insT (a : γ) : List γ → List γ
  | [] => [a]
  | b :: r => if EmO.lt b a = true then b :: insT a r else a :: b :: r
def sortT : List γ → List γ
  | [] => []
  | a :: l => insT a (sortT l)
end
section
variable {α β : Type} [DecidableEq α] [Em α] [EmO α] [DecidableEq β] [Em β] [EmO β]
end
end Vi

set_option maxRecDepth 100000
/-! drawings.py on typed data -/
namespace Vi
open PySem L2
open Em (em)
/-- a piece -/
structure Pc where
  x : Int
  y : Int
  u : Int
  v : Int
deriving DecidableEq
def Pc.em (p : Pc) : Dt := .tup [.int p.x, .int p.y, .int p.u, .int p.v]
@[simp] theorem Pc.ix0 {p : Pc} : ixP2 p.em (.int 0) = some (.int p.x) := (rfl)
@[simp] theorem Pc.ix1 {p : Pc} : ixP2 p.em (.int 1) = some (.int p.y) := (rfl)
@[simp] theorem Pc.ix2 {p : Pc} : ixP2 p.em (.int 2) = some (.int p.u) := (rfl)
@[simp] theorem Pc.ix3 {p : Pc} : ixP2 p.em (.int 3) = some (.int p.v) := (rfl)
@[simp] theorem Pc.sl0 {p : Pc} : slP none (some 2) p.em = some (.tup [.int p.x, .int p.y]) := (rfl)
@[simp] theorem Pc.sl2 {p : Pc} : slP (some 2) none p.em = some (.tup [.int p.u, .int p.v]) := (rfl)
structure Pc.In (p : Pc) : Prop where
  x : 0 ≤ p.x ∧ p.x ≤ 60
  y : 0 ≤ p.y ∧ p.y ≤ 60
  u : 0 ≤ p.u ∧ p.u ≤ 60
  v : 0 ≤ p.v ∧ p.v ≤ 60
/-- two numbers -/
abbrev P2 := Int × Int
abbrev e2 (p : P2) : Dt := .tup [.int p.1, .int p.2]
def Pc.sx (p : Pc) : Int := p.u - p.x
def Pc.sy (p : Pc) : Int := p.v - p.y
def Pc.len (p : Pc) : Int := p.sx * p.sx + p.sy * p.sy
theorem Pc.In.sx {p : Pc} (h : p.In) : -60 ≤ p.sx ∧ p.sx ≤ 60 := by have := h.x; have := h.u; unfold Pc.sx; omega
theorem Pc.In.sy {p : Pc} (h : p.In) : -60 ≤ p.sy ∧ p.sy ≤ 60 := by have := h.y; have := h.v; unfold Pc.sy; omega
/-- a fraction in lowest terms -/
def fracT (t b : Int) : P2 := (t / Int.gcd t b, b / Int.gcd t b)
/-! ### pieces on one line -/
def mxI (a b : Int) : Int := if b > a then b else a
def mnI (a b : Int) : Int := if b < a then b else a
def endA (p q : Pc) : Int := (q.x - p.x) * p.sx + (q.y - p.y) * p.sy
def endB (p q : Pc) : Int := (q.u - p.x) * p.sx + (q.v - p.y) * p.sy
def alongT (p q : Pc) : Option P2 :=
  let lo := mxI 0 (mnI (endA p q) (endB p q))
  let hi := mnI p.len (mxI (endA p q) (endB p q))
  if lo ≤ hi then some (lo, hi) else none
def eO2 : Option P2 → Dt
  | none => .non
  | some p => .tup [.int p.1, .int p.2]
def crossT (a b c d : Int) : Int := a * d - b * c
def overlapT (p q : Pc) : Bool :=
  if crossT p.sx p.sy q.sx q.sy ≠ 0 ∨ crossT p.sx p.sy (q.x - p.x) (q.y - p.y) ≠ 0 then false
  else match alongT p q with
    | none => false
    | some (a, b) => decide (a < b)
/-- a point: two fractions -/
abbrev Pt := P2 × P2
abbrev ePt (z : Pt) : Dt := .tup [.tup [.int z.1.1, .int z.1.2], .tup [.int z.2.1, .int z.2.2]]
def pointT (p : Pc) (t b : Int) : Pt := (fracT (p.x * b + p.sx * t) b, fracT (p.y * b + p.sy * t) b)
def commonT (p q : Pc) : Option Pt :=
  let turn := crossT p.sx p.sy q.sx q.sy
  if turn = 0 then
    if crossT p.sx p.sy (q.x - p.x) (q.y - p.y) = 0 then
      match alongT p q with
      | none => none
      | some (a, _) => some (pointT p a p.len)
    else none
  else
    let sg : Int := if 0 < turn then 1 else -1
    let top := sg * crossT (q.x - p.x) (q.y - p.y) q.sx q.sy
    let top2 := sg * crossT (q.x - p.x) (q.y - p.y) p.sx p.sy
    if (0 ≤ top ∧ top ≤ sg * turn) ∧ (0 ≤ top2 ∧ top2 ≤ sg * turn) then some (pointT p top (sg * turn)) else none
def eOPt : Option Pt → Dt
  | none => .non
  | some p => ePt p
theorem mul_bd {a b : Int} {m n : Nat} (ha : -(m : Int) ≤ a ∧ a ≤ m) (hb : -(n : Int) ≤ b ∧ b ≤ n) : -((m * n : Nat) : Int) ≤ a * b ∧ a * b ≤ ((m * n : Nat) : Int) := by
  have h1 : a.natAbs ≤ m := by omega
  have h2 : b.natAbs ≤ n := by omega
  have h3 := Nat.mul_le_mul h1 h2
  rw [← Int.natAbs_mul] at h3
  omega
theorem Pc.In.len {p : Pc} (h : p.In) : 0 ≤ p.len ∧ p.len ≤ 7200 := by
  have h1 := mul_bd (m := 60) (n := 60) h.sx h.sx
  have h2 := mul_bd (m := 60) (n := 60) h.sy h.sy
  have h3 : 0 ≤ p.sx * p.sx := by have := Int.mul_self_le_mul_self (a := 0) (b := p.sx.natAbs) (by omega) (by omega); simpa using this
  have h4 : 0 ≤ p.sy * p.sy := by have := Int.mul_self_le_mul_self (a := 0) (b := p.sy.natAbs) (by omega) (by omega); simpa using this
  unfold Pc.len
  omega
/-- a piece of a drawing -/
structure Pc.Ok (p : Pc) : Prop extends p.In where
  ne : ¬(p.x = p.u ∧ p.y = p.v)
theorem Pc.Ok.len {p : Pc} (h : p.Ok) : 0 < p.len ∧ p.len ≤ 7200 := by
  refine ⟨?_, h.toIn.len.2⟩
  have h3 : 0 ≤ p.sx * p.sx := by have := Int.mul_self_le_mul_self (a := 0) (b := p.sx.natAbs) (by omega) (by omega); simpa using this
  have h4 : 0 ≤ p.sy * p.sy := by have := Int.mul_self_le_mul_self (a := 0) (b := p.sy.natAbs) (by omega) (by omega); simpa using this
  have hne := h.ne
  have : p.len ≠ 0 := by
    intro z
    unfold Pc.len at z
    have z1 : p.sx * p.sx = 0 := by omega
    have z2 : p.sy * p.sy = 0 := by omega
    have y1 := Int.mul_eq_zero.mp z1
    have y2 := Int.mul_eq_zero.mp z2
    unfold Pc.sx at y1
    unfold Pc.sy at y2
    omega
  have := h.toIn.len.1
  omega
end Vi

set_option maxRecDepth 100000
/-! dicts with typed keys -/
namespace Vi
open PySem L2
open Em (em)
class Kx (α : Type) [DecidableEq α] [Em α] where
  kn : α → NestedKey
  kd : Nat
  key : ∀ a : α, keyN (em a) = some (kn a)
  inj : ∀ a b : α, NestedKey.beq (kn a) (kn b) = decide (a = b)
  dep : ∀ a : α, (kn a).depth ≤ kd
instance : Kx Int where
  kn := .num
  kd := 0
  key _ := rfl
  inj a b := by simp only [NestedKey.beq]
  dep _ := Nat.le_refl _
section
variable {α β : Type} [DecidableEq α] [Em α] [Kx α] [DecidableEq β] [Em β] [Kx β]
instance : Kx (α × β) where
  kn p := .tup [Kx.kn p.1, Kx.kn p.2]
  kd := max (Kx.kd α) (Kx.kd β) + 1
  key p := by
    show keyN (.tup [em p.1, em p.2]) = _
    simp only [keyN, keyNs, Kx.key]
  inj p q := by
    simp only [NestedKey.beq, NestedKey.beqAll, Kx.inj, Bool.and_true]
    rw [← Bool.decide_and]
    exact decide_eq_decide.mpr ⟨fun e => Prod.ext e.1 e.2, fun e => by rw [e]; exact ⟨rfl, rfl⟩⟩
  dep p := by
    have h1 := Kx.dep p.1
    have h2 := Kx.dep p.2
    simp only [NestedKey.depth, NestedKey.depthAll]
    omega
variable {κ : Type} [DecidableEq κ] [Em κ] [Kx κ]
/-- the place of a key -/
def ixT : List κ → κ → Option Nat
  | [], _ => none
  | k :: ks, x => if k = x then some 0 else (ixT ks x).map (· + 1)
/-- a key is put in -/
def pK (ks : List κ) (x : κ) : List κ := if x ∈ ks then ks else ks ++ [x]
/-- its value -/
def pV {ν : Type} (ks : List κ) (vs : List ν) (x : κ) (y : ν) : List ν := match ixT ks x with
  | some i => vs.set i y
  | none => vs ++ [y]
end
end Vi

set_option maxRecDepth 100000
/-! Drawing(..) on typed data -/
namespace Vi
open PySem L2
open Em (em)
def inR (i : Int) : Bool := decide (0 ≤ i ∧ i ≤ 60)
def pcOk (p : Pc) : Bool := inR p.x && inR p.y && inR p.u && inR p.v && !decide (p.x = p.u ∧ p.y = p.v)
/-- the index at which pieces are no drawing any more; behind some pieces -/
def badFrom (pre : List Pc) : List Pc → Option Nat
  | [] => none
  | p :: r => if pre.length = 6 ∨ pcOk p = false ∨ pre.any (overlapT p) = true then some pre.length else badFrom (pre ++ [p]) r
def bodyD1 : DenS := (seqS (ifS ((orT (asB (b2 eqP (vr 2) (cI (6)))) (notT (asB (callP 1 p_is_piece (consA (vr 3) nilA)))))) (raiseS ec_InvalidDrawing er_InvalidDrawing (consA (vr 2) nilA)) skipS) (ifS (asB (cl anyP (consA (frz (lcF [7] (seqI (slV (vr 1) noneO (someO (vr 2)))) (gN 7) yesT (callP 2 p_overlap (consA (vr 3) (consA (vr 7) nilA))))) nilA))) (raiseS ec_InvalidDrawing er_InvalidDrawing (consA (vr 2) nilA)) skipS))
def rzS (cl : Nat) (ρ : En) (h : Hs) (ds : List Dt) : Option (List (Str × Dt)) → ResS
  | some fs => cnd (decide (ds.length ≤ 100)) (.exc ⟨cl, fs⟩ ρ h) .bad
  | none => .bad
@[simp] theorem rzS_s {cl : Nat} {ρ : En} {h : Hs} {ds : List Dt} {fs : List (Str × Dt)} : rzS cl ρ h ds (some fs) = cnd (decide (ds.length ≤ 100)) (.exc ⟨cl, fs⟩ ρ h) .bad := (rfl)
def rzO (cl : Nat) (g : List Dt → Option (List (Str × Dt))) (ρ : En) (h : Hs) : Option (List Dt) → ResS
  | some ds => rzS cl ρ h ds (g ds)
  | none => .bad
@[simp] theorem rzO_s {cl : Nat} {g : List Dt → Option (List (Str × Dt))} {ρ : En} {h : Hs} {ds : List Dt} : rzO cl g ρ h (some ds) = rzS cl ρ h ds (g ds) := (rfl)
@[simp] theorem ev_raiseS {cl : Nat} {g : List Dt → Option (List (Str × Dt))} {fa : DenA} {ρ : En} {h : Hs} : raiseS cl g fa ρ h = bindS (fa ρ h) ρ fun xs h1 => rzO cl g ρ h1 (allD xs) := by
  unfold raiseS
  congr 1
  funext xs h1
  cases allD xs with
  | none => rfl
  | some ds =>
    simp only [rzO_s]
    cases g ds with
    | none => rfl
    | some fs => by_cases q : ds.length ≤ 100 <;> simp [q]
/-- one turn -/
def bad1 (pre : List Pc) (p : Pc) : Bool := decide (pre.length = 6) || (!pcOk p || pre.any (overlapT p))
end Vi

set_option maxRecDepth 100000
set_option maxHeartbeats 40000
/-! the points of a drawing -/
namespace Vi
open PySem L2
open Em (em)
abbrev pr2 (i j : Nat) : P2 := ((i : Int), (j : Int))
def ptStep (ps : List Pc) (j i : Nat) : List (P2 × Pt) := match ps[i]?, ps[j]? with
  | some p, some q => match commonT p q with
    | some z => [(pr2 i j, z)]
    | none => []
  | _, _ => []
def ptRow (ps : List Pc) (j : Nat) (l : List Nat) : List (P2 × Pt) := l.flatMap (ptStep ps j)
def pointsT (ps : List Pc) : List (P2 × Pt) := (List.range ps.length).flatMap fun j => ptRow ps j (List.range j)
def dctT (acc : List (P2 × Pt)) : Ob := .dct ((acc.map (·.1)).map em) (acc.map fun p => .d (ePt p.2))
def hpD (W : List Dt) (acc : List (P2 × Pt)) : Hs := [.ins 0 [.d (.tup W), .r 1], dctT acc]
def bodyD2 : DenS := (seqS (setS 6 (callP 2 p_common_point (consA (b2 ixP2 (vr 1) (vr 5)) (consA (b2 ixP2 (vr 1) (vr 4)) nilA)))) (ifS (asB (b2 isnP (vr 6) (cN))) (setItS (vr 6) (fldV 1 (vr 0)) (tupV (consA (vr 5) (consA (vr 4) nilA)))) skipS))
def ptUp (ps : List Pc) (l : List Nat) : List (P2 × Pt) := l.flatMap fun j => ptRow ps j (List.range j)
/-- a drawing as data -/
def drw (ps : List Pc) : Dt := .ins 0 [.tup (ps.map Pc.em), .dct (((pointsT ps).map (·.1)).map em) ((pointsT ps).map fun p => ePt p.2)]
structure Dr (ps : List Pc) : Prop where
  ok : ∀ q ∈ ps, q.Ok
  len : ps.length ≤ 6
  bad : badFrom [] ps = none
def rcB (r : ResS) : PRes := match r with
  | .nx _ h2 => match fzI h2 0 with
    | some d => .ok d
    | none => .bad
  | _ => .bad
def rcA (B2 : DenS) (f0 : Den) : ResS → PRes
  | .nx ρ h => match f0 ρ h with
    | .ok (.d y) h1 => match okRaw h1 && isR0 ρ with
      | true => rcB (B2 ρ (h1.set 0 (.ins 0 [.d y])))
      | false => .bad
    | _ => .bad
  | .exc e _ h => match okRaw h with
    | true => .exc e
    | false => .bad
  | _ => .bad
end Vi

set_option maxRecDepth 100000
set_option maxHeartbeats 100000
/-! cells.py on typed data -/
namespace Vi
open PySem L2
open Em (em)
structure HalfOk (hf : Int) : Prop where
  lo : 1 ≤ hf
  hi : hf ≤ 30
def spotT (f : P2) (hf : Int) : Int := (f.1 + hf * f.2) / (2 * hf * f.2)
def cellT (z : Pt) (hf : Int) : P2 := (spotT z.1 hf, spotT z.2 hf)
/-- a fraction with a bottom that is not too great -/
structure FrOk (f : P2) : Prop where
  lo : 0 < f.2
  hi : f.2 ≤ 1000000
structure PtOk (z : Pt) : Prop where
  a : FrOk z.1
  b : FrOk z.2
def endT0 (p : Pc) : Pt := ((p.x, 1), (p.y, 1))
def endT1 (p : Pc) : Pt := ((p.u, 1), (p.v, 1))
/-! ### reasons -/
abbrev Rs := List Int
def eR (r : Rs) : Dt := .tup (r.map Dt.int)
abbrev RD := List (P2 × List Rs)
def addT : RD → P2 → Rs → RD
  | [], c, r => [(c, [r])]
  | (k, l) :: d, c, r => if k = c then (k, l ++ [r]) :: d else (k, l) :: addT d c r
structure RsRel (k : Nat) (acc : RD) (h : Hs) : Prop where
  ns : ∃ ns : List Nat, ns.Nodup ∧ (∀ n ∈ ns, 1 ≤ n) ∧ h[0]? = some (.dct ((acc.map (·.1)).map em) (ns.map Vl.r)) ∧ ns.length = acc.length ∧ ∀ (i n : Nat) (a : P2 × List Rs), ns[i]? = some n → acc[i]? = some a → h[n]? = some (.lst (a.2.map eR))
  len : acc.length ≤ k
  lens : ∀ a ∈ acc, a.2.length ≤ k
theorem set_same {α : Type} {l : List α} {i : Nat} {a : α} (h : l[i]? = some a) : l.set i a = l := by
  apply List.ext_getElem?
  intro m
  by_cases e : i = m
  · subst e
    rw [List.getElem?_set_self (List.getElem?_eq_some_iff.mp h).1, h]
  · rw [List.getElem?_set_ne e]
/-- what is told of a piece, and of a point of two -/
def evP (hf : Int) (i : Nat) (p : Pc) : List (P2 × Rs) := [(cellT (endT0 p) hf, [(i : Int), 0]), (cellT (endT1 p) hf, [(i : Int), 1])]
def evsP (hf : Int) (ps : List Pc) : List (P2 × Rs) := (ps.zipIdx).flatMap fun p => evP hf p.2 p.1
def evsX (hf : Int) (ps : List Pc) : List (P2 × Rs) := (pointsT ps).map fun p => (cellT p.2 hf, [p.1.1, p.1.2, 2])
def addAll (acc : RD) (l : List (P2 × Rs)) : RD := l.foldl (fun a e => addT a e.1 e.2) acc
def reasonsT (ps : List Pc) (hf : Int) : RD := addAll [] (evsP hf ps ++ evsX hf ps)
/-- drawings are told with points that are well -/
structure DrO (ps : List Pc) : Prop extends Dr ps where
  pts : ∀ e ∈ pointsT ps, PtOk e.2
def eRD (acc : RD) : Dt := .dct ((acc.map (·.1)).map em) (acc.map fun p => .lst (p.2.map eR))
end Vi

set_option maxRecDepth 100000
set_option maxHeartbeats 100000
/-! chains on typed data -/
namespace Vi
open PySem L2
open Em (em)
/-! ### limits -/
structure Lim where
  lo : Int
  ol : Bool
  hi : Int
  oh : Bool
deriving DecidableEq
def eLim : Option Lim → Dt
  | none => .non
  | some l => .tup [.int l.lo, .bl l.ol, .int l.hi, .bl l.oh]
def limT (b s c hf sc : Int) : Option Lim :=
  let lo := 2 * c * hf - hf - b
  let hi := 2 * c * hf + hf - b
  if s = 0 then (if lo ≤ 0 ∧ 0 < hi then some ⟨0, false, sc, false⟩ else none)
  else if 0 < s then some ⟨lo * (sc / s), false, hi * (sc / s), true⟩
  else some ⟨0 - hi * (sc / -s), true, 0 - lo * (sc / -s), false⟩
/-! ### stretches -/
abbrev IB := Int × Bool
abbrev eIB (z : IB) : Dt := .tup [.int z.1, .bl z.2]
def ltIB (a b : IB) : Bool := decide (a.1 < b.1) || (decide (a.1 = b.1) && (!a.2 && b.2))
/-- lower and upper limits so far -/
structure Str4 where
  lo : IB
  hi : IB
def stepT (s : Str4) (l : Lim) : Str4 :=
  ⟨cnd (ltIB s.lo (l.lo, l.ol)) (l.lo, l.ol) s.lo, cnd (ltIB (l.hi, !l.oh) (s.hi.1, !s.hi.2)) (l.hi, l.oh) s.hi⟩
def endT (s : Str4) : Option IB := if s.lo.1 < s.hi.1 ∨ (s.lo.1 = s.hi.1 ∧ s.lo.2 = false ∧ s.hi.2 = false) then some s.lo else none
def absT (i : Int) : Int := if i < 0 then -i else i
def scaleT (p : Pc) : Int := mxI 1 (absT p.sx) * mxI 1 (absT p.sy)
def stretchT (p : Pc) (c : P2) (hf : Int) : Option IB :=
  match limT p.x p.sx c.1 hf (scaleT p) with
  | none => none
  | some l => match limT p.y p.sy c.2 hf (scaleT p) with
    | none => none
    | some m => endT (stepT (stepT ⟨(0, false), (scaleT p, false)⟩ l) m)
def eOIB : Option IB → Dt
  | none => .non
  | some z => eIB z
def envS (L C Hf : Vl) (S : Option Vl) (sc : Int) (s : Str4) (t : List (Option Vl)) : En := some L :: some C :: some Hf :: S :: some (.d (.int sc)) :: some (.d (.int s.lo.1)) :: some (.d (.bl s.lo.2)) :: some (.d (.int s.hi.1)) :: some (.d (.bl s.hi.2)) :: t
end Vi

set_option maxRecDepth 100000
set_option maxHeartbeats 100000
/-! met_by, chains on typed data -/
namespace Vi
open PySem L2
open Em (em)
abbrev Rw := IB × P2
def rowT (p : Pc) (hf : Int) (c : P2) : Option Rw := (stretchT p c hf).map fun z => (z, c)
def metT (p : Pc) (cells : List P2) (hf : Int) : List P2 := (sortT (cells.filterMap (rowT p hf))).map (·.2)
/-- a row as it comes -/
def eRow (p : Pc) (hf : Int) (c : P2) : Dt := .tup [eOIB (stretchT p c hf), e2 c]
/-! ### chains -/
def cellsT (ps : List Pc) (hf : Int) : List P2 := sortT ((reasonsT ps hf).map (·.1))
def chainsT (ps : List Pc) (hf : Int) : List (List P2) := ps.map fun p => metT p (cellsT ps hf) hf
def eCh (c : List P2) : Dt := .tup (c.map em)
end Vi

set_option maxRecDepth 100000
set_option maxHeartbeats 100000
/-! where cells lie -/
namespace Vi
open PySem L2
open Em (em)
/-- a fraction from 0 to 60 -/
structure FrIn (f : P2) : Prop extends FrOk f where
  nn : 0 ≤ f.1
  le : f.1 ≤ 60 * f.2
structure PtIn (z : Pt) : Prop where
  a : FrIn z.1
  b : FrIn z.2
def CellIn (c : P2) : Prop := (0 ≤ c.1 ∧ c.1 ≤ 30) ∧ (0 ≤ c.2 ∧ c.2 ≤ 30)
end Vi

set_option maxRecDepth 100000
set_option maxHeartbeats 100000
/-! what laws draw -/
namespace Vi
open PySem L2
open Em (em)
structure Rwo where
  ns : List Int
  i : Int
  s : Int
  r : Int
def rowL (R : Rwo) : List Dt := [.scr R.ns, .int R.i, .int R.s, .int R.r]
structure RowAt (n : Nat) (R : Rwo) (h : Hs) : Prop where
  at' : h[n]? = some (.lst (rowL R))
  nn : 0 ≤ R.i
/-- only the thing at n changes; there may be more things, without dicts and instances within -/
structure HX (n : Nat) (h h' : Hs) : Prop where
  len : h.length ≤ h'.length
  keep : ∀ m, m ≠ n → m < h.length → h'[m]? = h[m]?
  new : ∀ m o, m ≠ n → h.length ≤ m → h'[m]? = some o → noDO o = true
theorem HX.refl (n : Nat) (h : Hs) : HX n h h := ⟨Nat.le_refl _, fun _ _ _ => rfl, fun m o _ hl hm => by
  have := (List.getElem?_eq_some_iff.mp hm).1
  exact absurd this (Nat.not_lt_of_le hl)⟩
theorem HX.trans {n : Nat} {h h1 h2 : Hs} (a : HX n h h1) (b : HX n h1 h2) : HX n h h2 := ⟨Nat.le_trans a.len b.len, fun m hm hl => by rw [b.keep m hm (Nat.lt_of_lt_of_le hl a.len), a.keep m hm hl], fun m o hm hl ho => by
  by_cases q : m < h1.length
  · exact a.new m o hm hl (by rw [← b.keep m hm q]; exact ho)
  · exact b.new m o hm (Nat.le_of_not_lt q) ho⟩
theorem HX.set {n : Nat} {h : Hs} {o : Ob} : HX n h (h.set n o) := ⟨by simp, fun m hm hl => by rw [List.getElem?_set_ne (Ne.symm hm)], fun m o hm hl ho => by
  have := (List.getElem?_eq_some_iff.mp ho).1
  rw [List.length_set] at this
  exact absurd this (Nat.not_lt_of_le hl)⟩
/-- all things are without dicts and instances within -/
def Cln (h : Hs) : Prop := h.all noDO = true
theorem ixN4_1 : ixN 4 1 = some 1 := by decide
theorem ixN4_2 : ixN 4 2 = some 2 := by decide
theorem ixN4_3 : ixN 4 3 = some 3 := by decide
theorem powP_18 : powP (.int 10) (.int 18) = some (.int 1000000000000000000) := by rfl
theorem t_taken {n : Nat} {R : Rwo} {h : Hs} {m : Int} (hr : RowAt n R h) (hm : 0 < m ∧ m < 1073741824) :
    ∃ v R' h', p__law_taken [.r n, .d (.int m)] h = .ok (.d (.int v)) h' ∧ RowAt n R' h' ∧ HX n h h' ∧ 0 ≤ v ∧ v < m ∧ h'.length = h.length := by
  obtain ⟨h0, hi⟩ := hr
  have hn : n < h.length := (List.getElem?_eq_some_iff.mp h0).1
  have hs : ∀ o, (h.set n o)[n]? = some o := fun o => List.getElem?_set_self hn
  have hm1 := hm.1
  clear hn
  obtain ⟨ns, i, s, r⟩ := R
  simp only [rowL] at h0 hi
  by_cases q1 : 0 < r
  · refine ⟨r % m, ⟨ns, i, s, r / m⟩, h.set n (.lst (rowL ⟨ns, i, s, r / m⟩)), ?_, ⟨hs _, hi⟩, .set, Int.emod_nonneg _ (by omega), Int.emod_lt_of_pos _ hm.1, by simp⟩
    simp (disch := omega) [p__law_taken, ev_runI, d__law_taken, ev_seqS, h0, hs, q1, ixN4_3, rowL]
  · by_cases q2 : (ns.length : Int) < i + 1
    · refine ⟨(s * 48271 + 11) % 2147483647 / 7 % m, ⟨ns, i + 1, (s * 48271 + 11) % 2147483647, r⟩, h.set n (.lst (rowL ⟨ns, i + 1, (s * 48271 + 11) % 2147483647, r⟩)), ?_, ⟨hs _, by simp; omega⟩, .set, Int.emod_nonneg _ (by omega), Int.emod_lt_of_pos _ hm.1, by simp⟩
      simp (disch := omega) [p__law_taken, ev_runI, d__law_taken, ev_seqS, h0, hs, q1, q2, ixN4_3, ixN4_2, ixN4_1, rowL]
    · obtain ⟨k, rfl⟩ : ∃ k : Nat, i = k := ⟨i.toNat, by omega⟩
      have hk : k < ns.length := by omega
      have e1 : ((k : Int) + 1 - 1) = (k : Int) := by omega
      have g : ns[k]? = some ns[k] := List.getElem?_eq_getElem hk
      generalize ns[k] = c at g
      by_cases q3 : 1000000000000000000 ≤ c
      · refine ⟨c % m, ⟨ns, k + 1, (s * 48271 + c + 11) % 2147483647, c / m⟩, h.set n (.lst (rowL ⟨ns, k + 1, (s * 48271 + c + 11) % 2147483647, c / m⟩)), ?_, ⟨hs _, by simp; omega⟩, .set, Int.emod_nonneg _ (by omega), Int.emod_lt_of_pos _ hm.1, by simp⟩
        simp (disch := omega) only [p__law_taken, ev_runI, d__law_taken, ev_seqS]
        simp (disch := omega) [ev_seqS, h0, hs, q1, q2, q3, e1, g, ixN4_3, ixN4_2, ixN4_1, rowL, powP_18, -Int.add_sub_cancel, -getElem?_pos]
      · refine ⟨c % m, ⟨ns, k + 1, (s * 48271 + c + 11) % 2147483647, r⟩, h.set n (.lst (rowL ⟨ns, k + 1, (s * 48271 + c + 11) % 2147483647, r⟩)), ?_, ⟨hs _, by simp; omega⟩, .set, Int.emod_nonneg _ (by omega), Int.emod_lt_of_pos _ hm.1, by simp⟩
        simp (disch := omega) [p__law_taken, ev_runI, d__law_taken, ev_seqS, h0, hs, q1, q2, q3, e1, g, ixN4_3, ixN4_2, ixN4_1, rowL, powP_18, -getElem?_pos]
def tryK (cl : List Cl) : ResS → ResS
  | .exc e ρ1 h1 => pickS cl e ρ1 h1
  | r => r
theorem ev_tryS {fb : DenS} {cl : List Cl} {ρ : En} {h : Hs} : tryS fb cl ρ h = tryK cl (fb ρ h) := by
  unfold tryS tryK
  cases fb ρ h <;> rfl
@[simp] theorem tryK_nx {cl : List Cl} {ρ : En} {h : Hs} : tryK cl (.nx ρ h) = .nx ρ h := (rfl)
@[simp] theorem tryK_rt {cl : List Cl} {x : Vl} {h : Hs} : tryK cl (.rt x h) = .rt x h := (rfl)
@[simp] theorem tryK_ex {cl : List Cl} {ρ : En} {e : Exn} {h : Hs} : tryK cl (.exc e ρ h) = pickS cl e ρ h := (rfl)
end Vi

set_option maxRecDepth 100000
set_option maxHeartbeats 1000000
/-! what is evaluated of things with fields -/
namespace Vi
open PySem L2
open Em (em)
section
variable {ρ : En} {h : Hs} {c i n : Nat} {f g : Den} {fa : DenA} {gg : If}
def fldE (h : Hs) : Option Vl → Res Vl
  | some y => .ok y h
  | none => .bad
def fldO (c i : Nat) (h : Hs) : Option Ob → Res Vl
  | some (.ins c' fs) => cnd (decide (c' = c)) (fldE h fs[i]?) .bad
  | _ => .bad
def fldK (c i : Nat) (x : Vl) (h : Hs) : Res Vl := match x with
  | .r n => fldO c i h h[n]?
  | _ => .bad
@[simp] theorem ev_fldM : fldM c i f ρ h = (f ρ h).bind (fldK c i) := by
  unfold fldM
  congr 1
  funext x h1
  cases x with
  | d y => rfl
  | r n =>
    unfold fldK
    dsimp only
    cases h1[n]? with
    | none => rfl
    | some ob =>
      cases ob with
      | ins c' fs =>
        unfold fldO
        dsimp only
        cases decide (c' = c) <;> cases fs[i]? <;> rfl
      | _ => rfl
@[simp] theorem fldK_r {n : Nat} : fldK c i (.r n) h = fldO c i h h[n]? := (rfl)
@[simp] theorem fldO_i {fs : List Vl} {c' : Nat} : fldO c i h (some (.ins c' fs)) = cnd (decide (c' = c)) (fldE h fs[i]?) .bad := (rfl)
@[simp] theorem fldE_s {y : Vl} : fldE h (some y) = .ok y h := (rfl)
def putO (ρ : En) (c i : Nat) (h : Hs) (n : Nat) (y : Vl) : Option Ob → ResS
  | some (.ins c' fs) => cnd (decide (c' = c)) (cnd (decide (i < fs.length)) (.nx ρ (h.set n (.ins c (fs.set i y)))) (cnd (decide (i = fs.length)) (.nx ρ (h.set n (.ins c (fs ++ [y])))) .bad)) .bad
  | _ => .bad
def putK' (ρ : En) (c i : Nat) (h : Hs) (x y : Vl) : ResS := match x with
  | .r n => putO ρ c i h n y h[n]?
  | _ => .bad
@[simp] theorem ev_setFM : setFM c i g f ρ h = bindS (g ρ h) ρ fun y h1 => bindS (f ρ h1) ρ fun x h2 => putK' ρ c i h2 x y := by
  unfold setFM
  congr 1
  funext y h1
  congr 1
  funext x h2
  unfold putK' putM
  cases x with
  | d y => rfl
  | r n =>
    dsimp only
    cases h2[n]? with
    | none => rfl
    | some ob =>
      cases ob with
      | ins c' fs =>
        unfold putO
        dsimp only
        cases decide (c' = c) <;> cases decide (i < fs.length) <;> cases decide (i = fs.length) <;> rfl
      | _ => rfl
@[simp] theorem putK_r {n : Nat} {y : Vl} : putK' ρ c i h (.r n) y = putO ρ c i h n y h[n]? := (rfl)
@[simp] theorem putO_i {fs : List Vl} {c' n : Nat} {y : Vl} : putO ρ c i h n y (some (.ins c' fs)) = cnd (decide (c' = c)) (cnd (decide (i < fs.length)) (.nx ρ (h.set n (.ins c (fs.set i y)))) (cnd (decide (i = fs.length)) (.nx ρ (h.set n (.ins c (fs ++ [y])))) .bad)) .bad := (rfl)
def isO (c : Nat) : Option Ob → Bool
  | some (.ins c' _) => decide (c' = c)
  | _ => false
@[simp] theorem isI_r {j : Nat} : isI c h (.r j) = isO c h[j]? := by
  show (match h[j]? with | some (.ins c' _) => decide (c' = c) | _ => false) = _
  cases h[j]? with
  | none => rfl
  | some ob => cases ob <;> rfl
@[simp] theorem isO_i {c' : Nat} {fs : List Vl} : isO c (some (.ins c' fs)) = decide (c' = c) := (rfl)
@[simp] theorem ev_callM : callM c n gg f fa ρ h = (f ρ h).bind fun x h1 => cnd (isI c h1 x) ((fa ρ h1).bind fun xs h2 => cnd (decide (xs.length + 1 = n)) (gg (x :: xs) h2) .bad) .bad := by
  unfold callM; rfl
def prR : Res Vl → Res Vl
  | .ok y h2 => .ok y h2
  | _ => .bad
@[simp] theorem prR_ok {y : Vl} : prR (.ok y h) = .ok y h := (rfl)
@[simp] theorem ev_propI : propI c gg f ρ h = (f ρ h).bind fun x h1 => cnd (isI c h1 x) (prR (gg [x] h1)) .bad := by
  unfold propI; rfl
@[simp] theorem ev_makeT : makeT c n fa ρ h = (fa ρ h).bind fun xs h1 => cnd (decide (xs.length = n)) (.ok (.r h1.length) (h1 ++ [.ins c xs])) .bad := by
  unfold makeT; rfl
def mkR (k : Nat) : Res Vl → Res Vl
  | .ok (.d .non) h2 => .ok (.r k) h2
  | .exc e h2 => .exc e h2
  | _ => .bad
@[simp] theorem mkR_ok {k : Nat} : mkR k (.ok (.d .non) h) = .ok (.r k) h := (rfl)
@[simp] theorem ev_makeI : makeI c n gg fa ρ h = (fa ρ h).bind fun xs h1 => cnd (decide (xs.length = n)) (mkR h1.length (gg (.r h1.length :: xs) (h1 ++ [.ins c []]))) .bad := by
  unfold makeI; rfl
end
end Vi

set_option maxRecDepth 100000
set_option maxHeartbeats 1000000
/-! rows of texts are read word by word -/
namespace Vi
open PySem L2
open Em (em)
def rowO (k : Int) (ws : List Str) (s : Nat) : Ob := .ins 2 [.d (.int k), .d (.lst (ws.map Dt.str)), .d (.int (s : Int))]
def exT (k : Int) (s : Nat) : Exn := ⟨ec_InvalidText, [(("word" : Str), .int (s : Int)), (("row" : Str), .int k)]⟩
def tab0 : Ob := .ins 1 [.d (.int 0)]
theorem ev_augM {c j i : Nat} {fs : List Vl} {a b : Int} {ρ : En} {h : Hs} (h0 : ρ[0]? = some (some (.r i))) (hi : h[i]? = some (.ins c fs)) (hj : fs[j]? = some (.d (.int a))) :
    augM c j (vr 0) (cI b) ρ h = .nx ρ (h.set i (.ins c (fs.set j (.d (.int (a + b)))))) := by
  have hl : j < fs.length := (List.getElem?_eq_some_iff.mp hj).1
  have e1 : fldG c j h (.r i) = some (.d (.int a)) := by
    show (match h[i]? with | some (.ins c' fs) => (match decide (c' = c) with | true => fs[j]? | false => none) | _ => none) = _
    rw [hi]
    dsimp only
    rw [decide_eq_true rfl, hj]
  have e2 : putM c j h (.r i) (.d (.int (a + b))) = some (h.set i (.ins c (fs.set j (.d (.int (a + b)))))) := by
    unfold putM
    simp only [hi, decide_true, hl]
  unfold augM
  rw [ev_vr, h0, gv_some, ev_sok, e1]
  dsimp only
  rw [ev_cI, ev_sok]
  dsimp only
  rw [e2]
section
variable {i : Nat} {h : Hs} {k : Int} {ws : List Str} {s : Nat} {ρ : En}
theorem row_f0 (h0 : ρ[0]? = some (some (.r i))) (hi : h[i]? = some (rowO k ws s)) : fldM 2 0 (vr 0) ρ h = .ok (.d (.int k)) h := by
  simp [h0, hi, rowO]
theorem row_f1 (h0 : ρ[0]? = some (some (.r i))) (hi : h[i]? = some (rowO k ws s)) : fldM 2 1 (vr 0) ρ h = .ok (.d (.lst (ws.map Dt.str))) h := by
  simp [h0, hi, rowO]
theorem row_f2 (h0 : ρ[0]? = some (some (.r i))) (hi : h[i]? = some (rowO k ws s)) : fldM 2 2 (vr 0) ρ h = .ok (.d (.int (s : Int))) h := by
  simp [h0, hi, rowO]
theorem row_raise (h0 : ρ[0]? = some (some (.r i))) (hi : h[i]? = some (rowO k ws s)) (hk : -1000 < k ∧ k < 1000) (hs : s ≤ 900) :
    raiseS ec_InvalidText er_InvalidText (consA (fldM 2 0 (vr 0)) (consA (fldM 2 2 (vr 0)) nilA)) ρ h = .exc (exT k s) ρ h := by
  have her : er_InvalidText [.int k, .int (s : Int)] = some [(("word" : Str), .int (s : Int)), (("row" : Str), .int k)] := by
    unfold er_InvalidText
    simp only [decide_eq_true hk, decide_eq_true (show -1000 < (s : Int) ∧ (s : Int) < 1000 by omega), Bool.and_self]
  show bindS (consA (fldM 2 0 (vr 0)) (consA (fldM 2 2 (vr 0)) nilA) ρ h) _ _ = _
  rw [ev_consA, row_f0 h0 hi, ev_bok, ev_consA, row_f2 h0 hi, ev_bok, ev_nilA, ev_bok, ev_bok, ev_sok]
  simp [her, exT]
def nwR (k : Int) (ws : List Str) (i s : Nat) (h : Hs) : Option Str → Bool → Res Vl
  | some w, true => .ok (.d (.str w)) (h.set i (rowO k ws (s + 1)))
  | _, _ => .exc (exT k s) h
theorem t_nw {fb fo : Den} (ho : fo ρ h = .ok (.r i) h) (hi : h[i]? = some (rowO k ws s)) (ht : h[0]? = some tab0) (hl : ws.length ≤ 900) (hs : s ≤ 900) (hk : -1000 < k ∧ k < 1000) {b : Bool} (hb : ∀ w, ws[s]? = some w → fb (ρ ++ [some (.d (.str w))]) h = .ok (.d (.bl b)) h) :
    nwV 0 0 2 2 n1_Row_next_word n2_Row_next_word n3_Row_next_word n4_Row_next_word fb fo ρ h = nwR k ws i s h ws[s]? b := by
  have e1 : isI 2 h (.r i) = true := by simp [hi, rowO]
  have e2 : tabD 0 0 h = true := by simp [tabD, ht, tab0]
  unfold nwV
  rw [ho, ev_bok]
  simp only [e1, e2]
  unfold runK2 nwB
  rw [ev_seqS, ev_ifS]
  show (match sqs _ (bindS (orT _ _ [some (.r i), none] h) [some (.r i), none] _) with | .rt y h2 => _ | .nx _ h2 => _ | .exc e _ h2 => _ | _ => _) = _
  have r0 : ([some (.r i), none] : En)[0]? = some (some (.r i)) := rfl
  have f0 := row_f0 r0 hi
  have f1 := row_f1 r0 hi
  have f2 := row_f2 r0 hi
  have hr := row_raise r0 hi hk hs
  by_cases q : s < ws.length
  · obtain ⟨w, hw⟩ : ∃ w, ws[s]? = some w := ⟨_, List.getElem?_eq_getElem q⟩
    have hbw := hb w hw
    have hge : decide ((ws.length : Int) ≤ (s : Int)) = false := decide_eq_false (by omega)
    have c1 : n1_Row_next_word [some (.r i), none] h = .ok false h := by
      unfold n1_Row_next_word
      have hb : borAll h [Vl.d (.lst (ws.map Dt.str))] = some [Dt.lst (ws.map Dt.str)] := rfl
      rw [ev_asB, ev_b2, f2, ev_bok, ev_cl, ev_consA, f1, ev_bok, ev_nilA, ev_bok, ev_bok, hb, apO_s, lenP_l, rd_some, ev_bok, ev_ap2, geP_i, rd_some, ev_bok, ev_isB, List.length_map, hge]
    have c2 : n2_Row_next_word [some (.r i), none] h = .ok (.d (.str w)) h := by
      unfold n2_Row_next_word
      rw [ev_b2, f1, ev_bok, f2, ev_bok, ev_ap2, ixP2_l, atI_nat, List.getElem?_map, hw]
      rfl
    have c3 : orT n1_Row_next_word (notT (asB (callD n2_Row_next_word fb ρ))) [some (.r i), none] h = .ok (!b) h := by
      rw [ev_orT, c1, ev_bok, cnd_f, ev_notT, ev_asB]
      unfold callD
      rw [c2, ev_bok]
      dsimp only
      rw [hbw]
      rfl
    rw [c3, ev_sok, hw]
    cases b with
    | false =>
      show (match sqs _ (n3_Row_next_word [some (.r i), none] h) with | .rt y h2 => _ | .nx _ h2 => _ | .exc e _ h2 => _ | _ => _) = _
      unfold n3_Row_next_word
      rw [hr]
      rfl
    | true =>
      show (match sqs _ (skipS [some (.r i), none] h) with | .rt y h2 => _ | .nx _ h2 => _ | .exc e _ h2 => _ | _ => _) = _
      have hil : i < h.length := (List.getElem?_eq_some_iff.mp hi).1
      have hi2 : (h.set i (rowO k ws (s + 1)))[i]? = some (rowO k ws (s + 1)) := by rw [List.getElem?_set_self hil]
      have ha : augM 2 2 (vr 0) (cI 1) [some (.r i), none] h = .nx [some (.r i), none] (h.set i (rowO k ws (s + 1))) := by
        rw [ev_augM (a := (s : Int)) r0 hi rfl]
        rfl
      have hx : n4_Row_next_word [some (.r i), none] h = .rt (.d (.str w)) (h.set i (rowO k ws (s + 1))) := by
        unfold n4_Row_next_word
        rw [ev_seqS, ha, sqs_nx, ev_retS, ev_b2, row_f1 r0 hi2, ev_bok, ev_b2, row_f2 r0 hi2, ev_bok, ev_cI, ev_bok, ev_ap2, subP_i, rd_some, ev_bok, ev_ap2, ixP2_l, show (((s + 1 : Nat) : Int) - 1) = (s : Int) by omega, atI_nat, List.getElem?_map, hw]
        rfl
      rw [ev_skipS, sqs_nx, hx]
      rfl
  · have hw : ws[s]? = none := List.getElem?_eq_none (by omega)
    have hge : decide ((ws.length : Int) ≤ (s : Int)) = true := decide_eq_true (by omega)
    have c1 : n1_Row_next_word [some (.r i), none] h = .ok true h := by
      unfold n1_Row_next_word
      have hb : borAll h [Vl.d (.lst (ws.map Dt.str))] = some [Dt.lst (ws.map Dt.str)] := rfl
      rw [ev_asB, ev_b2, f2, ev_bok, ev_cl, ev_consA, f1, ev_bok, ev_nilA, ev_bok, ev_bok, hb, apO_s, lenP_l, rd_some, ev_bok, ev_ap2, geP_i, rd_some, ev_bok, ev_isB, List.length_map, hge]
    have c3 : orT n1_Row_next_word (notT (asB (callD n2_Row_next_word fb ρ))) [some (.r i), none] h = .ok true h := by
      rw [ev_orT, c1, ev_bok, cnd_t]
    rw [c3, ev_sok, hw]
    show (match sqs _ (n3_Row_next_word [some (.r i), none] h) with | .rt y h2 => _ | .nx _ h2 => _ | .exc e _ h2 => _ | _ => _) = _
    unfold n3_Row_next_word
    rw [hr]
    rfl
end
/-! ### words -/
def smT (w : Str) : Bool := match p_is_small [.str w] with
  | .ok (.bl b) => b
  | _ => false
def WOk (w : Str) : Bool := match p_is_small [.str w] with
  | .ok (.bl true) => decide (w.length ≤ 640) && (PySem.intText? w).isSome
  | .ok (.bl false) => true
  | _ => false
def numW (w : Str) : Option Int := match smT w with
  | true => match PySem.intText? w with
    | some n => if n ≤ 60 then some n else none
    | none => none
  | false => none
theorem wok_small {w : Str} (h : WOk w = true) : p_is_small [.str w] = .ok (.bl (smT w)) ∧ (smT w = true → w.length ≤ 640 ∧ ∃ n, PySem.intText? w = some n) := by
  unfold WOk at h
  unfold smT
  split at h
  · rename_i e
    rw [e]
    obtain ⟨h1, h2⟩ := Bool.and_eq_true_iff.mp h
    exact ⟨rfl, fun _ => ⟨of_decide_eq_true h1, Option.isSome_iff_exists.mp h2⟩⟩
  · rename_i e
    rw [e]
    exact ⟨rfl, fun z => by cases z⟩
  · cases h
def lamP : Den := (andV (b2 eqP (vr 3) (cS "piece")) (b2 ltP (fldM 2 0 (vr 0)) (cI (6))))
def lamN : Den := (andV (callP 1 p_is_small (consA (vr 3) nilA)) (b2 leP (cl intP2 (consA (vr 3) nilA)) (cI (60))))
def okP (k : Int) (w : Str) : Bool := (w == ("piece" : Str)) && decide (k < 6)
theorem intP2_s {w : Str} {n : Int} (hl : w.length ≤ 640) (h : PySem.intText? w = some n) : intP2 [.str w] = some (.int n) := by
  show (match decide (w.length ≤ 640) with | true => (match PySem.intText? w with | some n => some (Dt.int n) | none => none) | false => none) = _
  rw [decide_eq_true hl]
  dsimp only
  rw [h]
theorem eqP_s {a b : Str} : eqP (.str a) (.str b) = some (.bl (a == b)) := rfl
theorem ev_lamP {ρ : En} {h : Hs} {i : Nat} {k : Int} {ws : List Str} {s : Nat} {w : Str} (hl : ρ.length = 3) (h0 : ρ[0]? = some (some (.r i))) (hi : h[i]? = some (rowO k ws s)) : lamP (ρ ++ [some (.d (.str w))]) h = .ok (.d (.bl (okP k w))) h := by
  have h0' : (ρ ++ [some (.d (.str w))])[0]? = some (some (.r i)) := by rw [List.getElem?_append_left (by omega)]; exact h0
  have h3 : (ρ ++ [some (.d (.str w))])[3]? = some (some (.d (.str w))) := by rw [List.getElem?_append_right (by omega), hl]; rfl
  unfold lamP
  rw [ev_andV, ev_b2, ev_vr, h3, gv_some, ev_bok, ev_cS, ev_bok, ev_ap2, eqP_s, rd_some, ev_bok, ev_isB, ev_bok]
  unfold okP
  cases (w == ("piece" : Str)) with
  | false => rfl
  | true =>
    rw [cnd_t, ev_b2, row_f0 h0' hi, ev_bok, ev_cI, ev_bok, ev_ap2, ltP_i, rd_some]
    rfl
theorem ev_lamN {ρ : En} {h : Hs} {w : Str} (hl : ρ.length = 3) (hw : WOk w = true) : lamN (ρ ++ [some (.d (.str w))]) h = .ok (.d (.bl (numW w).isSome)) h := by
  obtain ⟨w1, w2⟩ := wok_small hw
  have h3 : (ρ ++ [some (.d (.str w))])[3]? = some (some (.d (.str w))) := by rw [List.getElem?_append_right (by omega), hl]; rfl
  unfold lamN
  rw [ev_andV, ev_callP, ev_consA, ev_vr, h3, gv_some, ev_bok, ev_nilA, ev_bok, ev_bok]
  have ha : allD [Vl.d (.str w)] = some [Dt.str w] := rfl
  rw [ha, cpO_s, w1, show decide ([Dt.str w].length = 1) = true from rfl, cnd_t, cp_ok, ev_bok, ev_isB, ev_bok]
  unfold numW
  cases hsm : smT w with
  | false => rfl
  | true =>
    obtain ⟨hl2, n, hn⟩ := w2 hsm
    rw [cnd_t, ev_b2, ev_cl, ev_consA, ev_vr, h3, gv_some, ev_bok, ev_nilA, ev_bok, ev_bok]
    have hb : borAll h [Vl.d (.str w)] = some [Dt.str w] := rfl
    rw [hb, apO_s, intP2_s hl2 hn, rd_some, ev_bok, ev_cI, ev_bok, ev_ap2, leP_i, rd_some, hn]
    dsimp only
    by_cases q : n ≤ 60
    · rw [if_pos q, decide_eq_true q]; rfl
    · rw [if_neg q, decide_eq_false q]; rfl
/-! ### the numbers of a row -/
def nums : Nat → List Str → Nat → Except Nat (List Int)
  | 0, _, _ => .ok []
  | _ + 1, [], s => .error s
  | n + 1, w :: r, s => match numW w with
    | none => .error s
    | some v => match nums n r (s + 1) with
      | .ok l => .ok (v :: l)
      | .error e => .error e
def readT (k : Int) (ws : List Str) : Except Nat (List Int) := match ws with
  | [] => .error 0
  | w :: r => match okP k w with
    | false => .error 0
    | true => match nums 4 r 1 with
      | .error e => .error e
      | .ok l => if r.length ≤ 4 then .ok l else .error 5
def elN : Den := (cl intP2 (consA (nwV 0 (0) 2 2 n1_Row_next_word n2_Row_next_word n3_Row_next_word n4_Row_next_word lamN (vr 0)) nilA))
section
variable {i : Nat} {h : Hs} {k : Int} {ws : List Str}
theorem numW_some {w : Str} {v : Int} (hw : WOk w = true) (h : numW w = some v) : w.length ≤ 640 ∧ PySem.intText? w = some v := by
  obtain ⟨w1, w2⟩ := wok_small hw
  unfold numW at h
  cases hsm : smT w with
  | false => rw [hsm] at h; cases h
  | true =>
    obtain ⟨hl2, n, hn⟩ := w2 hsm
    rw [hsm] at h
    simp only [hn] at h
    split at h
    · cases h; exact ⟨hl2, hn⟩
    · cases h
theorem nums_n {n s : Nat} {w : Str} {r : List Str} (hv : numW w = none) : nums (n + 1) (w :: r) s = .error s := by rw [nums, hv]
theorem nums_c {n s : Nat} {w : Str} {r : List Str} {v : Int} (hv : numW w = some v) : nums (n + 1) (w :: r) s = match nums n r (s + 1) with
    | .ok l => .ok (v :: l)
    | .error e => .error e := by rw [nums, hv]
theorem nums_ok : ∀ {n : Nat} {r : List Str} {s : Nat} {l : List Int}, nums n r s = .ok l → n ≤ r.length ∧ l.length = n
  | 0, _, _, _, h => by cases h; exact ⟨Nat.zero_le _, rfl⟩
  | n + 1, [], _, _, h => by cases h
  | n + 1, w :: r, s, l, h => by
    unfold nums at h
    cases hv : numW w with
    | none => rw [hv] at h; cases h
    | some v =>
      rw [hv] at h
      dsimp only at h
      cases hn : nums n r (s + 1) with
      | error e => rw [hn] at h; cases h
      | ok l' =>
        rw [hn] at h
        cases h
        obtain ⟨a, b⟩ := nums_ok hn
        exact ⟨Nat.succ_le_succ a, by simp [b]⟩
theorem t_nums (hil : i < h.length) (hi0 : i ≠ 0) (ht : h[0]? = some tab0) (hl : ws.length ≤ 800) (hk : -1000 < k ∧ k < 1000) (hw : ∀ w ∈ ws, WOk w = true) : ∀ (ds : List Dt) (ρ : En) (s : Nat), ρ.length = 3 → ρ[0]? = some (some (.r i)) → s + ds.length ≤ 850 →
    ∃ s', lcLX (gN 2) yesT elN ρ ds (h.set i (rowO k ws s)) = match nums ds.length (ws.drop s) s with
      | .ok l => .ok (l.map Dt.int) (h.set i (rowO k ws (s + ds.length)))
      | .error e => .exc (exT k e) (h.set i (rowO k ws s'))
  | [], ρ, s, _, _, _ => ⟨0, rfl⟩
  | d :: ds, ρ, s, h3, h0, hs => by
    have hs' : s + ds.length + 1 ≤ 850 := by simpa [Nat.add_assoc] using hs
    have hg : gN 2 (.d d) ρ = some (ρ.set 2 (some (.d d))) := rfl
    have h3' : (ρ.set 2 (some (.d d))).length = 3 := by rw [List.length_set, h3]
    have h0' : (ρ.set 2 (some (.d d)))[0]? = some (some (.r i)) := by rw [List.getElem?_set_ne (by decide)]; exact h0
    have hi : (h.set i (rowO k ws s))[i]? = some (rowO k ws s) := List.getElem?_set_self hil
    have ht' : (h.set i (rowO k ws s))[0]? = some tab0 := by rw [List.getElem?_set_ne hi0]; exact ht
    have hv0 : vr 0 (ρ.set 2 (some (.d d))) (h.set i (rowO k ws s)) = .ok (.r i) (h.set i (rowO k ws s)) := by rw [ev_vr, h0', gv_some]
    unfold lcLX
    rw [hg]
    dsimp only [yesT]
    cases hws : ws[s]? with
    | none =>
      have hnw := t_nw (fb := lamN) (b := false) hv0 hi ht' (by omega) (by omega) hk (fun w z => by rw [hws] at z; cases z)
      rw [hws] at hnw
      have hd : ws.drop s = [] := List.drop_eq_nil_of_le (by
        rw [List.getElem?_eq_none_iff] at hws; exact hws)
      refine ⟨s, ?_⟩
      rw [hd]
      have he : elN (ρ.set 2 (some (.d d))) (h.set i (rowO k ws s)) = .exc (exT k s) (h.set i (rowO k ws s)) := by
        unfold elN
        rw [ev_cl, ev_consA, hnw]
        rfl
      rw [he]
      rfl
    | some w =>
      have hwm : w ∈ ws := List.mem_of_getElem? hws
      have hnw := t_nw (fb := lamN) (b := (numW w).isSome) hv0 hi ht' (by omega) (by omega) hk (fun w' z => by
        rw [hws] at z
        cases z
        exact ev_lamN h3' (hw w hwm))
      rw [hws] at hnw
      have hd : ws.drop s = w :: ws.drop (s + 1) := by
        have hlt := (List.getElem?_eq_some_iff.mp hws).1
        rw [List.drop_eq_getElem_cons hlt]
        congr 1
        exact (List.getElem?_eq_some_iff.mp hws).2
      rw [hd]
      cases hv : numW w with
      | none =>
        rw [hv] at hnw
        refine ⟨s, ?_⟩
        have he : elN (ρ.set 2 (some (.d d))) (h.set i (rowO k ws s)) = .exc (exT k s) (h.set i (rowO k ws s)) := by
          unfold elN
          rw [ev_cl, ev_consA, hnw]
          rfl
        rw [he]
        rw [List.length_cons, nums_n hv]
      | some v =>
        rw [hv] at hnw
        obtain ⟨z1, z2⟩ := numW_some (hw w hwm) hv
        have he : elN (ρ.set 2 (some (.d d))) (h.set i (rowO k ws s)) = .ok (.d (.int v)) (h.set i (rowO k ws (s + 1))) := by
          unfold elN
          have hnw' : nwV 0 0 2 2 n1_Row_next_word n2_Row_next_word n3_Row_next_word n4_Row_next_word lamN (vr 0) (ρ.set 2 (some (.d d))) (h.set i (rowO k ws s)) = .ok (.d (.str w)) ((h.set i (rowO k ws s)).set i (rowO k ws (s + 1))) := hnw
          rw [ev_cl, ev_consA, hnw', ev_bok, ev_nilA, ev_bok, ev_bok, List.set_set]
          have hb : borAll (h.set i (rowO k ws (s + 1))) [Vl.d (.str w)] = some [Dt.str w] := rfl
          rw [hb, apO_s, intP2_s z1 z2]
          rfl
        obtain ⟨s', ih⟩ := t_nums hil hi0 ht hl hk hw ds ρ (s + 1) h3 h0 (by omega)
        refine ⟨s', ?_⟩
        rw [he]
        dsimp only
        rw [ih]
        rw [List.length_cons, nums_c hv]
        cases nums ds.length (ws.drop (s + 1)) (s + 1) with
        | error e => rfl
        | ok l =>
          dsimp only
          rw [show s + 1 + ds.length = s + (ds.length + 1) by omega]
          rfl
end
end Vi

set_option maxRecDepth 100000
set_option maxHeartbeats 1000000
/-! rows, texts -/
namespace Vi
open PySem L2
open Em (em)
section
variable {i : Nat} {h : Hs} {k : Int} {ws : List Str}
theorem t_read (hi0 : i ≠ 0) (ht : h[0]? = some tab0) (hl : ws.length ≤ 800) (hk : -1000 < k ∧ k < 1000) (hw : ∀ w ∈ ws, WOk w = true) (hi : h[i]? = some (rowO k ws 0)) :
    ∃ s', p_Row_read_piece [.r i] h = match readT k ws with
      | .ok l => .ok (.d (.tup (l.map Dt.int))) (h.set i (rowO k ws s'))
      | .error e => .exc (exT k e) (h.set i (rowO k ws s')) := by
  have hil : i < h.length := (List.getElem?_eq_some_iff.mp hi).1
  have hv0 : ∀ h', vr 0 [some (.r i), none, none] h' = .ok (.r i) h' := fun h' => rfl
  unfold p_Row_read_piece d_Row_read_piece
  rw [ev_runI]
  show ∃ s', finI (seqS _ _ [some (.r i), none, none] h) = _
  rw [ev_seqS, ev_exprS]
  have hnw := fun (b : Bool) (hb) => t_nw (fb := lamP) (s := 0) (b := b) (hv0 h) hi ht (by omega) (by omega) hk hb
  cases ws with
  | nil =>
    have e := hnw false (fun w z => by cases z)
    unfold lamP at e
    refine ⟨0, ?_⟩
    rw [e]
    show finI (sqs _ (bindS (.exc (exT k 0) h) _ _)) = .exc (exT k 0) (h.set i (rowO k [] 0))
    rw [set_same hi]
    rfl
  | cons w r =>
    have e := hnw (okP k w) (fun w' z => by
      cases z
      exact ev_lamP rfl rfl hi)
    unfold lamP at e
    rw [e]
    have hR : readT k (w :: r) = match okP k w with
      | false => .error 0
      | true => match nums 4 r 1 with
        | .error e => .error e
        | .ok l => if r.length ≤ 4 then .ok l else .error 5 := rfl
    cases hp : okP k w with
    | false =>
      have hR' : readT k (w :: r) = .error 0 := by rw [hR, hp]
      refine ⟨0, ?_⟩
      rw [hR', set_same hi]
      rfl
    | true =>
      have hget : nwR k (w :: r) i 0 h (w :: r)[0]? true = .ok (.d (.str w)) (h.set i (rowO k (w :: r) 1)) := rfl
      rw [hget, ev_sok, sqs_nx, ev_seqS]
      obtain ⟨s', en⟩ := t_nums (ws := w :: r) hil hi0 ht hl hk hw (rngD 0 4) [some (.r i), none, none] 1 rfl rfl (by decide)
      have h62 : r62 4 = true := r62_i (by omega)
      have hlf : lcFX [2] (rng1 (cI (4))) (gN 2) yesT elN [some (.r i), none, none] (h.set i (rowO k (w :: r) 1)) = match nums 4 r 1 with
          | .ok l => .ok (.lst (l.map Dt.int)) (h.set i (rowO k (w :: r) 5))
          | .error e => .exc (exT k e) (h.set i (rowO k (w :: r) s')) := by
        unfold lcFX
        rw [ev_rng1, ev_cI, ev_bok, rg1_i, h62, cnd_t, ev_bok]
        dsimp only
        rw [show decide ((rngD 0 (4 : Int).toNat).length ≤ 100000) = true from by decide]
        have hw0 : wipeR ([some (.r i), none, none] : En) [2] = [some (.r i), none, none] := rfl
        have hr4 : rngD 0 (4 : Int).toNat = rngD 0 4 := rfl
        have hl4 : (rngD 0 4).length = 4 := rfl
        have hd1 : (w :: r).drop 1 = r := rfl
        rw [hl4, hd1] at en
        dsimp only
        rw [hw0, hr4, en]
        cases nums 4 r 1 <;> rfl
      unfold elN lamN at hlf
      cases hn : nums 4 r 1 with
      | error e =>
        have hR' : readT k (w :: r) = .error e := by rw [hR, hp, hn]
        rw [hn] at hlf
        refine ⟨s', ?_⟩
        rw [ev_setS, ev_frz, hlf, hR']
        rfl
      | ok l =>
        rw [hn] at hlf
        obtain ⟨hl4, hll⟩ := nums_ok hn
        refine ⟨5, ?_⟩
        rw [ev_setS, ev_frz, hlf]
        dsimp only
        rw [ev_bok, ev_sok, sqs_nx]
        have hi5 : (h.set i (rowO k (w :: r) 5))[i]? = some (rowO k (w :: r) 5) := List.getElem?_set_self hil
        have r0 : ([some (.r i), some (.d (.lst (l.map Dt.int))), none] : En)[0]? = some (some (.r i)) := rfl
        have hc : asB (b2 ltP (fldM 2 2 (vr 0)) (cl lenP (consA (fldM 2 1 (vr 0)) nilA))) [some (.r i), some (.d (.lst (l.map Dt.int))), none] (h.set i (rowO k (w :: r) 5)) = .ok (decide (4 < r.length)) (h.set i (rowO k (w :: r) 5)) := by
          rw [ev_asB, ev_b2, row_f2 r0 hi5, ev_bok, ev_cl, ev_consA, row_f1 r0 hi5, ev_bok, ev_nilA, ev_bok, ev_bok]
          have hb : borAll (h.set i (rowO k (w :: r) 5)) [Vl.d (.lst ((w :: r).map Dt.str))] = some [Dt.lst ((w :: r).map Dt.str)] := rfl
          rw [hb, apO_s, lenP_l, rd_some, ev_bok, ev_ap2, ltP_i, rd_some, ev_bok, ev_isB]
          congr 1
          rw [List.length_map, List.length_cons]
          exact decide_eq_decide.mpr (by omega)
        change finI (seqS _ _ [some (.r i), some (.d (.lst (l.map Dt.int))), none] (h.set i (rowO k (w :: r) 5))) = _
        rw [ev_seqS, ev_ifS, hc, ev_sok]
        by_cases q : r.length ≤ 4
        · have hR' : readT k (w :: r) = .ok l := by rw [hR, hp, hn]; dsimp only; rw [if_pos q]
          rw [hR', decide_eq_false (by omega), cnd_f, ev_skipS, sqs_nx, ev_retS]
          rfl
        · have hR' : readT k (w :: r) = .error 5 := by rw [hR, hp, hn]; dsimp only; rw [if_neg q]
          rw [hR', decide_eq_true (by omega), cnd_t, row_raise (s := 5) r0 hi5 hk (by omega)]
          rfl
end
/-! ### the rows of a text -/
def LnOk (line : Str) : Bool := decide (line.length ≤ 90000) && decide ((Txt.split line " ").length ≤ 800) && (Txt.split line " ").all WOk
def parseT : Int → List Str → (Int × Nat) ⊕ List (List Int)
  | _, [] => .inr []
  | k, line :: r => match readT k (Txt.split line " ") with
    | .error e => .inl (k, e)
    | .ok l => match parseT (k + 1) r with
      | .inl x => .inl x
      | .inr ls => .inr (l :: ls)
def tupJ (l : List Int) : Dt := .tup (l.map Dt.int)
theorem ev_split {f g : Den} {ρ : En} {h : Hs} {a b : Str} (hf : f ρ h = .ok (.d (.str a)) h) (hg : g ρ h = .ok (.d (.str b)) h) (hb : (b.length == 0) = false) (ha : a.length ≤ 90000) : splitF f g ρ h = .ok (.lst ((Txt.split a b).map Dt.str)) h := by
  unfold splitF
  rw [hf, ev_bok]
  dsimp only
  rw [hg, ev_bok]
  dsimp only
  rw [hb, decide_eq_true ha]
  rfl
theorem t_row {h : Hs} {k : Int} {line : Str} (hl : line.length ≤ 90000) : p_Row___init__ [.r h.length, .d (.int k), .d (.str line)] (h ++ [.ins 2 []]) = .ok (.d .non) (h ++ [rowO k (Txt.split line " ") 0]) := by
  have hs := fun h' => ev_split (f := vr 2) (g := cS " ") (ρ := [some (.r h.length), some (.d (.int k)), some (.d (.str line))]) (h := h') (a := line) (b := " ") rfl rfl rfl hl
  unfold p_Row___init__ d_Row___init__
  rw [ev_runI]
  show finI (seqS _ _ [some (.r h.length), some (.d (.int k)), some (.d (.str line))] (h ++ [.ins 2 []])) = _
  rw [ev_seqS]
  have g0 : ∀ o : Ob, (h ++ [o])[h.length]? = some o := fun o => by rw [List.getElem?_append_right (Nat.le_refl _), Nat.sub_self]; rfl
  have st : ∀ o o' : Ob, (h ++ [o]).set h.length o' = h ++ [o'] := fun o o' => by rw [List.set_append_right _ _ (Nat.le_refl _), Nat.sub_self]; rfl
  have e1 : setFM 2 0 (vr 1) (vr 0) [some (.r h.length), some (.d (.int k)), some (.d (.str line))] (h ++ [.ins 2 []]) = .nx [some (.r h.length), some (.d (.int k)), some (.d (.str line))] (h ++ [.ins 2 [.d (.int k)]]) := by
    simp [g0, st]
  have e2 : setFM 2 1 (frz (splitF (vr 2) (cS " "))) (vr 0) [some (.r h.length), some (.d (.int k)), some (.d (.str line))] (h ++ [.ins 2 [.d (.int k)]]) = .nx [some (.r h.length), some (.d (.int k)), some (.d (.str line))] (h ++ [.ins 2 [.d (.int k), .d (.lst ((Txt.split line " ").map Dt.str))]]) := by
    simp [g0, st, hs]
  have e3 : setFM 2 2 (cI (0)) (vr 0) [some (.r h.length), some (.d (.int k)), some (.d (.str line))] (h ++ [.ins 2 [.d (.int k), .d (.lst ((Txt.split line " ").map Dt.str))]]) = .nx [some (.r h.length), some (.d (.int k)), some (.d (.str line))] (h ++ [rowO k (Txt.split line " ") 0]) := by
    simp [g0, st, rowO]
  rw [e1, sqs_nx, ev_seqS, e2, sqs_nx, e3]
  rfl
def elR : Den := (callM 2 1 p_Row_read_piece (makeI 2 2 p_Row___init__ (consA (vr 2) (consA (vr 3) nilA))) nilA)
theorem ev_elR {ρ : En} {h : Hs} {k : Int} {line : Str} (h2 : ρ[2]? = some (some (.d (.int k)))) (h3 : ρ[3]? = some (some (.d (.str line)))) (ht : h[0]? = some tab0) (hk : -1000 < k ∧ k < 1000) (ho : LnOk line = true) :
    ∃ s', elR ρ h = match readT k (Txt.split line " ") with
      | .ok l => .ok (.d (.tup (l.map Dt.int))) (h ++ [rowO k (Txt.split line " ") s'])
      | .error e => .exc (exT k e) (h ++ [rowO k (Txt.split line " ") s']) := by
  obtain ⟨ho1, ho2⟩ := Bool.and_eq_true_iff.mp ho
  obtain ⟨ho1, ho3⟩ := Bool.and_eq_true_iff.mp ho1
  have hlen : 0 < h.length := (List.getElem?_eq_some_iff.mp ht).1
  have g0 : ∀ o : Ob, (h ++ [o])[h.length]? = some o := fun o => by rw [List.getElem?_append_right (Nat.le_refl _), Nat.sub_self]; rfl
  have st : ∀ o o' : Ob, (h ++ [o]).set h.length o' = h ++ [o'] := fun o o' => by rw [List.set_append_right _ _ (Nat.le_refl _), Nat.sub_self]; rfl
  obtain ⟨s', e⟩ := t_read (i := h.length) (h := h ++ [rowO k (Txt.split line " ") 0]) (by omega) (by rw [List.getElem?_append_left hlen]; exact ht) (of_decide_eq_true ho3) hk (fun w hw => List.all_eq_true.mp ho2 w hw) (g0 _)
  refine ⟨s', ?_⟩
  have hm : makeI 2 2 p_Row___init__ (consA (vr 2) (consA (vr 3) nilA)) ρ h = .ok (.r h.length) (h ++ [rowO k (Txt.split line " ") 0]) := by
    rw [ev_makeI, ev_consA, ev_vr, h2, gv_some, ev_bok, ev_consA, ev_vr, h3, gv_some, ev_bok, ev_nilA, ev_bok, ev_bok, ev_bok]
    show cnd (decide (2 = 2)) (mkR h.length (p_Row___init__ [.r h.length, .d (.int k), .d (.str line)] (h ++ [.ins 2 []]))) .bad = _
    rw [t_row (of_decide_eq_true ho1)]
    rfl
  unfold elR
  rw [ev_callM, hm, ev_bok, isI_r, g0]
  show p_Row_read_piece [.r h.length] (h ++ [rowO k (Txt.split line " ") 0]) = _
  rw [e]
  simp only [st]
theorem t_rows : ∀ (lines : List Str) (n : Nat) (ρ : En) (h : Hs), ρ.length = 4 → h[0]? = some tab0 → (∀ l ∈ lines, LnOk l = true) → n + lines.length ≤ 900 →
    ∃ g, lcLX (gT' 2 (gsCons (gN 2) (gsCons (gN 3) gsNil))) yesT elR ρ (enumD n (lines.map Dt.str)) h = match parseT (n : Int) lines with
      | .inr ls => .ok (ls.map tupJ) (h ++ g)
      | .inl (k, e) => .exc (exT k e) (h ++ g)
  | [], n, ρ, h, _, _, _, _ => ⟨[], by simp [enumD, parseT, lcLX]⟩
  | line :: r, n, ρ, h, hρ, ht, ho, hn => by
    have hlen : 0 < h.length := (List.getElem?_eq_some_iff.mp ht).1
    have hn' : n + r.length + 1 ≤ 900 := by simpa [Nat.add_assoc] using hn
    show ∃ g, lcLX _ yesT elR ρ (.tup [.int (n : Int), .str line] :: enumD (n + 1) (r.map Dt.str)) h = _
    have hg : gT' 2 (gsCons (gN 2) (gsCons (gN 3) gsNil)) (.d (.tup [.int (n : Int), .str line])) ρ = some ((ρ.set 2 (some (.d (.int (n : Int))))).set 3 (some (.d (.str line)))) := by
      simp
    have h2 : ((ρ.set 2 (some (.d (.int (n : Int))))).set 3 (some (.d (.str line))))[2]? = some (some (.d (.int (n : Int)))) := by
      rw [List.getElem?_set_ne (by decide), List.getElem?_set_self (by omega)]
    have h3 : ((ρ.set 2 (some (.d (.int (n : Int))))).set 3 (some (.d (.str line))))[3]? = some (some (.d (.str line))) := by
      rw [List.getElem?_set_self (by rw [List.length_set]; omega)]
    obtain ⟨s', e⟩ := ev_elR h2 h3 ht (by omega) (ho _ List.mem_cons_self)
    unfold lcLX
    rw [hg]
    dsimp only [yesT]
    rw [e]
    show ∃ g, _ = (match (match readT (n : Int) (Txt.split line " ") with
      | .error e => Sum.inl ((n : Int), e)
      | .ok l => match parseT ((n : Int) + 1) r with
        | .inl x => .inl x
        | .inr ls => .inr (l :: ls)) with
      | .inr ls => Res.ok (ls.map tupJ) (h ++ g)
      | .inl (k, e) => .exc (exT k e) (h ++ g))
    cases readT (n : Int) (Txt.split line " ") with
    | error e => exact ⟨_, rfl⟩
    | ok l =>
      dsimp only
      obtain ⟨g, ih⟩ := t_rows r (n + 1) ρ (h ++ [rowO (n : Int) (Txt.split line " ") s']) hρ (by rw [List.getElem?_append_left hlen]; exact ht) (fun l hl => ho l (List.mem_cons_of_mem _ hl)) (by omega)
      refine ⟨[rowO (n : Int) (Txt.split line " ") s'] ++ g, ?_⟩
      rw [ih, show (((n + 1 : Nat) : Int)) = (n : Int) + 1 by omega]
      cases parseT ((n : Int) + 1) r with
      | inl x => simp
      | inr ls => simp [tupJ]
def linesT (text : Str) : List Str := match text == ("" : Str) with
  | true => []
  | false => Txt.split text "\n"
def TOkT (text : Str) : Bool := decide (text.length ≤ 90000) && decide ((linesT text).length ≤ 900) && (linesT text).all LnOk
theorem neP_s {a b : Str} : neP (.str a) (.str b) = some (.bl (!(a == b))) := rfl
theorem enumD_len' : ∀ (l : List Dt) (n : Nat), (enumD n l).length = l.length
  | [], _ => rfl
  | d :: l, n => by show (enumD (n + 1) l).length + 1 = _; rw [enumD_len' l]; rfl
theorem t_parse {text : Str} {h : Hs} (ht : h[0]? = some tab0) (ho : TOkT text = true) : ∃ g, p_parse_drawing [.d (.str text)] h = match parseT 0 (linesT text) with
    | .inl (k, e) => .exc (exT k e) (h ++ g)
    | .inr ls => cp (h ++ g) (p_Drawing [.tup (ls.map tupJ)]) := by
  obtain ⟨ho1, ho2⟩ := Bool.and_eq_true_iff.mp ho
  obtain ⟨ho1, ho3⟩ := Bool.and_eq_true_iff.mp ho1
  have ho3' : (linesT text).length ≤ 900 := of_decide_eq_true ho3
  unfold p_parse_drawing d_parse_drawing
  rw [ev_runI]
  show ∃ g, finI (seqS _ _ [some (.d (.str text)), none, none, none] h) = _
  have e1 : setS 1 (ifV (asB (b2 neP (vr 0) (cS ""))) (frz (splitF (vr 0) (cS "\n"))) (frz (lstF nilA))) [some (.d (.str text)), none, none, none] h = .nx [some (.d (.str text)), some (.d (.lst ((linesT text).map Dt.str))), none, none] h := by
    rw [ev_setS, ev_ifV, ev_asB, ev_b2, ev_vr]
    show bindS ((((Res.ok (Vl.d (.str text)) h).bind _).bind _).bind _) _ _ = _
    rw [ev_bok, ev_cS, ev_bok, ev_ap2, neP_s, rd_some, ev_bok, ev_isB, ev_bok]
    unfold linesT
    cases hq : text == ("" : Str) with
    | true => rfl
    | false =>
      show bindS (frz (splitF (vr 0) (cS "\n")) [some (.d (.str text)), none, none, none] h) _ _ = _
      rw [ev_frz, ev_split (a := text) (b := "\n") rfl rfl rfl (of_decide_eq_true ho1)]
      rfl
  obtain ⟨g, er⟩ := t_rows (linesT text) 0 [some (.d (.str text)), some (.d (.lst ((linesT text).map Dt.str))), none, none] h rfl ht (fun l hl => List.all_eq_true.mp ho2 l hl) (by omega)
  refine ⟨g, ?_⟩
  rw [ev_seqS, e1, sqs_nx]
  have hlf : lcFX [2, 3] (enumI (vr 1)) (gT' 2 (gsCons (gN 2) (gsCons (gN 3) gsNil))) yesT elR [some (.d (.str text)), some (.d (.lst ((linesT text).map Dt.str))), none, none] h = match parseT 0 (linesT text) with
      | .inr ls => .ok (.lst (ls.map tupJ)) (h ++ g)
      | .inl (k, e) => .exc (exT k e) (h ++ g) := by
    unfold lcFX
    rw [ev_enumI, ev_vr]
    show ((enI h (some ((linesT text).map Dt.str))).bind _) = _
    rw [enI_s, ev_bok]
    dsimp only
    rw [enumD_len', List.length_map, decide_eq_true (show (linesT text).length ≤ 100000 by omega)]
    dsimp only
    show (match lcLX _ yesT elR [some (.d (.str text)), some (.d (.lst ((linesT text).map Dt.str))), none, none] (enumD 0 ((linesT text).map Dt.str)) h with | .ok ys h2 => Res.ok (Dt.lst ys) h2 | .exc e h2 => .exc e h2 | .bad => .bad) = _
    rw [er]
    show (match (match parseT 0 (linesT text) with | .inr ls => Res.ok (ls.map tupJ) (h ++ g) | .inl (k, e) => .exc (exT k e) (h ++ g)) with | .ok ys h2 => Res.ok (Dt.lst ys) h2 | .exc e h2 => .exc e h2 | .bad => .bad) = _
    cases parseT 0 (linesT text) with
    | inl x => obtain ⟨k, e⟩ := x; rfl
    | inr ls => rfl
  show finI (retS (callP 1 p_Drawing (consA (cl tupleP (consA (frz (lcFX [2, 3] (enumI (vr 1)) (gT' 2 (gsCons (gN 2) (gsCons (gN 3) gsNil))) yesT elR)) nilA)) nilA)) [some (.d (.str text)), some (.d (.lst ((linesT text).map Dt.str))), none, none] h) = _
  rw [ev_retS, ev_callP, ev_consA, ev_cl, ev_consA, ev_frz, hlf]
  cases parseT 0 (linesT text) with
  | inl x => obtain ⟨k, e⟩ := x; rfl
  | inr ls =>
    dsimp only
    rw [ev_bok, ev_bok, ev_nilA, ev_bok, ev_bok]
    have hb : borAll (h ++ g) [Vl.d (.lst (ls.map tupJ))] = some [Dt.lst (ls.map tupJ)] := rfl
    rw [hb, apO_s, tupleP_l, rd_some, ev_bok, ev_nilA, ev_bok, ev_bok]
    have ha : allD [Vl.d (.tup (ls.map tupJ))] = some [Dt.tup (ls.map tupJ)] := rfl
    rw [ha, cpO_s]
    show finI (bindS (cp (h ++ g) (p_Drawing [.tup (ls.map tupJ)])) _ _) = _
    cases p_Drawing [.tup (ls.map tupJ)] <;> rfl
end Vi

set_option maxRecDepth 1000000
set_option maxHeartbeats 1000000
/-! k43: where a text is refused -/
namespace Vi
open PySem L2
open Em (em)
def qD : List Int → Dt
  | [] => .non
  | [_, k] => .tup [.str "drawing", .int k]
  | [_, k, e] => .tup [.int k, .int e]
  | _ => .non
def placeQ (text : Str) : List Int := match parseT 0 (linesT text) with
  | .inl (k, e) => [0, k, (e : Int)]
  | .inr ls => match p_Drawing [.tup (ls.map tupJ)] with
    | .ok _ => []
    | .exc ⟨c, [(f, .int k)]⟩ => match c == ec_InvalidDrawing && f == ("index" : Str) with
      | true => [1, k]
      | false => [9]
    | _ => [9]
def check (L : List Str) (q : List Int) : Bool := match joinP "\n" (.lst (L.map Dt.str)) with
  | some (.str text) => TOkT text && decide (placeQ text = q) && decide (q ≠ [9])
  | _ => false
theorem t_place {L : List Str} {q : List Int} {h : Hs} (ht : h[0]? = some tab0) (hc : check L q = true) : ∃ g, p__law_place [.d (.lst (L.map Dt.str))] h = .ok (.d (qD q)) (h ++ g) := by
  unfold check at hc
  split at hc
  · rename_i text hj
    obtain ⟨hc', hq9'⟩ := Bool.and_eq_true_iff.mp hc
    obtain ⟨ho, hq'⟩ := Bool.and_eq_true_iff.mp hc'
    have hq := of_decide_eq_true hq'
    have hq9 := of_decide_eq_true hq9'
    clear hc hc' hq' hq9'
    obtain ⟨g, e⟩ := t_parse ht ho
    refine ⟨g, ?_⟩
    have hm : ms1 joinP (cS "\n") (vr 0) [some (.d (.lst (L.map Dt.str))), none] h = .ok (.d (.str text)) h := by
      unfold ms1
      show (match joinP "\n" (.lst (L.map Dt.str)) with | some d => Res.ok (Vl.d d) h | none => .bad) = _
      rw [hj]
    have hcall : callI 1 p_parse_drawing (consA (ms1 joinP (cS "\n") (vr 0)) nilA) [some (.d (.lst (L.map Dt.str))), none] h = p_parse_drawing [.d (.str text)] h := by
      rw [ev_callI, ev_consA, hm]
      rfl
    unfold p__law_place d__law_place
    rw [ev_runI]
    show finI (seqS _ _ [some (.d (.lst (L.map Dt.str))), none] h) = _
    rw [ev_seqS, ev_tryS, ev_exprS, hcall, e]
    unfold placeQ at hq
    have x0 : xt_InvalidText ec_InvalidText = some true := rfl
    have x1 : xt_InvalidText ec_InvalidDrawing = some false := rfl
    have x2 : xt_InvalidDrawing ec_InvalidDrawing = some true := rfl
    have c0 : cs_row.contains ec_InvalidText = true := rfl
    have c1 : cs_word.contains ec_InvalidText = true := rfl
    have c2 : cs_index.contains ec_InvalidDrawing = true := rfl
    cases hp : parseT 0 (linesT text) with
    | inl x =>
      obtain ⟨k, e⟩ := x
      rw [hp] at hq
      subst hq
      rfl
    | inr ls =>
      rw [hp] at hq
      dsimp only at hq ⊢
      cases hd : p_Drawing [.tup (ls.map tupJ)] with
      | ok d =>
        rw [hd] at hq
        subst hq
        rfl
      | bad =>
        rw [hd] at hq
        exact absurd hq.symm hq9
      | exc ex =>
        rw [hd] at hq
        obtain ⟨c, fs⟩ := ex
        match fs, hq with
        | [], hq => exact absurd hq.symm hq9
        | [(f, .int k)], hq =>
          dsimp only at hq
          cases hcf : c == ec_InvalidDrawing && f == ("index" : Str) with
          | false => rw [hcf] at hq; exact absurd hq.symm hq9
          | true =>
            rw [hcf] at hq
            subst hq
            obtain ⟨z1, z2⟩ := Bool.and_eq_true_iff.mp hcf
            obtain rfl := eq_of_beq z1
            obtain rfl := eq_of_beq z2
            rfl
        | (f, .non) :: _, hq => exact absurd hq.symm hq9
        | (f, .bl _) :: _, hq => exact absurd hq.symm hq9
        | (f, .str _) :: _, hq => exact absurd hq.symm hq9
        | (f, .tup _) :: _, hq => exact absurd hq.symm hq9
        | (f, .lst _) :: _, hq => exact absurd hq.symm hq9
        | (f, .dct _ _) :: _, hq => exact absurd hq.symm hq9
        | (f, .dck _ _) :: _, hq => exact absurd hq.symm hq9
        | (f, .set _) :: _, hq => exact absurd hq.symm hq9
        | (f, .ins _ _) :: _, hq => exact absurd hq.symm hq9
        | (f, .scr _) :: _, hq => exact absurd hq.symm hq9
        | (f, .int k) :: _ :: _, hq => exact absurd hq.symm hq9
  · cases hc
end Vi

set_option maxRecDepth 1000000
set_option maxHeartbeats 1000000
/-! k43: the menus -/
namespace Vi
open PySem L2
def goodL : List Str := ["piece 0 0 60 0", "piece 5 1 5 9", "piece 60 60 0 59"]
def wrongL : List (Str × Int) := [("", 0), ("pieces 1 2 3 4", 0), ("piece", 1), ("piece 1", 2), ("piece 1 2 3", 4), ("piece 1 2 3 4 5", 5), ("piece 61 2 3 4", 1), ("piece 1 2 3 61", 4), ("piece 01 2 3 4", 1), ("piece 1 00 3 4", 2), ("piece -1 2 3 4", 1), ("piece  1 2 3", 1), ("piece 1 2 3 4 ", 5), (" piece 1 2 3 4", 0), ("piece 1 2 x 4", 3)]
def oddL : List (Str × Int) := [("piece 7 7 7 7", 0), ("piece 10 0 20 0", 1), ("piece 30 0 0 0", 1), ("piece 0 59 60 60", 3)]
def wD (p : Str × Int) : Dt := .tup [.str p.1, .int p.2]
def manyL (n : Nat) : List Str := (List.range n).map fun j : Nat => ("piece " : Str) ++ toString (j : Int) ++ (" 0 " : Str) ++ toString (j : Int) ++ (" 9" : Str)
theorem menu0 : check goodL [] = true := by kernel_rfl
theorem mA0 : (wrongL.all fun p => check (goodL.take 0 ++ [p.1] ++ goodL.drop 0) [0, ((0 : Nat) : Int), p.2]) = true := by kernel_rfl
theorem mA1 : (wrongL.all fun p => check (goodL.take 1 ++ [p.1] ++ goodL.drop 1) [0, ((1 : Nat) : Int), p.2]) = true := by kernel_rfl
theorem mA2 : (wrongL.all fun p => check (goodL.take 2 ++ [p.1] ++ goodL.drop 2) [0, ((2 : Nat) : Int), p.2]) = true := by kernel_rfl
theorem mA3 : (wrongL.all fun p => check (goodL.take 3 ++ [p.1] ++ goodL.drop 3) [0, ((3 : Nat) : Int), p.2]) = true := by kernel_rfl
theorem menuA : ((List.range 4).all fun k => wrongL.all fun p => check (goodL.take k ++ [p.1] ++ goodL.drop k) [0, (k : Int), p.2]) = true := by
  show ((wrongL.all fun p => check (goodL.take 0 ++ [p.1] ++ goodL.drop 0) [0, ((0 : Nat) : Int), p.2]) && ((wrongL.all fun p => check (goodL.take 1 ++ [p.1] ++ goodL.drop 1) [0, ((1 : Nat) : Int), p.2]) && ((wrongL.all fun p => check (goodL.take 2 ++ [p.1] ++ goodL.drop 2) [0, ((2 : Nat) : Int), p.2]) && ((wrongL.all fun p => check (goodL.take 3 ++ [p.1] ++ goodL.drop 3) [0, ((3 : Nat) : Int), p.2]) && true)))) = true
  rw [mA0, mA1, mA2, mA3]
  rfl
theorem menuB : (oddL.all fun p => check (goodL ++ [p.1]) [1, 3] && check ([p.1] ++ goodL) [1, p.2]) = true := by kernel_rfl
theorem menuC : ((List.range 5).all fun n => check (manyL (4 + n)) (if 4 + n > 6 then [0, 6, 0] else [])) = true := by kernel_rfl
end Vi

set_option maxRecDepth 100000
set_option maxHeartbeats 1000000
/-! k43: the law -/
namespace Vi
open PySem L2
open Em (em)
theorem cut_take {xs : List Dt} {k : Nat} : cutD xs none (some (k : Int)) = xs.take k := by
  unfold cutD
  rw [HT.sIx_none, HT.sIx_nat, List.drop_zero, Nat.sub_zero]
  by_cases h : k ≤ xs.length
  · rw [Nat.min_eq_left h]
  · rw [Nat.min_eq_right (by omega), List.take_of_length_le (Nat.le_refl _), List.take_of_length_le (by omega)]
theorem cut_drop {xs : List Dt} {k : Nat} : cutD xs (some (k : Int)) none = xs.drop k := by
  unfold cutD
  rw [HT.sIx_none, HT.sIx_nat]
  by_cases h : k ≤ xs.length
  · rw [Nat.min_eq_left h, List.take_of_length_le (by rw [List.length_drop]; omega)]
  · rw [Nat.min_eq_right (by omega), Nat.sub_self, List.take_zero, List.drop_eq_nil_of_le (by omega)]
structure S43 (n : Nat) (R : Rwo) (h : Hs) : Prop where
  row : RowAt 1 R h
  tab : h[0]? = some tab0
  wr : h[n]? = some (.lst (wrongL.map wD))
  ne : n ≠ 1
theorem at_app {h g : Hs} {n : Nat} {o : Ob} (e : h[n]? = some o) : (h ++ g)[n]? = some o := by
  rw [List.getElem?_append_left (List.getElem?_eq_some_iff.mp e).1]
  exact e
theorem RowAt.app {n : Nat} {R : Rwo} {h g : Hs} (r : RowAt n R h) : RowAt n R (h ++ g) := ⟨at_app r.at', r.nn⟩
section
variable {n : Nat} {R R' : Rwo} {h h' g : Hs}
theorem S43.app (s : S43 n R h) : S43 n R (h ++ g) := ⟨s.row.app, at_app s.tab, at_app s.wr, s.ne⟩
theorem S43.hx (s : S43 n R h) (r : RowAt 1 R' h') (x : HX 1 h h') : S43 n R' h' :=
  ⟨r, by rw [x.keep 0 (by decide) (List.getElem?_eq_some_iff.mp s.tab).1]; exact s.tab, by rw [x.keep n s.ne (List.getElem?_eq_some_iff.mp s.wr).1]; exact s.wr, s.ne⟩
theorem ev_place {f : Den} {ρ : En} {L : List Str} {q : List Int} (ht : h[0]? = some tab0) (hf : f ρ h = .ok (.d (.lst (L.map Dt.str))) h) (hc : check L q = true) : ∃ g, callI 1 p__law_place (consA f nilA) ρ h = .ok (.d (qD q)) (h ++ g) := by
  obtain ⟨g, e⟩ := t_place ht hc
  refine ⟨g, ?_⟩
  rw [ev_callI, ev_consA, hf]
  exact e
abbrev OV := Option Vl
def e43 (n : Nat) (a0 a5 a6 a7 a8 a9 a10 a11 a12 : OV) : En := [a0, some (.r 1), some (.d (.lst (goodL.map Dt.str))), some (.r n), some (.d (.lst (oddL.map wD))), a5, a6, a7, a8, a9, a10, a11, a12]
def l43_0 : DenS := (setS 1 (newV (lstF (consA (vr 0) (consA (cI (0)) (consA (cI (0)) (consA (cI (0)) nilA)))))))
def l43_1 : DenS := (setS 2 (frz (lstF (consA (cS "piece 0 0 60 0") (consA (cS "piece 5 1 5 9") (consA (cS "piece 60 60 0 59") nilA))))))
def l43_2 : DenS := (ifS (asB (b2 isnP (callI 1 p__law_place (consA (vr 2) nilA)) (cN))) (retS (cB false)) skipS)
def l43_3 : DenS := (setS 3 (newV (lstF (consA (tupV (consA (cS "") (consA (cI (0)) nilA))) (consA (tupV (consA (cS "pieces 1 2 3 4") (consA (cI (0)) nilA))) (consA (tupV (consA (cS "piece") (consA (cI (1)) nilA))) (consA (tupV (consA (cS "piece 1") (consA (cI (2)) nilA))) (consA (tupV (consA (cS "piece 1 2 3") (consA (cI (4)) nilA))) (consA (tupV (consA (cS "piece 1 2 3 4 5") (consA (cI (5)) nilA))) nilA)))))))))
def l43_4 : DenS := (setS 3 (newV (catF (vr 3) (frz (lstF (consA (tupV (consA (cS "piece 61 2 3 4") (consA (cI (1)) nilA))) (consA (tupV (consA (cS "piece 1 2 3 61") (consA (cI (4)) nilA))) (consA (tupV (consA (cS "piece 01 2 3 4") (consA (cI (1)) nilA))) (consA (tupV (consA (cS "piece 1 00 3 4") (consA (cI (2)) nilA))) nilA)))))))))
def l43_5 : DenS := (setS 3 (newV (catF (vr 3) (frz (lstF (consA (tupV (consA (cS "piece -1 2 3 4") (consA (cI (1)) nilA))) (consA (tupV (consA (cS "piece  1 2 3") (consA (cI (1)) nilA))) (consA (tupV (consA (cS "piece 1 2 3 4 ") (consA (cI (5)) nilA))) (consA (tupV (consA (cS " piece 1 2 3 4") (consA (cI (0)) nilA))) nilA)))))))))
def l43_6 : DenS := (exprS (appV (vr 3) (tupV (consA (cS "piece 1 2 x 4") (consA (cI (3)) nilA)))))
def l43_7 : DenS := (setS 4 (frz (lstF (consA (tupV (consA (cS "piece 7 7 7 7") (consA (cI (0)) nilA))) (consA (tupV (consA (cS "piece 10 0 20 0") (consA (cI (1)) nilA))) (consA (tupV (consA (cS "piece 30 0 0 0") (consA (cI (1)) nilA))) (consA (tupV (consA (cS "piece 0 59 60 60") (consA (cI (3)) nilA))) nilA)))))))
def b43_0 : DenS := (setS 6 (callI 2 p__law_taken (consA (vr 1) (consA (cI (4)) nilA))))
def b43_1 : DenS := (asgS (gT' 2 (gsCons (gN 7) (gsCons (gN 8) gsNil))) (b2 ixP2 (vr 3) (callI 2 p__law_taken (consA (vr 1) (consA (cl lenP (consA (vr 3) nilA)) nilA)))))
def b43_2 : DenS := (ifS (asB (b2 neP (callI 1 p__law_place (consA (b2 addP (b2 addP (slV (vr 2) noneO (someO (vr 6))) (frz (lstF (consA (vr 7) nilA)))) (slV (vr 2) (someO (vr 6)) noneO)) nilA)) (tupV (consA (vr 6) (consA (vr 8) nilA))))) (retS (cB false)) skipS)
def b43_3 : DenS := (asgS (gT' 2 (gsCons (gN 7) (gsCons (gN 9) gsNil))) (b2 ixP2 (vr 4) (callI 2 p__law_taken (consA (vr 1) (consA (cI (4)) nilA)))))
def b43_4 : DenS := (ifS (asB (b2 neP (callI 1 p__law_place (consA (b2 addP (vr 2) (frz (lstF (consA (vr 7) nilA)))) nilA)) (tupV (consA (cS "drawing") (consA (cI (3)) nilA))))) (retS (cB false)) skipS)
def b43_5 : DenS := (ifS (asB (b2 neP (callI 1 p__law_place (consA (b2 addP (frz (lstF (consA (vr 7) nilA))) (vr 2)) nilA)) (tupV (consA (cS "drawing") (consA (vr 9) nilA))))) (retS (cB false)) skipS)
def b43_6 : DenS := (setS 10 (b2 addP (cI (4)) (callI 2 p__law_taken (consA (vr 1) (consA (cI (5)) nilA)))))
def b43_7 : DenS := (setS 11 (frz (lcF [12] (rng1 (vr 10)) (gN 12) yesT (b2 addP (b2 addP (b2 addP (b2 addP (cS "piece ") (cl strP (consA (vr 12) nilA))) (cS " 0 ")) (cl strP (consA (vr 12) nilA))) (cS " 9")))))
def b43_8 : DenS := (ifS (asB (b2 neP (callI 1 p__law_place (consA (vr 11) nilA)) (ifV (asB (b2 gtP (vr 10) (cI (6)))) (tupV (consA (cI (6)) (consA (cI (0)) nilA))) (cN)))) (retS (cB false)) skipS)
def body43 : DenS := (seqS b43_0 (seqS b43_1 (seqS b43_2 (seqS b43_3 (seqS b43_4 (seqS b43_5 (seqS b43_6 (seqS b43_7 b43_8))))))))
def l43_8 : DenS := (forS (rng1 (cI (10))) (gN 5) body43)
def l43_9 : DenS := (retS (cB true))
theorem law_body43 : d_law = (seqS l43_0 (seqS l43_1 (seqS l43_2 (seqS l43_3 (seqS l43_4 (seqS l43_5 (seqS l43_6 (seqS l43_7 (seqS l43_8 l43_9))))))))) := (rfl)
variable {a0 a5 a6 a7 a8 a9 a10 a11 a12 : OV}
theorem nat_of {v : Int} {m : Nat} (h0 : 0 ≤ v) (h1 : v < m) : ∃ k : Nat, v = (k : Int) ∧ k < m := ⟨v.toNat, by omega, by omega⟩
theorem s43_0 (s : S43 n R h) : ∃ (k : Nat) (R' : Rwo) (h' : Hs), b43_0 (e43 n a0 a5 a6 a7 a8 a9 a10 a11 a12) h = .nx (e43 n a0 a5 (some (.d (.int (k : Int)))) a7 a8 a9 a10 a11 a12) h' ∧ k < 4 ∧ S43 n R' h' := by
  obtain ⟨v, R1, h1, e, r1, x1, v0, v1, _⟩ := t_taken (m := 4) s.row (by omega)
  obtain ⟨k, rfl, hk⟩ := nat_of (m := 4) v0 v1
  refine ⟨k, R1, h1, ?_, hk, s.hx r1 x1⟩
  unfold b43_0
  simp [e43, e]
theorem s43_1 (s : S43 n R h) : ∃ (p : Str × Int) (R' : Rwo) (h' : Hs), b43_1 (e43 n a0 a5 a6 a7 a8 a9 a10 a11 a12) h = .nx (e43 n a0 a5 a6 (some (.d (.str p.1))) (some (.d (.int p.2))) a9 a10 a11 a12) h' ∧ p ∈ wrongL ∧ S43 n R' h' := by
  obtain ⟨v, R1, h1, e, r1, x1, v0, v1, _⟩ := t_taken (m := 15) s.row (by omega)
  obtain ⟨k, rfl, hk⟩ := nat_of (m := 15) v0 v1
  have s1 := s.hx r1 x1
  have hlen : wrongL.length = 15 := rfl
  obtain ⟨p, hp⟩ : ∃ p, wrongL[k]? = some p := ⟨_, List.getElem?_eq_getElem (by omega)⟩
  refine ⟨p, R1, h1, ?_, List.mem_of_getElem? hp, s1⟩
  have hb : bor h (.r n) = some (.lst (wrongL.map wD)) := by
    unfold bor
    dsimp only
    rw [s.wr]
  have hb1 : bor h1 (.r n) = some (.lst (wrongL.map wD)) := by
    unfold bor
    dsimp only
    rw [s1.wr]
  have hba : borAll h [.r n] = some [.lst (wrongL.map wD)] := by
    show (match bor h (.r n), borAll h [] with | some a, some l => some (a :: l) | _, _ => none) = _
    rw [hb]
    rfl
  have hl : cl lenP (consA (vr 3) nilA) (e43 n a0 a5 a6 a7 a8 a9 a10 a11 a12) h = .ok (.d (.int 15)) h := by
    rw [ev_cl, ev_consA]
    show apO lenP h (borAll h [.r n]) = _
    rw [hba, apO_s, lenP_l, List.length_map, hlen]
    rfl
  have hc : callI 2 p__law_taken (consA (vr 1) (consA (cl lenP (consA (vr 3) nilA)) nilA)) (e43 n a0 a5 a6 a7 a8 a9 a10 a11 a12) h = .ok (.d (.int (k : Int))) h1 := by
    rw [ev_callI, ev_consA]
    show ((((consA (cl lenP (consA (vr 3) nilA)) nilA) (e43 n a0 a5 a6 a7 a8 a9 a10 a11 a12) h).bind _).bind _) = _
    rw [ev_consA, hl]
    exact e
  have hix : ap2 ixP2 h1 (.r n) (.d (.int (k : Int))) = .ok (.d (wD p)) h1 := by
    rw [ev_ap2' hb1 rfl, ixP2_l, atI_nat, List.getElem?_map, hp]
    rfl
  unfold b43_1
  rw [ev_asgS, ev_b2]
  show bindS ((callI 2 p__law_taken _ (e43 n a0 a5 a6 a7 a8 a9 a10 a11 a12) h).bind _) _ _ = _
  rw [hc, ev_bok, hix]
  rfl
theorem ne_same {d : List Int} : neP (qD d) (qD d) = some (.bl false) := by
  match d with
  | [] => rfl
  | [_] => rfl
  | [_, k] => simp [qD, neP, okD, Dt.eq, Dt.py, pyAll, PyData.eqv, PyData.eqvAll]
  | [_, k, e] => simp [qD, neP, okD, Dt.eq, Dt.py, pyAll, PyData.eqv, PyData.eqvAll]
  | _ :: _ :: _ :: _ :: _ => rfl
theorem s43_2 {k : Nat} {p : Str × Int} (s : S43 n R h) (hk : k < 4) (hp : p ∈ wrongL) : ∃ h', b43_2 (e43 n a0 a5 (some (.d (.int (k : Int)))) (some (.d (.str p.1))) (some (.d (.int p.2))) a9 a10 a11 a12) h = .nx (e43 n a0 a5 (some (.d (.int (k : Int)))) (some (.d (.str p.1))) (some (.d (.int p.2))) a9 a10 a11 a12) h' ∧ S43 n R h' := by
  have hc : check (goodL.take k ++ [p.1] ++ goodL.drop k) [0, (k : Int), p.2] = true := List.all_eq_true.mp (List.all_eq_true.mp menuA k (List.mem_range.mpr hk)) p hp
  have hf : (b2 addP (b2 addP (slV (vr 2) noneO (someO (vr 6))) (frz (lstF (consA (vr 7) nilA)))) (slV (vr 2) (someO (vr 6)) noneO)) (e43 n a0 a5 (some (.d (.int (k : Int)))) (some (.d (.str p.1))) (some (.d (.int p.2))) a9 a10 a11 a12) h = .ok (.d (.lst ((goodL.take k ++ [p.1] ++ goodL.drop k).map Dt.str))) h := by
    have hl : goodL.length = 3 := rfl
    have q1 : (List.take k (goodL.map Dt.str)).length + 1 ≤ 100000 := by rw [List.length_take, List.length_map, hl]; omega
    have q2 : (List.take k (goodL.map Dt.str) ++ [Dt.str p.1]).length + (List.drop k (goodL.map Dt.str)).length ≤ 100000 := by
      rw [List.length_append, List.length_take, List.length_map, hl, List.length_drop, List.length_map, hl, List.length_singleton]; omega
    rw [ev_b2, ev_b2, ev_slV]
    show (((((ap1 (slP none (some (k : Int))) h (.d (.lst (goodL.map Dt.str)))).bind fun x h1 => (frz (lstF (consA (vr 7) nilA)) _ h1).bind fun y h2 => ap2 addP h2 x y)).bind _)) = _
    rw [ev_ap1, slP_l, cut_take, rd_some, ev_bok]
    show ((ap2 addP h (.d (.lst (List.take k (goodL.map Dt.str)))) (.d (.lst [Dt.str p.1]))).bind _) = _
    rw [ev_ap2, addP_l, decide_eq_true (show (List.take k (goodL.map Dt.str)).length + [Dt.str p.1].length ≤ 100000 from q1), cnd_t, rd_some, ev_bok, ev_slV]
    show ((ap1 (slP (some (k : Int)) none) h (.d (.lst (goodL.map Dt.str)))).bind _) = _
    rw [ev_ap1, slP_l, cut_drop, rd_some, ev_bok, ev_ap2, addP_l, decide_eq_true q2, cnd_t, rd_some, List.map_append, List.map_append, List.map_take, List.map_drop]
    rfl
  obtain ⟨g, e⟩ := ev_place s.tab hf hc
  refine ⟨h ++ g, ?_, s.app⟩
  unfold b43_2
  rw [ev_ifS, ev_asB, ev_b2, e, ev_bok]
  show bindS ((ap2 neP (h ++ g) (.d (qD [0, (k : Int), p.2])) (.d (qD [0, (k : Int), p.2]))).bind _) _ _ = _
  rw [ev_ap2, ne_same]
  rfl
theorem s43_3 (s : S43 n R h) : ∃ (p : Str × Int) (R' : Rwo) (h' : Hs), b43_3 (e43 n a0 a5 a6 a7 a8 a9 a10 a11 a12) h = .nx (e43 n a0 a5 a6 (some (.d (.str p.1))) a8 (some (.d (.int p.2))) a10 a11 a12) h' ∧ p ∈ oddL ∧ S43 n R' h' := by
  obtain ⟨v, R1, h1, e, r1, x1, v0, v1, _⟩ := t_taken (m := 4) s.row (by omega)
  obtain ⟨k, rfl, hk⟩ := nat_of (m := 4) v0 v1
  have s1 := s.hx r1 x1
  have hlen : oddL.length = 4 := rfl
  obtain ⟨p, hp⟩ : ∃ p, oddL[k]? = some p := ⟨_, List.getElem?_eq_getElem (by omega)⟩
  refine ⟨p, R1, h1, ?_, List.mem_of_getElem? hp, s1⟩
  have hc : callI 2 p__law_taken (consA (vr 1) (consA (cI (4)) nilA)) (e43 n a0 a5 a6 a7 a8 a9 a10 a11 a12) h = .ok (.d (.int (k : Int))) h1 := e
  have hix : ap2 ixP2 h1 (.d (.lst (oddL.map wD))) (.d (.int (k : Int))) = .ok (.d (wD p)) h1 := by
    rw [ev_ap2, ixP2_l, atI_nat, List.getElem?_map, hp]
    rfl
  unfold b43_3
  rw [ev_asgS, ev_b2]
  show bindS ((callI 2 p__law_taken _ (e43 n a0 a5 a6 a7 a8 a9 a10 a11 a12) h).bind _) _ _ = _
  rw [hc, ev_bok]
  show bindS (ap2 ixP2 h1 (.d (.lst (oddL.map wD))) (.d (.int (k : Int)))) _ _ = _
  rw [hix]
  rfl
theorem s43_4 {p : Str × Int} (s : S43 n R h) (hp : p ∈ oddL) : ∃ h', b43_4 (e43 n a0 a5 a6 (some (.d (.str p.1))) a8 (some (.d (.int p.2))) a10 a11 a12) h = .nx (e43 n a0 a5 a6 (some (.d (.str p.1))) a8 (some (.d (.int p.2))) a10 a11 a12) h' ∧ S43 n R h' := by
  have hc : check (goodL ++ [p.1]) [1, 3] = true := (Bool.and_eq_true_iff.mp (List.all_eq_true.mp menuB p hp)).1
  have hf : (b2 addP (vr 2) (frz (lstF (consA (vr 7) nilA)))) (e43 n a0 a5 a6 (some (.d (.str p.1))) a8 (some (.d (.int p.2))) a10 a11 a12) h = .ok (.d (.lst ((goodL ++ [p.1]).map Dt.str))) h := rfl
  obtain ⟨g, e⟩ := ev_place s.tab hf hc
  refine ⟨h ++ g, ?_, s.app⟩
  unfold b43_4
  rw [ev_ifS, ev_asB, ev_b2, e, ev_bok]
  show bindS ((ap2 neP (h ++ g) (.d (qD [1, 3])) (.d (qD [1, 3]))).bind _) _ _ = _
  rw [ev_ap2, ne_same]
  rfl
theorem s43_5 {p : Str × Int} (s : S43 n R h) (hp : p ∈ oddL) : ∃ h', b43_5 (e43 n a0 a5 a6 (some (.d (.str p.1))) a8 (some (.d (.int p.2))) a10 a11 a12) h = .nx (e43 n a0 a5 a6 (some (.d (.str p.1))) a8 (some (.d (.int p.2))) a10 a11 a12) h' ∧ S43 n R h' := by
  have hc : check ([p.1] ++ goodL) [1, p.2] = true := (Bool.and_eq_true_iff.mp (List.all_eq_true.mp menuB p hp)).2
  have hf : (b2 addP (frz (lstF (consA (vr 7) nilA))) (vr 2)) (e43 n a0 a5 a6 (some (.d (.str p.1))) a8 (some (.d (.int p.2))) a10 a11 a12) h = .ok (.d (.lst (([p.1] ++ goodL).map Dt.str))) h := rfl
  obtain ⟨g, e⟩ := ev_place s.tab hf hc
  refine ⟨h ++ g, ?_, s.app⟩
  unfold b43_5
  rw [ev_ifS, ev_asB, ev_b2, e, ev_bok]
  show bindS ((ap2 neP (h ++ g) (.d (qD [1, p.2])) (.d (qD [1, p.2]))).bind _) _ _ = _
  rw [ev_ap2, ne_same]
  rfl
theorem s43_6 (s : S43 n R h) : ∃ (k : Nat) (R' : Rwo) (h' : Hs), b43_6 (e43 n a0 a5 a6 a7 a8 a9 a10 a11 a12) h = .nx (e43 n a0 a5 a6 a7 a8 a9 (some (.d (.int ((4 + k : Nat) : Int)))) a11 a12) h' ∧ k < 5 ∧ S43 n R' h' := by
  obtain ⟨v, R1, h1, e, r1, x1, v0, v1, _⟩ := t_taken (m := 5) s.row (by omega)
  obtain ⟨k, rfl, hk⟩ := nat_of (m := 5) v0 v1
  refine ⟨k, R1, h1, ?_, hk, s.hx r1 x1⟩
  unfold b43_6
  rw [show (((4 + k : Nat) : Int)) = 4 + (k : Int) by omega]
  simp [e43, e]
theorem s43_7 {k : Nat} (hk : k < 5) : b43_7 (e43 n a0 a5 a6 a7 a8 a9 (some (.d (.int ((4 + k : Nat) : Int)))) a11 a12) h = .nx (e43 n a0 a5 a6 a7 a8 a9 (some (.d (.int ((4 + k : Nat) : Int)))) (some (.d (.lst ((manyL (4 + k)).map Dt.str)))) a12) h := by
  match k, hk with
  | 0, _ => rfl
  | 1, _ => rfl
  | 2, _ => rfl
  | 3, _ => rfl
  | 4, _ => rfl
theorem s43_8 {k : Nat} (s : S43 n R h) (hk : k < 5) : ∃ h', b43_8 (e43 n a0 a5 a6 a7 a8 a9 (some (.d (.int ((4 + k : Nat) : Int)))) (some (.d (.lst ((manyL (4 + k)).map Dt.str)))) a12) h = .nx (e43 n a0 a5 a6 a7 a8 a9 (some (.d (.int ((4 + k : Nat) : Int)))) (some (.d (.lst ((manyL (4 + k)).map Dt.str)))) a12) h' ∧ S43 n R h' := by
  have hc : check (manyL (4 + k)) (if 4 + k > 6 then [0, 6, 0] else []) = true := List.all_eq_true.mp menuC k (List.mem_range.mpr hk)
  obtain ⟨g, e⟩ := ev_place (f := vr 11) (ρ := e43 n a0 a5 a6 a7 a8 a9 (some (.d (.int ((4 + k : Nat) : Int)))) (some (.d (.lst ((manyL (4 + k)).map Dt.str)))) a12) s.tab rfl hc
  refine ⟨h ++ g, ?_, s.app⟩
  unfold b43_8
  rw [ev_ifS, ev_asB, ev_b2, e, ev_bok]
  have hr : (ifV (asB (b2 gtP (vr 10) (cI (6)))) (tupV (consA (cI (6)) (consA (cI (0)) nilA))) (cN)) (e43 n a0 a5 a6 a7 a8 a9 (some (.d (.int ((4 + k : Nat) : Int)))) (some (.d (.lst ((manyL (4 + k)).map Dt.str)))) a12) (h ++ g) = .ok (.d (qD (if 4 + k > 6 then [0, 6, 0] else []))) (h ++ g) := by
    rw [ev_ifV, ev_asB, ev_b2]
    show (((((ap2 gtP (h ++ g) (.d (.int ((4 + k : Nat) : Int))) (.d (.int 6)))).bind _)).bind _) = _
    rw [ev_ap2, gtP_i, rd_some, ev_bok, ev_isB, ev_bok]
    by_cases q : 4 + k > 6
    · rw [if_pos q, decide_eq_true (by omega)]; rfl
    · rw [if_neg q, decide_eq_false (by omega)]; rfl
  rw [hr, ev_bok, ev_ap2, ne_same]
  rfl
theorem turn43 (s : S43 n R h) : ∃ (b6 b7 b8 b9 b10 b11 b12 : OV) (R' : Rwo) (h' : Hs), body43 (e43 n a0 a5 a6 a7 a8 a9 a10 a11 a12) h = .nx (e43 n a0 a5 b6 b7 b8 b9 b10 b11 b12) h' ∧ S43 n R' h' := by
  obtain ⟨k, R0, h0, e0, hk, s0⟩ := s43_0 (a0 := a0) (a5 := a5) (a6 := a6) (a7 := a7) (a8 := a8) (a9 := a9) (a10 := a10) (a11 := a11) (a12 := a12) s
  obtain ⟨p, R1, h1, e1, hp, s1⟩ := s43_1 (a0 := a0) (a5 := a5) (a6 := some (.d (.int (k : Int)))) (a7 := a7) (a8 := a8) (a9 := a9) (a10 := a10) (a11 := a11) (a12 := a12) s0
  obtain ⟨h2, e2, s2⟩ := s43_2 (a0 := a0) (a5 := a5) (a9 := a9) (a10 := a10) (a11 := a11) (a12 := a12) s1 hk hp
  obtain ⟨p3, R3, h3, e3, hp3, s3⟩ := s43_3 (a0 := a0) (a5 := a5) (a6 := some (.d (.int (k : Int)))) (a7 := some (.d (.str p.1))) (a8 := some (.d (.int p.2))) (a9 := a9) (a10 := a10) (a11 := a11) (a12 := a12) s2
  obtain ⟨h4, e4, s4⟩ := s43_4 (a0 := a0) (a5 := a5) (a6 := some (.d (.int (k : Int)))) (a8 := some (.d (.int p.2))) (a10 := a10) (a11 := a11) (a12 := a12) s3 hp3
  obtain ⟨h5, e5, s5⟩ := s43_5 (a0 := a0) (a5 := a5) (a6 := some (.d (.int (k : Int)))) (a8 := some (.d (.int p.2))) (a10 := a10) (a11 := a11) (a12 := a12) s4 hp3
  obtain ⟨m, R6, h6, e6, hm, s6⟩ := s43_6 (a0 := a0) (a5 := a5) (a6 := some (.d (.int (k : Int)))) (a7 := some (.d (.str p3.1))) (a8 := some (.d (.int p.2))) (a9 := some (.d (.int p3.2))) (a10 := a10) (a11 := a11) (a12 := a12) s5
  have e7 := s43_7 (n := n) (h := h6) (a0 := a0) (a5 := a5) (a6 := some (.d (.int (k : Int)))) (a7 := some (.d (.str p3.1))) (a8 := some (.d (.int p.2))) (a9 := some (.d (.int p3.2))) (a11 := a11) (a12 := a12) hm
  obtain ⟨h8, e8, s8⟩ := s43_8 (a0 := a0) (a5 := a5) (a6 := some (.d (.int (k : Int)))) (a7 := some (.d (.str p3.1))) (a8 := some (.d (.int p.2))) (a9 := some (.d (.int p3.2))) (a12 := a12) s6 hm
  refine ⟨some (.d (.int (k : Int))), some (.d (.str p3.1)), some (.d (.int p.2)), some (.d (.int p3.2)), some (.d (.int ((4 + m : Nat) : Int))), some (.d (.lst ((manyL (4 + m)).map Dt.str))), a12, R6, h8, ?_, s8⟩
  unfold body43
  rw [ev_seqS, e0, sqs_nx, ev_seqS, e1, sqs_nx, ev_seqS, e2, sqs_nx, ev_seqS, e3, sqs_nx, ev_seqS, e4, sqs_nx, ev_seqS, e5, sqs_nx, ev_seqS, e6, sqs_nx, ev_seqS, e7, sqs_nx, e8]
theorem loop43 : ∀ (l : List Dt) (R : Rwo) (h : Hs) (a5 a6 a7 a8 a9 a10 a11 a12 : OV), S43 n R h → ∃ (b5 b6 b7 b8 b9 b10 b11 b12 : OV) (R' : Rwo) (h' : Hs), forL (gN 5) body43 l (e43 n a0 a5 a6 a7 a8 a9 a10 a11 a12) h = .nx (e43 n a0 b5 b6 b7 b8 b9 b10 b11 b12) h' ∧ S43 n R' h'
  | [], R, h, a5, a6, a7, a8, a9, a10, a11, a12, s => ⟨a5, a6, a7, a8, a9, a10, a11, a12, R, h, rfl, s⟩
  | x :: l, R, h, a5, a6, a7, a8, a9, a10, a11, a12, s => by
    obtain ⟨b6, b7, b8, b9, b10, b11, b12, R1, h1, e1, s1⟩ := turn43 (a0 := a0) (a5 := some (.d x)) (a6 := a6) (a7 := a7) (a8 := a8) (a9 := a9) (a10 := a10) (a11 := a11) (a12 := a12) s
    obtain ⟨c5, c6, c7, c8, c9, c10, c11, c12, R2, h2, e2, s2⟩ := loop43 l R1 h1 (some (.d x)) b6 b7 b8 b9 b10 b11 b12 s1
    refine ⟨c5, c6, c7, c8, c9, c10, c11, c12, R2, h2, ?_, s2⟩
    have hg : gN 5 (.d x) (e43 n a0 a5 a6 a7 a8 a9 a10 a11 a12) = some (e43 n a0 (some (.d x)) a6 a7 a8 a9 a10 a11 a12) := rfl
    rw [ev_forL, hg, gk_s, e1, lpk_nx, e2]
end
theorem t_law {ns : List Int} : ∃ h', runI 13 d_law [.d (.scr ns)] (tabs 1) = .ok (.d (.bl true)) h' := by
  let R0 : Rwo := ⟨ns, 0, 0, 0⟩
  let h0 : Hs := [tab0, .lst (rowL R0)]
  have q0 : l43_0 [some (.d (.scr ns)), none, none, none, none, none, none, none, none, none, none, none, none] (tabs 1) = .nx [some (.d (.scr ns)), some (.r 1), none, none, none, none, none, none, none, none, none, none, none] h0 := rfl
  have q1 : l43_1 [some (.d (.scr ns)), some (.r 1), none, none, none, none, none, none, none, none, none, none, none] h0 = .nx [some (.d (.scr ns)), some (.r 1), some (.d (.lst (goodL.map Dt.str))), none, none, none, none, none, none, none, none, none, none] h0 := rfl
  have q2 : ∃ g, l43_2 [some (.d (.scr ns)), some (.r 1), some (.d (.lst (goodL.map Dt.str))), none, none, none, none, none, none, none, none, none, none] h0 = .nx [some (.d (.scr ns)), some (.r 1), some (.d (.lst (goodL.map Dt.str))), none, none, none, none, none, none, none, none, none, none] (h0 ++ g) := by
    obtain ⟨g, e⟩ := ev_place (f := vr 2) (ρ := [some (.d (.scr ns)), some (.r 1), some (.d (.lst (goodL.map Dt.str))), none, none, none, none, none, none, none, none, none, none]) (h := h0) rfl rfl menu0
    refine ⟨g, ?_⟩
    unfold l43_2
    rw [ev_ifS, ev_asB, ev_b2, e]
    rfl
  obtain ⟨g, q2⟩ := q2
  have q3 : l43_3 [some (.d (.scr ns)), some (.r 1), some (.d (.lst (goodL.map Dt.str))), none, none, none, none, none, none, none, none, none, none] (h0 ++ g) = .nx [some (.d (.scr ns)), some (.r 1), some (.d (.lst (goodL.map Dt.str))), some (.r (h0 ++ g).length), none, none, none, none, none, none, none, none, none] (h0 ++ g ++ [.lst ((wrongL.take 6).map wD)]) := rfl
  have at_end : ∀ (h : Hs) (o : Ob), (h ++ [o])[h.length]? = some o := fun h o => by rw [List.getElem?_append_right (Nat.le_refl _), Nat.sub_self]; rfl
  generalize hH1 : h0 ++ g = H1 at q2 q3
  have k0 : H1[0]? = some tab0 := by rw [← hH1]; rfl
  have k1 : RowAt 1 R0 H1 := by rw [← hH1]; exact ⟨rfl, Int.le_refl 0⟩
  have hl1 : 2 ≤ H1.length := by rw [← hH1]; simp [h0]
  have bor_end : ∀ (h : Hs) (l : List Dt), bor (h ++ [.lst l]) (.r h.length) = some (.lst l) := fun h l => by
    unfold bor
    dsimp only
    rw [at_end]
  have ev_cat : ∀ {f g : Den} {ρ : En} {h h1 : Hs} {x : Vl} {a b : List Dt}, f ρ h = .ok x h1 → g ρ h1 = .ok (.d (.lst b)) h1 → bor h1 x = some (.lst a) → a.length + b.length ≤ 100000 → catF f g ρ h = .ok (.lst (a ++ b)) h1 := by
    intro f g ρ h h1 x a b hf hg hb hl
    unfold catF
    rw [hf, ev_bok, hg, ev_bok, hb]
    show (match decide (a.length + b.length ≤ 100000) with | true => Res.ok (Dt.lst (a ++ b)) h1 | false => .bad) = _
    rw [decide_eq_true hl]
  have q4 : l43_4 [some (.d (.scr ns)), some (.r 1), some (.d (.lst (goodL.map Dt.str))), some (.r H1.length), none, none, none, none, none, none, none, none, none] (H1 ++ [.lst ((wrongL.take 6).map wD)]) = .nx [some (.d (.scr ns)), some (.r 1), some (.d (.lst (goodL.map Dt.str))), some (.r (H1 ++ [Ob.lst ((wrongL.take 6).map wD)]).length), none, none, none, none, none, none, none, none, none] (H1 ++ [.lst ((wrongL.take 6).map wD)] ++ [.lst ((wrongL.take 10).map wD)]) := by
    unfold l43_4
    rw [ev_setS, ev_newV, ev_cat (x := .r H1.length) (h1 := H1 ++ [Ob.lst ((wrongL.take 6).map wD)]) (b := ((wrongL.drop 6).take 4).map wD) rfl rfl (bor_end _ _) (by decide)]
    rfl
  generalize hH2 : H1 ++ [Ob.lst ((wrongL.take 6).map wD)] = H2 at q3 q4
  have q5 : l43_5 [some (.d (.scr ns)), some (.r 1), some (.d (.lst (goodL.map Dt.str))), some (.r H2.length), none, none, none, none, none, none, none, none, none] (H2 ++ [.lst ((wrongL.take 10).map wD)]) = .nx [some (.d (.scr ns)), some (.r 1), some (.d (.lst (goodL.map Dt.str))), some (.r (H2 ++ [Ob.lst ((wrongL.take 10).map wD)]).length), none, none, none, none, none, none, none, none, none] (H2 ++ [.lst ((wrongL.take 10).map wD)] ++ [.lst ((wrongL.take 14).map wD)]) := by
    unfold l43_5
    rw [ev_setS, ev_newV, ev_cat (x := .r H2.length) (h1 := H2 ++ [Ob.lst ((wrongL.take 10).map wD)]) (b := ((wrongL.drop 10).take 4).map wD) rfl rfl (bor_end _ _) (by decide)]
    rfl
  generalize hH3 : H2 ++ [Ob.lst ((wrongL.take 10).map wD)] = H3 at q4 q5
  have q6 : l43_6 [some (.d (.scr ns)), some (.r 1), some (.d (.lst (goodL.map Dt.str))), some (.r H3.length), none, none, none, none, none, none, none, none, none] (H3 ++ [.lst ((wrongL.take 14).map wD)]) = .nx [some (.d (.scr ns)), some (.r 1), some (.d (.lst (goodL.map Dt.str))), some (.r H3.length), none, none, none, none, none, none, none, none, none] (H3 ++ [.lst (wrongL.map wD)]) := by
    have hs : (H3 ++ [Ob.lst ((wrongL.take 14).map wD)]).set H3.length (.lst (wrongL.map wD)) = H3 ++ [.lst (wrongL.map wD)] := by
      rw [List.set_append_right _ _ (Nat.le_refl _), Nat.sub_self]; rfl
    unfold l43_6
    rw [ev_exprS, ev_appV]
    show bindS (apr _ _ _ (.r H3.length)) _ _ = _
    have ha : apr (tupV (consA (cS "piece 1 2 x 4") (consA (cI (3)) nilA))) [some (.d (.scr ns)), some (.r 1), some (.d (.lst (goodL.map Dt.str))), some (.r H3.length), none, none, none, none, none, none, none, none, none] (H3 ++ [.lst ((wrongL.take 14).map wD)]) (.r H3.length) = .ok (.d .non) (H3 ++ [.lst (wrongL.map wD)]) := by
      rw [← hs]
      unfold apr
      simp [at_end, wD, wrongL]
    rw [ha]
    rfl
  let h9 : Hs := H3 ++ [.lst (wrongL.map wD)]
  have q7 : l43_7 [some (.d (.scr ns)), some (.r 1), some (.d (.lst (goodL.map Dt.str))), some (.r H3.length), none, none, none, none, none, none, none, none, none] h9 = .nx (e43 H3.length (some (.d (.scr ns))) none none none none none none none none) h9 := rfl
  have kk : ∀ (m : Nat) (o : Ob), H1[m]? = some o → h9[m]? = some o := fun m o e => by
    show (H3 ++ [Ob.lst (wrongL.map wD)])[m]? = some o
    rw [← hH3, ← hH2]
    exact at_app (at_app (at_app e))
  have hl3 : H1.length + 2 = H3.length := by rw [← hH3, ← hH2]; simp
  have s9 : S43 H3.length R0 h9 := ⟨⟨kk 1 _ k1.at', k1.nn⟩, kk 0 _ k0, at_end _ _, by omega⟩
  obtain ⟨b5, b6, b7, b8, b9, b10, b11, b12, R', h', e8, _⟩ := loop43 (a0 := some (.d (.scr ns))) (rngD 0 10) R0 h9 none none none none none none none none s9
  have q8 : l43_8 (e43 H3.length (some (.d (.scr ns))) none none none none none none none none) h9 = .nx (e43 H3.length (some (.d (.scr ns))) b5 b6 b7 b8 b9 b10 b11 b12) h' := by
    have h62 : r62 10 = true := r62_i (by omega)
    unfold l43_8
    rw [ev_forS, ev_rng1, ev_cI, ev_bok, rg1_i, h62, cnd_t, ev_sok, fo_fx]
    exact e8
  refine ⟨h', ?_⟩
  rw [ev_runI, law_body43]
  show finI (seqS _ _ [some (.d (.scr ns)), none, none, none, none, none, none, none, none, none, none, none, none] _) = _
  rw [ev_seqS, q0, sqs_nx, ev_seqS, q1, sqs_nx, ev_seqS, q2, sqs_nx, ev_seqS, q3, sqs_nx, ev_seqS, q4, sqs_nx, ev_seqS, q5, sqs_nx, ev_seqS, q6, sqs_nx, ev_seqS, q7, sqs_nx, ev_seqS, q8, sqs_nx]
  rfl
end Vi

set_option maxRecDepth 100000
set_option maxHeartbeats 4000000
namespace Vi
open PySem L2 Evl
/-! ### what the top has written -/
def LF (K : PySem.W.Frag) (x q : Str) (st : Stmt) (f : Addr) : Prop := ∃ (oc : Value) (od : Option Addr) (kV dc pm : Value) (an : Option Addr) (cd ct : Value) (sl : Array (Option Value)), K.lookup f = some ⟨oc, od, .func (PySem.W.fnOf x q (defArgs st) (defBody st) (defScope st) .none kV dc pm an cd ct), sl⟩ ∧ PySem.W.codeIn K cd q = true ∧ PySem.W.keepIn K (.ref f) = true
def GF (K : PySem.W.Frag) (x : Str) (st : Stmt) (f : Addr) : Prop := PySem.W.nsIn K mainGlobals x = some (some (.ref f)) ∧ LF K x x st f
def MF (K : PySem.W.Frag) (C : Addr) (m q : Str) (st : Stmt) (f : Addr) : Prop := PySem.W.findIn K (.ref C) m = some (some (.ref f)) ∧ PySem.W.isFn K (.ref f) = true ∧ LF K m q st f
theorem lf_mk {K : PySem.W.Frag} {x q : Str} {st : Stmt} {f : Addr} {oc : Value} {od : Option Addr} {kV dc pm : Value} {an : Option Addr} {cd ct : Value} {sl : Array (Option Value)} (l : K.lookup f = some ⟨oc, od, .func (PySem.W.fnOf x q (defArgs st) (defBody st) (defScope st) .none kV dc pm an cd ct), sl⟩) (c : PySem.W.codeIn K cd q = true) (k : PySem.W.keepIn K (.ref f) = true) : LF K x q st f := ⟨oc, od, kV, dc, pm, an, cd, ct, sl, l, c, k⟩
theorem LF.fn {K : PySem.W.Frag} {x q : Str} {st : Stmt} {f : Addr} (h : LF K x q st f) : ∃ fd, Fun K x q st f fd := by
  obtain ⟨oc, od, kV, dc, pm, an, cd, ct, sl, l, c, k⟩ := h
  exact ⟨_, fun_mk l c k⟩
/-- the law's promise -/
def spLaw (K : PySem.W.Frag) : Sp := fun vs H Q _ => ∃ (a : Addr) (ns : List Int), vs = [.ref a] ∧ ((∃ o, H a = some (.frz o (.lst (ns.map V.int)))) ∨ ScrK K a ns) ∧ ∀ H', Q (.bl true) H'
theorem cx_nil {P : Program} {w : World} {o : List Env} {H : Hp} {s : Shared} {e : Value} {s' : Shared} (h : L2.CX P w o H s (fun _ _ _ => False) e s') : False := by
  obtain ⟨_, _, _, _, _, _, _, _, _, _, _, _, h⟩ := h
  exact h
theorem sci_InvalidDrawing : FnScope ["self", "index"] ["self", "index"] (defScope s_InvalidDrawing___init__) := ⟨rfl, rfl, rfl, by decide +kernel, rfl, by decide +kernel, by decide +kernel⟩
theorem in_InvalidDrawing {G : Cg} {f CL : Addr} {fd : FuncData} (L : LineE G.K G.mg CL) (F : Fun G.K "__init__" "InvalidDrawing.__init__" s_InvalidDrawing___init__ f fd) : FnOk G.P G.w G.K G.mg G.base CX0 1 f fd ["self", "index"] (spOI G.K "index") := init1_ok F sci_InvalidDrawing L rfl (txt_fstr (by decide +kernel)) rfl (by first | exact Or.inl rfl | exact Or.inr (Or.inl rfl) | exact Or.inr (Or.inr rfl)) (by first | exact Or.inl rfl | exact Or.inr (Or.inl rfl) | exact Or.inr (Or.inr rfl)) (by decide +kernel) (by decide +kernel) (fun _ => rfl) (fun _ _ => rfl) (fun _ => rfl) (fun _ => rfl) (fun _ => rfl) (fun _ => rfl)
theorem er_ok_InvalidDrawing : ∀ (ds : List Dt) (fs : List (Str × Dt)), er_InvalidDrawing ds = some fs → ∃ n : Int, ds = [.int n] ∧ (-1000 < n ∧ n < 1000) ∧ fs = [(("index" : Str), Dt.int n)] := by
  intro ds fs hh
  unfold er_InvalidDrawing at hh
  split at hh
  · next n =>
    by_cases hn : -1000 < n ∧ n < 1000
    · simp only [decide_eq_true hn] at hh
      cases hh
      exact ⟨n, rfl, hn, rfl⟩
    · simp only [decide_eq_false hn] at hh
      cases hh
  · cases hh
theorem sci_InvalidText : FnScope ["self", "row", "word"] ["self", "row", "word"] (defScope s_InvalidText___init__) := ⟨rfl, rfl, rfl, by decide +kernel, rfl, by decide +kernel, by decide +kernel⟩
theorem in_InvalidText {G : Cg} {f CL : Addr} {fd : FuncData} (L : LineE G.K G.mg CL) (F : Fun G.K "__init__" "InvalidText.__init__" s_InvalidText___init__ f fd) : FnOk G.P G.w G.K G.mg G.base CX0 1 f fd ["self", "row", "word"] (spOI2 G.K "row" "word") := init2_ok F sci_InvalidText L rfl rfl (by first | exact Or.inl rfl | exact Or.inr (Or.inl rfl) | exact Or.inr (Or.inr rfl)) (by first | exact Or.inl rfl | exact Or.inr (Or.inl rfl) | exact Or.inr (Or.inr rfl)) (by decide +kernel) (by decide +kernel) (by first | exact Or.inl rfl | exact Or.inr (Or.inl rfl) | exact Or.inr (Or.inr rfl)) (by decide +kernel) (by decide +kernel) (fun _ => rfl) (fun _ _ => rfl) (fun _ => rfl) (fun _ => rfl) (fun _ => rfl) (fun _ => rfl) (fun _ => rfl)
theorem er_ok_InvalidText : ∀ (ds : List Dt) (fs : List (Str × Dt)), er_InvalidText ds = some fs → ∃ n1 n2 : Int, ds = [.int n1, .int n2] ∧ fs = [(("word" : Str), Dt.int n2), (("row" : Str), Dt.int n1)] := by
  intro ds fs hh
  unfold er_InvalidText at hh
  split at hh
  · next n1 n2 =>
    split at hh
    · cases hh
      exact ⟨n1, n2, rfl, rfl⟩
    · cases hh
  · cases hh
theorem all_mk {l : PySem.W.OpenLaw} {w : World} {K : PySem.W.Frag} {h : Heap} {mg : Str → Option Value} {fa : Addr} (X0 : K.In h) (G0 : h.Ns mainGlobals mg) (hfa : mg "law" = some (.ref fa))
    {af_across af_way af_divisor af_fraction af_point_at af_along af_common_point af_is_number af_is_piece af_overlap af_is_small af_parse_drawing af__law_place af__law_taken af_law C_LineError C_InvalidDrawing C_InvalidText fi_InvalidDrawing fi_InvalidText CD pl pp CP_Row af_Drawing___init__ af_Row_next_word af_Row_read_piece af_Row___init__ cL_0 PL_0 : Addr} {il ip : Nat} {tk___name__ tk_FAR tk_MAX_PIECES tk_PARTS tk_DIGITS tk_MOST_DIGITS tk_PIECE : Tok} {nm_InvalidDrawing q_InvalidDrawing : Str} {N_InvalidDrawing : Addr} {bs_InvalidDrawing bm_InvalidDrawing : List Value} {sn_InvalidDrawing : List Str} {sub_InvalidDrawing : List Value} {ab_InvalidDrawing : Bool} {col_InvalidDrawing : Option Bool} {dd_InvalidDrawing : Option Addr} {k0_InvalidDrawing k1_InvalidDrawing k2_InvalidDrawing k3_InvalidDrawing k5_InvalidDrawing : Option Value} {nm_InvalidText q_InvalidText : Str} {N_InvalidText : Addr} {bs_InvalidText bm_InvalidText : List Value} {sn_InvalidText : List Str} {sub_InvalidText : List Value} {ab_InvalidText : Bool} {col_InvalidText : Option Bool} {dd_InvalidText : Option Addr} {k0_InvalidText k1_InvalidText k2_InvalidText k3_InvalidText k5_InvalidText : Option Value} {ocL_0 : Value} {odL_0 : Option Addr} {kVL_0 dcL_0 pmL_0 : Value} {anL_0 : Option Addr} {ctL_0 : Value} {slL_0 : Array (Option Value)} {ecL_0 : Value} {ddL_0 : Option Addr} {vsL_0 : Array Value} {scL_0 : Array (Option Value)}
    (g_across : GF K "across" s_across af_across)
    (g_way : GF K "way" s_way af_way)
    (g_divisor : GF K "divisor" s_divisor af_divisor)
    (g_fraction : GF K "fraction" s_fraction af_fraction)
    (g_point_at : GF K "point_at" s_point_at af_point_at)
    (g_along : GF K "along" s_along af_along)
    (g_common_point : GF K "common_point" s_common_point af_common_point)
    (g_is_number : GF K "is_number" s_is_number af_is_number)
    (g_is_piece : GF K "is_piece" s_is_piece af_is_piece)
    (g_overlap : GF K "overlap" s_overlap af_overlap)
    (g_is_small : GF K "is_small" s_is_small af_is_small)
    (g_parse_drawing : GF K "parse_drawing" s_parse_drawing af_parse_drawing)
    (g__law_place : GF K "_law_place" s__law_place af__law_place)
    (g__law_taken : GF K "_law_taken" s__law_taken af__law_taken)
    (g_law : GF K "law" s_law af_law)
    (a_LineError : PySem.W.nsIn K mainGlobals "LineError" = some (some (.ref C_LineError)))
    (a_InvalidDrawing : PySem.W.nsIn K mainGlobals "InvalidDrawing" = some (some (.ref C_InvalidDrawing)))
    (a_InvalidText : PySem.W.nsIn K mainGlobals "InvalidText" = some (some (.ref C_InvalidText)))
    (l1 : PySem.W.specialIn K (.ref C_LineError) "__getattribute__" = some (some (.builtin "type.__getattribute__")))
    (l2 : PySem.W.readsIn K C_LineError (.type "type") = true)
    (l3 : PySem.W.findCls K (.ref C_LineError) (.type "type") "__init__" = some (.val (.builtin "ValueError.__init__")))
    (b_LineError : PySem.W.subIn K (.ref C_LineError) (.type "BaseException") = some true)
    (t_LineError : PySem.W.typeIn K (.ref C_LineError) = some (.type "type"))
    (k_LineError : PySem.W.keepIn K (.ref C_LineError) = true)
    (hd_LineError : PySem.W.hasDictIn K C_LineError = true)
    (x_LineError : PySem.W.excIn K C_LineError [.type "ValueError", .type "Exception", .type "BaseException", .type "object"] "ValueError.__new__" = true)
    (b_InvalidDrawing : PySem.W.subIn K (.ref C_InvalidDrawing) (.type "BaseException") = some true)
    (t_InvalidDrawing : PySem.W.typeIn K (.ref C_InvalidDrawing) = some (.type "type"))
    (k_InvalidDrawing : PySem.W.keepIn K (.ref C_InvalidDrawing) = true)
    (hd_InvalidDrawing : PySem.W.hasDictIn K C_InvalidDrawing = true)
    (x_InvalidDrawing : K.lookup C_InvalidDrawing = some (excClassObj nm_InvalidDrawing q_InvalidDrawing C_InvalidDrawing N_InvalidDrawing bs_InvalidDrawing bm_InvalidDrawing true sn_InvalidDrawing sub_InvalidDrawing ab_InvalidDrawing col_InvalidDrawing dd_InvalidDrawing k0_InvalidDrawing k1_InvalidDrawing k2_InvalidDrawing k3_InvalidDrawing k5_InvalidDrawing "ValueError.__new__"))
    (v_InvalidDrawing : PySem.HandSPX.refsVE bm_InvalidDrawing = true)
    (sa_InvalidDrawing : PySem.W.findIn K (.ref C_InvalidDrawing) "__setattr__" = some (some (.builtin "object.__setattr__")))
    (i_InvalidDrawing : MF K C_InvalidDrawing "__init__" "InvalidDrawing.__init__" s_InvalidDrawing___init__ fi_InvalidDrawing)
    (nf_InvalidDrawing_index : PySem.W.findIn K (.ref C_InvalidDrawing) "index" = some none)
    (b_InvalidText : PySem.W.subIn K (.ref C_InvalidText) (.type "BaseException") = some true)
    (t_InvalidText : PySem.W.typeIn K (.ref C_InvalidText) = some (.type "type"))
    (k_InvalidText : PySem.W.keepIn K (.ref C_InvalidText) = true)
    (hd_InvalidText : PySem.W.hasDictIn K C_InvalidText = true)
    (x_InvalidText : K.lookup C_InvalidText = some (excClassObj nm_InvalidText q_InvalidText C_InvalidText N_InvalidText bs_InvalidText bm_InvalidText true sn_InvalidText sub_InvalidText ab_InvalidText col_InvalidText dd_InvalidText k0_InvalidText k1_InvalidText k2_InvalidText k3_InvalidText k5_InvalidText "ValueError.__new__"))
    (v_InvalidText : PySem.HandSPX.refsVE bm_InvalidText = true)
    (sa_InvalidText : PySem.W.findIn K (.ref C_InvalidText) "__setattr__" = some (some (.builtin "object.__setattr__")))
    (i_InvalidText : MF K C_InvalidText "__init__" "InvalidText.__init__" s_InvalidText___init__ fi_InvalidText)
    (nf_InvalidText_row : PySem.W.findIn K (.ref C_InvalidText) "row" = some none)
    (nf_InvalidText_word : PySem.W.findIn K (.ref C_InvalidText) "word" = some none)
    (s_LineError_InvalidDrawing : PySem.W.subIn K (.ref C_LineError) (.ref C_InvalidDrawing) = some false)
    (s_InvalidDrawing_InvalidDrawing : PySem.W.subIn K (.ref C_InvalidDrawing) (.ref C_InvalidDrawing) = some true)
    (s_InvalidText_InvalidDrawing : PySem.W.subIn K (.ref C_InvalidText) (.ref C_InvalidDrawing) = some false)
    (s_LineError_InvalidText : PySem.W.subIn K (.ref C_LineError) (.ref C_InvalidText) = some false)
    (s_InvalidDrawing_InvalidText : PySem.W.subIn K (.ref C_InvalidDrawing) (.ref C_InvalidText) = some false)
    (s_InvalidText_InvalidText : PySem.W.subIn K (.ref C_InvalidText) (.ref C_InvalidText) = some true)
    (aD : PySem.W.nsIn K mainGlobals "Drawing" = some (some (.ref CD)))
    (d1 : PySem.W.plainGet K CD Str.empty = true)
    (d2 : PySem.W.isClsIn K CD = true)
    (d3 : PySem.W.plainOver K CD = true)
    (d4 : PySem.W.findIn K (.ref CD) "__setattr__" = some (some (.builtin "object.__setattr__")))
    (s_lines1 : PySem.W.findIn K (.ref CD) "lines" = some (some (.ref pl)))
    (s_lines2 : PySem.W.specialIn K (.ref pl) "__get__" = some (some (.builtin "member_descriptor.__get__")))
    (s_lines3 : PySem.W.takesIn K (.ref pl) = some true)
    (s_lines4 : PySem.W.typeIn K (.ref pl) = some (.type "member_descriptor"))
    (s_lines5 : PySem.W.slotIn K pl CD = some il)
    (s_lines6 : il < 1000)
    (s_points1 : PySem.W.findIn K (.ref CD) "points" = some (some (.ref pp)))
    (s_points2 : PySem.W.specialIn K (.ref pp) "__get__" = some (some (.builtin "member_descriptor.__get__")))
    (s_points3 : PySem.W.takesIn K (.ref pp) = some true)
    (s_points4 : PySem.W.typeIn K (.ref pp) = some (.type "member_descriptor"))
    (s_points5 : PySem.W.slotIn K pp CD = some ip)
    (s_points6 : ip < 1000)
    (dne : il ≠ ip)
    (d5 : PySem.W.makesIn K CD = true)
    (d6 : PySem.W.keepIn K (.ref CD) = true)
    (pa_Row : PySem.W.nsIn K mainGlobals "Row" = some (some (.ref CP_Row)))
    (pb_Row : PySem.W.plainGet K CP_Row Str.empty = true)
    (pc_Row : PySem.W.hasDictIn K CP_Row = true)
    (pd_Row : PySem.W.plainOver K CP_Row = true)
    (pe_Row : PySem.W.findIn K (.ref CP_Row) "__setattr__" = some (some (.builtin "object.__setattr__")))
    (pg_Row : PySem.W.makesIn K CP_Row = true)
    (ph_Row : PySem.W.keepIn K (.ref CP_Row) = true)
    (pf_Row_number : PySem.W.findIn K (.ref CP_Row) "number" = some none)
    (pf_Row_words : PySem.W.findIn K (.ref CP_Row) "words" = some none)
    (pf_Row_spot : PySem.W.findIn K (.ref CP_Row) "spot" = some none)
    (m_Drawing___init__ : MF K CD "__init__" "Drawing.__init__" s_Drawing___init__ af_Drawing___init__)
    (m_Row_next_word : MF K CP_Row "next_word" "Row.next_word" s_Row_next_word af_Row_next_word)
    (m_Row_read_piece : MF K CP_Row "read_piece" "Row.read_piece" s_Row_read_piece af_Row_read_piece)
    (m_Row___init__ : MF K CP_Row "__init__" "Row.__init__" s_Row___init__ af_Row___init__)
    (eg_LineError : PySem.W.findIn K (.ref C_LineError) "__getattribute__" = some (some (.builtin "BaseException.__getattribute__")))
    (ek_LineError : PySem.W.findIn K (.ref C_LineError) "__getattr__" = some none)
    (eg_InvalidDrawing : PySem.W.findIn K (.ref C_InvalidDrawing) "__getattribute__" = some (some (.builtin "BaseException.__getattribute__")))
    (ek_InvalidDrawing : PySem.W.findIn K (.ref C_InvalidDrawing) "__getattr__" = some none)
    (eg_InvalidText : PySem.W.findIn K (.ref C_InvalidText) "__getattribute__" = some (some (.builtin "BaseException.__getattribute__")))
    (ek_InvalidText : PySem.W.findIn K (.ref C_InvalidText) "__getattr__" = some none)
    (tc_0 : K.lookup af_Row_read_piece = some ⟨ocL_0, odL_0, .func (PySem.W.fnOf "read_piece" "Row.read_piece" (defArgs s_Row_read_piece) (defBody s_Row_read_piece) (defScope s_Row_read_piece) .none kVL_0 dcL_0 pmL_0 anL_0 (.ref cL_0) ctL_0), slL_0⟩)
    (tt_0 : K.lookup cL_0 = some ⟨ecL_0, ddL_0, .fields vsL_0, scL_0⟩)
    (tp_0 : vsL_0[11]? = some (.ref PL_0))
    (th_0 : PySem.W.codeHdIn K cL_0 PL_0 = true)
    (tz_0 : h.get? PL_0 = some { cls := .none, data := .fields #[] })
    (tn_0 : K.lookup PL_0 = none)
    (tnd : [PL_0].Nodup)
    (z_abs : PySem.W.nsIn K mainGlobals "abs" = some none)
    (z_len : PySem.W.nsIn K mainGlobals "len" = some none)
    (z_int : PySem.W.nsIn K mainGlobals "int" = some none)
    (z_str : PySem.W.nsIn K mainGlobals "str" = some none)
    (z_all : PySem.W.nsIn K mainGlobals "all" = some none)
    (z_any : PySem.W.nsIn K mainGlobals "any" = some none)
    (z_sum : PySem.W.nsIn K mainGlobals "sum" = some none)
    (z_tuple : PySem.W.nsIn K mainGlobals "tuple" = some none)
    (z_list : PySem.W.nsIn K mainGlobals "list" = some none)
    (z_max : PySem.W.nsIn K mainGlobals "max" = some none)
    (z_min : PySem.W.nsIn K mainGlobals "min" = some none)
    (z_range : PySem.W.nsIn K mainGlobals "range" = some none)
    (z_isinstance : PySem.W.nsIn K mainGlobals "isinstance" = some none)
    (z_bool : PySem.W.nsIn K mainGlobals "bool" = some none)
    (z_sorted : PySem.W.nsIn K mainGlobals "sorted" = some none)
    (z_set : PySem.W.nsIn K mainGlobals "set" = some none)
    (z_zip : PySem.W.nsIn K mainGlobals "zip" = some none)
    (z_enumerate : PySem.W.nsIn K mainGlobals "enumerate" = some none)
    (z_dict : PySem.W.nsIn K mainGlobals "dict" = some none)
    (z_reversed : PySem.W.nsIn K mainGlobals "reversed" = some none)
    (c___name__ : PySem.W.nsIn K mainGlobals "__name__" = some (some (.str "law_ledlines_k43_texts_rejected" tk___name__)))
    (c_FAR : PySem.W.nsIn K mainGlobals "FAR" = some (some (.int (60) tk_FAR)))
    (c_MAX_PIECES : PySem.W.nsIn K mainGlobals "MAX_PIECES" = some (some (.int (6) tk_MAX_PIECES)))
    (c_PARTS : PySem.W.nsIn K mainGlobals "PARTS" = some (some (.int (4) tk_PARTS)))
    (c_DIGITS : PySem.W.nsIn K mainGlobals "DIGITS" = some (some (.str "0123456789" tk_DIGITS)))
    (c_MOST_DIGITS : PySem.W.nsIn K mainGlobals "MOST_DIGITS" = some (some (.int (2) tk_MOST_DIGITS)))
    (c_PIECE : PySem.W.nsIn K mainGlobals "PIECE" = some (some (.str "piece" tk_PIECE))) :
    OwnTabs K mg h [] → LamX.LawAtS l w K (L2.CX l.prog w) 10 63 "_law_script" mg fa h := by
  have e := hfa.symm.trans (PySem.W.mg_of X0 G0 g_law.1)
  cases e
  obtain ⟨fd_across, D_across⟩ := g_across.2.fn
  have B_across := D_across.binds (ps := ["one", "other"]) fun _ _ _ _ _ _ us hl => match us, hl with | [_, _], _ => rfl
  have q_across := PySem.W.mg_of X0 G0 g_across.1
  obtain ⟨fd_way, D_way⟩ := g_way.2.fn
  have B_way := D_way.binds (ps := ["piece"]) fun _ _ _ _ _ _ us hl => match us, hl with | [_], _ => rfl
  have q_way := PySem.W.mg_of X0 G0 g_way.1
  obtain ⟨fd_divisor, D_divisor⟩ := g_divisor.2.fn
  have B_divisor := D_divisor.binds (ps := ["one", "other"]) fun _ _ _ _ _ _ us hl => match us, hl with | [_, _], _ => rfl
  have q_divisor := PySem.W.mg_of X0 G0 g_divisor.1
  obtain ⟨fd_fraction, D_fraction⟩ := g_fraction.2.fn
  have B_fraction := D_fraction.binds (ps := ["top", "bottom"]) fun _ _ _ _ _ _ us hl => match us, hl with | [_, _], _ => rfl
  have q_fraction := PySem.W.mg_of X0 G0 g_fraction.1
  obtain ⟨fd_point_at, D_point_at⟩ := g_point_at.2.fn
  have B_point_at := D_point_at.binds (ps := ["piece", "top", "bottom"]) fun _ _ _ _ _ _ us hl => match us, hl with | [_, _, _], _ => rfl
  have q_point_at := PySem.W.mg_of X0 G0 g_point_at.1
  obtain ⟨fd_along, D_along⟩ := g_along.2.fn
  have B_along := D_along.binds (ps := ["one", "other"]) fun _ _ _ _ _ _ us hl => match us, hl with | [_, _], _ => rfl
  have q_along := PySem.W.mg_of X0 G0 g_along.1
  obtain ⟨fd_common_point, D_common_point⟩ := g_common_point.2.fn
  have B_common_point := D_common_point.binds (ps := ["one", "other"]) fun _ _ _ _ _ _ us hl => match us, hl with | [_, _], _ => rfl
  have q_common_point := PySem.W.mg_of X0 G0 g_common_point.1
  obtain ⟨fd_is_number, D_is_number⟩ := g_is_number.2.fn
  have B_is_number := D_is_number.binds (ps := ["value", "smallest", "largest"]) fun _ _ _ _ _ _ us hl => match us, hl with | [_, _, _], _ => rfl
  have q_is_number := PySem.W.mg_of X0 G0 g_is_number.1
  obtain ⟨fd_is_piece, D_is_piece⟩ := g_is_piece.2.fn
  have B_is_piece := D_is_piece.binds (ps := ["value"]) fun _ _ _ _ _ _ us hl => match us, hl with | [_], _ => rfl
  have q_is_piece := PySem.W.mg_of X0 G0 g_is_piece.1
  obtain ⟨fd_overlap, D_overlap⟩ := g_overlap.2.fn
  have B_overlap := D_overlap.binds (ps := ["one", "other"]) fun _ _ _ _ _ _ us hl => match us, hl with | [_, _], _ => rfl
  have q_overlap := PySem.W.mg_of X0 G0 g_overlap.1
  obtain ⟨fd_is_small, D_is_small⟩ := g_is_small.2.fn
  have B_is_small := D_is_small.binds (ps := ["word"]) fun _ _ _ _ _ _ us hl => match us, hl with | [_], _ => rfl
  have q_is_small := PySem.W.mg_of X0 G0 g_is_small.1
  obtain ⟨fd_parse_drawing, D_parse_drawing⟩ := g_parse_drawing.2.fn
  have B_parse_drawing := D_parse_drawing.binds (ps := ["text"]) fun _ _ _ _ _ _ us hl => match us, hl with | [_], _ => rfl
  have q_parse_drawing := PySem.W.mg_of X0 G0 g_parse_drawing.1
  obtain ⟨fd__law_place, D__law_place⟩ := g__law_place.2.fn
  have B__law_place := D__law_place.binds (ps := ["_law_rows"]) fun _ _ _ _ _ _ us hl => match us, hl with | [_], _ => rfl
  have q__law_place := PySem.W.mg_of X0 G0 g__law_place.1
  obtain ⟨fd__law_taken, D__law_taken⟩ := g__law_taken.2.fn
  have B__law_taken := D__law_taken.binds (ps := ["_law_row", "_law_many"]) fun _ _ _ _ _ _ us hl => match us, hl with | [_, _], _ => rfl
  have q__law_taken := PySem.W.mg_of X0 G0 g__law_taken.1
  obtain ⟨fd_Drawing___init__, D_Drawing___init__⟩ := m_Drawing___init__.2.2.fn
  have B_Drawing___init__ := D_Drawing___init__.binds (ps := ["self", "pieces"]) fun _ _ _ _ _ _ us hl => match us, hl with | [_, _], _ => rfl
  obtain ⟨fd_Row_next_word, D_Row_next_word⟩ := m_Row_next_word.2.2.fn
  have B_Row_next_word := D_Row_next_word.binds (ps := ["self", "is_right"]) fun _ _ _ _ _ _ us hl => match us, hl with | [_, _], _ => rfl
  obtain ⟨fd_Row_read_piece, D_Row_read_piece⟩ := m_Row_read_piece.2.2.fn
  have B_Row_read_piece := D_Row_read_piece.binds (ps := ["self"]) fun _ _ _ _ _ _ us hl => match us, hl with | [_], _ => rfl
  obtain ⟨fd_Row___init__, D_Row___init__⟩ := m_Row___init__.2.2.fn
  have B_Row___init__ := D_Row___init__.binds (ps := ["self", "number", "text"]) fun _ _ _ _ _ _ us hl => match us, hl with | [_, _, _], _ => rfl
  obtain ⟨fdi_InvalidDrawing, Di_InvalidDrawing⟩ := i_InvalidDrawing.2.2.fn
  have Bi_InvalidDrawing := Di_InvalidDrawing.binds (ps := ["self", "index"]) fun _ _ _ _ _ _ us hl => match us, hl with | [_, _], _ => rfl
  obtain ⟨fdi_InvalidText, Di_InvalidText⟩ := i_InvalidText.2.2.fn
  have Bi_InvalidText := Di_InvalidText.binds (ps := ["self", "row", "word"]) fun _ _ _ _ _ _ us hl => match us, hl with | [_, _, _], _ => rfl
  obtain ⟨oc, od, kV, dc, pm, an, cd, ct, sl, la, lc, lk⟩ := g_law.2
  intro own
  have hcd_Row_read_piece : fd_Row_read_piece.code = .ref cL_0 := by
    obtain ⟨_, _, _, _, _, _, _, _, _, rfl, lk_, _⟩ := D_Row_read_piece.ex
    exact codeOf_eq tc_0 rfl lk_
  have ot_0 := tz_0
  refine ⟨PySem.W.fnOf "law" "law" (defArgs s_law) (defBody s_law) (defScope s_law) .none kV dc pm an cd ct, [(cL_0, PL_0)], spLawT K [PL_0], fun p hp => ?_, fun p hp => ?_, fun p hp => ?_, fun s v => .of_eq rfl, fun H a ns _ _ hT hS => ⟨a, ns, rfl, hS, fun P hp => ?_, fun _ => rfl⟩, fun base _ _ TB => ?_⟩
  · simp only [List.mem_cons, List.not_mem_nil, or_false] at hp
    subst hp
    · exact ot_0
  · simp only [List.mem_cons, List.not_mem_nil, or_false] at hp
    subst hp
    · exact tn_0
  · simp only [List.mem_cons, List.not_mem_nil, or_false] at hp
    subst hp
    · exact PySem.W.codeHd_of_K X0 th_0
  · simp only [List.mem_cons, List.not_mem_nil, or_false] at hp
    · rw [hp]; exact hT (cL_0, PL_0) (by simp)
  let T : DrT K := ⟨CD, pl, il, pp, ip, ⟨d1, d2, d3, d4⟩, ⟨s_lines1, s_lines2, s_lines3, s_lines4, s_lines5, s_lines6⟩, ⟨s_points1, s_points2, s_points3, s_points4, s_points5, s_points6⟩, dne⟩
  let G : Cg := { P := l.prog, w := w, K := K, mg := mg, base := base, ly := ⟨layD T, l.prog, w⟩, lm := layM T (fun n => match n with | 1 => CP_Row | 1000 => PL_0 | _ => 0) (fun n => match n with | 1 => ns_Row | 1000 => ["Row.read_piece" ++ ".<locals>." ++ "<lambda>"] | _ => []), lok := layD_ok, lyP := rfl, lyw := rfl, lmok := layM_ok, xc := fun n => match n with | 0 => .ref C_LineError | 1 => .ref C_InvalidDrawing | 2 => .ref C_InvalidText | _ => .none }
  have X : Fx G := ⟨PySem.W.mg_none_of X0 G0 z_abs, PySem.W.mg_none_of X0 G0 z_len, PySem.W.mg_none_of X0 G0 z_int, PySem.W.mg_none_of X0 G0 z_str, PySem.W.mg_none_of X0 G0 z_all, PySem.W.mg_none_of X0 G0 z_any, PySem.W.mg_none_of X0 G0 z_sum, PySem.W.mg_none_of X0 G0 z_tuple, PySem.W.mg_none_of X0 G0 z_list, PySem.W.mg_none_of X0 G0 z_max, PySem.W.mg_none_of X0 G0 z_min, PySem.W.mg_none_of X0 G0 z_range, PySem.W.mg_none_of X0 G0 z_isinstance, PySem.W.mg_none_of X0 G0 z_bool, PySem.W.mg_none_of X0 G0 z_sorted, PySem.W.mg_none_of X0 G0 z_set, PySem.W.mg_none_of X0 G0 z_zip, PySem.W.mg_none_of X0 G0 z_enumerate, PySem.W.mg_none_of X0 G0 z_dict, PySem.W.mg_none_of X0 G0 z_reversed, ⟨_, PySem.W.mg_of X0 G0 c___name__⟩, ⟨_, PySem.W.mg_of X0 G0 c_FAR⟩, ⟨_, PySem.W.mg_of X0 G0 c_MAX_PIECES⟩, ⟨_, PySem.W.mg_of X0 G0 c_PARTS⟩, ⟨_, PySem.W.mg_of X0 G0 c_DIGITS⟩, ⟨_, PySem.W.mg_of X0 G0 c_MOST_DIGITS⟩, ⟨_, PySem.W.mg_of X0 G0 c_PIECE⟩⟩
  have HD : HasG G T (fun n => match n with | 1 => CP_Row | 1000 => PL_0 | _ => 0) (fun n => match n with | 1 => ns_Row | 1000 => ["Row.read_piece" ++ ".<locals>." ++ "<lambda>"] | _ => []) := ⟨rfl, rfl⟩
  have LE : LineE G.K G.mg C_LineError := ⟨PySem.W.mg_of X0 G0 a_LineError, l1, l2, l3⟩
  have LD_0 : LamG G cL_0 PL_0 ("Row.read_piece" ++ ".<locals>.") (0) := ⟨TB (cL_0, PL_0) (by simp), layM_tab (T := T) (pc := (fun n => match n with | 1 => CP_Row | 1000 => PL_0 | _ => 0)) (pf := (fun n => match n with | 1 => ns_Row | 1000 => ["Row.read_piece" ++ ".<locals>." ++ "<lambda>"] | _ => [])) 0 rfl rfl⟩
  have PC_Row : PlC G.ct 2 CP_Row ns_Row := ⟨fun a H vs => Iff.rfl, ⟨pb_Row, pc_Row, pd_Row, pe_Row⟩, fun f hf => by
    simp only [ns_Row, List.mem_cons, List.not_mem_nil, or_false] at hf
    rcases hf with rfl | rfl | rfl
    · exact pf_Row_number
    · exact pf_Row_words
    · exact pf_Row_spot, by decide +kernel, by decide +kernel⟩
  have OX_InvalidDrawing : OexC G.K C_InvalidDrawing := ⟨⟨nm_InvalidDrawing, q_InvalidDrawing, N_InvalidDrawing, bs_InvalidDrawing, bm_InvalidDrawing, sn_InvalidDrawing, sub_InvalidDrawing, ab_InvalidDrawing, col_InvalidDrawing, dd_InvalidDrawing, k0_InvalidDrawing, k1_InvalidDrawing, k2_InvalidDrawing, k3_InvalidDrawing, k5_InvalidDrawing, x_InvalidDrawing, v_InvalidDrawing⟩, sa_InvalidDrawing, b_InvalidDrawing, t_InvalidDrawing, k_InvalidDrawing⟩
  have E_InvalidDrawing : ErP G 2 "InvalidDrawing" 1 er_InvalidDrawing := er1_mk OX_InvalidDrawing (PySem.W.mg_of X0 G0 a_InvalidDrawing) nf_InvalidDrawing_index i_InvalidDrawing.1 (beq_iff_eq.mp i_InvalidDrawing.2.1) (in_InvalidDrawing LE Di_InvalidDrawing) Bi_InvalidDrawing rfl (by decide +kernel) er_ok_InvalidDrawing
  have OX_InvalidText : OexC G.K C_InvalidText := ⟨⟨nm_InvalidText, q_InvalidText, N_InvalidText, bs_InvalidText, bm_InvalidText, sn_InvalidText, sub_InvalidText, ab_InvalidText, col_InvalidText, dd_InvalidText, k0_InvalidText, k1_InvalidText, k2_InvalidText, k3_InvalidText, k5_InvalidText, x_InvalidText, v_InvalidText⟩, sa_InvalidText, b_InvalidText, t_InvalidText, k_InvalidText⟩
  have E_InvalidText : ErP G 2 "InvalidText" 2 er_InvalidText := er2_mk OX_InvalidText (PySem.W.mg_of X0 G0 a_InvalidText) nf_InvalidText_row nf_InvalidText_word (by decide +kernel) i_InvalidText.1 (beq_iff_eq.mp i_InvalidText.2.1) (in_InvalidText LE Di_InvalidText) Bi_InvalidText rfl (by decide +kernel) er_ok_InvalidText
  have T_InvalidDrawing : XcN G.ct "InvalidDrawing" xt_InvalidDrawing := ⟨.ref C_InvalidDrawing, PySem.W.mg_of X0 G0 a_InvalidDrawing, fun n b hn => by
    match n with
    | 0 => cases hn; exact PySem.W.exm_ref b_InvalidDrawing hd_InvalidDrawing t_InvalidDrawing s_LineError_InvalidDrawing
    | 1 => cases hn; exact PySem.W.exm_ref b_InvalidDrawing hd_InvalidDrawing t_InvalidDrawing s_InvalidDrawing_InvalidDrawing
    | 2 => cases hn; exact PySem.W.exm_ref b_InvalidDrawing hd_InvalidDrawing t_InvalidDrawing s_InvalidText_InvalidDrawing
    | n + 3 =>
      have z : ¬ n + 3 < 3 := by omega
      simp only [xt_InvalidDrawing, decide_eq_false z] at hn
      cases hn⟩
  have T_InvalidText : XcN G.ct "InvalidText" xt_InvalidText := ⟨.ref C_InvalidText, PySem.W.mg_of X0 G0 a_InvalidText, fun n b hn => by
    match n with
    | 0 => cases hn; exact PySem.W.exm_ref b_InvalidText hd_InvalidText t_InvalidText s_LineError_InvalidText
    | 1 => cases hn; exact PySem.W.exm_ref b_InvalidText hd_InvalidText t_InvalidText s_InvalidDrawing_InvalidText
    | 2 => cases hn; exact PySem.W.exm_ref b_InvalidText hd_InvalidText t_InvalidText s_InvalidText_InvalidText
    | n + 3 =>
      have z : ¬ n + 3 < 3 := by omega
      simp only [xt_InvalidText, decide_eq_false z] at hn
      cases hn⟩
  have XF_index : XfF G.ct cs_index "index" := ⟨fun c hc => by
    unfold cs_index at hc
    simp only [List.mem_cons, List.not_mem_nil, or_false] at hc
    rcases hc with rfl
    · exact ⟨C_InvalidDrawing, rfl, ⟨eg_InvalidDrawing, ek_InvalidDrawing, b_InvalidDrawing, hd_InvalidDrawing⟩, nf_InvalidDrawing_index⟩⟩
  have XF_row : XfF G.ct cs_row "row" := ⟨fun c hc => by
    unfold cs_row at hc
    simp only [List.mem_cons, List.not_mem_nil, or_false] at hc
    rcases hc with rfl
    · exact ⟨C_InvalidText, rfl, ⟨eg_InvalidText, ek_InvalidText, b_InvalidText, hd_InvalidText⟩, nf_InvalidText_row⟩⟩
  have XF_word : XfF G.ct cs_word "word" := ⟨fun c hc => by
    unfold cs_word at hc
    simp only [List.mem_cons, List.not_mem_nil, or_false] at hc
    rcases hc with rfl
    · exact ⟨C_InvalidText, rfl, ⟨eg_InvalidText, ek_InvalidText, b_InvalidText, hd_InvalidText⟩, nf_InvalidText_word⟩⟩
  have F_across := f_across X D_across B_across q_across 
  have F_way := f_way X D_way B_way q_way 
  have F_divisor := f_divisor X D_divisor B_divisor q_divisor 
  have F_fraction := f_fraction X D_fraction B_fraction q_fraction F_divisor
  have F_point_at := f_point_at X D_point_at B_point_at q_point_at F_way F_fraction
  have F_along := f_along X D_along B_along q_along F_way
  have F_common_point := f_common_point X D_common_point B_common_point q_common_point F_way F_across F_along F_point_at
  have F_is_number := f_is_number X D_is_number B_is_number q_is_number 
  have F_is_piece := f_is_piece X D_is_piece B_is_piece q_is_piece F_is_number
  have F_overlap := f_overlap X D_overlap B_overlap q_overlap F_way F_across F_along
  have F_Drawing___init__ := f_Drawing X HD F_is_piece F_overlap F_common_point E_InvalidDrawing ⟨d5, m_Drawing___init__.1, m_Drawing___init__.2.1, d6⟩ D_Drawing___init__ B_Drawing___init__ (PySem.W.mg_of X0 G0 aD)
  have F_Row_next_word := f_Row_next_word X PC_Row  E_InvalidText D_Row_next_word B_Row_next_word ⟨m_Row_next_word.1, m_Row_next_word.2.1, D_Row_next_word.kp⟩
  have F_is_small := f_is_small X D_is_small B_is_small q_is_small 
  have F_Row_read_piece := f_Row_read_piece X LD_0 PC_Row F_Row_next_word F_is_small E_InvalidText D_Row_read_piece B_Row_read_piece ⟨m_Row_read_piece.1, m_Row_read_piece.2.1, D_Row_read_piece.kp⟩ hcd_Row_read_piece
  have F_Row___init__ := f_Row___init__ X PC_Row  D_Row___init__ B_Row___init__ ⟨pg_Row, m_Row___init__.1, m_Row___init__.2.1, ph_Row⟩ (PySem.W.mg_of X0 G0 pa_Row)
  have F_parse_drawing := f_parse_drawing X D_parse_drawing B_parse_drawing q_parse_drawing HD PC_Row F_Row___init__ F_Row_read_piece F_Drawing___init__
  have F__law_place := f__law_place X D__law_place B__law_place q__law_place F_parse_drawing T_InvalidDrawing T_InvalidText XF_index XF_row XF_word
  have F__law_taken := f__law_taken X D__law_taken B__law_taken q__law_taken 
  refine (fnok_cx (fok_mkI (G := G) (fun_mk (st := s_law) la lc lk) sc_law (b_law X F__law_place F__law_taken))).imp fun vs H Q E hs => ?_
  obtain ⟨a, ns, rfl, hS, hP, hq⟩ := hs
  obtain ⟨h1, h2⟩ := start_tabs (G := G) (Ps := [(PL_0, "Row.read_piece" ++ ".<locals>." ++ "<lambda>")]) (fun i p hp => by
    match i with
    | 0 => cases hp; exact LD_0.lm
    | n + 1 => simp at hp) tnd (fun p hp => hP p.1 (List.mem_map.mpr ⟨p, hp, rfl⟩)) hS
  obtain ⟨h', ht⟩ := t_law (ns := ns)
  refine ⟨[], [PL_0], tabs 1, [.d (.scr ns)], h1, h2, rfl, ?_⟩
  have ht' : runI (13) d_law [.d (.scr ns)] (tabs 1) = .ok (.d (.bl true)) h' := ht
  show QOk G.ct [] [PL_0] H Q E (runI (13) d_law [.d (.scr ns)] (tabs 1))
  rw [ht']
  exact fun v m' H' _ _ dv => by rw [Di.bl_inv dv]; exact hq H'
end Vi

open PySem PySem.W PyProof.Rows in
set_option maxRecDepth 100000 in
set_option maxHeartbeats 0 in
theorem PySem.Challenge.cw_ledlines_k43_texts_rejected_holds : PySem.Challenge.rw_ledlines_k43_texts_rejected.Holds := by
  w_on; o_law; k_head; (case hw => w_witness2)
  k_fill
  refine Vi.walk_ofOwns [] (l := PySem.Challenge.rw_ledlines_k43_texts_rejected) (n := 63) (k := 10) (x := "_law_script") (CX := fun w => L2.CX PySem.Challenge.rw_ledlines_k43_texts_rejected.prog w) rfl (by decide) rfl ⟨rfl, by decide, by decide⟩ (by kernel_rfl) (fun w h Y => PySem.W.km_in_of Y) ?F (fun _ _ _ _ _ h => Vi.cx_nil h)
  case F =>
    intro w mg fa h Y KX G hmg own
    refine' Vi.all_mk KX G hmg ⟨?g_across_a, Vi.lf_mk ?g_across_l ?g_across_c ?g_across_k⟩ ⟨?g_way_a, Vi.lf_mk ?g_way_l ?g_way_c ?g_way_k⟩ ⟨?g_divisor_a, Vi.lf_mk ?g_divisor_l ?g_divisor_c ?g_divisor_k⟩ ⟨?g_fraction_a, Vi.lf_mk ?g_fraction_l ?g_fraction_c ?g_fraction_k⟩ ⟨?g_point_at_a, Vi.lf_mk ?g_point_at_l ?g_point_at_c ?g_point_at_k⟩ ⟨?g_along_a, Vi.lf_mk ?g_along_l ?g_along_c ?g_along_k⟩ ⟨?g_common_point_a, Vi.lf_mk ?g_common_point_l ?g_common_point_c ?g_common_point_k⟩ ⟨?g_is_number_a, Vi.lf_mk ?g_is_number_l ?g_is_number_c ?g_is_number_k⟩ ⟨?g_is_piece_a, Vi.lf_mk ?g_is_piece_l ?g_is_piece_c ?g_is_piece_k⟩ ⟨?g_overlap_a, Vi.lf_mk ?g_overlap_l ?g_overlap_c ?g_overlap_k⟩ ⟨?g_is_small_a, Vi.lf_mk ?g_is_small_l ?g_is_small_c ?g_is_small_k⟩ ⟨?g_parse_drawing_a, Vi.lf_mk ?g_parse_drawing_l ?g_parse_drawing_c ?g_parse_drawing_k⟩ ⟨?g__law_place_a, Vi.lf_mk ?g__law_place_l ?g__law_place_c ?g__law_place_k⟩ ⟨?g__law_taken_a, Vi.lf_mk ?g__law_taken_l ?g__law_taken_c ?g__law_taken_k⟩ ⟨?g_law_a, Vi.lf_mk ?g_law_l ?g_law_c ?g_law_k⟩ ?a_LineError ?a_InvalidDrawing ?a_InvalidText ?l1 ?l2 ?l3 ?b_LineError ?t_LineError ?k_LineError ?hd_LineError ?x_LineError ?b_InvalidDrawing ?t_InvalidDrawing ?k_InvalidDrawing ?hd_InvalidDrawing ?x_InvalidDrawing ?v_InvalidDrawing ?sa_InvalidDrawing ⟨?i_InvalidDrawing_a, ?i_InvalidDrawing_i, Vi.lf_mk ?i_InvalidDrawing_l ?i_InvalidDrawing_c ?i_InvalidDrawing_k⟩ ?nf_InvalidDrawing_index ?b_InvalidText ?t_InvalidText ?k_InvalidText ?hd_InvalidText ?x_InvalidText ?v_InvalidText ?sa_InvalidText ⟨?i_InvalidText_a, ?i_InvalidText_i, Vi.lf_mk ?i_InvalidText_l ?i_InvalidText_c ?i_InvalidText_k⟩ ?nf_InvalidText_row ?nf_InvalidText_word ?s_LineError_InvalidDrawing ?s_InvalidDrawing_InvalidDrawing ?s_InvalidText_InvalidDrawing ?s_LineError_InvalidText ?s_InvalidDrawing_InvalidText ?s_InvalidText_InvalidText ?aD ?d1 ?d2 ?d3 ?d4 ?s_lines1 ?s_lines2 ?s_lines3 ?s_lines4 ?s_lines5 ?s_lines6 ?s_points1 ?s_points2 ?s_points3 ?s_points4 ?s_points5 ?s_points6 ?dne ?d5 ?d6 ?pa_Row ?pb_Row ?pc_Row ?pd_Row ?pe_Row ?pg_Row ?ph_Row ?pf_Row_number ?pf_Row_words ?pf_Row_spot ⟨?m_Drawing___init___a, ?m_Drawing___init___i, Vi.lf_mk ?m_Drawing___init___l ?m_Drawing___init___c ?m_Drawing___init___k⟩ ⟨?m_Row_next_word_a, ?m_Row_next_word_i, Vi.lf_mk ?m_Row_next_word_l ?m_Row_next_word_c ?m_Row_next_word_k⟩ ⟨?m_Row_read_piece_a, ?m_Row_read_piece_i, Vi.lf_mk ?m_Row_read_piece_l ?m_Row_read_piece_c ?m_Row_read_piece_k⟩ ⟨?m_Row___init___a, ?m_Row___init___i, Vi.lf_mk ?m_Row___init___l ?m_Row___init___c ?m_Row___init___k⟩ ?eg_LineError ?ek_LineError ?eg_InvalidDrawing ?ek_InvalidDrawing ?eg_InvalidText ?ek_InvalidText ?tc_0 ?tt_0 ?tp_0 ?th_0 ?tz_0 ?tn_0 ?tnd ?z_abs ?z_len ?z_int ?z_str ?z_all ?z_any ?z_sum ?z_tuple ?z_list ?z_max ?z_min ?z_range ?z_isinstance ?z_bool ?z_sorted ?z_set ?z_zip ?z_enumerate ?z_dict ?z_reversed ?c___name__ ?c_FAR ?c_MAX_PIECES ?c_PARTS ?c_DIGITS ?c_MOST_DIGITS ?c_PIECE own
    (case g_across_a => k_is)
    (case g_across_l => k_is)
    (case g_across_c => k_is)
    (case g_across_k => k_is)
    (case g_way_a => k_is)
    (case g_way_l => k_is)
    (case g_way_c => k_is)
    (case g_way_k => k_is)
    (case g_divisor_a => k_is)
    (case g_divisor_l => k_is)
    (case g_divisor_c => k_is)
    (case g_divisor_k => k_is)
    (case g_fraction_a => k_is)
    (case g_fraction_l => k_is)
    (case g_fraction_c => k_is)
    (case g_fraction_k => k_is)
    (case g_point_at_a => k_is)
    (case g_point_at_l => k_is)
    (case g_point_at_c => k_is)
    (case g_point_at_k => k_is)
    (case g_along_a => k_is)
    (case g_along_l => k_is)
    (case g_along_c => k_is)
    (case g_along_k => k_is)
    (case g_common_point_a => k_is)
    (case g_common_point_l => k_is)
    (case g_common_point_c => k_is)
    (case g_common_point_k => k_is)
    (case g_is_number_a => k_is)
    (case g_is_number_l => k_is)
    (case g_is_number_c => k_is)
    (case g_is_number_k => k_is)
    (case g_is_piece_a => k_is)
    (case g_is_piece_l => k_is)
    (case g_is_piece_c => k_is)
    (case g_is_piece_k => k_is)
    (case g_overlap_a => k_is)
    (case g_overlap_l => k_is)
    (case g_overlap_c => k_is)
    (case g_overlap_k => k_is)
    (case g_is_small_a => k_is)
    (case g_is_small_l => k_is)
    (case g_is_small_c => k_is)
    (case g_is_small_k => k_is)
    (case g_parse_drawing_a => k_is)
    (case g_parse_drawing_l => k_is)
    (case g_parse_drawing_c => k_is)
    (case g_parse_drawing_k => k_is)
    (case g__law_place_a => k_is)
    (case g__law_place_l => k_is)
    (case g__law_place_c => k_is)
    (case g__law_place_k => k_is)
    (case g__law_taken_a => k_is)
    (case g__law_taken_l => k_is)
    (case g__law_taken_c => k_is)
    (case g__law_taken_k => k_is)
    (case g_law_a => k_is)
    (case g_law_l => k_is)
    (case g_law_c => k_is)
    (case g_law_k => k_is)
    (case a_LineError => k_is)
    (case a_InvalidDrawing => k_is)
    (case a_InvalidText => k_is)
    (case l1 => k_is)
    (case l2 => k_is)
    (case l3 => k_is)
    (case b_LineError => k_is)
    (case t_LineError => k_is)
    (case k_LineError => k_is)
    (case hd_LineError => k_is)
    (case x_LineError => k_exc)
    (case b_InvalidDrawing => k_is)
    (case t_InvalidDrawing => k_is)
    (case k_InvalidDrawing => k_is)
    (case hd_InvalidDrawing => k_is)
    (case x_InvalidDrawing => k_is)
    (case v_InvalidDrawing => rfl)
    (case sa_InvalidDrawing => k_is)
    (case i_InvalidDrawing_a => k_is)
    (case i_InvalidDrawing_i => k_is)
    (case i_InvalidDrawing_l => k_is)
    (case i_InvalidDrawing_c => k_is)
    (case i_InvalidDrawing_k => k_is)
    (case nf_InvalidDrawing_index => k_is)
    (case b_InvalidText => k_is)
    (case t_InvalidText => k_is)
    (case k_InvalidText => k_is)
    (case hd_InvalidText => k_is)
    (case x_InvalidText => k_is)
    (case v_InvalidText => rfl)
    (case sa_InvalidText => k_is)
    (case i_InvalidText_a => k_is)
    (case i_InvalidText_i => k_is)
    (case i_InvalidText_l => k_is)
    (case i_InvalidText_c => k_is)
    (case i_InvalidText_k => k_is)
    (case nf_InvalidText_row => k_is)
    (case nf_InvalidText_word => k_is)
    (case s_LineError_InvalidDrawing => first | rfl | k_is)
    (case s_InvalidDrawing_InvalidDrawing => first | rfl | k_is)
    (case s_InvalidText_InvalidDrawing => first | rfl | k_is)
    (case s_LineError_InvalidText => first | rfl | k_is)
    (case s_InvalidDrawing_InvalidText => first | rfl | k_is)
    (case s_InvalidText_InvalidText => first | rfl | k_is)
    (case aD => k_is)
    (case d1 => k_is)
    (case d2 => k_is)
    (case d3 => k_is)
    (case d4 => k_is)
    (case s_lines1 => k_is)
    (case s_lines2 => k_is)
    (case s_lines3 => k_is)
    (case s_lines4 => k_is)
    (case s_lines5 => k_is)
    (case s_lines6 => decide)
    (case s_points1 => k_is)
    (case s_points2 => k_is)
    (case s_points3 => k_is)
    (case s_points4 => k_is)
    (case s_points5 => k_is)
    (case s_points6 => decide)
    (case dne => decide)
    (case d5 => k_is)
    (case d6 => k_is)
    (case pa_Row => k_is)
    (case pb_Row => k_is)
    (case pc_Row => k_is)
    (case pd_Row => k_is)
    (case pe_Row => k_is)
    (case pg_Row => k_is)
    (case ph_Row => k_is)
    (case pf_Row_number => k_is)
    (case pf_Row_words => k_is)
    (case pf_Row_spot => k_is)
    (case m_Drawing___init___a => k_is)
    (case m_Drawing___init___i => k_is)
    (case m_Drawing___init___l => k_is)
    (case m_Drawing___init___c => k_is)
    (case m_Drawing___init___k => k_is)
    (case m_Row_next_word_a => k_is)
    (case m_Row_next_word_i => k_is)
    (case m_Row_next_word_l => k_is)
    (case m_Row_next_word_c => k_is)
    (case m_Row_next_word_k => k_is)
    (case m_Row_read_piece_a => k_is)
    (case m_Row_read_piece_i => k_is)
    (case m_Row_read_piece_l => k_is)
    (case m_Row_read_piece_c => k_is)
    (case m_Row_read_piece_k => k_is)
    (case m_Row___init___a => k_is)
    (case m_Row___init___i => k_is)
    (case m_Row___init___l => k_is)
    (case m_Row___init___c => k_is)
    (case m_Row___init___k => k_is)
    (case eg_LineError => k_is)
    (case ek_LineError => k_is)
    (case eg_InvalidDrawing => k_is)
    (case ek_InvalidDrawing => k_is)
    (case eg_InvalidText => k_is)
    (case ek_InvalidText => k_is)
    (case tc_0 => k_is)
    (case tt_0 => k_is)
    (case tp_0 => rfl)
    (case th_0 => first | kernel_rfl | rfl | k_is)
    (case tz_0 => exact PySem.W.km_tabs_of Y _ (by k_mem))
    (case tn_0 => first | kernel_rfl | rfl | k_is)
    (case tnd => decide)
    (case z_abs => k_is)
    (case z_len => k_is)
    (case z_int => k_is)
    (case z_str => k_is)
    (case z_all => k_is)
    (case z_any => k_is)
    (case z_sum => k_is)
    (case z_tuple => k_is)
    (case z_list => k_is)
    (case z_max => k_is)
    (case z_min => k_is)
    (case z_range => k_is)
    (case z_isinstance => k_is)
    (case z_bool => k_is)
    (case z_sorted => k_is)
    (case z_set => k_is)
    (case z_zip => k_is)
    (case z_enumerate => k_is)
    (case z_dict => k_is)
    (case z_reversed => k_is)
    (case c___name__ => k_is)
    (case c_FAR => k_is)
    (case c_MAX_PIECES => k_is)
    (case c_PARTS => k_is)
    (case c_DIGITS => k_is)
    (case c_MOST_DIGITS => k_is)
    (case c_PIECE => k_is)
