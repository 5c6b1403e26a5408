import PyProof.Rows.All
import Wide.All
import OpenK.AllK
import Wide.FinOn
import HandS.ForMost
import HandS.ForExc
import HandS.Evl
import HandS.IsInst
import HandS.Zip
import HandS.Star
import HandS.ExcInit
import HandS.ExcOwn
import HandS.FStr
import HandS.TryOnly
import KE.GoesEnum
import HandS.Slots
import HandS.SlotsOwn
import HandS.OwnEq
import OpenK.KOps
import PyProof.AutoSeq1
import HandS.ExcIs
import PySem.Challenge.RW_ledlines_k44_codes_there_and_back
set_option Elab.async false
set_option linter.all false
set_option maxRecDepth 100000
/-! A calculus over the hand layer: readings that are the runs themselves (WE, WS ..), data (Dt), what an expression is worth (DE). -/
namespace Led
open PySem L2 Evl

/-! ### the run itself as a reading -/
def WE (X : Cx) (e : Expr) : TE := fun σ H Q => ∀ (pins : List (Addr × Obj)) (s : Shared), Inv X pins σ H s → wpAny (model X.prog X.w) X.A (eval e X.env) (EP X pins σ Q) X.xe s
def WT (X : Cx) (e : Expr) : TT := fun σ H Q => ∀ (pins : List (Addr × Obj)) (s : Shared), Inv X pins σ H s → wpAny (model X.prog X.w) X.A (isTrue e X.env (eval e X.env)) (TP X pins σ Q) X.xe s
def WW (X : Cx) (e : Expr) : TT := fun σ H Q => ∀ (whole : Sem Value) (pins : List (Addr × Obj)) (s : Shared), Inv X pins σ H s → wpAny (model X.prog X.w) X.A (isTrue e X.env whole) (TP X pins σ Q) X.xe s
def WA (X : Cx) (es : List Expr) : TA := fun σ H Q => ∀ (pos : Pos) (pins : List (Addr × Obj)) (s : Shared), Inv X pins σ H s → wpAny (model X.prog X.w) X.A (spliced (backTo pos (starEach es X.env))) (AP X pins σ Q) X.xe s
def WS (X : Cx) (st : Stmt) : TS := fun D σ H => ∀ (pins : List (Addr × Obj)) (s : Shared), Inv X pins σ H s → wpAny (model X.prog X.w) X.A (exec st X.env) (SP X pins D) X.xe s
def WB (X : Cx) (st : List Stmt) : TS := fun D σ H => ∀ (pins : List (Addr × Obj)) (s : Shared), Inv X pins σ H s → wpAny (model X.prog X.w) X.A (execs st X.env) (SP X pins D) X.xe s
section
variable {X : Cx} {σ : St} {H : Hp}
theorem pe_w {e : Expr} : PE X e (WE X e) := ⟨fun pins s _ _ _ I h => h pins s I⟩
theorem pt_w {e : Expr} : PT X e (WT X e) := ⟨fun pins s _ _ _ I h => h pins s I⟩
theorem pw_w {e : Expr} : PW X e (WW X e) := ⟨fun wh pins s _ _ _ I h => h wh pins s I⟩
theorem pa_w {es : List Expr} : PA X es (WA X es) := ⟨fun pos pins s _ _ _ I h => h pos pins s I⟩
theorem ps_w {st : Stmt} : PS X st (WS X st) := ⟨fun pins s _ _ _ I h => h pins s I⟩
theorem pb_w {st : List Stmt} : PSs X st (WB X st) := ⟨fun pins s _ _ _ I h => h pins s I⟩
theorem PEw {e : Expr} {t : TE} (h : PE X e t) {Q : VK} (q : t σ H Q) : WE X e σ H Q := fun pins s I => h.run pins s σ H Q I q
theorem PTw {e : Expr} {t : TT} (h : PT X e t) {Q : Bool → Hp → Prop} (q : t σ H Q) : WT X e σ H Q := fun pins s I => h.run pins s σ H Q I q
theorem PWw {e : Expr} {t : TT} (h : PW X e t) {Q : Bool → Hp → Prop} (q : t σ H Q) : WW X e σ H Q := fun wh pins s I => h.run wh pins s σ H Q I q
theorem PAw {es : List Expr} {t : TA} (h : PA X es t) {Q : List V → Hp → Prop} (q : t σ H Q) : WA X es σ H Q := fun pos pins s I => h.run pos pins s σ H Q I q
theorem PSw {st : Stmt} {t : TS} (h : PS X st t) {D : Ends} (q : t D σ H) : WS X st D σ H := fun pins s I => h.run pins s σ H D I q
theorem PBw {st : List Stmt} {t : TS} (h : PSs X st t) {D : Ends} (q : t D σ H) : WB X st D σ H := fun pins s I => h.run pins s σ H D I q
end

/-! ### data that never changes -/
inductive Dt where
  | non | bl (b : Bool) | int (i : Int) | str (x : Str) | tup (l : List Dt) | ref (a : Addr)
mutual
inductive Di (K : PySem.W.Frag) (H : Hp) : V → Dt → Prop
  | non : Di K H .non .non
  | bl (b : Bool) : Di K H (.bl b) (.bl b)
  | int (i : Int) : Di K H (.int i) (.int i)
  | str (x : Str) : Di K H (.str x) (.str x)
  | ref (a : Addr) : Di K H (.ref a) (.ref a)
  | tup {a : Addr} {xs : List V} {ds : List Dt} : H a = some (.tup xs) → Dis K H xs ds → Di K H (.ref a) (.tup ds)
inductive Dis (K : PySem.W.Frag) (H : Hp) : List V → List Dt → Prop
  | nil : Dis K H [] []
  | cons {v : V} {vs : List V} {d : Dt} {ds : List Dt} : Di K H v d → Dis K H vs ds → Dis K H (v :: vs) (d :: ds)
end
def Tx (K : PySem.W.Frag) (H H' : Hp) : Prop := ∀ a xs, H a = some (.tup xs) → H' a = some (.tup xs)
theorem Tx.refl {K : PySem.W.Frag} (H : Hp) : Tx K H H := fun _ _ h => h
theorem Tx.trans {K : PySem.W.Frag} {H H1 H2 : Hp} (a : Tx K H H1) (b : Tx K H1 H2) : Tx K H H2 := fun x o h => b x o (a x o h)
theorem ex_tx {K : PySem.W.Frag} {H H' : Hp} (e : Ex H H') : Tx K H H' := fun _ _ h => e _ _ h
/-- no tuple stands there -/
def NoT : Option HO → Prop
  | some (.tup _) => False
  | _ => True
theorem tx_upd {K : PySem.W.Frag} {H : Hp} {p : Addr} {o : HO} (h : NoT (H p)) : Tx K H (upd H p o) := fun a xs q => by
  by_cases e : a = p
  · subst e; rw [q] at h; exact h.elim
  · rw [upd_ne e]; exact q
mutual
theorem Di.mono {K : PySem.W.Frag} {H H' : Hp} (e : Tx K H H') : ∀ {v : V} {d : Dt}, Di K H v d → Di K H' v d
  | _, _, .non => .non
  | _, _, .bl b => .bl b
  | _, _, .int i => .int i
  | _, _, .str x => .str x
  | _, _, .ref a => .ref a
  | _, _, .tup h hs => .tup (e _ _ h) (Dis.mono e hs)
theorem Dis.mono {K : PySem.W.Frag} {H H' : Hp} (e : Tx K H H') : ∀ {vs : List V} {ds : List Dt}, Dis K H vs ds → Dis K H' vs ds
  | _, _, .nil => .nil
  | _, _, .cons h hs => .cons (Di.mono e h) (Dis.mono e hs)
end
theorem Dis.length {K : PySem.W.Frag} {H : Hp} : ∀ {vs : List V} {ds : List Dt}, Dis K H vs ds → vs.length = ds.length
  | _, _, .nil => rfl
  | _, _, .cons _ hs => by rw [List.length_cons, List.length_cons, Dis.length hs]
theorem Dis.get {K : PySem.W.Frag} {H : Hp} : ∀ {vs : List V} {ds : List Dt} {i : Nat} {d : Dt}, Dis K H vs ds → ds[i]? = some d → ∃ v, vs[i]? = some v ∧ Di K H v d
  | _, _, _, _, .nil, e => by simp at e
  | _, _, 0, _, .cons h _, e => by simp at e; subst e; exact ⟨_, rfl, h⟩
  | _, _, i + 1, d, .cons _ t, e => by
    obtain ⟨u, h1, h2⟩ := Dis.get (i := i) (d := d) t (by simpa using e)
    exact ⟨u, by simpa using h1, h2⟩
theorem Dis.getv {K : PySem.W.Frag} {H : Hp} : ∀ {vs : List V} {ds : List Dt} {i : Nat} {v : V}, Dis K H vs ds → vs[i]? = some v → ∃ d, ds[i]? = some d ∧ Di K H v d
  | _, _, _, _, .nil, e => by simp at e
  | _, _, 0, _, .cons h _, e => by simp at e; subst e; exact ⟨_, rfl, h⟩
  | _, _, i + 1, v, .cons _ t, e => by
    obtain ⟨u, h1, h2⟩ := Dis.getv (i := i) (v := v) t (by simpa using e)
    exact ⟨u, by simpa using h1, h2⟩
theorem Dis.append {K : PySem.W.Frag} {H : Hp} : ∀ {vs ws : List V} {ds es : List Dt}, Dis K H vs ds → Dis K H ws es → Dis K H (vs ++ ws) (ds ++ es)
  | _, _, _, _, .nil, s => s
  | _, _, _, _, .cons h t, s => .cons h (Dis.append t s)
theorem Dis.take {K : PySem.W.Frag} {H : Hp} : ∀ {vs : List V} {ds : List Dt} (n : Nat), Dis K H vs ds → Dis K H (vs.take n) (ds.take n)
  | _, _, 0, _ => .nil
  | _, _, _ + 1, .nil => .nil
  | _, _, n + 1, .cons r t => .cons r (Dis.take n t)
theorem Dis.drop {K : PySem.W.Frag} {H : Hp} : ∀ {vs : List V} {ds : List Dt} (n : Nat), Dis K H vs ds → Dis K H (vs.drop n) (ds.drop n)
  | _, _, 0, r => r
  | _, _, _ + 1, .nil => .nil
  | _, _, n + 1, .cons _ t => Dis.drop n t
theorem Di.int_inv {K : PySem.W.Frag} {H : Hp} {v : V} {i : Int} (h : Di K H v (.int i)) : v = .int i := by cases h; rfl
theorem Di.bl_inv {K : PySem.W.Frag} {H : Hp} {v : V} {b : Bool} (h : Di K H v (.bl b)) : v = .bl b := by cases h; rfl
theorem Di.non_inv {K : PySem.W.Frag} {H : Hp} {v : V} (h : Di K H v .non) : v = .non := by cases h; rfl
theorem Di.str_inv {K : PySem.W.Frag} {H : Hp} {v : V} {x : Str} (h : Di K H v (.str x)) : v = .str x := by cases h; rfl
theorem Di.ref_inv {K : PySem.W.Frag} {H : Hp} {v : V} {a : Addr} (h : Di K H v (.ref a)) : v = .ref a := by cases h; rfl
theorem Di.tup_inv {K : PySem.W.Frag} {H : Hp} {v : V} {ds : List Dt} (h : Di K H v (.tup ds)) : ∃ a xs, v = .ref a ∧ SqT K H a xs ∧ Dis K H xs ds := by
  cases h with
  | tup h hs => exact ⟨_, _, rfl, st_of h, hs⟩
theorem Di.tup_raw {K : PySem.W.Frag} {H : Hp} {v : V} {ds : List Dt} (h : Di K H v (.tup ds)) : ∃ a xs, v = .ref a ∧ H a = some (.tup xs) ∧ Dis K H xs ds := by
  cases h with
  | tup h hs => exact ⟨_, _, rfl, h, hs⟩
theorem dis_ints {K : PySem.W.Frag} {H : Hp} : ∀ {vs : List V} {ns : List Int}, Dis K H vs (ns.map Dt.int) → vs = ns.map V.int
  | _, [], h => by cases h; rfl
  | _, n :: ns, h => by
    cases h with
    | cons h hs => rw [h.int_inv, dis_ints hs]; rfl
theorem dis_bls {K : PySem.W.Frag} {H : Hp} : ∀ {vs : List V} {ns : List Bool}, Dis K H vs (ns.map Dt.bl) → vs = ns.map V.bl
  | _, [], h => by cases h; rfl
  | _, n :: ns, h => by
    cases h with
    | cons h hs => rw [h.bl_inv, dis_bls hs]; rfl
theorem ints_dis {K : PySem.W.Frag} {H : Hp} : ∀ (ns : List Int), Dis K H (ns.map V.int) (ns.map Dt.int)
  | [] => .nil
  | n :: ns => .cons (.int n) (ints_dis ns)

/-! ### the slots -/
abbrev Rh := List (Option Dt)
structure EnvD (K : PySem.W.Frag) (H : Hp) (σ : St) (ρ : Rh) : Prop where
  len : σ.length = ρ.length
  get : ∀ (i : Nat) (d : Dt), ρ[i]? = some (some d) → ∃ v, σ[i]? = some (some v) ∧ Di K H v d
theorem EnvD.mono {K : PySem.W.Frag} {H H' : Hp} {σ : St} {ρ : Rh} (t : Tx K H H') (e : EnvD K H σ ρ) : EnvD K H' σ ρ := ⟨e.len, fun i d h =>
  let ⟨v, h1, h2⟩ := e.get i d h
  ⟨v, h1, h2.mono t⟩⟩
theorem EnvD.set {K : PySem.W.Frag} {H : Hp} {σ : St} {ρ : Rh} {i : Nat} {v : V} {d : Dt} (e : EnvD K H σ ρ) (h : Di K H v d) : EnvD K H (σ.set i (some v)) (ρ.set i (some d)) := ⟨by rw [List.length_set, List.length_set]; exact e.len, fun j x q => by
  by_cases hj : i = j
  · subst hj
    have hl : i < ρ.length := by
      by_cases z : i < ρ.length
      · exact z
      · rw [List.getElem?_set, if_pos rfl, if_neg z] at q; cases q
    refine ⟨v, by rw [List.getElem?_set_self (by rw [e.len]; exact hl)], ?_⟩
    rw [List.getElem?_set_self hl] at q
    cases q
    exact h
  · rw [List.getElem?_set_ne hj] at q
    rw [List.getElem?_set_ne hj]
    exact e.get j x q⟩
/-- a slot forgotten -/
theorem EnvD.drop {K : PySem.W.Frag} {H : Hp} {σ : St} {ρ : Rh} {i : Nat} {v : Option V} (e : EnvD K H σ ρ) : EnvD K H (σ.set i v) (ρ.set i none) := ⟨by rw [List.length_set, List.length_set]; exact e.len, fun j x q => by
  by_cases hj : i = j
  · subst hj
    rw [List.getElem?_set] at q
    rw [if_pos rfl] at q
    split at q <;> cases q
  · rw [List.getElem?_set_ne hj] at q
    rw [List.getElem?_set_ne hj]
    exact e.get j x q⟩
theorem env_start {K : PySem.W.Frag} {H : Hp} {N : List Str} {vs : List V} {ds : List Dt} (h : Dis K H vs ds) : EnvD K H (L2.start N vs) (ds.map some ++ List.replicate (N.length - ds.length) none) := by
  have hl := h.length
  refine ⟨by unfold L2.start; simp [hl], fun i d q => ?_⟩
  unfold L2.start
  by_cases hi : i < ds.length
  · rw [List.getElem?_append_left (by simpa using hi), List.getElem?_map] at q
    cases e : ds[i]? with
    | none => rw [e] at q; cases q
    | some x =>
      rw [e] at q
      cases q
      obtain ⟨v, h1, h2⟩ := h.get e
      exact ⟨v, by rw [List.getElem?_append_left (by simpa [hl] using hi), List.getElem?_map, h1]; rfl, h2⟩
  · rw [List.getElem?_append_right (by simpa using hi), List.getElem?_replicate] at q
    split at q <;> cases q
/-- the value of a name -/
inductive At : List Str → Rh → Str → Nat → Dt → Prop
  | here {x : Str} {N : List Str} {d : Dt} {ρ : Rh} : At (x :: N) (some d :: ρ) x 0 d
  | there {x y : Str} {N : List Str} {d : Dt} {r : Option Dt} {ρ : Rh} {i : Nat} : At N ρ x i d → At (y :: N) (r :: ρ) x (i + 1) d
theorem At.get : ∀ {N : List Str} {ρ : Rh} {x : Str} {i : Nat} {d : Dt}, At N ρ x i d → N[i]? = some x ∧ ρ[i]? = some (some d)
  | _, _, _, _, _, .here => ⟨rfl, rfl⟩
  | _, _, _, _, _, .there h => by
    obtain ⟨h1, h2⟩ := At.get h
    exact ⟨by simpa using h1, by simpa using h2⟩

def lkB : List Str → Rh → Str → Option Dt
  | n :: N, r :: ρ, x => if n = x then r else lkB N ρ x
  | _, _, _ => none
theorem at_lk : ∀ {N : List Str} {ρ : Rh} {x : Str} {d : Dt}, lkB N ρ x = some d → ∃ i, At N ρ x i d
  | n :: N, r :: ρ, x, d, h => by
    unfold lkB at h
    by_cases e : n = x
    · rw [if_pos e] at h; subst e; subst h; exact ⟨0, .here⟩
    · rw [if_neg e] at h
      obtain ⟨i, hi⟩ := at_lk h
      exact ⟨i + 1, .there hi⟩
  | [], _, _, _, h => by cases h
  | _ :: _, [], _, _, h => by cases h
/-! ### what an expression is worth -/
def DE (X : Cx) (N : List Str) (ρ : Rh) (H : Hp) (e : Expr) (d : Dt) : Prop := X.N = N → ∀ (σ : St) (H1 : Hp), Ex H H1 → EnvD X.K H1 σ ρ → ∀ Q : VK, (∀ v H2, Ex H1 H2 → Di X.K H2 v d → Q v H2) → WE X e σ H1 Q
/-- a new list of such data -/
def DL (X : Cx) (N : List Str) (ρ : Rh) (H : Hp) (e : Expr) (ds : List Dt) : Prop := X.N = N → ∀ (σ : St) (H1 : Hp), Ex H H1 → EnvD X.K H1 σ ρ → ∀ Q : VK, (∀ p vs H2, H1 p = none → Ex H1 H2 → H2 p = some (.lst vs) → Dis X.K H2 vs ds → Q (.ref p) H2) → WE X e σ H1 Q
def DT (X : Cx) (N : List Str) (ρ : Rh) (H : Hp) (e : Expr) (b : Bool) : Prop := X.N = N → ∀ (σ : St) (H1 : Hp), Ex H H1 → EnvD X.K H1 σ ρ → ∀ Q : Bool → Hp → Prop, (∀ H2, Ex H1 H2 → Q b H2) → WT X e σ H1 Q
/-- a chain of and, or, whatever its whole is -/
def DW (X : Cx) (N : List Str) (ρ : Rh) (H : Hp) (e : Expr) (b : Bool) : Prop := X.N = N → ∀ (σ : St) (H1 : Hp), Ex H H1 → EnvD X.K H1 σ ρ → ∀ Q : Bool → Hp → Prop, (∀ H2, Ex H1 H2 → Q b H2) → WW X e σ H1 Q
def DA (X : Cx) (N : List Str) (ρ : Rh) (H : Hp) (es : List Expr) (ds : List Dt) : Prop := X.N = N → ∀ (σ : St) (H1 : Hp), Ex H H1 → EnvD X.K H1 σ ρ → ∀ Q : List V → Hp → Prop, (∀ vs H2, Ex H1 H2 → Dis X.K H2 vs ds → Q vs H2) → WA X es σ H1 Q
section
variable {X : Cx} {N : List Str} {ρ : Rh} {H H' : Hp} {a b c e : Expr} {d : Dt} {pos : Pos}
theorem DE.mono (x : Ex H H') (h : DE X N ρ H e d) : DE X N ρ H' e d := fun hN σ H1 e1 env Q q => h hN σ H1 (x.trans e1) env Q q
theorem DT.mono {k : Bool} (x : Ex H H') (h : DT X N ρ H e k) : DT X N ρ H' e k := fun hN σ H1 e1 env Q q => h hN σ H1 (x.trans e1) env Q q
theorem DL.mono {ds : List Dt} (x : Ex H H') (h : DL X N ρ H e ds) : DL X N ρ H' e ds := fun hN σ H1 e1 env Q q => h hN σ H1 (x.trans e1) env Q q
theorem de_is {d' : Dt} (h : DE X N ρ H e d) (q : d = d') : DE X N ρ H e d' := q ▸ h
theorem dt_is {k k' : Bool} (h : DT X N ρ H e k) (q : k = k') : DT X N ρ H e k' := q ▸ h
theorem dl_is {ds ds' : List Dt} (h : DL X N ρ H e ds) (q : ds = ds') : DL X N ρ H e ds' := q ▸ h
/-- a rule of the layer that gives a known value -/
theorem de_pe {t : TE} (h : PE X e t) (q : X.N = N → ∀ σ H1, Ex H H1 → EnvD X.K H1 σ ρ → ∀ Q : VK, (∀ v H2, Ex H1 H2 → Di X.K H2 v d → Q v H2) → t σ H1 Q) : DE X N ρ H e d := fun hN σ H1 e1 env Q k => PEw h (q hN σ H1 e1 env Q k)
theorem de_int {i : Int} {j : Nat} : DE X N ρ H (.Constant (.int i) j pos) (.int i) := de_pe pe_int fun _ _ H1 _ _ _ k => k _ H1 (Ex.refl H1) (.int i)
theorem de_bl {i : Bool} {j : Nat} : DE X N ρ H (.Constant (.bool i) j pos) (.bl i) := de_pe pe_bl fun _ _ H1 _ _ _ k => k _ H1 (Ex.refl H1) (.bl i)
theorem de_non {j : Nat} : DE X N ρ H (.Constant .none j pos) .non := de_pe pe_non fun _ _ H1 _ _ _ k => k _ H1 (Ex.refl H1) .non
theorem de_str {i : Str} {j : Nat} : DE X N ρ H (.Constant (.str i) j pos) (.str i) := de_pe pe_str fun _ _ H1 _ _ _ k => k _ H1 (Ex.refl H1) (.str i)
theorem de_var {x : Str} {i : Nat} (h : At N ρ x i d) (hv : Vis X.env.scope x) (hd : (x == ("__debug__" : Str)) = false) (hcd : (x == ("__classdict__" : Str)) = false) : DE X N ρ H (.Name x pos) d := fun hN σ H1 _ env Q k => by
  obtain ⟨h1, h2⟩ := h.get
  obtain ⟨v, e1, e2⟩ := env.get i d h2
  exact PEw (pe_var (by rw [hN]; exact h1) hv hd hcd) ⟨v, e1, k v H1 (Ex.refl H1) e2⟩
/-- a name of the module that holds a plain value -/
theorem de_glob {x : Str} {v : V} {u : Value} (hg : Gl X x) (hm : X.mg x = some u) (r : RelV v u) (hd : (x == ("__debug__" : Str)) = false) (h : ∀ K H, Di K H v d) : DE X N ρ H (.Name x pos) d :=
  de_pe (pe_glob hg hm r hd) fun _ _ H1 _ _ _ k => k v H1 (Ex.refl H1) (h _ _)
/-- two parts, then an operation on their values -/
theorem de_op2 {t : R2 → TE → TE → TE} {r : R2} {d1 d2 : Dt} (hp : PE X e (tOp r (WE X a) (WE X b))) (ha : DE X N ρ H a d1) (hb : DE X N ρ H b d2)
    (hr : ∀ v1 v2 H1, Ex H H1 → Di X.K H1 v1 d1 → Di X.K H1 v2 d2 → ∀ Q : VK, (∀ v H2, Ex H1 H2 → Di X.K H2 v d → Q v H2) → r v1 v2 H1 Q) : DE X N ρ H e d := fun hN σ H1 e1 env Q k =>
  PEw hp (ha hN σ H1 e1 env _ fun v1 H2 e2 q1 => hb hN σ H2 (e1.trans e2) (env.mono (ex_tx e2)) _ fun v2 H3 e3 q2 =>
    hr v1 v2 H3 ((e1.trans e2).trans e3) (q1.mono (ex_tx e3)) q2 Q fun v H4 e4 q => k v H4 ((e2.trans e3).trans e4) q)
theorem rI0_val {g : Int → Int → V} {i j : Int} {H1 : Hp} {Q : VK} (k : Q (g i j) H1) : rI0 g (.int i) (.int j) H1 Q := ⟨i, j, rfl, rfl, k⟩
theorem de_II0 {r : Int → Int → V} {i j : Int} (hp : PE X e (tOp (rI0 r) (WE X a) (WE X b))) (ha : DE X N ρ H a (.int i)) (hb : DE X N ρ H b (.int j)) (hd : ∀ K H, Di K H (r i j) d) : DE X N ρ H e d :=
  de_op2 (t := fun _ _ _ => WE X e) hp ha hb fun v1 v2 H1 _ q1 q2 Q k => by
    rw [q1.int_inv, q2.int_inv]
    exact ⟨i, j, rfl, rfl, k _ H1 (Ex.refl H1) (hd _ _)⟩
theorem de_II {r : Int → Int → V} {C : Int → Int → Prop} {i j : Int} (hp : PE X e (tOp (rI C r) (WE X a) (WE X b))) (ha : DE X N ρ H a (.int i)) (hb : DE X N ρ H b (.int j)) (hc : C i j) (hd : ∀ K H, Di K H (r i j) d) : DE X N ρ H e d :=
  de_op2 (t := fun _ _ _ => WE X e) hp ha hb fun v1 v2 H1 _ q1 q2 Q k => by
    rw [q1.int_inv, q2.int_inv]
    exact ⟨i, j, rfl, rfl, hc, k _ H1 (Ex.refl H1) (hd _ _)⟩
theorem de_add {i j : Int} (ha : DE X N ρ H a (.int i)) (hb : DE X N ρ H b (.int j)) : DE X N ρ H (.BinOp a .Add b pos) (.int (i + j)) := de_II0 (pe_op op_add pe_w pe_w) ha hb fun _ _ => .int _
theorem de_sub {i j : Int} (ha : DE X N ρ H a (.int i)) (hb : DE X N ρ H b (.int j)) : DE X N ρ H (.BinOp a .Sub b pos) (.int (i - j)) := de_II0 (pe_op op_sub pe_w pe_w) ha hb fun _ _ => .int _
theorem de_mul {i j : Int} (ha : DE X N ρ H a (.int i)) (hb : DE X N ρ H b (.int j)) (hc : CMul i j) : DE X N ρ H (.BinOp a .Mult b pos) (.int (i * j)) := de_II (pe_op op_mul pe_w pe_w) ha hb hc fun _ _ => .int _
theorem de_div {i j : Int} (ha : DE X N ρ H a (.int i)) (hb : DE X N ρ H b (.int j)) (hc : CDiv i j) : DE X N ρ H (.BinOp a .FloorDiv b pos) (.int (i / j)) := de_II (pe_op op_fdiv pe_w pe_w) ha hb hc fun _ _ => .int _
theorem de_mod {i j : Int} (ha : DE X N ρ H a (.int i)) (hb : DE X N ρ H b (.int j)) (hc : 0 < j) : DE X N ρ H (.BinOp a .Mod b pos) (.int (i % j)) := de_II (C := fun _ j => 0 < j) (pe_op op_mod pe_w pe_w) ha hb hc fun _ _ => .int _
theorem de_modN {i j : Int} (ha : DE X N ρ H a (.int i)) (hb : DE X N ρ H b (.int j)) (hc : j ≠ 0) : DE X N ρ H (.BinOp a .Mod b pos) (.int (i.fmod j)) := de_II (C := fun _ j => j ≠ 0) (pe_op op_modN pe_w pe_w) ha hb hc fun _ _ => .int _
theorem de_lt {i j : Int} (ha : DE X N ρ H a (.int i)) (hb : DE X N ρ H b (.int j)) : DE X N ρ H (.Compare a [.Lt] [b] pos) (.bl (decide (i < j))) := de_II0 (pe_cmpR op_lt pe_w pe_w (nomark _)) ha hb fun _ _ => .bl _
theorem de_le {i j : Int} (ha : DE X N ρ H a (.int i)) (hb : DE X N ρ H b (.int j)) : DE X N ρ H (.Compare a [.LtE] [b] pos) (.bl (decide (i ≤ j))) := de_II0 (pe_cmpR op_le pe_w pe_w (nomark _)) ha hb fun _ _ => .bl _
theorem de_gt {i j : Int} (ha : DE X N ρ H a (.int i)) (hb : DE X N ρ H b (.int j)) : DE X N ρ H (.Compare a [.Gt] [b] pos) (.bl (decide (j < i))) := de_II0 (pe_cmpR op_gt pe_w pe_w (nomark _)) ha hb fun _ _ => .bl _
theorem de_ge {i j : Int} (ha : DE X N ρ H a (.int i)) (hb : DE X N ρ H b (.int j)) : DE X N ρ H (.Compare a [.GtE] [b] pos) (.bl (decide (j ≤ i))) := de_II0 (pe_cmpR op_ge pe_w pe_w (nomark _)) ha hb fun _ _ => .bl _
theorem decInt {i j : Int} : decide (V.int i = V.int j) = decide (i = j) := by
  rw [Bool.eq_iff_iff]; simp
theorem de_eqI {i j : Int} (ha : DE X N ρ H a (.int i)) (hb : DE X N ρ H b (.int j)) : DE X N ρ H (.Compare a [.Eq] [b] pos) (.bl (decide (i = j))) :=
  de_op2 (t := fun _ _ _ => WE X a) (pe_cmpR op_eq pe_w pe_w (nomark _)) ha hb fun v1 v2 H1 _ q1 q2 Q k => by
    rw [q1.int_inv, q2.int_inv]
    refine ⟨rfl, ?_⟩
    rw [decInt]
    exact k _ H1 (Ex.refl H1) (.bl _)
theorem de_neI {i j : Int} (ha : DE X N ρ H a (.int i)) (hb : DE X N ρ H b (.int j)) : DE X N ρ H (.Compare a [.NotEq] [b] pos) (.bl (!decide (i = j))) :=
  de_op2 (t := fun _ _ _ => WE X a) (pe_cmpR op_ne pe_w pe_w (nomark _)) ha hb fun v1 v2 H1 _ q1 q2 Q k => by
    rw [q1.int_inv, q2.int_inv]
    refine ⟨rfl, ?_⟩
    rw [decInt]
    exact k _ H1 (Ex.refl H1) (.bl _)
/-- a <= b <= c of ints -/
theorem de_lele {i j k : Int} (ha : DE X N ρ H a (.int i)) (hb : DE X N ρ H b (.int j)) (hc : DE X N ρ H c (.int k)) (hm : lastMarks [.LtE, .LtE] [b, c] = false) : DE X N ρ H (.Compare a [.LtE, .LtE] [b, c] pos) (.bl (decide (i ≤ j) && decide (j ≤ k))) := fun hN σ H1 e1 env Q q =>
  PEw (pe_chain op_le op_le (pe_w (e := a)) (pe_w (e := b)) (pe_w (e := c)) hm) (ha hN σ H1 e1 env _ fun v1 H2 e2 q1 => hb hN σ H2 (e1.trans e2) (env.mono (ex_tx e2)) _ fun v2 H3 e3 q2 => by
    rw [q1.int_inv, q2.int_inv]
    refine ⟨i, j, rfl, rfl, _, rfl, ?_⟩
    by_cases z : i ≤ j
    · rw [decide_eq_true z]
      refine iteT (hc hN σ H3 ((e1.trans e2).trans e3) (env.mono (ex_tx (e2.trans e3))) _ fun v3 H4 e4 q3 => ?_)
      rw [q3.int_inv]
      exact ⟨j, k, rfl, rfl, q _ H4 ((e2.trans e3).trans e4) (by rw [decide_eq_true z]; exact .bl _)⟩
    · rw [decide_eq_false z]
      refine iteF (q _ H3 (e2.trans e3) ?_)
      rw [decide_eq_false z]
      exact .bl _)
/-! tests -/
theorem dt_val {k : Bool} (h : DE X N ρ H e (.bl k)) (he : ∀ whole, isTrue e X.env whole = (do let v ← whole; standAt e.pos; holding [v] (truthy v))) : DT X N ρ H e k := fun hN σ H1 e1 env Q q =>
  PTw (pt_val pe_w he) (h hN σ H1 e1 env _ fun v H2 e2 q1 => by
    rw [q1.bl_inv]
    exact ⟨k, rfl, q H2 e2⟩)
theorem dt_cmp {op : CmpOp} {r : R2} {k : Bool} (ho : OpR X (compareOp op) r) (hm : behindInMarks op b = false) (h : ∀ σ H1 (Q : VK), X.N = N → Ex H H1 → EnvD X.K H1 σ ρ → (∀ H2, Ex H1 H2 → Q (.bl k) H2) → tOp r (WE X a) (WE X b) σ H1 Q) : DT X N ρ H (.Compare a [op] [b] pos) k := fun hN σ H1 e1 env Q q =>
  PTw (pt_cmpR ho pe_w pe_w hm) (h σ H1 _ hN e1 env fun H2 e2 => ⟨k, rfl, q H2 e2⟩)
theorem tII0 {r : Int → Int → V} {i j : Int} (ha : DE X N ρ H a (.int i)) (hb : DE X N ρ H b (.int j)) (σ : St) (H1 : Hp) (Q : VK) (hN : X.N = N) (e1 : Ex H H1) (env : EnvD X.K H1 σ ρ) (k : ∀ H2, Ex H1 H2 → Q (r i j) H2) : tOp (rI0 r) (WE X a) (WE X b) σ H1 Q :=
  ha hN σ H1 e1 env _ fun v1 H2 e2 q1 => hb hN σ H2 (e1.trans e2) (env.mono (ex_tx e2)) _ fun v2 H3 e3 q2 => by
    rw [q1.int_inv, q2.int_inv]
    exact ⟨i, j, rfl, rfl, k H3 (e2.trans e3)⟩
theorem dt_lt {i j : Int} (ha : DE X N ρ H a (.int i)) (hb : DE X N ρ H b (.int j)) : DT X N ρ H (.Compare a [.Lt] [b] pos) (decide (i < j)) := dt_cmp op_lt (nomark _) fun σ H1 Q hN e1 env k => tII0 ha hb σ H1 Q hN e1 env k
theorem dt_le {i j : Int} (ha : DE X N ρ H a (.int i)) (hb : DE X N ρ H b (.int j)) : DT X N ρ H (.Compare a [.LtE] [b] pos) (decide (i ≤ j)) := dt_cmp op_le (nomark _) fun σ H1 Q hN e1 env k => tII0 ha hb σ H1 Q hN e1 env k
theorem dt_gt {i j : Int} (ha : DE X N ρ H a (.int i)) (hb : DE X N ρ H b (.int j)) : DT X N ρ H (.Compare a [.Gt] [b] pos) (decide (j < i)) := dt_cmp op_gt (nomark _) fun σ H1 Q hN e1 env k => tII0 ha hb σ H1 Q hN e1 env k
theorem dt_ge {i j : Int} (ha : DE X N ρ H a (.int i)) (hb : DE X N ρ H b (.int j)) : DT X N ρ H (.Compare a [.GtE] [b] pos) (decide (j ≤ i)) := dt_cmp op_ge (nomark _) fun σ H1 Q hN e1 env k => tII0 ha hb σ H1 Q hN e1 env k
theorem dt_eqI {i j : Int} (ha : DE X N ρ H a (.int i)) (hb : DE X N ρ H b (.int j)) : DT X N ρ H (.Compare a [.Eq] [b] pos) (decide (i = j)) := dt_cmp op_eq (nomark _) fun σ H1 Q hN e1 env k =>
  ha hN σ H1 e1 env _ fun v1 H2 e2 q1 => hb hN σ H2 (e1.trans e2) (env.mono (ex_tx e2)) _ fun v2 H3 e3 q2 => by
    rw [q1.int_inv, q2.int_inv]
    refine ⟨rfl, ?_⟩
    rw [decInt]
    exact k H3 (e2.trans e3)
theorem dt_neI {i j : Int} (ha : DE X N ρ H a (.int i)) (hb : DE X N ρ H b (.int j)) : DT X N ρ H (.Compare a [.NotEq] [b] pos) (!decide (i = j)) := dt_cmp op_ne (nomark _) fun σ H1 Q hN e1 env k =>
  ha hN σ H1 e1 env _ fun v1 H2 e2 q1 => hb hN σ H2 (e1.trans e2) (env.mono (ex_tx e2)) _ fun v2 H3 e3 q2 => by
    rw [q1.int_inv, q2.int_inv]
    refine ⟨rfl, ?_⟩
    rw [decInt]
    exact k H3 (e2.trans e3)
theorem dt_lele {i j k : Int} (ha : DE X N ρ H a (.int i)) (hb : DE X N ρ H b (.int j)) (hc : DE X N ρ H c (.int k)) (hm : lastMarks [.LtE, .LtE] [b, c] = false) : DT X N ρ H (.Compare a [.LtE, .LtE] [b, c] pos) (decide (i ≤ j) && decide (j ≤ k)) := fun hN σ H1 e1 env Q q =>
  PTw (pt_chain op_le op_le (pe_w (e := a)) (pe_w (e := b)) (pe_w (e := c)) hm) (ha hN σ H1 e1 env _ fun v1 H2 e2 q1 => hb hN σ H2 (e1.trans e2) (env.mono (ex_tx e2)) _ fun v2 H3 e3 q2 => by
    rw [q1.int_inv, q2.int_inv]
    refine ⟨i, j, rfl, rfl, _, rfl, ?_⟩
    by_cases z : i ≤ j
    · rw [decide_eq_true z]
      refine iteT (hc hN σ H3 ((e1.trans e2).trans e3) (env.mono (ex_tx (e2.trans e3))) _ fun v3 H4 e4 q3 => ?_)
      rw [q3.int_inv]
      refine ⟨j, k, rfl, rfl, _, rfl, ?_⟩
      have := q H4 ((e2.trans e3).trans e4)
      rw [decide_eq_true z] at this
      exact this
    · rw [decide_eq_false z]
      refine iteF ⟨_, rfl, ?_⟩
      have := q H3 (e2.trans e3)
      rw [decide_eq_false z] at this
      exact this)
/-- is None, is not None -/
theorem Di.isN {K : PySem.W.Frag} {H : Hp} {v : V} (h : Di K H v d) : decide (v = .non) = (match d with | .non => true | _ => false) := by
  cases h <;> first | rfl | exact decide_eq_false (fun z => nomatch z)
def Dt.isN : Dt → Bool
  | .non => true
  | _ => false
theorem Di.isN' {K : PySem.W.Frag} {H : Hp} {v : V} (h : Di K H v d) : decide (v = .non) = d.isN := by
  cases h <;> first | rfl | exact decide_eq_false (fun z => nomatch z)
theorem dt_isN {j : Nat} {p' : Pos} (ha : DE X N ρ H a d) : DT X N ρ H (.Compare a [.Is] [.Constant .none j p'] pos) d.isN := fun hN σ H1 e1 env Q q =>
  PTw (pt_cmpR op_isN pe_w pe_non (nomark _)) (ha hN σ H1 e1 env _ fun v H2 e2 q1 => by
    refine ⟨rfl, _, rfl, ?_⟩
    rw [q1.isN']
    exact q H2 e2)
theorem dt_notN {j : Nat} {p' : Pos} (ha : DE X N ρ H a d) : DT X N ρ H (.Compare a [.IsNot] [.Constant .none j p'] pos) (!d.isN) := fun hN σ H1 e1 env Q q =>
  PTw (pt_cmpR op_notN pe_w pe_non (nomark _)) (ha hN σ H1 e1 env _ fun v H2 e2 q1 => by
    refine ⟨rfl, _, rfl, ?_⟩
    rw [q1.isN']
    exact q H2 e2)
theorem de_isN {j : Nat} {p' : Pos} (ha : DE X N ρ H a d) : DE X N ρ H (.Compare a [.Is] [.Constant .none j p'] pos) (.bl d.isN) := fun hN σ H1 e1 env Q q =>
  PEw (pe_cmp (pc_isN pe_w) rfl) (ha hN σ H1 e1 env _ fun v H2 e2 q1 => by
    have := q _ H2 e2 (.bl d.isN)
    rw [← q1.isN'] at this
    exact this)
theorem de_notN {j : Nat} {p' : Pos} (ha : DE X N ρ H a d) : DE X N ρ H (.Compare a [.IsNot] [.Constant .none j p'] pos) (.bl (!d.isN)) := fun hN σ H1 e1 env Q q =>
  PEw (pe_cmp (pc_notN pe_w) rfl) (ha hN σ H1 e1 env _ fun v H2 e2 q1 => by
    have := q _ H2 e2 (.bl (!d.isN))
    rw [← q1.isN'] at this
    exact this)
theorem dt_not {k : Bool} (h : DT X N ρ H a k) : DT X N ρ H (.UnaryOp .Not a pos) (!k) := fun hN σ H1 e1 env Q q =>
  PTw (pt_not pt_w) (h hN σ H1 e1 env _ fun H2 e2 => q H2 e2)
theorem dt_w {k : Bool} (h : DW X N ρ H e k) : DT X N ρ H e k := fun hN σ H1 e1 env Q q =>
  PTw (PW.pt pw_w) (h hN σ H1 e1 env Q q)
theorem dw_and1 {k : Bool} (h : DT X N ρ H a k) : DW X N ρ H (.BoolOp .And [a] pos) k := fun hN σ H1 e1 env Q q => PWw (pw_and1 pt_w) (h hN σ H1 e1 env Q q)
theorem dw_or1 {k : Bool} (h : DT X N ρ H a k) : DW X N ρ H (.BoolOp .Or [a] pos) k := fun hN σ H1 e1 env Q q => PWw (pw_or1 pt_w) (h hN σ H1 e1 env Q q)
theorem dw_and {k l : Bool} {rest : List Expr} (h : DT X N ρ H a k) (h2 : k = true → DW X N ρ H (.BoolOp .And (b :: rest) pos) l) : DW X N ρ H (.BoolOp .And (a :: b :: rest) pos) (k && l) := fun hN σ H1 e1 env Q q =>
  PWw (pw_and pt_w pw_w) (h hN σ H1 e1 env _ fun H2 e2 => by
    cases k with
    | true => exact iteT (h2 rfl hN σ H2 (e1.trans e2) (env.mono (ex_tx e2)) Q fun H3 e3 => q H3 (e2.trans e3))
    | false => exact iteF (q H2 e2))
theorem dw_or {k l : Bool} {rest : List Expr} (h : DT X N ρ H a k) (h2 : k = false → DW X N ρ H (.BoolOp .Or (b :: rest) pos) l) : DW X N ρ H (.BoolOp .Or (a :: b :: rest) pos) (k || l) := fun hN σ H1 e1 env Q q =>
  PWw (pw_or pt_w pw_w) (h hN σ H1 e1 env _ fun H2 e2 => by
    cases k with
    | true => exact iteT (q H2 e2)
    | false => exact iteF (h2 rfl hN σ H2 (e1.trans e2) (env.mono (ex_tx e2)) Q fun H3 e3 => q H3 (e2.trans e3)))
/-! .. as values -/
theorem de_one {op : BoolOp} (h : DE X N ρ H a d) : DE X N ρ H (.BoolOp op [a] pos) d := fun hN σ H1 e1 env Q q => PEw (pe_one pe_w) (h hN σ H1 e1 env Q q)
theorem de_and {k : Bool} {d' : Dt} {rest : List Expr} (h : DE X N ρ H a (.bl k)) (h2 : k = true → DE X N ρ H (.BoolOp .And (b :: rest) pos) d') (hd : d = if k = true then d' else .bl false) : DE X N ρ H (.BoolOp .And (a :: b :: rest) pos) d := fun hN σ H1 e1 env Q q =>
  PEw (pe_and pe_w pe_w) (h hN σ H1 e1 env _ fun v H2 e2 q1 => by
    rw [q1.bl_inv]
    refine ⟨k, rfl, ?_⟩
    cases k with
    | true => exact iteT (h2 rfl hN σ H2 (e1.trans e2) (env.mono (ex_tx e2)) Q fun v H3 e3 q3 => q v H3 (e2.trans e3) (by rw [hd, if_pos rfl]; exact q3))
    | false => exact iteF (q _ H2 e2 (by rw [hd, if_neg Bool.false_ne_true]; exact .bl _)))
theorem de_or {k : Bool} {d' : Dt} {rest : List Expr} (h : DE X N ρ H a (.bl k)) (h2 : k = false → DE X N ρ H (.BoolOp .Or (b :: rest) pos) d') (hd : d = if k = true then .bl true else d') : DE X N ρ H (.BoolOp .Or (a :: b :: rest) pos) d := fun hN σ H1 e1 env Q q =>
  PEw (pe_or pe_w pe_w) (h hN σ H1 e1 env _ fun v H2 e2 q1 => by
    rw [q1.bl_inv]
    refine ⟨k, rfl, ?_⟩
    cases k with
    | true => exact iteT (q _ H2 e2 (by rw [hd, if_pos rfl]; exact .bl _))
    | false => exact iteF (h2 rfl hN σ H2 (e1.trans e2) (env.mono (ex_tx e2)) Q fun v H3 e3 q3 => q v H3 (e2.trans e3) (by rw [hd, if_neg Bool.false_ne_true]; exact q3)))
theorem de_not {k : Bool} (h : DE X N ρ H a (.bl k)) : DE X N ρ H (.UnaryOp .Not a pos) (.bl (!k)) := fun hN σ H1 e1 env Q q =>
  PEw (pe_not pe_w) (h hN σ H1 e1 env _ fun v H2 e2 q1 => by
    rw [q1.bl_inv]
    exact ⟨k, rfl, q _ H2 e2 (.bl _)⟩)
theorem de_if {k : Bool} {d1 d2 : Dt} (h : DT X N ρ H c k) (h1 : k = true → DE X N ρ H a d1) (h2 : k = false → DE X N ρ H b d2) : DE X N ρ H (.IfExp c a b pos) (if k = true then d1 else d2) := fun hN σ H1 e1 env Q q =>
  PEw (pe_ifExp pt_w pe_w pe_w) (h hN σ H1 e1 env _ fun H2 e2 => by
    cases k with
    | true => exact iteT (h1 rfl hN σ H2 (e1.trans e2) (env.mono (ex_tx e2)) Q fun v H3 e3 q3 => q v H3 (e2.trans e3) (by rw [if_pos rfl]; exact q3))
    | false => exact iteF (h2 rfl hN σ H2 (e1.trans e2) (env.mono (ex_tx e2)) Q fun v H3 e3 q3 => q v H3 (e2.trans e3) (by rw [if_neg Bool.false_ne_true]; exact q3)))
/-! arguments, tuples, lists -/
theorem da_nil : DA X N ρ H [] [] := fun _ σ H1 _ _ Q q => PAw pa_nil (q [] H1 (Ex.refl H1) .nil)
theorem da_cons {es : List Expr} {ds : List Dt} (h : DE X N ρ H e d) (hr : DA X N ρ H es ds) (hs : starEach (e :: es) X.env = (false, eval e X.env) :: starEach es X.env) : DA X N ρ H (e :: es) (d :: ds) := fun hN σ H1 e1 env Q q =>
  PAw (pa_cons pe_w pa_w hs) (h hN σ H1 e1 env _ fun v H2 e2 q1 => hr hN σ H2 (e1.trans e2) (env.mono (ex_tx e2)) _ fun vs H3 e3 q2 => q _ H3 (e2.trans e3) (.cons (q1.mono (ex_tx e3)) q2))
theorem de_tup {es : List Expr} {ds : List Dt} {x1 : Nat} (h : DA X N ρ H es ds) (hl : ds.length ≤ 100000) : DE X N ρ H (.Tuple es x1 pos) (.tup ds) := fun hN σ H1 e1 env Q q =>
  PEw (pe_tup pa_w) (h hN σ H1 e1 env _ fun vs H2 e2 q1 => ⟨sz_of (by rw [q1.length]; exact hl), fun p hp => q _ _ (e2.trans (Ex.new hp)) (.tup upd_same (q1.mono (ex_tx (Ex.new hp))))⟩)
theorem dl_lst {es : List Expr} {ds : List Dt} (h : DA X N ρ H es ds) (hl : ds.length ≤ 100000) : DL X N ρ H (.List es pos) ds := fun hN σ H1 e1 env Q q =>
  PEw (pe_lst pa_w) (h hN σ H1 e1 env _ fun vs H2 e2 q1 => ⟨sz_of (by rw [q1.length]; exact hl), fun p hp => q p vs _ (fresh_back e2 hp) (e2.trans (Ex.new hp)) upd_same (q1.mono (ex_tx (Ex.new hp)))⟩)
theorem atI_dis {K : PySem.W.Frag} {H : Hp} {vs : List V} {ds : List Dt} {i : Int} (h : Dis K H vs ds) (ha : atI ds i = some d) : ∃ v, atI vs i = some v ∧ Di K H v d := by
  unfold atI at ha ⊢
  rw [h.length]
  cases q : ixN ds.length i with
  | none => rw [q] at ha; cases ha
  | some j =>
    rw [q] at ha
    exact h.get ha
theorem de_ixT {ds : List Dt} {i : Int} (ha : DE X N ρ H a (.tup ds)) (hb : DE X N ρ H b (.int i)) (hs : PlainIx b) (hi : atI ds i = some d) : DE X N ρ H (.Subscript a b pos) d :=
  de_op2 (t := fun _ _ _ => WE X a) (pe_ix ix_tup pe_w pe_w hs) ha hb fun v1 v2 H1 _ q1 q2 Q k => by
    obtain ⟨p, xs, rfl, h1, h2⟩ := q1.tup_inv
    rw [q2.int_inv]
    obtain ⟨v, hv, dv⟩ := atI_dis h2 hi
    exact ⟨p, xs, i, v, rfl, rfl, h1, hv, k v H1 (Ex.refl H1) dv⟩
/-- an item of a tracked list -/
theorem de_ixL {p : Addr} {vs : List V} {ds : List Dt} {i : Int} (ha : DE X N ρ H a (.ref p)) (hb : DE X N ρ H b (.int i)) (hs : PlainIx b) (hp : SqL X.K H p vs) (hd : Dis X.K H vs ds) (hi : atI ds i = some d) : DE X N ρ H (.Subscript a b pos) d :=
  de_op2 (t := fun _ _ _ => WE X a) (pe_ix ix_list pe_w pe_w hs) ha hb fun v1 v2 H1 e1 q1 q2 Q k => by
    rw [q2.int_inv, q1.ref_inv]
    obtain ⟨v, hv, dv⟩ := atI_dis (hd.mono (ex_tx e1)) hi
    exact ⟨p, vs, i, v, rfl, rfl, ex_l e1 hp, hv, k v H1 (Ex.refl H1) dv⟩
/-- an item of a list that is made on the spot -/
theorem de_ixN {ds : List Dt} {i : Int} (ha : DL X N ρ H a ds) (hb : DE X N ρ H b (.int i)) (hs : PlainIx b) (hi : atI ds i = some d) : DE X N ρ H (.Subscript a b pos) d := fun hN σ H1 e1 env Q q =>
  PEw (pe_ix ix_list pe_w pe_w hs) (ha hN σ H1 e1 env _ fun p vs H2 hp e2 h2 q1 => hb hN σ H2 (e1.trans e2) (env.mono (ex_tx e2)) _ fun v2 H3 e3 q2 => by
    rw [q2.int_inv]
    obtain ⟨v, hv, dv⟩ := atI_dis (q1.mono (ex_tx e3)) hi
    exact ⟨p, vs, i, v, rfl, rfl, sq_of (e3 _ _ h2), hv, q v H3 (e2.trans e3) dv⟩)
end
end Led

set_option maxRecDepth 100000
namespace Led
open PySem L2 Evl
section
variable {X : Cx} {N : List Str} {ρ : Rh} {H H' : Hp} {a b c e : Expr} {d : Dt} {pos : Pos}
/-! ### slices of tuples -/
def cutD (xs : List Dt) (lo hi : Option Int) : List Dt := (xs.drop (HT.sIx xs.length 0 lo)).take (HT.sIx xs.length xs.length hi - HT.sIx xs.length 0 lo)
theorem dis_cut {K : PySem.W.Frag} {vs : List V} {ds : List Dt} (h : Dis K H vs ds) (lo hi : Option Int) : Dis K H (cutV vs lo hi) (cutD ds lo hi) := by
  unfold cutV cutD
  rw [h.length]
  exact (h.drop _).take _
/-- an optional part of a slice -/
def DO (X : Cx) (N : List Str) (ρ : Rh) (H : Hp) (e : Option Expr) (o : Option Int) : Prop := X.N = N → ∃ t, PO X e t ∧ ∀ σ H1, Ex H H1 → EnvD X.K H1 σ ρ → ∀ Q : Option Int → Hp → Prop, (∀ H2, Ex H1 H2 → Q o H2) → t σ H1 Q
theorem do_none : DO X N ρ H none none := fun _ => ⟨_, po_none, fun _ H1 _ _ _ q => q H1 (Ex.refl H1)⟩
theorem do_some {i : Int} (h : DE X N ρ H e (.int i)) : DO X N ρ H (some e) (some i) := fun hN => ⟨_, po_some pe_w, fun σ H1 e1 env Q q => h hN σ H1 e1 env _ fun v H2 e2 q1 => by
  rw [q1.int_inv]
  exact ⟨i, rfl, q H2 e2⟩⟩
theorem de_sl {lo hi : Option Expr} {l h : Option Int} {ds : List Dt} {p2 : Pos} (ha : DE X N ρ H a (.tup ds)) (h1 : DO X N ρ H lo l) (h2 : DO X N ρ H hi h) (hw : ¬ (HT.sIx ds.length 0 l = 0 ∧ HT.sIx ds.length ds.length h = ds.length)) : DE X N ρ H (.Subscript a (.Slice lo hi none p2) pos) (.tup (cutD ds l h)) := fun hN σ H1 e1 env Q q => by
  obtain ⟨tl, pl, kl⟩ := h1 hN
  obtain ⟨th, ph, kh⟩ := h2 hN
  refine PEw (pe_slice sl_tup pe_w pl ph) (ha hN σ H1 e1 env _ fun v H2 e2 q1 => kl σ H2 (e1.trans e2) (env.mono (ex_tx e2)) _ fun H3 e3 => kh σ H3 ((e1.trans e2).trans e3) (env.mono (ex_tx (e2.trans e3))) _ fun H4 e4 => ?_)
  obtain ⟨p, xs, rfl, h5, h6⟩ := (q1.mono (ex_tx (e3.trans e4))).tup_inv
  refine ⟨p, xs, rfl, h5, by rw [h6.length]; exact hw, fun r hr => q _ _ (((e2.trans e3).trans e4).trans (Ex.new hr)) (.tup upd_same ((dis_cut h6 l h).mono (ex_tx (Ex.new hr))))⟩
/-! ### t + u -/
theorem de_cat {ds es : List Dt} (ha : DE X N ρ H a (.tup ds)) (hb : DE X N ρ H b (.tup es)) (hd : ds ≠ []) (hl : ds.length + es.length ≤ 100000) : DE X N ρ H (.BinOp a .Add b pos) (.tup (ds ++ es)) :=
  de_op2 (t := fun _ _ _ => WE X a) (pe_op op_catT pe_w pe_w) ha hb fun v1 v2 H1 _ q1 q2 Q k => by
    obtain ⟨p, xs, rfl, h1, h2⟩ := q1.tup_raw
    obtain ⟨p', ys, rfl, h3, h4⟩ := q2.tup_raw
    refine ⟨p, p', xs, ys, rfl, rfl, st_of h1, st_of h3, fun z => ?_, by rw [h2.length, h4.length]; exact sz_of hl, fun z => ?_, fun z r hr => ?_⟩
    · subst z; cases h2; exact hd rfl
    · subst z; cases h4
      rw [List.append_nil] at k
      exact k _ H1 (Ex.refl H1) (.tup h1 h2)
    · exact k _ _ (Ex.new hr) (.tup upd_same ((h2.append h4).mono (ex_tx (Ex.new hr))))
/-! ### calls of built-ins -/
theorem de_cb {r : List V → Hp → VK → Prop} {t : TA} {ds : List Dt} {es : List Expr} (hp : PE X e (tCB r (WA X es))) (h : DA X N ρ H es ds) (hr : ∀ vs H1, Ex H H1 → Dis X.K H1 vs ds → ∀ Q : VK, (∀ v H2, Ex H1 H2 → Di X.K H2 v d → Q v H2) → r vs H1 Q) : DE X N ρ H e d := fun hN σ H1 e1 env Q q =>
  PEw hp (h hN σ H1 e1 env _ fun vs H2 e2 q1 => hr vs H2 (e1.trans e2) q1 Q fun v H3 e3 q3 => q v H3 (e2.trans e3) q3)
theorem boot_int' : bootBuiltins ("int" : Str) = some (.type "int") := by decide +kernel
theorem boot_tuple' : bootBuiltins ("tuple" : Str) = some (.type "tuple") := by decide +kernel
theorem boot_list' : bootBuiltins ("list" : Str) = some (.type "list") := by decide +kernel
theorem boot_bool' : bootBuiltins ("bool" : Str) = some (.type "bool") := by decide +kernel
theorem boot_str' : bootBuiltins ("str" : Str) = some (.type "str") := by decide +kernel
theorem boot_abs' : bootBuiltins ("abs" : Str) = some (.builtin "abs") := by decide +kernel
theorem boot_min' : bootBuiltins ("min" : Str) = some (.builtin "min") := by decide +kernel
theorem boot_max' : bootBuiltins ("max" : Str) = some (.builtin "max") := by decide +kernel
theorem boot_all' : bootBuiltins ("all" : Str) = some (.builtin "all") := by decide +kernel
theorem boot_any' : bootBuiltins ("any" : Str) = some (.builtin "any") := by decide +kernel
theorem boot_len' : bootBuiltins ("len" : Str) = some (.builtin "len") := by decide +kernel
theorem boot_isi' : bootBuiltins ("isinstance" : Str) = some (.builtin "isinstance") := by decide +kernel
theorem dis1 {K : PySem.W.Frag} {vs : List V} (h : Dis K H vs [d]) : ∃ v, vs = [v] ∧ Di K H v d := by
  cases h with
  | cons h1 h2 => cases h2; exact ⟨_, rfl, h1⟩
theorem dis2 {K : PySem.W.Frag} {vs : List V} {d2 : Dt} (h : Dis K H vs [d, d2]) : ∃ v w, vs = [v, w] ∧ Di K H v d ∧ Di K H w d2 := by
  cases h with
  | cons h1 h2 =>
    obtain ⟨w, rfl, h3⟩ := dis1 h2
    exact ⟨_, w, rfl, h1, h3⟩
abbrev Nm (x : String) (p : Pos) : Expr := .Name (Str.ofString x) p
theorem de_abs {i : Int} {p : Pos} (hg : Gl X "abs") (hm : X.mg "abs" = none) (ha : DE X N ρ H a (.int i)) (hs : starEach [a] X.env = (false, eval a X.env) :: starEach [] X.env) : DE X N ρ H (.Call (Nm "abs" p) [a] [] pos) (.int (if i < 0 then -i else i)) :=
  de_cb (t := tNil) (pe_callB call_abs hg hm boot_abs' pa_w (by decide +kernel) (by decide +kernel) hs) (da_cons ha da_nil hs) fun vs H1 _ q Q k => by
    obtain ⟨v, rfl, h⟩ := dis1 q
    rw [h.int_inv]
    exact ⟨i, rfl, k _ H1 (Ex.refl H1) (.int _)⟩
theorem de_int1 {i : Int} {p : Pos} (hg : Gl X "int") (hm : X.mg "int" = none) (ha : DE X N ρ H a (.int i)) (hs : starEach [a] X.env = (false, eval a X.env) :: starEach [] X.env) : DE X N ρ H (.Call (Nm "int" p) [a] [] pos) (.int i) :=
  de_cb (t := tNil) (pe_callTy call_int1 hg hm boot_int' pa_w (by decide +kernel) (by decide +kernel) hs) (da_cons ha da_nil hs) fun vs H1 _ q Q k => by
    obtain ⟨v, rfl, h⟩ := dis1 q
    rw [h.int_inv]
    exact .inl ⟨i, rfl, k _ H1 (Ex.refl H1) (.int _)⟩
theorem de_max2 {i j : Int} {p : Pos} (hc : X.calm = true) (hg : Gl X "max") (hm : X.mg "max" = none) (h : DA X N ρ H [a, b] [.int i, .int j]) (hs : starEach [a, b] X.env = (false, eval a X.env) :: starEach [b] X.env) (hpl : (backTo pos (starEach [b] X.env)).any (·.1) = false) : DE X N ρ H (.Call (Nm "max" p) [a, b] [] pos) (.int (if j > i then j else i)) :=
  de_cb (t := tNil) (pe_callB (call_max2 hc) hg hm boot_max' pa_w (by decide +kernel) (by decide +kernel) hs hpl) h fun vs H1 _ q Q k => by
    obtain ⟨v, w, rfl, h1, h2⟩ := dis2 q
    rw [h1.int_inv, h2.int_inv]
    exact ⟨i, j, rfl, k _ H1 (Ex.refl H1) (.int _)⟩
theorem de_min2 {i j : Int} {p : Pos} (hc : X.calm = true) (hg : Gl X "min") (hm : X.mg "min" = none) (h : DA X N ρ H [a, b] [.int i, .int j]) (hs : starEach [a, b] X.env = (false, eval a X.env) :: starEach [b] X.env) (hpl : (backTo pos (starEach [b] X.env)).any (·.1) = false) : DE X N ρ H (.Call (Nm "min" p) [a, b] [] pos) (.int (if j < i then j else i)) :=
  de_cb (t := tNil) (pe_callB (call_min2 hc) hg hm boot_min' pa_w (by decide +kernel) (by decide +kernel) hs hpl) h fun vs H1 _ q Q k => by
    obtain ⟨v, w, rfl, h1, h2⟩ := dis2 q
    rw [h1.int_inv, h2.int_inv]
    exact ⟨i, j, rfl, k _ H1 (Ex.refl H1) (.int _)⟩
theorem de_lenT {ds : List Dt} {p : Pos} (hg : Gl X "len") (hm : X.mg "len" = none) (ha : DE X N ρ H a (.tup ds)) (hs : starEach [a] X.env = (false, eval a X.env) :: starEach [] X.env) : DE X N ρ H (.Call (Nm "len" p) [a] [] pos) (.int (ds.length : Int)) :=
  de_cb (t := tNil) (pe_callB call_len_seq hg hm boot_len' pa_w (by decide +kernel) (by decide +kernel) hs) (da_cons ha da_nil hs) fun vs H1 _ q Q k => by
    obtain ⟨v, rfl, h⟩ := dis1 q
    obtain ⟨p, xs, rfl, h1, h2⟩ := h.tup_inv
    refine ⟨p, xs, rfl, .inr h1, ?_⟩
    rw [h2.length]
    exact k _ H1 (Ex.refl H1) (.int _)
theorem de_lenL {l : Addr} {xs : List V} {p : Pos} (hg : Gl X "len") (hm : X.mg "len" = none) (ha : DE X N ρ H a (.ref l)) (hl : SqL X.K H l xs) (hs : starEach [a] X.env = (false, eval a X.env) :: starEach [] X.env) : DE X N ρ H (.Call (Nm "len" p) [a] [] pos) (.int (xs.length : Int)) :=
  de_cb (t := tNil) (pe_callB call_len_seq hg hm boot_len' pa_w (by decide +kernel) (by decide +kernel) hs) (da_cons ha da_nil hs) fun vs H1 e1 q Q k => by
    obtain ⟨v, rfl, h⟩ := dis1 q
    rw [h.ref_inv]
    exact ⟨l, xs, rfl, .inl (ex_l e1 hl), k _ H1 (Ex.refl H1) (.int _)⟩
/-- a call of a built-in whose only argument is a new list -/
theorem de_cbL {r : List V → Hp → VK → Prop} {ds : List Dt} (hp : PE X e (tCB r (tCons (WE X a) tNil))) (h : DL X N ρ H a ds) (hr : ∀ p vs H1, Ex H H1 → H1 p = some (.lst vs) → Dis X.K H1 vs ds → ∀ Q : VK, (∀ v H2, Ex H1 H2 → Di X.K H2 v d → Q v H2) → r [.ref p] H1 Q) : DE X N ρ H e d := fun hN σ H1 e1 env Q q =>
  PEw hp (h hN σ H1 e1 env _ fun p vs H2 _ e2 h2 q1 => hr p vs H2 (e1.trans e2) h2 q1 Q fun v H3 e3 q3 => q v H3 (e2.trans e3) q3)
theorem de_all {bs : List Bool} {p : Pos} (hc : X.calm = true) (hg : Gl X "all") (hm : X.mg "all" = none) (ha : DL X N ρ H a (bs.map Dt.bl)) (hs : starEach [a] X.env = (false, eval a X.env) :: starEach [] X.env) : DE X N ρ H (.Call (Nm "all" p) [a] [] pos) (.bl (bs.all id)) :=
  de_cbL (pe_callB (cr_all hc) hg hm boot_all' (pa_cons pe_w pa_nil hs) (by decide +kernel) (by decide +kernel) hs) ha fun l vs H1 _ h1 q Q k => by
    rw [dis_bls q] at h1
    exact ⟨l, bs, rfl, sq_of h1, k _ H1 (Ex.refl H1) (.bl _)⟩
theorem de_any {bs : List Bool} {p : Pos} (hc : X.calm = true) (hg : Gl X "any") (hm : X.mg "any" = none) (ha : DL X N ρ H a (bs.map Dt.bl)) (hs : starEach [a] X.env = (false, eval a X.env) :: starEach [] X.env) : DE X N ρ H (.Call (Nm "any" p) [a] [] pos) (.bl (bs.any id)) :=
  de_cbL (pe_callB (cr_any hc) hg hm boot_any' (pa_cons pe_w pa_nil hs) (by decide +kernel) (by decide +kernel) hs) ha fun l vs H1 _ h1 q Q k => by
    rw [dis_bls q] at h1
    exact ⟨l, bs, rfl, sq_of h1, k _ H1 (Ex.refl H1) (.bl _)⟩
theorem de_tupN {ds : List Dt} {p : Pos} (hg : Gl X "tuple") (hm : X.mg "tuple" = none) (ha : DL X N ρ H a ds) (hs : starEach [a] X.env = (false, eval a X.env) :: starEach [] X.env) : DE X N ρ H (.Call (Nm "tuple" p) [a] [] pos) (.tup ds) :=
  de_cbL (pe_callTy call_tuple_of hg hm boot_tuple' (pa_cons pe_w pa_nil hs) (by decide +kernel) (by decide +kernel) hs) ha fun l vs H1 _ h1 q Q k =>
    ⟨l, vs, rfl, .inl ⟨sq_of h1, fun r hr => k _ _ (Ex.new hr) (.tup upd_same (q.mono (ex_tx (Ex.new hr))))⟩⟩
/-- tuple(xs), xs a tracked list -/
theorem de_tupL {l : Addr} {vs : List V} {ds : List Dt} {p : Pos} (hg : Gl X "tuple") (hm : X.mg "tuple" = none) (ha : DE X N ρ H a (.ref l)) (hl : SqL X.K H l vs) (hd : Dis X.K H vs ds) (hs : starEach [a] X.env = (false, eval a X.env) :: starEach [] X.env) : DE X N ρ H (.Call (Nm "tuple" p) [a] [] pos) (.tup ds) :=
  de_cb (t := tNil) (pe_callTy call_tuple_of hg hm boot_tuple' pa_w (by decide +kernel) (by decide +kernel) hs) (da_cons ha da_nil hs) fun ws H1 e1 q Q k => by
    obtain ⟨v, rfl, h⟩ := dis1 q
    rw [h.ref_inv]
    exact ⟨l, vs, rfl, .inl ⟨ex_l e1 hl, fun r hr => k _ _ (Ex.new hr) (.tup upd_same (hd.mono (ex_tx (e1.trans (Ex.new hr)))))⟩⟩
theorem dl_list {ds : List Dt} {p : Pos} (hg : Gl X "list") (hm : X.mg "list" = none) (ha : DE X N ρ H a (.tup ds)) (hs : starEach [a] X.env = (false, eval a X.env) :: starEach [] X.env) : DL X N ρ H (.Call (Nm "list" p) [a] [] pos) ds := fun hN σ H1 e1 env Q q =>
  PEw (pe_callTy call_list_of hg hm boot_list' (pa_cons pe_w pa_nil hs) (by decide +kernel) (by decide +kernel) hs) (ha hN σ H1 e1 env _ fun v H2 e2 q1 => by
    obtain ⟨p, xs, rfl, h1, h2⟩ := q1.tup_inv
    exact ⟨p, xs, rfl, .inr h1, fun l hl => q l xs _ (fresh_back e2 hl) (e2.trans (Ex.new hl)) upd_same (h2.mono (ex_tx (Ex.new hl)))⟩)
/-! ### isinstance of data and a built-in class -/
def tyD : Dt → Option String
  | .non => some "NoneType"
  | .bl _ => some "bool"
  | .int _ => some "int"
  | .str _ => some "str"
  | .tup _ => some "tuple"
  | .ref _ => none
theorem tyX_of {K : PySem.W.Frag} {v : V} {T : String} (h : Di K H v d) (ht : tyD d = some T) : TyX K H v (.type T) := by
  cases h with
  | non => cases ht; exact .base .non
  | bl b => cases ht; exact .base (.bl b)
  | int i => cases ht; exact .base (.int i)
  | str x => cases ht; exact .base (.str x)
  | ref a => cases ht
  | @tup a xs ds h hs =>
    cases ht
    exact .base (.tup h)
theorem de_isi {T C : String} {r : Bool} {x : Str} {p p' : Pos} (hg : Gl X "isinstance") (hm : X.mg "isinstance" = none) (hgC : Gl X x) (hmC : X.mg x = none) (hv : bootBuiltins x = some (.type C)) (hx : x ≠ "__name__") (hx2 : (x == ("__debug__" : Str)) = false) (ha : DE X N ρ H a d) (ht : tyD d = some T) (hk : kitB T C = some r)
    (hs : starEach [a, .Name x p'] X.env = (false, eval a X.env) :: starEach [.Name x p'] X.env) (hpl : (backTo pos (starEach [.Name x p'] X.env)).any (·.1) = false) (hs2 : starEach [.Name x p'] X.env = (false, eval (.Name x p') X.env) :: starEach [] X.env) : DE X N ρ H (.Call (Nm "isinstance" p) [a, .Name x p'] [] pos) (.bl r) := fun hN σ H1 e1 env Q q =>
  PEw (pe_callB call_isi hg hm boot_isi' (pa_cons pe_w (pa_cons (pe_bltn hgC hmC hv (v := .ty C) rfl hx hx2) pa_nil hs2) hs) (by decide +kernel) (by decide +kernel) hs hpl) (ha hN σ H1 e1 env _ fun v H2 e2 q1 =>
    ⟨v, .ty C, .type T, .type C, r, rfl, .ty C, tyX_of q1 ht, kit_ty hk, q _ H2 e2 (.bl r)⟩)
/-! ### a def of the program -/
structure Fn0 (P : Program) (w : World) (K : PySem.W.Frag) (mg : Str → Option Value) (base : Heap) (CX : CXT) (k : Nat) (x : Str) (sp : Sp) : Prop where
  ex : ∃ f fd ps, FnOk P w K mg base CX k f fd ps sp ∧ mg x = some (.ref f) ∧ PySem.W.keepIn K (.ref f) = true ∧ Binds K fd ps []
/-- a promise: data in, data out, all that is known stays -/
def SpF (K : PySem.W.Frag) (R : List Dt → Dt → Prop) : Sp := fun vs H Q _ => ∃ ds d, Dis K H vs ds ∧ R ds d ∧ ∀ v H', Ex H H' → Di K H' v d → Q v H'
theorem de_call {k : Nat} {x : Str} {R : List Dt → Dt → Prop} {ds : List Dt} {es : List Expr} {p : Pos} (F : Fn0 X.prog X.w X.K X.mg X.base CX0 k x (SpF X.K R)) (hr : Room k X.A) (hg : Gl X x) (hd : (x == ("__debug__" : Str)) = false)
    (h : DA X N ρ H (e :: es) ds) (hs : starEach (e :: es) X.env = (false, eval e X.env) :: starEach es X.env) (hpl : (backTo pos (starEach es X.env)).any (·.1) = false) (hR : R ds d) : DE X N ρ H (.Call (.Name x p) (e :: es) [] pos) d := fun hN σ H1 e1 env Q q => by
  obtain ⟨f, fd, ps, G, hm, kp, b⟩ := F.ex
  refine PEw (pe_call G hr hg hm kp b .nil pass0 pa_w hd hs hpl) (h hN σ H1 e1 env _ fun vs H2 e2 q1 => ?_)
  rw [List.append_nil]
  exact ⟨ds, d, q1, hR, fun v H3 e3 q3 => q v H3 (e2.trans e3) q3⟩
end
end Led

set_option maxRecDepth 100000
namespace Led
open PySem L2 Evl
theorem kit_ii : kitB "int" "int" = some true := by decide +kernel
theorem kit_bi : kitB "bool" "int" = some true := by decide +kernel
theorem kit_si : kitB "str" "int" = some false := by decide +kernel
theorem kit_ni : kitB "NoneType" "int" = some false := by decide +kernel
theorem kit_ti : kitB "tuple" "int" = some false := by decide +kernel
theorem kit_ib : kitB "int" "bool" = some false := by decide +kernel
theorem kit_bb : kitB "bool" "bool" = some true := by decide +kernel
theorem kit_sb : kitB "str" "bool" = some false := by decide +kernel
theorem kit_nb : kitB "NoneType" "bool" = some false := by decide +kernel
theorem kit_tb : kitB "tuple" "bool" = some false := by decide +kernel
theorem kit_it : kitB "int" "tuple" = some false := by decide +kernel
theorem kit_bt : kitB "bool" "tuple" = some false := by decide +kernel
theorem kit_st : kitB "str" "tuple" = some false := by decide +kernel
theorem kit_nt : kitB "NoneType" "tuple" = some false := by decide +kernel
theorem kit_tt : kitB "tuple" "tuple" = some true := by decide +kernel
theorem kit_is : kitB "int" "str" = some false := by decide +kernel
theorem kit_bs : kitB "bool" "str" = some false := by decide +kernel
theorem kit_ss : kitB "str" "str" = some true := by decide +kernel
theorem kit_ns : kitB "NoneType" "str" = some false := by decide +kernel
theorem kit_ts : kitB "tuple" "str" = some false := by decide +kernel
/-! ### the place where code stands, without the run -/
structure Ct where
  P : Program
  w : World
  K : PySem.W.Frag
  mg : Str → Option Value
  base : Heap
  N : List Str
  sc : Scope
  lv : Nat
  fn : Bool
structure Ct.Of (C : Ct) (X : Cx) : Prop where
  prog : X.prog = C.P
  w : X.w = C.w
  K : X.K = C.K
  mg : X.mg = C.mg
  base : X.base = C.base
  N : X.N = C.N
  sc : X.env.scope = C.sc
  calm : X.calm = true
  room : Room C.lv X.A
  fns : C.fn = true → ∀ x, X.fn x = true
structure JE (C : Ct) (ρ : Rh) (H : Hp) (e : Expr) (d : Dt) : Prop where
  run : ∀ X, C.Of X → DE X C.N ρ H e d
structure JL (C : Ct) (ρ : Rh) (H : Hp) (e : Expr) (ds : List Dt) : Prop where
  run : ∀ X, C.Of X → DL X C.N ρ H e ds
structure JT (C : Ct) (ρ : Rh) (H : Hp) (e : Expr) (b : Bool) : Prop where
  run : ∀ X, C.Of X → DT X C.N ρ H e b
structure JW (C : Ct) (ρ : Rh) (H : Hp) (e : Expr) (b : Bool) : Prop where
  run : ∀ X, C.Of X → DW X C.N ρ H e b
structure JA (C : Ct) (ρ : Rh) (H : Hp) (es : List Expr) (ds : List Dt) : Prop where
  run : ∀ X, C.Of X → DA X C.N ρ H es ds
structure JO (C : Ct) (ρ : Rh) (H : Hp) (e : Option Expr) (o : Option Int) : Prop where
  run : ∀ X, C.Of X → DO X C.N ρ H e o
/-- a module's or built-in name -/
def GlN (C : Ct) (x : Str) : Prop := C.sc.names.lookup x = some .globalImplicit
theorem Ct.Of.gl {C : Ct} {X : Cx} (o : C.Of X) {x : Str} (h : GlN C x) : Gl X x := by
  show X.env.scope.names.lookup x = _
  rw [o.sc]; exact h
theorem Ct.Of.vis {C : Ct} {X : Cx} (o : C.Of X) {x : Str} (h : Vis C.sc x) : Vis X.env.scope x := by rw [o.sc]; exact h
theorem Ct.Of.fr {C : Ct} {X : Cx} (o : C.Of X) {x : Str} {u : Option Value} (h : C.mg x = u) : X.mg x = u := by rw [o.mg]; exact h
theorem Fn0.to {C : Ct} {X : Cx} {CX : CXT} {k : Nat} {x : Str} {sp : Sp} (o : C.Of X) (F : Fn0 C.P C.w C.K C.mg C.base CX k x sp) : Fn0 X.prog X.w X.K X.mg X.base CX k x sp := by
  rw [o.prog, o.w, o.K, o.mg, o.base]; exact F
/-- whatever the frame: no star in an argument list -/
def NoStar (e : Expr) (es : List Expr) : Prop := ∀ env, starEach (e :: es) env = (false, eval e env) :: starEach es env
def NoStars (es : List Expr) : Prop := ∀ (pos : Pos) env, (backTo pos (starEach es env)).any (·.1) = false
section
variable {C : Ct} {ρ : Rh} {H H' : Hp} {a b c e : Expr} {d : Dt} {pos : Pos}
theorem JE.mono (x : Ex H H') (h : JE C ρ H e d) : JE C ρ H' e d := ⟨fun X o => (h.run X o).mono x⟩
theorem je_is {d' : Dt} (h : JE C ρ H e d) (q : d = d') : JE C ρ H e d' := q ▸ h
theorem jt_is {k k' : Bool} (h : JT C ρ H e k) (q : k = k') : JT C ρ H e k' := q ▸ h
theorem jl_is {ds ds' : List Dt} (h : JL C ρ H e ds) (q : ds = ds') : JL C ρ H e ds' := q ▸ h
theorem je_int {i : Int} {j : Nat} : JE C ρ H (.Constant (.int i) j pos) (.int i) := ⟨fun _ _ => de_int⟩
theorem je_bl {i : Bool} {j : Nat} : JE C ρ H (.Constant (.bool i) j pos) (.bl i) := ⟨fun _ _ => de_bl⟩
theorem je_non {j : Nat} : JE C ρ H (.Constant .none j pos) .non := ⟨fun _ _ => de_non⟩
theorem je_str {i : Str} {j : Nat} : JE C ρ H (.Constant (.str i) j pos) (.str i) := ⟨fun _ _ => de_str⟩
theorem je_var {x : Str} {i : Nat} (h : At C.N ρ x i d) (hv : Vis C.sc x) (hd : (x == ("__debug__" : Str)) = false) (hcd : (x == ("__classdict__" : Str)) = false) : JE C ρ H (.Name x pos) d := ⟨fun _ o => de_var h (o.vis hv) hd hcd⟩
theorem je_var2 {x : Str} (h : lkB C.N ρ x = some d) (hv : Vis C.sc x) (hd : (x == ("__debug__" : Str)) = false) (hcd : (x == ("__classdict__" : Str)) = false) : JE C ρ H (.Name x pos) d := by
  obtain ⟨i, hi⟩ := at_lk h
  exact je_var hi hv hd hcd
theorem je_globI {x : Str} {i : Int} {t : Tok} (hg : GlN C x) (hm : C.mg x = some (.int i t)) (hd : (x == ("__debug__" : Str)) = false) : JE C ρ H (.Name x pos) (.int i) := ⟨fun _ o => de_glob (v := .int i) (o.gl hg) (o.fr hm) ⟨_, rfl⟩ hd fun _ _ => .int i⟩
theorem je_globS {x : Str} {i : Str} {t : Tok} (hg : GlN C x) (hm : C.mg x = some (.str i t)) (hd : (x == ("__debug__" : Str)) = false) : JE C ρ H (.Name x pos) (.str i) := ⟨fun _ o => de_glob (v := .str i) (o.gl hg) (o.fr hm) ⟨_, rfl⟩ hd fun _ _ => .str i⟩
theorem je_add {i j : Int} (ha : JE C ρ H a (.int i)) (hb : JE C ρ H b (.int j)) : JE C ρ H (.BinOp a .Add b pos) (.int (i + j)) := ⟨fun X o => de_add (ha.run X o) (hb.run X o)⟩
theorem je_sub {i j : Int} (ha : JE C ρ H a (.int i)) (hb : JE C ρ H b (.int j)) : JE C ρ H (.BinOp a .Sub b pos) (.int (i - j)) := ⟨fun X o => de_sub (ha.run X o) (hb.run X o)⟩
theorem je_mul {i j : Int} (ha : JE C ρ H a (.int i)) (hb : JE C ρ H b (.int j)) (hc : CMul i j) : JE C ρ H (.BinOp a .Mult b pos) (.int (i * j)) := ⟨fun X o => de_mul (ha.run X o) (hb.run X o) hc⟩
theorem je_div {i j : Int} (ha : JE C ρ H a (.int i)) (hb : JE C ρ H b (.int j)) (hc : CDiv i j) : JE C ρ H (.BinOp a .FloorDiv b pos) (.int (i / j)) := ⟨fun X o => de_div (ha.run X o) (hb.run X o) hc⟩
theorem je_mod {i j : Int} (ha : JE C ρ H a (.int i)) (hb : JE C ρ H b (.int j)) (hc : 0 < j) : JE C ρ H (.BinOp a .Mod b pos) (.int (i % j)) := ⟨fun X o => de_mod (ha.run X o) (hb.run X o) hc⟩
theorem je_modN {i j : Int} (ha : JE C ρ H a (.int i)) (hb : JE C ρ H b (.int j)) (hc : j ≠ 0) : JE C ρ H (.BinOp a .Mod b pos) (.int (i.fmod j)) := ⟨fun X o => de_modN (ha.run X o) (hb.run X o) hc⟩
theorem je_un {i : Int} (ha : JE C ρ H a (.int i)) : JE C ρ H (.UnaryOp .USub a pos) (.int (-i)) := ⟨fun X o hN σ H1 e1 env Q q => PEw (pe_un un_neg pe_w) (ha.run X o hN σ H1 e1 env _ fun v H2 e2 q1 => by
  rw [q1.int_inv]
  exact ⟨i, rfl, q _ H2 e2 (.int _)⟩)⟩
theorem je_cat {ds es : List Dt} (ha : JE C ρ H a (.tup ds)) (hb : JE C ρ H b (.tup es)) (hd : ds ≠ []) (hl : ds.length + es.length ≤ 100000) : JE C ρ H (.BinOp a .Add b pos) (.tup (ds ++ es)) := ⟨fun X o => de_cat (ha.run X o) (hb.run X o) hd hl⟩
theorem je_lt {i j : Int} (ha : JE C ρ H a (.int i)) (hb : JE C ρ H b (.int j)) : JE C ρ H (.Compare a [.Lt] [b] pos) (.bl (decide (i < j))) := ⟨fun X o => de_lt (ha.run X o) (hb.run X o)⟩
theorem je_le {i j : Int} (ha : JE C ρ H a (.int i)) (hb : JE C ρ H b (.int j)) : JE C ρ H (.Compare a [.LtE] [b] pos) (.bl (decide (i ≤ j))) := ⟨fun X o => de_le (ha.run X o) (hb.run X o)⟩
theorem je_gt {i j : Int} (ha : JE C ρ H a (.int i)) (hb : JE C ρ H b (.int j)) : JE C ρ H (.Compare a [.Gt] [b] pos) (.bl (decide (j < i))) := ⟨fun X o => de_gt (ha.run X o) (hb.run X o)⟩
theorem je_ge {i j : Int} (ha : JE C ρ H a (.int i)) (hb : JE C ρ H b (.int j)) : JE C ρ H (.Compare a [.GtE] [b] pos) (.bl (decide (j ≤ i))) := ⟨fun X o => de_ge (ha.run X o) (hb.run X o)⟩
theorem je_eqI {i j : Int} (ha : JE C ρ H a (.int i)) (hb : JE C ρ H b (.int j)) : JE C ρ H (.Compare a [.Eq] [b] pos) (.bl (decide (i = j))) := ⟨fun X o => de_eqI (ha.run X o) (hb.run X o)⟩
theorem je_neI {i j : Int} (ha : JE C ρ H a (.int i)) (hb : JE C ρ H b (.int j)) : JE C ρ H (.Compare a [.NotEq] [b] pos) (.bl (!decide (i = j))) := ⟨fun X o => de_neI (ha.run X o) (hb.run X o)⟩
theorem je_lele {i j k : Int} (ha : JE C ρ H a (.int i)) (hb : JE C ρ H b (.int j)) (hc : JE C ρ H c (.int k)) (hm : lastMarks [.LtE, .LtE] [b, c] = false) : JE C ρ H (.Compare a [.LtE, .LtE] [b, c] pos) (.bl (decide (i ≤ j) && decide (j ≤ k))) := ⟨fun X o => de_lele (ha.run X o) (hb.run X o) (hc.run X o) hm⟩
theorem je_isN {j : Nat} {p' : Pos} (ha : JE C ρ H a d) : JE C ρ H (.Compare a [.Is] [.Constant .none j p'] pos) (.bl d.isN) := ⟨fun X o => de_isN (ha.run X o)⟩
theorem je_notN {j : Nat} {p' : Pos} (ha : JE C ρ H a d) : JE C ρ H (.Compare a [.IsNot] [.Constant .none j p'] pos) (.bl (!d.isN)) := ⟨fun X o => de_notN (ha.run X o)⟩
theorem je_notT (h : JE C ρ H a (.bl true)) : JE C ρ H (.UnaryOp .Not a pos) (.bl false) := ⟨fun X o => de_not (h.run X o)⟩
theorem je_notF (h : JE C ρ H a (.bl false)) : JE C ρ H (.UnaryOp .Not a pos) (.bl true) := ⟨fun X o => de_not (h.run X o)⟩
theorem je_one {op : BoolOp} (h : JE C ρ H a d) : JE C ρ H (.BoolOp op [a] pos) d := ⟨fun X o => de_one (h.run X o)⟩
theorem je_and {k : Bool} {d' : Dt} {rest : List Expr} (h : JE C ρ H a (.bl k)) (h2 : k = true → JE C ρ H (.BoolOp .And (b :: rest) pos) d') : JE C ρ H (.BoolOp .And (a :: b :: rest) pos) (if k = true then d' else .bl false) := ⟨fun X o => de_and (h.run X o) (fun q => (h2 q).run X o) rfl⟩
theorem je_or {k : Bool} {d' : Dt} {rest : List Expr} (h : JE C ρ H a (.bl k)) (h2 : k = false → JE C ρ H (.BoolOp .Or (b :: rest) pos) d') : JE C ρ H (.BoolOp .Or (a :: b :: rest) pos) (if k = true then .bl true else d') := ⟨fun X o => de_or (h.run X o) (fun q => (h2 q).run X o) rfl⟩
theorem je_andB {k l : Bool} {rest : List Expr} (h : JE C ρ H a (.bl k)) (h2 : k = true → JE C ρ H (.BoolOp .And (b :: rest) pos) (.bl l)) : JE C ρ H (.BoolOp .And (a :: b :: rest) pos) (.bl (k && l)) := ⟨fun X o => de_and (h.run X o) (fun q => (h2 q).run X o) (by cases k <;> rfl)⟩
theorem je_orB {k l : Bool} {rest : List Expr} (h : JE C ρ H a (.bl k)) (h2 : k = false → JE C ρ H (.BoolOp .Or (b :: rest) pos) (.bl l)) : JE C ρ H (.BoolOp .Or (a :: b :: rest) pos) (.bl (k || l)) := ⟨fun X o => de_or (h.run X o) (fun q => (h2 q).run X o) (by cases k <;> rfl)⟩
theorem je_andF {rest : List Expr} (h : JE C ρ H a (.bl false)) : JE C ρ H (.BoolOp .And (a :: b :: rest) pos) (.bl false) := ⟨fun X o => de_and (d' := .non) (h.run X o) (fun q => nomatch q) rfl⟩
theorem je_orT {rest : List Expr} (h : JE C ρ H a (.bl true)) : JE C ρ H (.BoolOp .Or (a :: b :: rest) pos) (.bl true) := ⟨fun X o => de_or (d' := .non) (h.run X o) (fun q => nomatch q) rfl⟩
theorem je_not {k : Bool} (h : JE C ρ H a (.bl k)) : JE C ρ H (.UnaryOp .Not a pos) (.bl (!k)) := ⟨fun X o => de_not (h.run X o)⟩
theorem je_if {k : Bool} {d1 d2 : Dt} (h : JT C ρ H c k) (h1 : k = true → JE C ρ H a d1) (h2 : k = false → JE C ρ H b d2) : JE C ρ H (.IfExp c a b pos) (if k = true then d1 else d2) := ⟨fun X o => de_if (h.run X o) (fun q => (h1 q).run X o) (fun q => (h2 q).run X o)⟩
theorem je_ifT (h : JT C ρ H c true) (h1 : JE C ρ H a d) : JE C ρ H (.IfExp c a b pos) d := ⟨fun X o => de_if (d1 := d) (d2 := d) (h.run X o) (fun _ => h1.run X o) (fun q => nomatch q)⟩
theorem je_ifF (h : JT C ρ H c false) (h1 : JE C ρ H b d) : JE C ρ H (.IfExp c a b pos) d := ⟨fun X o => de_if (d1 := d) (d2 := d) (h.run X o) (fun q => nomatch q) (fun _ => h1.run X o)⟩
theorem ja_nil : JA C ρ H [] [] := ⟨fun _ _ => da_nil⟩
theorem ja_cons {es : List Expr} {ds : List Dt} (hs : NoStar e es) (h : JE C ρ H e d) (hr : JA C ρ H es ds) : JA C ρ H (e :: es) (d :: ds) := ⟨fun X o => da_cons (h.run X o) (hr.run X o) (hs _)⟩
theorem je_tup {es : List Expr} {ds : List Dt} {x1 : Nat} (h : JA C ρ H es ds) (hl : ds.length ≤ 100000) : JE C ρ H (.Tuple es x1 pos) (.tup ds) := ⟨fun X o => de_tup (h.run X o) hl⟩
theorem jl_lst {es : List Expr} {ds : List Dt} (h : JA C ρ H es ds) (hl : ds.length ≤ 100000) : JL C ρ H (.List es pos) ds := ⟨fun X o => dl_lst (h.run X o) hl⟩
theorem je_ixT {ds : List Dt} {i : Int} (hs : PlainIx b) (ha : JE C ρ H a (.tup ds)) (hb : JE C ρ H b (.int i)) (hi : atI ds i = some d) : JE C ρ H (.Subscript a b pos) d := ⟨fun X o => de_ixT (ha.run X o) (hb.run X o) hs hi⟩
theorem je_ixL {p : Addr} {vs : List V} {ds : List Dt} {i : Int} (hs : PlainIx b) (ha : JE C ρ H a (.ref p)) (hb : JE C ρ H b (.int i)) (hp : SqL C.K H p vs) (hd : Dis C.K H vs ds) (hi : atI ds i = some d) : JE C ρ H (.Subscript a b pos) d := ⟨fun X o => de_ixL (ha.run X o) (hb.run X o) hs (by rw [o.K]; exact hp) (by rw [o.K]; exact hd) hi⟩
theorem je_ixN {ds : List Dt} {i : Int} (hs : PlainIx b) (ha : JL C ρ H a ds) (hb : JE C ρ H b (.int i)) (hi : atI ds i = some d) : JE C ρ H (.Subscript a b pos) d := ⟨fun X o => de_ixN (ha.run X o) (hb.run X o) hs hi⟩
theorem jo_none : JO C ρ H none none := ⟨fun _ _ => do_none⟩
theorem jo_some {i : Int} (h : JE C ρ H e (.int i)) : JO C ρ H (some e) (some i) := ⟨fun X o => do_some (h.run X o)⟩
theorem je_sl {lo hi : Option Expr} {l h : Option Int} {ds : List Dt} {p2 : Pos} (ha : JE C ρ H a (.tup ds)) (h1 : JO C ρ H lo l) (h2 : JO C ρ H hi h) (hw : ¬ (HT.sIx ds.length 0 l = 0 ∧ HT.sIx ds.length ds.length h = ds.length)) : JE C ρ H (.Subscript a (.Slice lo hi none p2) pos) (.tup (cutD ds l h)) := ⟨fun X o => de_sl (ha.run X o) (h1.run X o) (h2.run X o) hw⟩
theorem je_abs {i : Int} {p : Pos} (hs : NoStar a []) (hg : GlN C "abs") (hm : C.mg "abs" = none) (ha : JE C ρ H a (.int i)) : JE C ρ H (.Call (Nm "abs" p) [a] [] pos) (.int (if i < 0 then -i else i)) := ⟨fun X o => de_abs (o.gl hg) (o.fr hm) (ha.run X o) (hs _)⟩
theorem je_int1 {i : Int} {p : Pos} (hs : NoStar a []) (hg : GlN C "int") (hm : C.mg "int" = none) (ha : JE C ρ H a (.int i)) : JE C ρ H (.Call (Nm "int" p) [a] [] pos) (.int i) := ⟨fun X o => de_int1 (o.gl hg) (o.fr hm) (ha.run X o) (hs _)⟩
theorem je_max2 {i j : Int} {p : Pos} (hs : NoStar a [b]) (hpl : NoStars [b]) (hg : GlN C "max") (hm : C.mg "max" = none) (h : JA C ρ H [a, b] [.int i, .int j]) : JE C ρ H (.Call (Nm "max" p) [a, b] [] pos) (.int (if j > i then j else i)) := ⟨fun X o => de_max2 o.calm (o.gl hg) (o.fr hm) (h.run X o) (hs _) (hpl _ _)⟩
theorem je_min2 {i j : Int} {p : Pos} (hs : NoStar a [b]) (hpl : NoStars [b]) (hg : GlN C "min") (hm : C.mg "min" = none) (h : JA C ρ H [a, b] [.int i, .int j]) : JE C ρ H (.Call (Nm "min" p) [a, b] [] pos) (.int (if j < i then j else i)) := ⟨fun X o => de_min2 o.calm (o.gl hg) (o.fr hm) (h.run X o) (hs _) (hpl _ _)⟩
theorem je_lenT {ds : List Dt} {p : Pos} (hs : NoStar a []) (hg : GlN C "len") (hm : C.mg "len" = none) (ha : JE C ρ H a (.tup ds)) : JE C ρ H (.Call (Nm "len" p) [a] [] pos) (.int (ds.length : Int)) := ⟨fun X o => de_lenT (o.gl hg) (o.fr hm) (ha.run X o) (hs _)⟩
theorem je_lenL {l : Addr} {xs : List V} {p : Pos} (hs : NoStar a []) (hg : GlN C "len") (hm : C.mg "len" = none) (ha : JE C ρ H a (.ref l)) (hl : SqL C.K H l xs) : JE C ρ H (.Call (Nm "len" p) [a] [] pos) (.int (xs.length : Int)) := ⟨fun X o => de_lenL (o.gl hg) (o.fr hm) (ha.run X o) (by rw [o.K]; exact hl) (hs _)⟩
theorem je_all {bs : List Bool} {p : Pos} (hs : NoStar a []) (hg : GlN C "all") (hm : C.mg "all" = none) (ha : JL C ρ H a (bs.map Dt.bl)) : JE C ρ H (.Call (Nm "all" p) [a] [] pos) (.bl (bs.all id)) := ⟨fun X o => de_all o.calm (o.gl hg) (o.fr hm) (ha.run X o) (hs _)⟩
theorem je_any {bs : List Bool} {p : Pos} (hs : NoStar a []) (hg : GlN C "any") (hm : C.mg "any" = none) (ha : JL C ρ H a (bs.map Dt.bl)) : JE C ρ H (.Call (Nm "any" p) [a] [] pos) (.bl (bs.any id)) := ⟨fun X o => de_any o.calm (o.gl hg) (o.fr hm) (ha.run X o) (hs _)⟩
theorem je_tupN {ds : List Dt} {p : Pos} (hs : NoStar a []) (hg : GlN C "tuple") (hm : C.mg "tuple" = none) (ha : JL C ρ H a ds) : JE C ρ H (.Call (Nm "tuple" p) [a] [] pos) (.tup ds) := ⟨fun X o => de_tupN (o.gl hg) (o.fr hm) (ha.run X o) (hs _)⟩
theorem je_tupL {l : Addr} {vs : List V} {ds : List Dt} {p : Pos} (hs : NoStar a []) (hg : GlN C "tuple") (hm : C.mg "tuple" = none) (ha : JE C ρ H a (.ref l)) (hl : SqL C.K H l vs) (hd : Dis C.K H vs ds) : JE C ρ H (.Call (Nm "tuple" p) [a] [] pos) (.tup ds) := ⟨fun X o => de_tupL (o.gl hg) (o.fr hm) (ha.run X o) (by rw [o.K]; exact hl) (by rw [o.K]; exact hd) (hs _)⟩
theorem jl_list {ds : List Dt} {p : Pos} (hs : NoStar a []) (hg : GlN C "list") (hm : C.mg "list" = none) (ha : JE C ρ H a (.tup ds)) : JL C ρ H (.Call (Nm "list" p) [a] [] pos) ds := ⟨fun X o => dl_list (o.gl hg) (o.fr hm) (ha.run X o) (hs _)⟩
theorem je_isi {T D : String} {r : Bool} {x : Str} {p p' : Pos} (hs : NoStar a [.Name x p']) (hg : GlN C "isinstance") (hm : C.mg "isinstance" = none) (hgC : GlN C x) (hmC : C.mg x = none) (hv : bootBuiltins x = some (.type D)) (hx : x ≠ "__name__") (hx2 : (x == ("__debug__" : Str)) = false) (ha : JE C ρ H a d) (ht : tyD d = some T) (hk : kitB T D = some r) : JE C ρ H (.Call (Nm "isinstance" p) [a, .Name x p'] [] pos) (.bl r) :=
  ⟨fun X o => de_isi (o.gl hg) (o.fr hm) (o.gl hgC) (o.fr hmC) hv hx hx2 (ha.run X o) ht hk (hs _) rfl rfl⟩
theorem je_isiI {T : String} {r : Bool} {p p' : Pos} (hs : NoStar a [Nm "int" p']) (hg : GlN C "isinstance") (hm : C.mg "isinstance" = none) (hgC : GlN C "int") (hmC : C.mg "int" = none) (ha : JE C ρ H a d) (ht : tyD d = some T) (hk : kitB T "int" = some r) : JE C ρ H (.Call (Nm "isinstance" p) [a, Nm "int" p'] [] pos) (.bl r) := je_isi hs hg hm hgC hmC boot_int' (by decide +kernel) (by decide +kernel) ha ht hk
theorem je_isiB {T : String} {r : Bool} {p p' : Pos} (hs : NoStar a [Nm "bool" p']) (hg : GlN C "isinstance") (hm : C.mg "isinstance" = none) (hgC : GlN C "bool") (hmC : C.mg "bool" = none) (ha : JE C ρ H a d) (ht : tyD d = some T) (hk : kitB T "bool" = some r) : JE C ρ H (.Call (Nm "isinstance" p) [a, Nm "bool" p'] [] pos) (.bl r) := je_isi hs hg hm hgC hmC boot_bool' (by decide +kernel) (by decide +kernel) ha ht hk
theorem je_isiT {T : String} {r : Bool} {p p' : Pos} (hs : NoStar a [Nm "tuple" p']) (hg : GlN C "isinstance") (hm : C.mg "isinstance" = none) (hgC : GlN C "tuple") (hmC : C.mg "tuple" = none) (ha : JE C ρ H a d) (ht : tyD d = some T) (hk : kitB T "tuple" = some r) : JE C ρ H (.Call (Nm "isinstance" p) [a, Nm "tuple" p'] [] pos) (.bl r) := je_isi hs hg hm hgC hmC boot_tuple' (by decide +kernel) (by decide +kernel) ha ht hk
theorem je_isiS {T : String} {r : Bool} {p p' : Pos} (hs : NoStar a [Nm "str" p']) (hg : GlN C "isinstance") (hm : C.mg "isinstance" = none) (hgC : GlN C "str") (hmC : C.mg "str" = none) (ha : JE C ρ H a d) (ht : tyD d = some T) (hk : kitB T "str" = some r) : JE C ρ H (.Call (Nm "isinstance" p) [a, Nm "str" p'] [] pos) (.bl r) := je_isi hs hg hm hgC hmC boot_str' (by decide +kernel) (by decide +kernel) ha ht hk
theorem je_call {k : Nat} {x : Str} {R : List Dt → Dt → Prop} {ds : List Dt} {es : List Expr} {p : Pos} (F : Fn0 C.P C.w C.K C.mg C.base CX0 k x (SpF C.K R)) (hk : k ≤ C.lv) (hg : GlN C x) (hd : (x == ("__debug__" : Str)) = false) (hs : NoStar e es) (hpl : NoStars es)
    (h : JA C ρ H (e :: es) ds) (hR : R ds d) : JE C ρ H (.Call (.Name x p) (e :: es) [] pos) d := ⟨fun X o => de_call (by have := F.to o; rw [← o.K] at this; exact this) (o.room.mono hk) (o.gl hg) hd (h.run X o) (hs _) (hpl _ _) hR⟩
/-! tests -/
def PlainT (e : Expr) : Prop := ∀ env whole, isTrue e env whole = (do let v ← whole; standAt e.pos; holding [v] (truthy v))
theorem jt_val {k : Bool} (he : PlainT e) (h : JE C ρ H e (.bl k)) : JT C ρ H e k := ⟨fun X o => dt_val (h.run X o) (he _)⟩
theorem jt_lt {i j : Int} (ha : JE C ρ H a (.int i)) (hb : JE C ρ H b (.int j)) : JT C ρ H (.Compare a [.Lt] [b] pos) (decide (i < j)) := ⟨fun X o => dt_lt (ha.run X o) (hb.run X o)⟩
theorem jt_le {i j : Int} (ha : JE C ρ H a (.int i)) (hb : JE C ρ H b (.int j)) : JT C ρ H (.Compare a [.LtE] [b] pos) (decide (i ≤ j)) := ⟨fun X o => dt_le (ha.run X o) (hb.run X o)⟩
theorem jt_gt {i j : Int} (ha : JE C ρ H a (.int i)) (hb : JE C ρ H b (.int j)) : JT C ρ H (.Compare a [.Gt] [b] pos) (decide (j < i)) := ⟨fun X o => dt_gt (ha.run X o) (hb.run X o)⟩
theorem jt_ge {i j : Int} (ha : JE C ρ H a (.int i)) (hb : JE C ρ H b (.int j)) : JT C ρ H (.Compare a [.GtE] [b] pos) (decide (j ≤ i)) := ⟨fun X o => dt_ge (ha.run X o) (hb.run X o)⟩
theorem jt_eqI {i j : Int} (ha : JE C ρ H a (.int i)) (hb : JE C ρ H b (.int j)) : JT C ρ H (.Compare a [.Eq] [b] pos) (decide (i = j)) := ⟨fun X o => dt_eqI (ha.run X o) (hb.run X o)⟩
theorem jt_neI {i j : Int} (ha : JE C ρ H a (.int i)) (hb : JE C ρ H b (.int j)) : JT C ρ H (.Compare a [.NotEq] [b] pos) (!decide (i = j)) := ⟨fun X o => dt_neI (ha.run X o) (hb.run X o)⟩
theorem jt_lele {i j k : Int} (ha : JE C ρ H a (.int i)) (hb : JE C ρ H b (.int j)) (hc : JE C ρ H c (.int k)) (hm : lastMarks [.LtE, .LtE] [b, c] = false) : JT C ρ H (.Compare a [.LtE, .LtE] [b, c] pos) (decide (i ≤ j) && decide (j ≤ k)) := ⟨fun X o => dt_lele (ha.run X o) (hb.run X o) (hc.run X o) hm⟩
theorem jt_isN {j : Nat} {p' : Pos} (ha : JE C ρ H a d) : JT C ρ H (.Compare a [.Is] [.Constant .none j p'] pos) d.isN := ⟨fun X o => dt_isN (ha.run X o)⟩
theorem jt_notN {j : Nat} {p' : Pos} (ha : JE C ρ H a d) : JT C ρ H (.Compare a [.IsNot] [.Constant .none j p'] pos) (!d.isN) := ⟨fun X o => dt_notN (ha.run X o)⟩
theorem jt_not {k : Bool} (h : JT C ρ H a k) : JT C ρ H (.UnaryOp .Not a pos) (!k) := ⟨fun X o => dt_not (h.run X o)⟩
theorem jt_w {k : Bool} (h : JW C ρ H e k) : JT C ρ H e k := ⟨fun X o => dt_w (h.run X o)⟩
theorem jw_and1 {k : Bool} (h : JT C ρ H a k) : JW C ρ H (.BoolOp .And [a] pos) k := ⟨fun X o => dw_and1 (h.run X o)⟩
theorem jw_or1 {k : Bool} (h : JT C ρ H a k) : JW C ρ H (.BoolOp .Or [a] pos) k := ⟨fun X o => dw_or1 (h.run X o)⟩
theorem jw_andF {rest : List Expr} (h : JT C ρ H a false) : JW C ρ H (.BoolOp .And (a :: b :: rest) pos) false := ⟨fun X o => dw_and (l := false) (h.run X o) fun q => nomatch q⟩
theorem jw_orT {rest : List Expr} (h : JT C ρ H a true) : JW C ρ H (.BoolOp .Or (a :: b :: rest) pos) true := ⟨fun X o => dw_or (l := true) (h.run X o) fun q => nomatch q⟩
theorem jw_and {k l : Bool} {rest : List Expr} (h : JT C ρ H a k) (h2 : k = true → JW C ρ H (.BoolOp .And (b :: rest) pos) l) : JW C ρ H (.BoolOp .And (a :: b :: rest) pos) (k && l) := ⟨fun X o => dw_and (h.run X o) fun q => (h2 q).run X o⟩
theorem jw_or {k l : Bool} {rest : List Expr} (h : JT C ρ H a k) (h2 : k = false → JW C ρ H (.BoolOp .Or (b :: rest) pos) l) : JW C ρ H (.BoolOp .Or (a :: b :: rest) pos) (k || l) := ⟨fun X o => dw_or (h.run X o) fun q => (h2 q).run X o⟩
end
/-! ### statements -/
section
variable {C : Ct} {X : Cx} {ρ : Rh} {σ : St} {H : Hp} {a b c e : Expr} {d : Dt} {pos : Pos} {D : Ends} {st : Stmt} {rest : List Stmt}
theorem wb_nil (h : D.nx σ H) : WB X [] D σ H := PBw pss_nil h
theorem wb_cons (h : WS X st { D with nx := WB X rest D } σ H) : WB X (st :: rest) D σ H := PBw (pss_cons ps_w pb_w) h
theorem wb_one (h : WS X st D σ H) : WB X [st] D σ H := PBw (pss_one ps_w) h
theorem ws_ret (o : C.Of X) (env : EnvD C.K H σ ρ) (h : JE C ρ H e d) (k : ∀ v H1, Ex H H1 → Di C.K H1 v d → D.rt v H1) : WS X (.Return (some e) pos) D σ H :=
  PSw (ps_ret pe_w) (h.run X o o.N σ H (Ex.refl H) (by rw [o.K]; exact env) _ fun v H2 e2 q => k v H2 e2 (by rw [← o.K]; exact q))
theorem ws_retN (k : D.rt .non H) : WS X (.Return none pos) D σ H := PSw ps_retN k
theorem ws_retL {ds : List Dt} (o : C.Of X) (env : EnvD C.K H σ ρ) (h : JL C ρ H e ds) (k : ∀ p vs H1, H p = none → Ex H H1 → H1 p = some (.lst vs) → Dis C.K H1 vs ds → D.rt (.ref p) H1) : WS X (.Return (some e) pos) D σ H :=
  PSw (ps_ret pe_w) (h.run X o o.N σ H (Ex.refl H) (by rw [o.K]; exact env) _ fun p vs H2 hp e2 h2 q => k p vs H2 hp e2 h2 (by rw [← o.K]; exact q))
theorem ws_if {bd el : List Stmt} {k : Bool} (o : C.Of X) (env : EnvD C.K H σ ρ) (h : JT C ρ H c k) (h1 : k = true → ∀ H1, Ex H H1 → EnvD C.K H1 σ ρ → WB X bd D σ H1) (h2 : k = false → ∀ H1, Ex H H1 → EnvD C.K H1 σ ρ → WB X el D σ H1) : WS X (.If c bd el pos) D σ H :=
  PSw (ps_if pt_w pb_w pb_w) (h.run X o o.N σ H (Ex.refl H) (by rw [o.K]; exact env) _ fun H2 e2 => by
    cases k with
    | true => exact iteT (h1 rfl H2 e2 (env.mono (ex_tx e2)))
    | false => exact iteF (h2 rfl H2 e2 (env.mono (ex_tx e2))))
/-- nothing swaps with the assigned value (no comprehension on the right) -/
def NoSwap (e : Expr) (x : Str) : Prop := ∀ (p : Pos) (l : Nat) env, swapsWith e (some (.Name x p)) l env = pure false
/-- a name of the def's own -/
def LocN (C : Ct) (x : Str) : Prop := C.sc.names.lookup x = some .local
theorem ws_set {i : Nat} {x : Str} {pos' : Pos} (o : C.Of X) (env : EnvD C.K H σ ρ) (nd : C.N.Nodup) (hi : C.N[i]? = some x) (hx : LocN C x) (hs : ∀ env, swapsWith e (some (.Name x pos')) pos.line env = pure false) (h : JE C ρ H e d)
    (k : ∀ v σ' H1, Ex H H1 → Di C.K H1 v d → EnvD C.K H1 σ' (ρ.set i (some d)) → D.nx σ' H1) : WS X (.Assign [.Name x pos'] e pos) D σ H :=
  PSw (ps_set (by rw [o.N]; exact nd) (by rw [o.N]; exact hi) (.inl (by rw [o.sc]; exact hx)) pe_w (hs _) (.inr (by rw [o.sc]; exact hx))) (h.run X o o.N σ H (Ex.refl H) (by rw [o.K]; exact env) _ fun v H2 e2 q => by
    rw [o.K] at q
    exact k v _ H2 e2 q ((env.mono (ex_tx e2)).set q))
/-- .. a name that a comprehension or a lambda captures -/
theorem ws_setC {i : Nat} {x : Str} {pos' : Pos} (o : C.Of X) (env : EnvD C.K H σ ρ) (nd : C.N.Nodup) (hi : C.N[i]? = some x) (hx : C.sc.names.lookup x = some .cell) (hf : C.fn = true) (hs : ∀ env, swapsWith e (some (.Name x pos')) pos.line env = pure false) (h : JE C ρ H e d)
    (k : ∀ v σ' H1, Ex H H1 → Di C.K H1 v d → EnvD C.K H1 σ' (ρ.set i (some d)) → D.nx σ' H1) : WS X (.Assign [.Name x pos'] e pos) D σ H :=
  PSw (ps_set (by rw [o.N]; exact nd) (by rw [o.N]; exact hi) (.inr (by rw [o.sc]; exact hx)) pe_w (hs _) (.inl (o.fns hf x))) (h.run X o o.N σ H (Ex.refl H) (by rw [o.K]; exact env) _ fun v H2 e2 q => by
    rw [o.K] at q
    exact k v _ H2 e2 q ((env.mono (ex_tx e2)).set q))
theorem ws_setL {i : Nat} {x : Str} {pos' : Pos} {ds : List Dt} (o : C.Of X) (env : EnvD C.K H σ ρ) (nd : C.N.Nodup) (hi : C.N[i]? = some x) (hx : LocN C x) (hs : ∀ env, swapsWith e (some (.Name x pos')) pos.line env = pure false) (h : JL C ρ H e ds)
    (k : ∀ p vs σ' H1, H p = none → Ex H H1 → H1 p = some (.lst vs) → Dis C.K H1 vs ds → EnvD C.K H1 σ' (ρ.set i (some (.ref p))) → D.nx σ' H1) : WS X (.Assign [.Name x pos'] e pos) D σ H :=
  PSw (ps_set (by rw [o.N]; exact nd) (by rw [o.N]; exact hi) (.inl (by rw [o.sc]; exact hx)) pe_w (hs _) (.inr (by rw [o.sc]; exact hx))) (h.run X o o.N σ H (Ex.refl H) (by rw [o.K]; exact env) _ fun p vs H2 hp e2 h2 q => by
    rw [o.K] at q
    exact k p vs _ H2 hp e2 h2 q ((env.mono (ex_tx e2)).set (.ref p)))
/-- a, b = e1, e2 -/
theorem ws_par {i j : Nat} {x y : Str} {px py pt : Pos} {kt k2 : Nat} {pt2 : Pos} {d1 d2 : Dt} (o : C.Of X) (env : EnvD C.K H σ ρ) (nd : C.N.Nodup) (hi : C.N[i]? = some x) (hj : C.N[j]? = some y) (hij : i ≠ j) (hx : LocN C x) (hy : LocN C y)
    (hw : ∀ env : Env, env.scope = C.sc → swappedStores [.Tuple [.Name x px, .Name y py] kt pt] (.Tuple [a, b] k2 pt2) env = pure (some [x, y])) (hs : ∀ env : Env, env.scope = C.sc → swapsWithSole [.Tuple [.Name x px, .Name y py] kt pt] (.Tuple [a, b] k2 pt2) pos.line env = pure false)
    (h : JA C ρ H [a, b] [d1, d2]) (k : ∀ v w σ' H1, Ex H H1 → Di C.K H1 v d1 → Di C.K H1 w d2 → EnvD C.K H1 σ' ((ρ.set i (some d1)).set j (some d2)) → D.nx σ' H1) : WS X (.Assign [.Tuple [.Name x px, .Name y py] kt pt] (.Tuple [a, b] k2 pt2) pos) D σ H :=
  PSw (ps_par o.calm (by rw [o.N]; exact nd) (by rw [o.N]; exact hi) (by rw [o.N]; exact hj) hij (by rw [o.sc]; exact hx) (by rw [o.sc]; exact hy) pa_w (hw _ o.sc) (hs _ o.sc)) (h.run X o o.N σ H (Ex.refl H) (by rw [o.K]; exact env) _ fun vs H2 e2 q => by
    rw [o.K] at q
    obtain ⟨v, w, rfl, h1, h2⟩ := dis2 q
    exact ⟨v, w, rfl, k v w _ H2 e2 h1 h2 (((env.mono (ex_tx e2)).set h1).set h2)⟩)
theorem ws_while {bd : List Stmt} (o : C.Of X) (hp : PassesOwn (model X.prog X.w) X.A X.env X.xe) (W : Nat → St → Hp → Prop) (m0 : Nat) (h0 : W m0 σ H)
    (hs : ∀ m σ' H', W m σ' H' → ∃ ρ' k, EnvD C.K H' σ' ρ' ∧ JT C ρ' H' c k ∧ (k = true → ∀ H1, Ex H' H1 → EnvD C.K H1 σ' ρ' → ∃ Nx : St → Hp → Prop, (∀ σ2 H2, Nx σ2 H2 → ∃ m', m' < m ∧ W m' σ2 H2) ∧ WB X bd { D with nx := Nx, ct := Nx, bk := D.nx } σ' H1) ∧ (k = false → ∀ H1, Ex H' H1 → D.nx σ' H1)) : WS X (.While c bd [] pos) D σ H :=
  PSw (ps_while hp pt_w pb_w) ⟨W, ⟨m0, h0⟩, fun m σ' H' hw => by
    obtain ⟨ρ', k, env, hT, h1, h2⟩ := hs m σ' H' hw
    refine hT.run X o o.N σ' H' (Ex.refl H') (by rw [o.K]; exact env) _ fun H1 e1 => ?_
    cases k with
    | true => exact iteT (h1 rfl H1 e1 (env.mono (ex_tx e1)))
    | false => exact iteF (h2 rfl H1 e1)⟩
end
/-! ### a def that computes data -/
section
variable {P : Program} {w : World} {K : PySem.W.Frag} {mg : Str → Option Value} {base : Heap}
theorem of_nox {CX : CXT} {N : List Str} {qual : Str} {sc : Scope} {f : Addr} {cdv : Value} {A : Around} {outer : List Env} {s : Shared} {H : Hp} {E : XK} {k : Nat} (hr : Room k (A.deeper (PyProof.Rows.envOfC qual sc s.heap.objs.size f cdv))) :
    (Ct.mk P w K mg base N sc k true).Of (cxOf CX P w K mg base N qual sc f cdv A outer s H E).nox := ⟨rfl, rfl, rfl, rfl, rfl, rfl, rfl, rfl, hr, fun _ _ => rfl⟩
theorem of_cx {CX : CXT} {N : List Str} {qual : Str} {sc : Scope} {f : Addr} {cdv : Value} {A : Around} {outer : List Env} {s : Shared} {H : Hp} {E : XK} {k : Nat} (hr : Room k (A.deeper (PyProof.Rows.envOfC qual sc s.heap.objs.size f cdv))) :
    (Ct.mk P w K mg base N sc k true).Of (cxOf CX P w K mg base N qual sc f cdv A outer s H E) := ⟨rfl, rfl, rfl, rfl, rfl, rfl, rfl, rfl, hr, fun _ _ => rfl⟩
theorem fn_pure {x qual : Str} {st : Stmt} {f : Addr} {fd : FuncData} {N ps : List Str} {k : Nat} {R : List Dt → Dt → Prop} (F : Fun K x qual st f fd) (S : FnScope N ps (defScope st)) (len : ∀ ds d, R ds d → ds.length = ps.length)
    (body : ∀ (X : Cx) (ds : List Dt) (d : Dt) (σ : St) (H : Hp) (Q : VK), (Ct.mk P w K mg base N (defScope st) k true).Of X → PassesOwn (model X.prog X.w) X.A X.env X.xe → R ds d → EnvD K H σ (ds.map some ++ List.replicate (N.length - ds.length) none) → (∀ v H', Ex H H' → Di K H' v d → Q v H') →
      WB X (defBody st) { nx := fun _ H' => Q .non H', rt := Q } σ H) : FnOk P w K mg base CX0 (k + 1) f fd ps (SpF K R) := by
  refine F.ok S (fun vs H Q E h => ?_) (fun cdv A outer s H vs Q E hr h => ?_)
  · obtain ⟨ds, d, h1, h2, _⟩ := h
    rw [h1.length, len ds d h2]
  · obtain ⟨ds, d, h1, h2, h3⟩ := h
    exact ⟨_, pb_w, body _ ds d _ H Q (of_nox hr) PassesOwn.never h2 (env_start h1) h3⟩
theorem fn0_mk {x qual : Str} {st : Stmt} {f : Addr} {fd : FuncData} {ps : List Str} {k : Nat} {CX : CXT} {sp : Sp} (F : Fun K x qual st f fd) (b : Binds K fd ps []) (gm : mg x = some (.ref f)) (G : FnOk P w K mg base CX k f fd ps sp) : Fn0 P w K mg base CX k x sp := ⟨f, fd, ps, G, gm, F.kp, b⟩
end
end Led

set_option maxRecDepth 100000
namespace Led
open PySem L2 Evl
/-! ### targets: what is known of the slots behind the store -/
def WG (X : Cx) (tg : Expr) : TG := fun v σ H Q => ∀ (pins : List (Addr × Obj)) (s : Shared) (u : Value), Inv X pins σ H s → RelV v u → wpAny (model X.prog X.w) X.A (assign tg X.env u) (fun _ s' => ∃ σ' H', Inv X pins σ' H' s' ∧ Q σ' H') X.xe s
theorem pg_w {X : Cx} {tg : Expr} : PG X tg (WG X tg) := ⟨fun pins s _ _ _ u _ I r h => h pins s u I r⟩
theorem PGw {X : Cx} {tg : Expr} {g : TG} (h : PG X tg g) {v : V} {σ : St} {H : Hp} {Q : St → Hp → Prop} (q : g v σ H Q) : WG X tg v σ H Q := fun pins s u I r => h.run pins s σ H v u Q I r q
structure JG (C : Ct) (tg : Expr) (d : Dt) (ws : List Nat) (ρ ρ' : Rh) : Prop where
  run : ∀ X, C.Of X → ∀ (v : V) (σ : St) (H : Hp) (Q : St → Hp → Prop), EnvD C.K H σ ρ → Di C.K H v d → (∀ σ', EnvD C.K H σ' ρ' → σ'.length = σ.length → (∀ j, j ∉ ws → σ'[j]? = σ[j]?) → Q σ' H) → WG X tg v σ H Q
section
variable {C : Ct} {ρ : Rh} {H : Hp} {d : Dt} {pos : Pos}
theorem jg_name {i : Nat} {x : Str} (nd : C.N.Nodup) (hi : C.N[i]? = some x) (hx : LocN C x) : JG C (.Name x pos) d [i] ρ (ρ.set i (some d)) := ⟨fun X o v σ H Q env hv k =>
  PGw (pg_name (by rw [o.N]; exact nd) (by rw [o.N]; exact hi) (.inl (by rw [o.sc]; exact hx)) (.inr (by rw [o.sc]; exact hx))) (k _ (env.set hv) (by rw [List.length_set]) (fun j hj => List.getElem?_set_ne (fun z => hj (by simp [z]))))⟩
theorem jg_nameC {i : Nat} {x : Str} (nd : C.N.Nodup) (hi : C.N[i]? = some x) (hx : C.sc.names.lookup x = some .cell) (hf : C.fn = true) : JG C (.Name x pos) d [i] ρ (ρ.set i (some d)) := ⟨fun X o v σ H Q env hv k =>
  PGw (pg_name (by rw [o.N]; exact nd) (by rw [o.N]; exact hi) (.inr (by rw [o.sc]; exact hx)) (.inl (o.fns hf x))) (k _ (env.set hv) (by rw [List.length_set]) (fun j hj => List.getElem?_set_ne (fun z => hj (by simp [z]))))⟩
/-- a pair, by the targets of its parts -/
theorem jg_pair {t1 t2 : Expr} {ws1 ws2 : List Nat} {kk : Nat} {ρ1 ρ2 : Rh} {d1 d2 : Dt} (hs : ∀ env, (assignEach [t1, t2] env).map (·.2) = [assign t1 env, assign t2 env]) (hs2 : ∀ env, (assignEach [t2] env).map (·.2) = [assign t2 env]) (hn : ∀ env, (assignEach [t1, t2] env).length = 2) (hst : ∀ env, (assignEach [t1, t2] env).findIdx? (·.1) = none)
    (h1 : JG C t1 d1 ws1 ρ ρ1) (h2 : JG C t2 d2 ws2 ρ1 ρ2) : JG C (.Tuple [t1, t2] kk pos) (.tup [d1, d2]) (ws1 ++ ws2) ρ ρ2 := ⟨fun X o v σ H Q env hv k => by
  refine PGw (pg_tup (n := 2) o.calm (pgs_cons pg_w (pgs_cons pg_w pgs_nil (by rw [hs2]; rfl)) (by rw [hs, hs2])) (hn _) (hst _)) ?_
  obtain ⟨a, xs, rfl, q1, q2⟩ := hv.tup_inv
  obtain ⟨v1, v2, rfl, q3, q4⟩ := dis2 q2
  refine ⟨a, [v1, v2], rfl, by rw [o.K]; exact q1, rfl, v1, [v2], rfl, ?_⟩
  refine h1.run X o v1 σ H _ env q3 fun σ1 en1 l1 w1 => ?_
  refine ⟨v2, [], rfl, ?_⟩
  refine h2.run X o v2 σ1 H _ en1 q4 fun σ2 en2 l2 w2 => ⟨rfl, ?_⟩
  exact k σ2 en2 (l2.trans l1) fun j hj => by rw [w2 j (fun z => hj (List.mem_append_right _ z)), w1 j (fun z => hj (List.mem_append_left _ z))]⟩
theorem jg_two {i j : Nat} {x y : Str} {px py : Pos} {kk : Nat} {d1 d2 : Dt} (nd : C.N.Nodup) (hi : C.N[i]? = some x) (hx : LocN C x) (hj : C.N[j]? = some y) (hy : LocN C y) : JG C (.Tuple [.Name x px, .Name y py] kk pos) (.tup [d1, d2]) [i, j] ρ ((ρ.set i (some d1)).set j (some d2)) := ⟨fun X o v σ H Q env hv k => by
  refine PGw (pg_tup (n := 2) o.calm (pgs_cons (pg_name (i := i) (by rw [o.N]; exact nd) (by rw [o.N]; exact hi) (.inl (by rw [o.sc]; exact hx)) (.inr (by rw [o.sc]; exact hx))) (pgs_cons (pg_name (i := j) (by rw [o.N]; exact nd) (by rw [o.N]; exact hj) (.inl (by rw [o.sc]; exact hy)) (.inr (by rw [o.sc]; exact hy))) pgs_nil))) ?_
  obtain ⟨a, xs, rfl, h1, h2⟩ := hv.tup_inv
  obtain ⟨v1, v2, rfl, q1, q2⟩ := dis2 h2
  refine ⟨a, [v1, v2], rfl, by rw [o.K]; exact h1, rfl, v1, [v2], rfl, v2, [], rfl, rfl, ?_⟩
  exact k _ ((env.set q1).set q2) (by rw [List.length_set, List.length_set]) fun m hm => by rw [List.getElem?_set_ne (fun z => hm (by simp [z])), List.getElem?_set_ne (fun z => hm (by simp [z]))]⟩
end
/-! ### what is walked -/
/-- all but what stands at ms is kept -/
def ExB (ms : List Addr) (H H' : Hp) : Prop := ∀ a o, H a = some o → a ∉ ms → H' a = some o
theorem ExB.of {ms : List Addr} {H H' : Hp} (e : Ex H H') : ExB ms H H' := fun a o h _ => e a o h
theorem ExB.ex {H H' : Hp} (e : ExB [] H H') : Ex H H' := fun a o h => e a o h (by simp)
theorem ExB.trans {ms : List Addr} {H H1 H2 : Hp} (a : ExB ms H H1) (b : ExB ms H1 H2) : ExB ms H H2 := fun x o h n => b x o (a x o h n) n
theorem exb_upd {ms : List Addr} {H H1 : Hp} {p : Addr} {o : HO} (a : ExB ms H H1) (hp : p ∈ ms) : ExB ms H (upd H1 p o) := fun x u h n => by
  rw [upd_ne (fun z => n (by rw [z]; exact hp))]
  exact a x u h n
theorem ExB.tx {K : PySem.W.Frag} {ms : List Addr} {H H' : Hp} (e : ExB ms H H') (hm : ∀ m ∈ ms, NoT (H m)) : Tx K H H' := fun a xs q => by
  exact e a _ q fun z => by have := hm a z; rw [q] at this; exact this
theorem ExB.l {K : PySem.W.Frag} {ms : List Addr} {H H' : Hp} {a : Addr} {xs : List V} (e : ExB ms H H') (hm : a ∉ ms) (q : SqL K H a xs) : SqL K H' a xs := by
  rcases q with (q | ⟨u, q⟩) | q
  · exact .inl (.inl (e a _ q hm))
  · exact .inl (.inr ⟨u, e a _ q hm⟩)
  · exact .inr q
/-- what is new to H may change -/
theorem ExB.back {ms : List Addr} {H H1 H2 : Hp} (e : Ex H H1) (b : ExB ms H1 H2) (hn : ∀ m ∈ ms, H m = none) : Ex H H2 := fun a o h => b a o (e a o h) fun z => by
  have := hn a z
  rw [h] at this
  cases this
/-- an iterator that gives the data ds, one by one; the lists at ls are walked -/
def ItD (K : PySem.W.Frag) (J : It) (H : Hp) (ls : List Addr) (ds : List Dt) : Prop := ∀ (ms : List Addr) (H' : Hp), ExB ms H H' → (∀ m ∈ ms, NoT (H m) ∧ m ∉ ls) → ∀ i : Nat,
  (∀ d, ds[i]? = some d → J.go i H' ∧ ∀ x H'', J.yld i H' x H'' → Ex H' H'' ∧ Di K H'' x d) ∧ (ds.length ≤ i → J.stop i H')
structure JI (C : Ct) (ρ : Rh) (H : Hp) (tg it : Expr) (ls : List Addr) (ds : List Dt) : Prop where
  run : ∀ X, C.Of X → ∃ wi : TI, PI X tg it wi ∧ ∀ (σ : St) (H1 : Hp), Ex H H1 → EnvD C.K H1 σ ρ → ∀ R : It → Hp → Prop, (∀ J H2 fs, Ex H1 H2 → (∀ l ∈ fs, H1 l = none) → ItD C.K J H2 (ls ++ fs) ds → R J H2) → wi σ H1 R
section
variable {C : Ct} {ρ : Rh} {H : Hp} {a b tg it : Expr} {pos : Pos}
theorem ji_tup {ds : List Dt} (h : JE C ρ H it (.tup ds)) : JI C ρ H tg it [] ds := ⟨fun X o => ⟨_, pi_tup pe_w, fun σ H1 e1 env R k => h.run X o o.N σ H1 e1 (by rw [o.K]; exact env) _ fun v H2 e2 q => by
  rw [o.K] at q
  obtain ⟨p, xs, rfl, h1, h2⟩ := q.tup_raw
  refine ⟨p, rfl, ⟨xs, st_of h1⟩, k _ H2 [] e2 (by simp) fun ms H' e' hm i => ?_⟩
  have tx : Tx C.K H2 H' := e'.tx fun m z => (hm m z).1
  have h1' : SqT X.K H' p xs := st_of (tx _ _ h1)
  refine ⟨fun d hd => ?_, fun hl => ⟨xs, h1', by rw [h2.length]; exact hl⟩⟩
  obtain ⟨v, hv, dv⟩ := h2.get hd
  refine ⟨⟨xs, v, h1', hv⟩, fun x H'' y => ?_⟩
  obtain ⟨rfl, hy⟩ := y
  have := (hy xs h1').symm.trans hv
  cases this
  exact ⟨Ex.refl _, dv.mono tx⟩⟩⟩
theorem it_list {K : PySem.W.Frag} {H : Hp} {l : Addr} {vs : List V} {ds : List Dt} {ls : List Addr} (hl : l ∈ ls) (h1 : SqL K H l vs) (h2 : Dis K H vs ds) (inj : ∀ H' ys, SqL K H' l vs → SqL K H' l ys → ys = vs) : ItD K (Itl K l) H ls ds := fun ms H' e' hm i => by
  have h1' : SqL K H' l vs := e'.l (fun z => (hm l z).2 hl) h1
  refine ⟨fun d hd => ?_, fun hn => ⟨vs, h1', by rw [h2.length]; exact hn⟩⟩
  obtain ⟨v, hv, dv⟩ := h2.get hd
  refine ⟨⟨vs, v, h1', hv⟩, fun x H'' y => ?_⟩
  obtain ⟨rfl, hy⟩ := y
  have := (hy vs h1').symm.trans hv
  cases this
  exact ⟨Ex.refl _, dv.mono (e'.tx fun m z => (hm m z).1)⟩
theorem ji_list {l : Addr} {vs : List V} {ds : List Dt} (h : JE C ρ H it (.ref l)) (h1 : SqL C.K H l vs) (h2 : Dis C.K H vs ds) : JI C ρ H tg it [l] ds := ⟨fun X o => ⟨_, pi_list pe_w, fun σ H1 e1 env R k => h.run X o o.N σ H1 e1 (by rw [o.K]; exact env) _ fun v H2 e2 q => by
  rw [q.ref_inv]
  have h3 : SqL C.K H2 l vs := ex_l (e1.trans e2) h1
  refine ⟨l, rfl, ⟨vs, by rw [o.K]; exact h3⟩, k _ H2 [] e2 (by simp) ?_⟩
  rw [o.K]
  intro ms H' e' hm i
  have h1' : SqL C.K H' l vs := e'.l (fun z => (hm l z).2 (by simp)) h3
  have h2' : Dis C.K H2 vs ds := h2.mono (ex_tx (e1.trans e2))
  refine ⟨fun d hd => ?_, fun hn => ⟨vs, h1', by rw [h2.length]; exact hn⟩⟩
  obtain ⟨v, hv, dv⟩ := h2'.get hd
  refine ⟨⟨vs, v, h1', hv⟩, fun x H'' y => ?_⟩
  obtain ⟨rfl, hy⟩ := y
  have := (hy vs h1').symm.trans hv
  cases this
  exact ⟨Ex.refl _, dv.mono (e'.tx fun m z => (hm m z).1)⟩⟩⟩
theorem ji_new {ds : List Dt} (h : JL C ρ H it ds) : JI C ρ H tg it [] ds := ⟨fun X o => ⟨_, pi_list pe_w, fun σ H1 e1 env R k => h.run X o o.N σ H1 e1 (by rw [o.K]; exact env) _ fun l vs H2 hl e2 h3 h2 => by
  rw [o.K] at h2
  refine ⟨l, rfl, ⟨vs, sq_of h3⟩, k _ H2 [l] e2 (by simp [hl]) ?_⟩
  rw [o.K]
  intro ms H' e' hm i
  have h1' : SqL C.K H' l vs := e'.l (fun z => (hm l z).2 (by simp)) (sq_of h3)
  refine ⟨fun d hd => ?_, fun hn => ⟨vs, h1', by rw [h2.length]; exact hn⟩⟩
  obtain ⟨v, hv, dv⟩ := h2.get hd
  refine ⟨⟨vs, v, h1', hv⟩, fun x H'' y => ?_⟩
  obtain ⟨rfl, hy⟩ := y
  have := (hy vs h1').symm.trans hv
  cases this
  exact ⟨Ex.refl _, dv.mono (e'.tx fun m z => (hm m z).1)⟩⟩⟩
/-- lo, lo + 1, .. -/
def rngD (lo : Int) (n : Nat) : List Dt := (List.range n).map fun (i : Nat) => Dt.int (lo + (i : Int))
theorem rngD_get {lo : Int} {n i : Nat} {d : Dt} (h : (rngD lo n)[i]? = some d) : i < n ∧ d = .int (lo + (i : Int)) := by
  unfold rngD at h
  rw [List.getElem?_map] at h
  by_cases hi : i < n
  · rw [List.getElem?_range hi] at h
    cases h
    exact ⟨hi, rfl⟩
  · rw [List.getElem?_eq_none (by simpa using hi)] at h
    cases h
theorem rngD_len (lo : Int) (n : Nat) : (rngD lo n).length = n := by unfold rngD; simp
theorem it_rng {K : PySem.W.Frag} {H : Hp} {lo : Int} {n : Nat} {ls : List Addr} : ItD K (Itr lo n) H ls (rngD lo n) := fun ms H' e' hm i => by
  refine ⟨fun d hd => ?_, fun hl => by rw [rngD_len] at hl; exact hl⟩
  obtain ⟨h1, rfl⟩ := rngD_get hd
  refine ⟨h1, fun x H'' y => ?_⟩
  obtain ⟨rfl, rfl⟩ := y
  exact ⟨Ex.refl _, .int _⟩
theorem ji_r1 {n : Int} {p : Pos} (hs : NoStar a []) (hg : GlN C "range") (hm : C.mg "range" = none) (hi : JE C ρ H a (.int n)) (hn : -(2 ^ 62) ≤ n ∧ n < 2 ^ 62) : JI C ρ H tg (.Call (Nm "range" p) [a] [] pos) [] (rngD 0 n.toNat) := ⟨fun X o => ⟨_, pi_range1 (o.gl hg) (o.fr hm) (pa_cons pe_w pa_nil (hs _)) (hs _), fun σ H1 e1 env R k => hi.run X o o.N σ H1 e1 (by rw [o.K]; exact env) _ fun v H2 e2 q => by
  rw [q.int_inv]
  exact ⟨n, rfl, hn.1, hn.2, k _ H2 [] e2 (by simp) it_rng⟩⟩⟩
theorem ji_r2 {m n : Int} {p : Pos} (hs : NoStar a [b]) (hs2 : NoStar b []) (hg : GlN C "range") (hm : C.mg "range" = none) (hi : JE C ρ H a (.int m)) (hj : JE C ρ H b (.int n)) (hn : -(2 ^ 62) ≤ m ∧ m < 2 ^ 62 ∧ -(2 ^ 62) ≤ n ∧ n < 2 ^ 62) : JI C ρ H tg (.Call (Nm "range" p) [a, b] [] pos) [] (rngD m (n - m).toNat) := ⟨fun X o => ⟨_, pi_range2 (o.gl hg) (o.fr hm) (pa_cons pe_w (pa_cons pe_w pa_nil (hs2 _)) (hs _)) (by rw [hs, hs2]; rfl) (hs2 _), fun σ H1 e1 env R k => hi.run X o o.N σ H1 e1 (by rw [o.K]; exact env) _ fun v H2 e2 q => hj.run X o o.N σ H2 (e1.trans e2) (by rw [o.K]; exact env.mono (ex_tx e2)) _ fun v2 H3 e3 q2 => by
  rw [q.int_inv, q2.int_inv]
  exact ⟨m, n, rfl, hn, k _ H3 [] (e2.trans e3) (by simp) it_rng⟩⟩⟩
end
/-! ### for -/
section
variable {C : Ct} {X : Cx} {ρ : Rh} {σ : St} {H : Hp} {a b c e tg it : Expr} {d : Dt} {pos : Pos} {D : Ends} {bd : List Stmt}
def NoFold (it : Expr) : Prop := ∀ env x, foldedSetIterable it env x = pure x
theorem for_core {ls : List Addr} {ds : List Dt} {J : It} (o : C.Of X) (itd : ItD C.K J H ls ds) (ms : List Addr) (hm : ∀ m ∈ ms, NoT (H m) ∧ m ∉ ls) (Pv : Nat → St → Hp → Prop) (g0 : Pv 0 σ H) (gx : ∀ i σ' H', Pv i σ' H' → ExB ms H H')
    (gs : ∀ i d σ' H' H1, ds[i]? = some d → Pv i σ' H' → Ex H' H1 → ∃ ws ρ1 ρ2, EnvD C.K H1 σ' ρ1 ∧ JG C tg d ws ρ1 ρ2 ∧ ∀ σ2, EnvD C.K H1 σ2 ρ2 → σ2.length = σ'.length → WB X bd { D with nx := Pv (i + 1), ct := Pv (i + 1), bk := D.nx } σ2 H1)
    (gd : ∀ σ' H', Pv ds.length σ' H' → D.nx σ' H') :
    ∃ W : Nat → Nat → St → Hp → Prop, (∃ m, W 0 m σ H) ∧ ∀ i m σ H, W i m σ H →
      (J.stop i H ∧ D.nx σ H) ∨ (J.go i H ∧ ∃ N : St → Hp → Prop, (∀ σ' H', N σ' H' → ∃ m', m' < m ∧ W (i + 1) m' σ' H') ∧ ∀ x H', J.yld i H x H' → WG X tg x σ H' fun σ2 H2 => WB X bd { D with nx := N, ct := N, bk := D.nx } σ2 H2) := by
  refine ⟨fun i m σ' H' => m = ds.length - i ∧ i ≤ ds.length ∧ Pv i σ' H', ⟨ds.length, by simp, Nat.zero_le _, g0⟩, ?_⟩
  rintro i m σ' H' ⟨rfl, hle, pv⟩
  obtain ⟨i1, i2⟩ := itd ms H' (gx i σ' H' pv) hm i
  by_cases hlt : i < ds.length
  · obtain ⟨go, yl⟩ := i1 ds[i] (by simp [hlt])
    refine .inr ⟨go, Pv (i + 1), fun σ2 H2 p2 => ⟨ds.length - (i + 1), by omega, rfl, hlt, p2⟩, fun x H'' y => ?_⟩
    obtain ⟨ex, dx⟩ := yl x H'' y
    obtain ⟨ws, ρ1, ρ2, en, jg, k⟩ := gs i ds[i] σ' H' H'' (by simp [hlt]) pv ex
    exact jg.run X o x σ' H'' _ en dx fun σ2 e2 l2 _ => k σ2 e2 l2
  · have e : i = ds.length := by omega
    subst e
    exact .inl ⟨i2 (Nat.le_refl _), gd σ' H' pv⟩
theorem ws_for {ls : List Addr} {ds : List Dt} (o : C.Of X) (pn : PassesOwn (model X.prog X.w) X.A X.env X.xe) (nf : NoFold it) (env : EnvD C.K H σ ρ) (hi : JI C ρ H tg it ls ds) (ms : List Addr) (hm : ∀ m ∈ ms, (H m).isSome = true ∧ NoT (H m) ∧ m ∉ ls)
    (hgo : ∀ H0, Ex H H0 → EnvD C.K H0 σ ρ → ∃ Pv : Nat → St → Hp → Prop, Pv 0 σ H0 ∧ (∀ i σ' H', Pv i σ' H' → ExB ms H0 H') ∧
      (∀ i d σ' H' H1, ds[i]? = some d → Pv i σ' H' → Ex H' H1 → ∃ ws ρ1 ρ2, EnvD C.K H1 σ' ρ1 ∧ JG C tg d ws ρ1 ρ2 ∧ ∀ σ2, EnvD C.K H1 σ2 ρ2 → σ2.length = σ'.length → WB X bd { D with nx := Pv (i + 1), ct := Pv (i + 1), bk := D.nx } σ2 H1) ∧
      (∀ σ' H', Pv ds.length σ' H' → D.nx σ' H')) : WS X (.For tg it bd [] pos) D σ H := by
  obtain ⟨wi, pi, hw⟩ := hi.run X o
  refine PSw (ps_for pn o.calm pi pg_w pb_w (nf _)) ?_
  refine hw σ H (Ex.refl H) env _ fun J H2 fs e2 hf it => ?_
  obtain ⟨Pv, g0, gx, gs, gd⟩ := hgo H2 e2 (env.mono (ex_tx e2))
  have hm2 : ∀ m ∈ ms, NoT (H2 m) ∧ m ∉ ls ++ fs := fun m z => by
    obtain ⟨h1, h2, h3⟩ := hm m z
    cases q : H m with
    | none => rw [q] at h1; cases h1
    | some u =>
      refine ⟨by rw [e2 m u q, ← q]; exact h2, fun y => ?_⟩
      rcases List.mem_append.mp y with y | y
      · exact h3 y
      · have := hf m y; rw [q] at this; cases this
  exact for_core o it ms hm2 Pv g0 gx gs gd
/-- for tg in range(e), e drawing from something that changes -/
theorem ws_forRM {a : Expr} {p pos' : Pos} (o : C.Of X) (pn : PassesOwn (model X.prog X.w) X.A X.env X.xe) (hs : NoStar a []) (hg : GlN C "range") (hm : C.mg "range" = none) (h : WE X a σ H fun v H1 => ∃ n : Int, v = .int n ∧ (-(2 ^ 62) ≤ n ∧ n < 2 ^ 62) ∧ ∃ (ms : List Addr) (Pv : Nat → St → Hp → Prop), (∀ m ∈ ms, NoT (H1 m)) ∧ Pv 0 σ H1 ∧ (∀ i σ' H', Pv i σ' H' → ExB ms H1 H') ∧
      (∀ i d σ' H' H2, (rngD 0 n.toNat)[i]? = some d → Pv i σ' H' → Ex H' H2 → ∃ ws ρ1 ρ2, EnvD C.K H2 σ' ρ1 ∧ JG C tg d ws ρ1 ρ2 ∧ ∀ σ2, EnvD C.K H2 σ2 ρ2 → σ2.length = σ'.length → WB X bd { D with nx := Pv (i + 1), ct := Pv (i + 1), bk := D.nx } σ2 H2) ∧
      (∀ σ' H', Pv n.toNat σ' H' → D.nx σ' H')) : WS X (.For tg (.Call (Nm "range" p) [a] [] pos') bd [] pos) D σ H := by
  refine PSw (ps_for pn o.calm (pi_range1 (o.gl hg) (o.fr hm) (pa_cons pe_w pa_nil (hs _)) (hs _)) pg_w pb_w) ?_
  intro pins s I
  refine thn (h pins s I) fun u s1 hu => ?_
  obtain ⟨v, H1, I1, rv, n, rfl, hn, ms, Pv, hms, g0, gx, gs, gd⟩ := hu
  refine ⟨.int n, H1, I1, rv, ?_⟩
  refine ⟨n, rfl, hn.1, hn.2, for_core (ls := []) (ds := rngD 0 n.toNat) o it_rng ms (fun m z => ⟨hms m z, by simp⟩) Pv g0 gx gs (by rw [rngD_len]; exact gd)⟩
end
/-! ### list comprehensions -/
/-- a comprehension's own scope, within a def of the scope sc -/
def rl (scope sc : Scope) : Scope := { scope with names := scope.names.map fun (n, k) => if (k == .free && sc.kind == .function && sc.names.lookup n == some .cell) then (n, .cell) else (n, k) }
theorem of_blk {C : Ct} {X : Cx} (o : C.Of X) (s : Shared) (H : Hp) (scope : Scope) (cl : List (Str × Addr)) (Cc : Addr) (fp : List Addr) : ({ C with sc := rl scope C.sc, fn := false } : Ct).Of (X.blk s H scope (compEnvC scope cl Cc X.env) fp) := by
  refine ⟨o.prog, o.w, o.K, o.mg, o.base, o.N, ?_, o.calm, o.room, fun z => nomatch z⟩
  show relabel scope X.env = rl scope C.sc
  rw [← o.sc] <;> rfl
section
variable {C : Ct} {ρ : Rh} {H : Hp} {elt tg it : Expr} {d : Dt} {pos : Pos}
/-- the slots of names forgotten -/
def wipeR (ρ : Rh) : List Nat → Rh
  | [] => ρ
  | v :: vs => (wipeR ρ vs).set v none
theorem env_wipe {K : PySem.W.Frag} {σ : St} (e : EnvD K H σ ρ) : ∀ vs : List Nat, EnvD K H (wipe σ vs) (wipeR ρ vs)
  | [] => e
  | v :: vs => (env_wipe e vs).drop
/-- which turns give, and what -/
def gvn (n : Nat) (f : Nat → Bool) (v : Nat → Dt) : List Dt := ((List.range n).filter f).map v
theorem gvn_yes {n : Nat} {f : Nat → Bool} {v : Nat → Dt} (h : f n = true) : gvn (n + 1) f v = gvn n f v ++ [v n] := by
  unfold gvn
  rw [List.range_succ, List.filter_append, List.map_append, List.filter_cons, if_pos h] <;> rfl
theorem gvn_no {n : Nat} {f : Nat → Bool} {v : Nat → Dt} (h : f n = false) : gvn (n + 1) f v = gvn n f v := by
  unfold gvn
  rw [List.range_succ, List.filter_append, List.map_append, List.filter_cons, if_neg (by rw [h]; decide)]
  show _ ++ [] = _
  rw [List.append_nil]
theorem gvn_len (n : Nat) (f : Nat → Bool) (v : Nat → Dt) : (gvn n f v).length ≤ n := by
  unfold gvn
  rw [List.length_map]
  have h := List.length_filter_le f (List.range n)
  rw [List.length_range] at h
  exact h
theorem gvn_all (n : Nat) (v : Nat → Dt) : gvn n (fun _ => true) v = (List.range n).map v := by
  unfold gvn
  rw [List.filter_eq_self.mpr (fun _ _ => rfl)]
/-- what the list holds behind i turns -/
def Cv (K : PySem.W.Frag) (H : Hp) (f : Nat → Bool) (v : Nat → Dt) (Dl : Addr) (i : Nat) (H' : Hp) : Prop := H Dl = none ∧ Ex H H' ∧ ∃ vs, H' Dl = some (.lst vs) ∧ Dis K H' vs (gvn i f v)
/-- the tests of a comprehension -/
def WTs (X : Cx) (ifs : List Expr) : TT := fun σ H Q => ∀ (pins : List (Addr × Obj)) (s : Shared), Inv X pins σ H s →
    wpAny (model X.prog X.w) X.A (forIn ifs true fun c r => if r = true then do let ok ← isTrue c X.env (eval c X.env); pure (ForInStep.yield ok) else pure (ForInStep.yield r)) (TP X pins σ Q) X.xe s
theorem pts_w {X : Cx} {ifs : List Expr} : PTs X ifs (WTs X ifs) := ⟨fun pins s _ _ _ I h => h pins s I⟩
theorem PTsw {X : Cx} {ifs : List Expr} {t : TT} (h : PTs X ifs t) {σ : St} {H : Hp} {Q : Bool → Hp → Prop} (q : t σ H Q) : WTs X ifs σ H Q := fun pins s I => h.run pins s σ H Q I q
structure JIfs (C : Ct) (ρ : Rh) (H : Hp) (ifs : List Expr) (b : Bool) : Prop where
  run : ∀ X, C.Of X → ∀ (σ : St) (H1 : Hp), Ex H H1 → EnvD C.K H1 σ ρ → ∀ Q : Bool → Hp → Prop, (∀ H2, Ex H1 H2 → Q b H2) → WTs X ifs σ H1 Q
theorem jifs_nil : JIfs C ρ H [] true := ⟨fun X o σ H1 _ _ Q k => PTsw pts_nil (k H1 (Ex.refl H1))⟩
theorem jifs_one {c : Expr} {b : Bool} (h : JT C ρ H c b) : JIfs C ρ H [c] b := ⟨fun X o σ H1 e1 env Q k => PTsw (pts_one pt_w) (h.run X o o.N σ H1 e1 (by rw [o.K]; exact env) Q k)⟩
theorem wipe_get {σ : St} {j : Nat} : ∀ vs : List Nat, (wipe σ vs)[j]? = if j ∈ vs ∧ j < σ.length then some none else σ[j]?
  | [] => by simp [wipe]
  | v :: vs => by
    unfold wipe
    rw [List.getElem?_set, wipe_length, wipe_get vs]
    by_cases h1 : v = j
    · subst h1
      by_cases h2 : v < σ.length
      · simp [h2]
      · simp [h2, List.getElem?_eq_none (Nat.le_of_not_lt h2)]
    · have h3 : ¬ j = v := fun z => h1 z.symm
      simp [h1, h3]
theorem wipe_eq {σ σ' : St} {ws vs : List Nat} (hl : σ'.length = (wipe σ vs).length) (h : ∀ j, j ∉ ws → σ'[j]? = (wipe σ vs)[j]?) (hw : ∀ j ∈ ws, j ∈ vs) : wipe σ' vs = wipe σ vs := by
  have hl' : σ'.length = σ.length := by rw [hl, wipe_length]
  refine List.ext_getElem? fun j => ?_
  rw [wipe_get, wipe_get, hl']
  by_cases hj : j ∈ vs ∧ j < σ.length
  · rw [if_pos hj, if_pos hj]
  · rw [if_neg hj, if_neg hj]
    by_cases hv : j ∈ vs
    · have : ¬ j < σ.length := fun z => hj ⟨hv, z⟩
      rw [List.getElem?_eq_none (by rw [hl']; omega), List.getElem?_eq_none (by omega)]
    · rw [h j (fun z => hv (hw j z)), wipe_get, if_neg hj]
/-- [elt for tg in it if ..] -/
theorem jl_lc {ls : List Addr} {ds : List Dt} {ifs : List Expr} {scope : Scope} {own : List (Str × Nat)} (f : Nat → Bool) (v : Nat → Dt) (nd : C.N.Nodup) (nf : NoFold it) (ok : BlkOk C.N C.sc scope own) (hi : JI C ρ H tg it ls ds) (hz : ds.length ≤ 100000)
    (ht : ∀ i d H1, Ex H H1 → ds[i]? = some d → ∃ ws ρ2, (∀ j ∈ ws, j ∈ own.map (·.2)) ∧ JG { C with sc := rl scope C.sc, fn := false } tg d ws (wipeR ρ (own.map (·.2))) ρ2 ∧ JIfs { C with sc := rl scope C.sc, fn := false } ρ2 H1 ifs (f i) ∧ (f i = true → JE { C with sc := rl scope C.sc, fn := false } ρ2 H1 elt (v i))) : JL C ρ H (.ListComp elt [⟨tg, it, ifs, 0⟩] scope pos) (gvn ds.length f v) := by
  refine ⟨fun X o hN σ H1 e1 env Q k => ?_⟩
  obtain ⟨wi, pi, hwi⟩ := hi.run X o
  refine PEw (pe_lc (own := own) (wi := wi) (g := fun x σ H Q => ∀ s Hh Cc cl fp, WG (X.blk s Hh scope (compEnvC scope cl Cc X.env) fp) tg x σ H Q) (tt := fun σ H Q => ∀ s Hh Cc cl fp, WTs (X.blk s Hh scope (compEnvC scope cl Cc X.env) fp) ifs σ H Q)
    (te := fun σ H Q => ∀ s Hh Cc cl fp, WE (X.blk s Hh scope (compEnvC scope cl Cc X.env) fp) elt σ H Q) o.calm (by rw [o.N]; exact nd) pi (by rw [o.N, o.sc]; exact ok) (fun s Hh Cc cl fp => ⟨fun pins s1 σ1 H2 v1 u Q1 I r h => h s Hh Cc cl fp pins s1 u I r⟩)
    (fun s Hh Cc cl fp => ⟨fun pins s1 σ1 H2 Q1 I h => h s Hh Cc cl fp pins s1 I⟩) (fun s Hh Cc cl fp => ⟨fun pins s1 σ1 H2 Q1 I h => h s Hh Cc cl fp pins s1 I⟩) (nf _)) ?_
  rw [o.K] at env
  refine hwi σ H1 e1 env _ fun J H2 fs e2 hf itd Dl hD => ?_
  refine ⟨fun i m H' => m = ds.length - i ∧ i ≤ ds.length ∧ Cv C.K H2 f v Dl i H', ⟨ds.length, by simp, Nat.zero_le _, hD, Ex.new hD, [], upd_same, ?_⟩, ?_⟩
  · unfold gvn; exact .nil
  rintro i m H' ⟨rfl, hle, h1, h2, vs, h3, h4⟩
  obtain ⟨i1, i2⟩ := itd [] H' (.of h2) (by simp) i
  by_cases hlt : i < ds.length
  · obtain ⟨go, yl⟩ := i1 ds[i] (by simp [hlt])
    refine .inr ⟨go, fun H' => Cv C.K H2 f v Dl (i + 1) H', fun H4 p4 => ⟨ds.length - (i + 1), by omega, rfl, hlt, p4⟩, fun x H'' y => ?_⟩
    obtain ⟨ex, dx⟩ := yl x H'' y
    have hex : Ex H H'' := ((e1.trans e2).trans h2).trans ex
    obtain ⟨ws, ρ2, hws, jg, jt, je⟩ := ht i ds[i] H'' hex (by simp [hlt])
    intro s Hh Cc cl fp
    refine jg.run _ (of_blk o s Hh scope cl Cc fp) x (wipe σ (own.map (·.2))) H'' _ (env_wipe (env.mono (ex_tx ((e2.trans h2).trans ex))) _) dx ?_
    intro σ2 en2 l2 w2
    refine ⟨wipe_eq l2 w2 hws, ?_⟩
    intro s' Hh' Cc' cl' fp'
    refine jt.run _ (of_blk o s' Hh' scope cl' Cc' fp') σ2 H'' (Ex.refl H'') en2 _ fun H5 e5 => ?_
    have hlen := gvn_len i f v
    cases hf : f i with
    | false =>
      refine iteF ⟨h1, (h2.trans ex).trans e5, vs, e5 _ _ (ex _ _ h3), ?_⟩
      rw [gvn_no hf]
      exact h4.mono (ex_tx (ex.trans e5))
    | true =>
      refine iteT ?_
      intro s6 Hh6 Cc6 cl6 fp6
      have o6 := of_blk o s6 Hh6 scope cl6 Cc6 fp6
      refine (je hf).run _ o6 o6.N σ2 H5 e5 (by rw [o6.K]; exact en2.mono (ex_tx e5)) _ fun y H6 e6 dy => ?_
      rw [o6.K] at dy
      have hD6 : H6 Dl = some (.lst vs) := e6 _ _ (e5 _ _ (ex _ _ h3))
      refine ⟨vs, hD6, sz_lt (by rw [h4.length]; omega), h1, Ex.mut (((h2.trans ex).trans e5).trans e6) h1, vs ++ [y], upd_same, ?_⟩
      rw [gvn_yes hf]
      have tx : Tx C.K H6 (upd H6 Dl (.lst (vs ++ [y]))) := tx_upd (by rw [hD6]; trivial)
      exact ((h4.mono (ex_tx ((ex.trans e5).trans e6))).mono tx).append (.cons (dy.mono tx) .nil)
  · have e : i = ds.length := by omega
    subst e
    exact .inl ⟨i2 (Nat.le_refl _), k Dl vs H' (fresh_back e2 h1) (e2.trans h2) h3 (by rw [o.K]; exact h4)⟩
/-- [elt for x in it] -/
theorem jl_map {ls : List Addr} {ds : List Dt} {scope : Scope} {x : Str} {j : Nat} {p : Pos} (g : Dt → Dt) (nd : C.N.Nodup) (nf : NoFold it) (ok : BlkOk C.N C.sc scope [(x, j)]) (hj : C.N[j]? = some x) (hx : LocN { C with sc := rl scope C.sc, fn := false } x) (hi : JI C ρ H (.Name x p) it ls ds) (hz : ds.length ≤ 100000)
    (he : ∀ d ∈ ds, ∀ H1, Ex H H1 → JE { C with sc := rl scope C.sc, fn := false } (ρ.set j (some d)) H1 elt (g d)) : JL C ρ H (.ListComp elt [⟨.Name x p, it, [], 0⟩] scope pos) (ds.map g) := by
  have h := jl_lc (pos := pos) (own := [(x, j)]) (ifs := []) (fun _ => true) (fun i => g (ds.getD i .non)) nd nf ok hi hz (fun i d H1 e1 hd => by
    refine ⟨_, _, ?_, jg_name (i := j) nd hj hx, jifs_nil, fun _ => ?_⟩
    · intro k hk; exact hk
    · have e : ds.getD i .non = d := by rw [List.getD_eq_getElem?_getD, hd]; rfl
      rw [e]
      show JE _ ((ρ.set j none).set j (some d)) H1 elt (g d)
      rw [List.set_set]
      exact he d (List.mem_of_getElem? hd) H1 e1)
  refine jl_is h ?_
  rw [gvn_all]
  refine List.ext_getElem? fun i => ?_
  rw [List.getElem?_map, List.getElem?_map]
  by_cases hi : i < ds.length
  · rw [List.getElem?_range hi, List.getElem?_eq_getElem hi, Option.map_some, Option.map_some, List.getD_eq_getElem?_getD, List.getElem?_eq_getElem hi]
    rfl
  · rw [List.getElem?_eq_none (by simpa using hi), List.getElem?_eq_none (by omega)]
    rfl
end
end Led

set_option maxRecDepth 100000
namespace Led
open PySem L2 Evl
section
variable {C : Ct} {X : Cx} {ρ : Rh} {σ : St} {H : Hp} {a b c e : Expr} {d : Dt} {pos : Pos} {D : Ends}
/-! ### tracked lists -/
theorem ws_append {l : Addr} {vs : List V} {p1 p2 : Pos} (o : C.Of X) (env : EnvD C.K H σ ρ) (hb : ∀ env, attributeBase a "append" env (eval a env) = eval a env) (hfew : ∀ env, ((backTo p2 (starEach [e] env)).all (fun x => !x.1) && (backToKw p2 (keywordEach [] env)).all (fun x => x.1.isSome) && decide ([e].length + ([] : List Keyword).length + (if ([] : List Keyword).isEmpty then 0 else 1) < 30)) = true) (hs : NoStar e []) (ha : JE C ρ H a (.ref l)) (hl : H l = some (.lst vs)) (hz : vs.length < 100000) (he : JE C ρ H e d)
    (hq : ∀ env, swapsWith (.Call (.Attribute a "append" p1) [e] [] p2) none pos.line env = pure false) (hline : (p1.endLine == p2.line) = true)
    (k : ∀ v H1, Ex H H1 → Di C.K H1 v d → EnvD C.K (upd H1 l (.lst (vs ++ [v]))) σ ρ → Tx C.K H1 (upd H1 l (.lst (vs ++ [v]))) → D.nx σ (upd H1 l (.lst (vs ++ [v])))) : WS X (.Expr (.Call (.Attribute a "append" p1) [e] [] p2) pos) D σ H := by
  refine PSw (ps_expr (pe_bm PySem.F.plainAttrs_list PySem.F.slot_list_append PySem.F.type_list_append mt_append pe_w (pa_cons pe_w pa_nil (hs _)) (hb _) (hfew _) hline (hs _) rfl) (hq _)) ?_
  refine ha.run X o o.N σ H (Ex.refl H) (by rw [o.K]; exact env) _ fun v0 H1 e1 q1 => ?_
  rw [q1.ref_inv]
  refine ⟨.inl ⟨rfl, vs, sq_of (e1 _ _ hl)⟩, ?_⟩
  refine he.run X o o.N σ H1 e1 (by rw [o.K]; exact env.mono (ex_tx e1)) _ fun v H2 e2 q2 => ?_
  rw [o.K] at q2
  have h2 : H2 l = some (.lst vs) := e2 _ _ (e1 _ _ hl)
  have tx : Tx C.K H2 (upd H2 l (.lst (vs ++ [v]))) := tx_upd (by rw [h2]; trivial)
  exact ⟨l, vs, v, rfl, rfl, h2, sz_lt hz, k v H2 (e1.trans e2) q2 (env.mono ((ex_tx (e1.trans e2)).trans tx)) tx⟩
theorem je_minL {l : Addr} {ns : List Int} {m : Int} {p : Pos} (hs : NoStar a []) (hg : GlN C "min") (hm : C.mg "min" = none) (ha : JE C ρ H a (.ref l)) (hl : SqL C.K H l (ns.map V.int)) (h1 : m ∈ ns) (h2 : ∀ y ∈ ns, m ≤ y) : JE C ρ H (.Call (Nm "min" p) [a] [] pos) (.int m) := ⟨fun X o hN σ H1 e1 env Q q =>
  PEw (pe_callB (cr_min o.calm) (o.gl hg) (o.fr hm) boot_min' (pa_cons pe_w pa_nil (hs _)) (by decide +kernel) (by decide +kernel) (hs _)) (ha.run X o hN σ H1 e1 env _ fun v H2 e2 q1 => by
    rw [q1.ref_inv]
    refine ⟨l, ns, rfl, by rw [o.K]; exact ex_l (e1.trans e2) hl, List.length_pos_of_mem h1, fun m' h3 h4 => ?_⟩
    have : m' = m := Int.le_antisymm (h4 m h1) (h2 m' h3)
    rw [this]
    exact q _ H2 e2 (.int m))⟩
theorem je_maxL {l : Addr} {ns : List Int} {m : Int} {p : Pos} (hs : NoStar a []) (hg : GlN C "max") (hm : C.mg "max" = none) (ha : JE C ρ H a (.ref l)) (hl : SqL C.K H l (ns.map V.int)) (h1 : m ∈ ns) (h2 : ∀ y ∈ ns, y ≤ m) : JE C ρ H (.Call (Nm "max" p) [a] [] pos) (.int m) := ⟨fun X o hN σ H1 e1 env Q q =>
  PEw (pe_callB (cr_max o.calm) (o.gl hg) (o.fr hm) boot_max' (pa_cons pe_w pa_nil (hs _)) (by decide +kernel) (by decide +kernel) (hs _)) (ha.run X o hN σ H1 e1 env _ fun v H2 e2 q1 => by
    rw [q1.ref_inv]
    refine ⟨l, ns, rfl, by rw [o.K]; exact ex_l (e1.trans e2) hl, List.length_pos_of_mem h1, fun m' h3 h4 => ?_⟩
    have : m' = m := Int.le_antisymm (h2 m' h3) (h4 m h1)
    rw [this]
    exact q _ H2 e2 (.int m))⟩
/-- xs + [..]: a tracked list and a new one -/
theorem jl_catN {l : Addr} {vs : List V} {ds es : List Dt} (ha : JE C ρ H a (.ref l)) (hl : H l = some (.lst vs)) (hd : Dis C.K H vs ds) (hb : JL C ρ H b es) (hz : ds.length + es.length ≤ 100000) : JL C ρ H (.BinOp a .Add b pos) (ds ++ es) := ⟨fun X o hN σ H1 e1 env Q q =>
  PEw (pe_op op_cat pe_w pe_w) (ha.run X o hN σ H1 e1 env _ fun v H2 e2 q1 => by
    rw [q1.ref_inv]
    refine hb.run X o hN σ H2 (e1.trans e2) (env.mono (ex_tx e2)) _ fun l2 ws H3 hl2 e3 h3 q3 => ?_
    have h1 : H3 l = some (.lst vs) := ((e1.trans e2).trans e3) _ _ hl
    have hd3 : Dis X.K H3 vs ds := by rw [o.K]; exact hd.mono (ex_tx ((e1.trans e2).trans e3))
    refine ⟨l, l2, vs, ws, rfl, rfl, h1, h3, sz_of (by rw [hd3.length, q3.length]; exact hz), fun p hp => q p _ _ (fresh_back (e2.trans e3) hp) ((e2.trans e3).trans (Ex.new hp)) upd_same ((hd3.append q3).mono (ex_tx (Ex.new hp)))⟩)⟩
/-- two new lists -/
theorem jl_catNN {ds es : List Dt} (ha : JL C ρ H a ds) (hb : JL C ρ H b es) (hz : ds.length + es.length ≤ 100000) : JL C ρ H (.BinOp a .Add b pos) (ds ++ es) := ⟨fun X o hN σ H1 e1 env Q q =>
  PEw (pe_op op_cat pe_w pe_w) (ha.run X o hN σ H1 e1 env _ fun l vs H2 hl e2 h2 q1 => by
    refine hb.run X o hN σ H2 (e1.trans e2) (env.mono (ex_tx e2)) _ fun l2 ws H3 hl2 e3 h3 q3 => ?_
    have hd3 : Dis X.K H3 vs ds := q1.mono (ex_tx e3)
    refine ⟨l, l2, vs, ws, rfl, rfl, e3 _ _ h2, h3, sz_of (by rw [hd3.length, q3.length]; exact hz), fun p hp => q p _ _ (fresh_back (e2.trans e3) hp) ((e2.trans e3).trans (Ex.new hp)) upd_same ((hd3.append q3).mono (ex_tx (Ex.new hp)))⟩)⟩
theorem ja_starT {es : List Expr} {p : Pos} {ds rs : List Dt} (hs : ∀ env, starEach (.Starred e p :: es) env = (true, eval e env) :: starEach es env) (h : JE C ρ H e (.tup ds)) (hr : JA C ρ H es rs) : JA C ρ H (.Starred e p :: es) (ds ++ rs) := ⟨fun X o hN σ H1 e1 env Q q =>
  PAw (StX.pa_star pe_w pa_w (hs _)) (h.run X o hN σ H1 e1 env _ fun v H2 e2 q1 => by
    obtain ⟨a, xs, rfl, h1, h2⟩ := q1.tup_inv
    exact ⟨a, xs, rfl, .inl h1, hr.run X o hN σ H2 (e1.trans e2) (env.mono (ex_tx e2)) _ fun vs H3 e3 q3 => q _ H3 (e2.trans e3) ((h2.mono (ex_tx e3)).append q3)⟩)⟩
theorem ja_starL {es : List Expr} {p : Pos} {l : Addr} {vs : List V} {ds rs : List Dt} (hs : ∀ env, starEach (.Starred e p :: es) env = (true, eval e env) :: starEach es env) (h : JE C ρ H e (.ref l)) (hl : SqL C.K H l vs) (hd : Dis C.K H vs ds) (hr : JA C ρ H es rs) : JA C ρ H (.Starred e p :: es) (ds ++ rs) := ⟨fun X o hN σ H1 e1 env Q q =>
  PAw (StX.pa_star pe_w pa_w (hs _)) (h.run X o hN σ H1 e1 env _ fun v H2 e2 q1 => by
    rw [q1.ref_inv]
    exact ⟨l, vs, rfl, .inr (by rw [o.K]; exact ex_l (e1.trans e2) hl), hr.run X o hN σ H2 (e1.trans e2) (env.mono (ex_tx e2)) _ fun ws H3 e3 q3 => q _ H3 (e2.trans e3) (.append (by rw [o.K]; exact hd.mono (ex_tx ((e1.trans e2).trans e3))) q3)⟩)⟩
end
end Led

set_option maxRecDepth 100000
namespace Led
open PySem L2 Evl
/-! ### == of data -/
mutual
def Dt.py : Dt → PyData
  | .non => .none
  | .bl b => .bool b
  | .int i => .int i
  | .str x => .str x
  | .tup l => .tuple (pyAll l)
  | .ref _ => .none
def pyAll : List Dt → List PyData
  | [] => []
  | d :: ds => d.py :: pyAll ds
end
def okD : Nat → Dt → Bool
  | _, .non => true
  | _, .bl _ => true
  | _, .int _ => true
  | _, .str x => PyData.canLay0 (.str x)
  | n + 1, .tup l => l.all (okD n)
  | 0, .tup _ => false
  | _, .ref _ => false
theorem okD_lay : ∀ (n : Nat) (d : Dt), okD n d = true → d.py.canLay0 = true ∧ d.py.depth ≤ n
  | n, .non, h => by cases n <;> exact ⟨rfl, Nat.zero_le _⟩
  | n, .bl _, h => by cases n <;> exact ⟨rfl, Nat.zero_le _⟩
  | n, .int _, h => by cases n <;> exact ⟨rfl, Nat.zero_le _⟩
  | n, .str x, h => by cases n <;> exact ⟨h, Nat.zero_le _⟩
  | 0, .tup _, h => by cases h
  | n + 1, .tup l, h => by
    have h' : l.all (okD n) = true := h
    have all : ∀ l : List Dt, l.all (okD n) = true → PyData.canLayAll0 (pyAll l) = true ∧ PyData.depthAll (pyAll l) ≤ n := by
      intro l
      induction l with
      | nil => intro _; exact ⟨rfl, Nat.zero_le _⟩
      | cons d ds ih =>
        intro hl
        rw [List.all_cons, Bool.and_eq_true] at hl
        obtain ⟨h1, h2⟩ := okD_lay n d hl.1
        obtain ⟨h3, h4⟩ := ih hl.2
        refine ⟨?_, ?_⟩
        · show (d.py.canLay0 && PyData.canLayAll0 (pyAll ds)) = true
          rw [h1, h3] <;> rfl
        · show max d.py.depth (PyData.depthAll (pyAll ds)) ≤ n
          omega
    obtain ⟨h1, h2⟩ := all l h'
    refine ⟨h1, ?_⟩
    show PyData.depthAll (pyAll l) + 1 ≤ n + 1
    omega
  | n, .ref _, h => by cases n <;> cases h
theorem okDs_lay {n : Nat} : ∀ (l : List Dt), l.all (okD n) = true → PyData.canLayAll0 (pyAll l) = true ∧ PyData.depthAll (pyAll l) ≤ n
  | [], _ => ⟨rfl, Nat.zero_le _⟩
  | d :: ds, hl => by
    rw [List.all_cons, Bool.and_eq_true] at hl
    obtain ⟨h1, h2⟩ := okD_lay n d hl.1
    obtain ⟨h3, h4⟩ := okDs_lay ds hl.2
    refine ⟨?_, ?_⟩
    · show (d.py.canLay0 && PyData.canLayAll0 (pyAll ds)) = true
      rw [h1, h3] <;> rfl
    · show max d.py.depth (PyData.depthAll (pyAll ds)) ≤ n
      omega
theorem shaped_of {d : Dt} {n : Nat} (h : okD n d = true) (hn : n ≤ 64) : SeqAt.shaped d.py = true := by
  obtain ⟨h1, h2⟩ := okD_lay n d h
  unfold SeqAt.shaped
  rw [h1, decide_eq_true (by omega)] <;> rfl
theorem shaped_list {l : List Dt} {n : Nat} (h : l.all (okD n) = true) (hn : n ≤ 60) : SeqAt.shaped (.list (pyAll l)) = true := by
  obtain ⟨h1, h2⟩ := okDs_lay l h
  unfold SeqAt.shaped
  rw [show PyData.canLay0 (.list (pyAll l)) = true from h1, decide_eq_true (by show PyData.depthAll (pyAll l) + 1 ≤ 64; omega)] <;> rfl
mutual
theorem di_dp {K : PySem.W.Frag} {H : Hp} : ∀ {v : V} {d : Dt} {n : Nat}, Di K H v d → okD n d = true → Dp K H v d.py
  | _, _, _, .non, _ => .non
  | _, _, _, .bl b, _ => .bl b
  | _, _, _, .int i, _ => .int i
  | _, _, _, .str x, _ => .str x
  | _, _, n, .ref a, h => by cases n <;> cases h
  | _, _, 0, .tup h hs, q => by cases q
  | _, _, n + 1, .tup h hs, q => .tup (st_of h) (dis_dp (n := n) hs q)
theorem dis_dp {K : PySem.W.Frag} {H : Hp} : ∀ {vs : List V} {ds : List Dt} {n : Nat}, Dis K H vs ds → ds.all (okD n) = true → DpAll K H vs (pyAll ds)
  | _, _, _, .nil, _ => .nil
  | _, _, n, .cons h hs, q => by
    rw [List.all_cons, Bool.and_eq_true] at q
    exact .cons (di_dp (n := n) h q.1) (dis_dp (n := n) hs q.2)
end
def Dt.eq (a b : Dt) : Bool := PyData.eqv a.py b.py
def eqDs (a b : List Dt) : Bool := PyData.eqvAll (pyAll a) (pyAll b)
section
variable {C : Ct} {ρ : Rh} {H : Hp} {a b : Expr} {d e : Dt} {pos : Pos}
theorem je_eqD (n : Nat) (hn : n ≤ 60) (ha : JE C ρ H a d) (hb : JE C ρ H b e) (h1 : okD n d = true) (h2 : okD n e = true) : JE C ρ H (.Compare a [.Eq] [b] pos) (.bl (d.eq e)) := ⟨fun X o =>
  de_op2 (t := fun _ _ _ => WE X a) (pe_cmpR (op_eqD o.room.units) pe_w pe_w (nomark _)) (ha.run X o) (hb.run X o) fun v1 v2 H1 _ q1 q2 Q k =>
    ⟨_, _, di_dp q1 h1, di_dp q2 h2, shaped_of h1 (by omega), shaped_of h2 (by omega), k _ H1 (Ex.refl H1) (.bl _)⟩⟩
theorem je_neD (n : Nat) (hn : n ≤ 60) (ha : JE C ρ H a d) (hb : JE C ρ H b e) (h1 : okD n d = true) (h2 : okD n e = true) : JE C ρ H (.Compare a [.NotEq] [b] pos) (.bl (!d.eq e)) := ⟨fun X o =>
  de_op2 (t := fun _ _ _ => WE X a) (pe_cmpR (op_neD o.room.units) pe_w pe_w (nomark _)) (ha.run X o) (hb.run X o) fun v1 v2 H1 _ q1 q2 Q k =>
    ⟨_, _, di_dp q1 h1, di_dp q2 h2, shaped_of h1 (by omega), shaped_of h2 (by omega), k _ H1 (Ex.refl H1) (.bl _)⟩⟩
theorem jt_eqD (n : Nat) (hn : n ≤ 60) (ha : JE C ρ H a d) (hb : JE C ρ H b e) (h1 : okD n d = true) (h2 : okD n e = true) : JT C ρ H (.Compare a [.Eq] [b] pos) (d.eq e) := ⟨fun X o => dt_cmp (op_eqD o.room.units) (nomark _) fun σ H1 Q hN e1 env k =>
  ha.run X o hN σ H1 e1 env _ fun v1 H2 e2 q1 => hb.run X o hN σ H2 (e1.trans e2) (env.mono (ex_tx e2)) _ fun v2 H3 e3 q2 =>
    ⟨_, _, di_dp (q1.mono (ex_tx e3)) h1, di_dp q2 h2, shaped_of h1 (by omega), shaped_of h2 (by omega), k H3 (e2.trans e3)⟩⟩
theorem jt_neD (n : Nat) (hn : n ≤ 60) (ha : JE C ρ H a d) (hb : JE C ρ H b e) (h1 : okD n d = true) (h2 : okD n e = true) : JT C ρ H (.Compare a [.NotEq] [b] pos) (!d.eq e) := ⟨fun X o => dt_cmp (op_neD o.room.units) (nomark _) fun σ H1 Q hN e1 env k =>
  ha.run X o hN σ H1 e1 env _ fun v1 H2 e2 q1 => hb.run X o hN σ H2 (e1.trans e2) (env.mono (ex_tx e2)) _ fun v2 H3 e3 q2 =>
    ⟨_, _, di_dp (q1.mono (ex_tx e3)) h1, di_dp q2 h2, shaped_of h1 (by omega), shaped_of h2 (by omega), k H3 (e2.trans e3)⟩⟩
/-- two lists that are made on the spot -/
theorem jt_neLL {ds es : List Dt} (n : Nat) (hn : n ≤ 60) (ha : JL C ρ H a ds) (hb : JL C ρ H b es) (h1 : ds.all (okD n) = true) (h2 : es.all (okD n) = true) : JT C ρ H (.Compare a [.NotEq] [b] pos) (!eqDs ds es) := ⟨fun X o => dt_cmp (op_neD o.room.units) (nomark _) fun σ H1 Q hN e1 env k =>
  ha.run X o hN σ H1 e1 env _ fun l vs H2 hl e2 hv q1 => hb.run X o hN σ H2 (e1.trans e2) (env.mono (ex_tx e2)) _ fun l2 ws H3 hl2 e3 hw q2 =>
    ⟨_, _, .lst (sq_of (e3 _ _ hv)) (dis_dp (n := n) (q1.mono (ex_tx e3)) h1), .lst (sq_of hw) (dis_dp (n := n) q2 h2), shaped_list h1 hn, shaped_list h2 hn, k H3 (e2.trans e3)⟩⟩
end
theorem notT {b : Bool} (h : (!b) = true) : b = false := by cases b <;> simp_all
theorem notF {b : Bool} (h : (!b) = false) : b = true := by cases b <;> simp_all
/-! what == says -/
theorem eq_int (i j : Int) : (Dt.int i).eq (.int j) = decide (i = j) := by
  show (i == j) = decide (i = j)
  rfl
theorem eqv_self {n : Nat} {d : Dt} (h : okD n d = true) : d.eq d = true := SeqAt.eqv_refl _ (okD_lay n d h).1
theorem eqvAll_self {n : Nat} : ∀ {l : List Dt}, l.all (okD n) = true → eqDs l l = true
  | [], _ => rfl
  | d :: ds, h => by
    rw [List.all_cons, Bool.and_eq_true] at h
    show (PyData.eqv d.py d.py && PyData.eqvAll (pyAll ds) (pyAll ds)) = true
    rw [show PyData.eqv d.py d.py = true from eqv_self h.1, show PyData.eqvAll (pyAll ds) (pyAll ds) = true from eqvAll_self h.2]
    rfl
end Led

set_option maxRecDepth 100000
set_option maxHeartbeats 1000000
/-! ### errors with an __init__ of their own over LineError.__init__ -/
namespace L2
open PySem PySem.Spec PyProof.Rows
section
variable {X : Cx} {o e : Expr} {es : List Expr} {to te : TE} {ta : TA} {f : Str} {p p' p1 p2 pos : Pos}
/-- B.__init__(self, ..), B an own class over ValueError -/
theorem pe_leinit {x : Str} {CL : Addr} {pl : Sem Bool} (hg : Gl X x) (hm : X.mg x = some (.ref CL)) (hd : (x == ("__debug__" : Str)) = false) (hsp : PySem.W.specialIn X.K (.ref CL) "__getattribute__" = some (some (.builtin "type.__getattribute__"))) (hrd : PySem.W.readsIn X.K CL (.type "type") = true)
    (vV : PySem.W.findCls X.K (.ref CL) (.type "type") "__init__" = some (.val (.builtin "ValueError.__init__"))) (ha : PA X (e :: es) ta)
    (hc : eval (.Call (.Attribute (.Name x p1) "__init__" p2) (e :: es) [] pos) X.env = (do
      let ov ← eval (.Name x p1) X.env
      standAt p2.atName
      let (f, first) ← holding [ov] (getMethod ov "__init__" pl)
      callWith pos f first (backTo pos (starEach (e :: es) X.env)) (backToKw pos (keywordEach [] X.env))))
    (he : starEach (e :: es) X.env = (false, eval e X.env) :: starEach es X.env) (hpl : (backTo pos (starEach es X.env)).any (·.1) = false) :
    PE X (.Call (.Attribute (.Name x p1) "__init__" p2) (e :: es) [] pos) (tVeI X.K ta) := by
  refine ⟨fun pins s σ H Q I h => ?_⟩
  refine PySem.W.methodCall_KW (ld_glob I hg hm ?_ hd) hc
  refine PySem.W.method_cls I.kIn hsp (PySem.W.cls_value I.kIn hrd vV (by decide +kernel) ?_)
  show wpAny _ _ (callWith pos (Value.builtin "ValueError.__init__") [] (backTo pos (starEach (e :: es) X.env)) []) _ _ _
  refine PyProof.Rows.callWith_method1 (thn (ha.run pos pins _ σ H _ (I.tok _) h) fun us s1 ⟨vs, H1, I1, r1, a, C, ws, ev, hl, T, ea, q⟩ => ?_) he hpl
  subst ev
  cases r1 with
  | @cons _ u0 _ ur ra rw' =>
    obtain rfl : u0 = Value.ref a := ra
    have hlen : ur.length ≤ sizeLine := by
      rw [← Paired.length rw', sizeLine_eq]
      omega
    exact oinit_ok T I1 ea hlen fun s' J => ⟨.non, H1, J, rfl, q⟩
end
end L2
namespace Led
open PySem L2 Evl
/-- what the top has left of LineError -/
structure LineE (K : PySem.W.Frag) (mg : Str → Option Value) (CL : Addr) : Prop where
  gm : mg "LineError" = some (.ref CL)
  sp : PySem.W.specialIn K (.ref CL) "__getattribute__" = some (some (.builtin "type.__getattribute__"))
  rd : PySem.W.readsIn K CL (.type "type") = true
  vV : PySem.W.findCls K (.ref CL) (.type "type") "__init__" = some (.val (.builtin "ValueError.__init__"))
/-- the promise of X.__init__(self, f) -/
def spOI (K : PySem.W.Frag) (fl : Str) : Sp := fun vs H Q _ => ∃ (a C : Addr) (n : Int), vs = [.ref a, .int n] ∧ n.natAbs.log2 < 1920 ∧ OexC K C ∧ PySem.W.findIn K (.ref C) fl = some none ∧ H a = some (exo a C none) ∧
  ∀ dx H1, Ex H H1 → H1 dx = none → dx ≠ a → Q .non (upd (upd H1 dx (exd dx [(fl, .int n)])) a (exo a C (some dx)))
section
variable {C : Ct} {X : Cx} {ρ : Rh} {σ : St} {H : Hp} {a b c e : Expr} {d : Dt} {pos : Pos} {D : Ends}
/-- self.f = e of an error that is being made -/
theorem ws_ost {p' : Pos} {fl : Str} {ad CI : Addr} (o : C.Of X) (env : EnvD C.K H σ ρ) (hs : ∀ env, swapsWith e (some (.Attribute a fl p')) pos.line env = pure false) (ha : JE C ρ H a (.ref ad)) (he : JE C ρ H e d) (T : OexC C.K CI) (hno : PySem.W.findIn C.K (.ref CI) fl = some none) (hx : H ad = some (exo ad CI none))
    (k : ∀ v dx H1, Ex H H1 → Di C.K H1 v d → H1 dx = none → dx ≠ ad → D.nx σ (upd (upd H1 dx (exd dx [(fl, v)])) ad (exo ad CI (some dx)))) : WS X (.Assign [.Attribute a fl p'] e pos) D σ H :=
  PSw (ps_ost pe_w pe_w (hs _)) (he.run X o o.N σ H (Ex.refl H) (by rw [o.K]; exact env) _ fun v H1 e1 q1 => ha.run X o o.N σ H1 e1 (by rw [o.K]; exact env.mono (ex_tx e1)) _ fun u H2 e2 q2 => by
    rw [o.K] at q1
    rw [q2.ref_inv]
    exact ⟨ad, CI, rfl, by rw [o.K]; exact T, by rw [o.K]; exact hno, .inl ⟨(e1.trans e2) _ _ hx, fun dx h1 h2 => k v dx H2 (e1.trans e2) (q1.mono (ex_tx e2)) h1 h2⟩⟩)
/-- LineError.__init__(self, text) as a statement -/
theorem ws_leinit {p1 p2 p3 : Pos} {CL ad CI : Addr} {t : Expr} (o : C.Of X) (env : EnvD C.K H σ ρ) (L : LineE C.K C.mg CL) (hg : GlN C "LineError") (hs1 : NoStar a [t]) (hpl : NoStars [t]) (ha : JA C ρ H [a, t] [.ref ad, d]) (T : OexC C.K CI) (hx : H ad = some (exo ad CI none))
    {pl : Env → Sem Bool} (hc : ∀ env, eval (.Call (.Attribute (.Name "LineError" p1) "__init__" p2) [a, t] [] p3) env = (do
      let ov ← eval (.Name "LineError" p1) env
      standAt p2.atName
      let (f, first) ← holding [ov] (getMethod ov "__init__" (pl env))
      callWith p3 f first (backTo p3 (starEach [a, t] env)) (backToKw p3 (keywordEach [] env))))
    (hq : ∀ env, swapsWith (.Call (.Attribute (.Name "LineError" p1) "__init__" p2) [a, t] [] p3) none pos.line env = pure false)
    (k : ∀ H1, Ex H H1 → EnvD C.K H1 σ ρ → D.nx σ H1) : WS X (.Expr (.Call (.Attribute (.Name "LineError" p1) "__init__" p2) [a, t] [] p3) pos) D σ H := by
  refine PSw (ps_expr (pe_leinit (o.gl hg) (o.fr L.gm) (by decide +kernel) (by rw [o.K]; exact L.sp) (by rw [o.K]; exact L.rd) (by rw [o.K]; exact L.vV) pa_w (hc _) (hs1 _) (hpl _ _)) (hq _)) ?_
  refine ha.run X o o.N σ H (Ex.refl H) (by rw [o.K]; exact env) _ fun vs H1 e1 q => ?_
  obtain ⟨v, w, rfl, h1, h2⟩ := dis2 q
  rw [h1.ref_inv]
  exact ⟨ad, CI, [w], rfl, Nat.le_of_ble_eq_true rfl, by rw [o.K]; exact T, e1 _ _ hx, k H1 e1 (env.mono (ex_tx e1))⟩
/-- f'..{n}' -/
theorem je_fstr {t : Str} {j : Nat} {p1 p2 : Pos} {n : Int} (ht : t.length ≤ 1000) (hn : n.natAbs.log2 < 1920) (h : JE C ρ H e (.int n)) : JE C ρ H (.JoinedStr [.Constant (.str t) j p1, .FormattedValue e (-1) none p2] pos) (.str (Str.empty ++ t ++ (toString n : String))) := ⟨fun X o hN σ H1 e1 env Q q =>
  PEw (pe_joined (.cons pe_str (.cons (pe_fmt pe_w) .nil))) (by
    refine ⟨t, rfl, ?_, h.run X o hN σ H1 e1 env _ fun v H2 e2 q1 => ?_⟩
    · rw [Str.length_append]
      show 0 + t.length ≤ _
      exact sz_of (by omega)
    · rw [q1.int_inv]
      refine .inr ⟨n, rfl, hn, _, rfl, ?_, q _ H2 e2 (.str _)⟩
      have e := int_text_length_le (k := 1920) (by decide) hn
      rw [Str.length_append, Str.length_append, ofString_length]
      show 0 + t.length + _ ≤ _
      exact sz_of (by omega))⟩
/-- an error class of the program: its class object CI, its one field -/
structure ErrI (P : Program) (w : World) (K : PySem.W.Frag) (mg : Str → Option Value) (base : Heap) (k : Nat) (x fl : Str) (CI : Addr) : Prop where
  oex : OexC K CI
  gm : mg x = some (.ref CI)
  nof : PySem.W.findIn K (.ref CI) fl = some none
  ini : ∃ fI fd ps, PySem.W.findIn K (.ref CI) "__init__" = some (some (.ref fI)) ∧ PySem.W.typeIn K (.ref fI) = some (.type "function") ∧ FnOk P w K mg base CX0 k fI fd ps (spOI K fl) ∧ Binds K fd ps []
theorem ErrI.to {o : Unit} {k : Nat} {x fl : Str} {CI : Addr} (ox : C.Of X) (T : ErrI C.P C.w C.K C.mg C.base k x fl CI) : ErrI X.prog X.w X.K X.mg X.base k x fl CI := by
  rw [ox.prog, ox.w, ox.K, ox.mg, ox.base]; exact T
/-- raise X(n) -/
theorem ws_raiseI {W : WX} {k : Nat} {x fl : Str} {CI : Addr} {n : Int} {p1 p2 : Pos} (o : C.Of X) (env : EnvD C.K H σ ρ) (tk : Takes X W) (T : ErrI C.P C.w C.K C.mg C.base k x fl CI) (hk : k + 1 ≤ C.lv) (hg : GlN C x) (hd : (x == ("__debug__" : Str)) = false) (hs : NoStar e []) (he : JE C ρ H e (.int n)) (hn : n.natAbs.log2 < 1920)
    (q : ∀ dd H1, Ex H H1 → H dd = none → H1 dd = some (.xd [(fl, .int n)]) → W (.ref CI) (some dd) σ H1) : WS X (.Raise (some (.Call (.Name x p1) [e] [] p2)) none pos) D σ H := by
  have T' := T.to (o := ()) o
  obtain ⟨fI, fd, ps, i1, i2, G, b⟩ := T'.ini
  refine PSw (ps_raise o.calm tk (pmk_oex T'.oex i1 i2 G (o.room.mono hk) b .nil pass0 (o.gl hg) T'.gm (pa_cons pe_w pa_nil (hs _)) hd (hs _))) ?_
  refine he.run X o o.N σ H (Ex.refl H) (by rw [o.K]; exact env) _ fun v H1 e1 qv => ?_
  rw [qv.int_inv]
  refine ⟨Nat.le_of_ble_eq_true rfl, fun a ha => ?_⟩
  refine ⟨a, CI, n, rfl, hn, T'.oex, T'.nof, upd_same, fun dx H2 e2 hdx hne => ⟨rfl, dx, [(fl, .int n)], upd_same, ?_, fresh_back ((Ex.new ha).trans e2) hdx, ?_⟩⟩
  · rw [upd_ne hne, upd_same]
  · refine q dx _ (fun b u hb => ?_) (fresh_back (e1.trans ((Ex.new ha).trans e2)) hdx) upd_same
    have hb1 : H1 b = some u := e1 _ _ hb
    have nba : b ≠ a := ne_of_none hb1 ha
    have hb2 : H2 b = some u := e2 _ _ (by rw [upd_ne nba]; exact hb1)
    have nbd : b ≠ dx := ne_of_none hb2 hdx
    rw [upd_ne nbd, del_ne nba, upd_ne nba, upd_ne nbd]
    exact hb2
/-! ### try: body except X: suite -/
theorem of_tr {pn : List (Addr × Obj)} {xe : Value → Shared → Prop} (o : C.Of X) : C.Of (X.tr pn xe) := ⟨o.prog, o.w, o.K, o.mg, o.base, o.N, o.sc, o.calm, o.room, o.fns⟩
end
/-! ### a def that may raise -/
section
variable {P : Program} {w : World} {K : PySem.W.Frag} {mg : Str → Option Value} {base : Heap}
theorem fn_rs {x qual : Str} {st : Stmt} {f : Addr} {fd : FuncData} {N ps : List Str} {k : Nat} {sp : Sp} (F : Fun K x qual st f fd) (S : FnScope N ps (defScope st)) (len : ∀ vs H Q E, sp vs H Q E → vs.length = ps.length)
    (body : ∀ (X : Cx) (vs : List V) (H : Hp) (Q : VK) (E : XK), (Ct.mk P w K mg base N (defScope st) k true).Of X → PassesOwn (model X.prog X.w) X.A X.env X.xe → X.stack = X.env :: X.outer → X.env.frame = some X.env.locals → Takes X (fun cls d _ H' => E cls d H') → sp vs H Q E →
      WB X (defBody st) { nx := fun _ H' => Q .non H', rt := Q } (L2.start N vs) H) : FnOk P w K mg base (L2.CX P w) (k + 1) f fd ps sp := by
  refine F.okX S len (fun cdv A outer s H vs Q E hr h => ?_)
  exact ⟨_, pb_w, body _ vs H Q E (of_cx hr) (passes_of rfl) rfl rfl (takes_of rfl rfl rfl rfl) h⟩
/-- .. that raises nothing, any promise -/
theorem fn_sp {x qual : Str} {st : Stmt} {f : Addr} {fd : FuncData} {N ps : List Str} {k : Nat} {sp : Sp} (F : Fun K x qual st f fd) (S : FnScope N ps (defScope st)) (len : ∀ vs H Q E, sp vs H Q E → vs.length = ps.length)
    (body : ∀ (X : Cx) (vs : List V) (H : Hp) (Q : VK) (E : XK), (Ct.mk P w K mg base N (defScope st) k true).Of X → PassesOwn (model X.prog X.w) X.A X.env X.xe → X.stack = X.env :: X.outer → X.env.frame = some X.env.locals → Takes X (fun _ _ _ _ => False) → sp vs H Q E →
      WB X (defBody st) { nx := fun _ H' => Q .non H', rt := Q } (L2.start N vs) H) : FnOk P w K mg base CX0 (k + 1) f fd ps sp := by
  refine F.ok S len (fun cdv A outer s H vs Q E hr h => ?_)
  exact ⟨_, pb_w, body _ vs H Q E (of_nox hr) PassesOwn.never rfl rfl takes0 h⟩
end
end Led

set_option maxRecDepth 100000
set_option maxHeartbeats 1000000
/-! ### enumerate(tuple) -/
namespace PySem
theorem led_enumerate_new {v : Value} {o : Obj} {H : Heap → Prop} (B : Begins v o H) :
    Meets (Builtin.«enumerate.__new__» ⟨[.type "enumerate", v], []⟩) (fun _ R s => H s.heap ∧
      R (.ok (.ret (.ref (s.heap.push o).objs.size))) { s with heap := (s.heap.push o).push { cls := .type "enumerate", data := .fields #[.none, .bool false, .ref s.heap.objs.size, rawInt 0, .none, .none] } }) :=
  .of_wp fun prog w A R s h => by
    obtain ⟨hp, g, d, tk, os⟩ := s; obtain ⟨h1, h⟩ := h
    have hsub := sub_enumerate
    have q1 : ∀ {A' : Around} {E : Value → Shared → Prop} {Q : Value → Shared → Prop}, Q (.ref hp.objs.size) ⟨hp.push o, g, d, tk, os⟩ → wpAny (model prog w) A' (pyIter v) Q E ⟨hp, g, d, tk, os⟩ :=
      fun q => B.iter prog w _ _ ⟨hp, g, d, tk, os⟩ _ h1 q
    wp_walk using q1
    refine wpAny_stack_any fun st => wpAny_pure ?_
    split
    · rename_i c _ _ _ _ _
      cases (c == Value.type "enumerate")
      · wp_walk using q1
        exact ⟨_, rfl, h⟩
      · wp_walk using q1
        exact ⟨_, rfl, h⟩
    · wp_walk using q1
      exact ⟨_, rfl, h⟩
section
variable {prog : Program} {w : World} {A : Around} {E : Value → Shared → Prop} {s : Shared}
theorem led_enum_begins {v : Value} {o : Obj} {H : Heap → Prop} {Q : Value → Shared → Prop} (B : Begins v o H) (h1 : H s.heap)
    (h : ∀ h', IsEnum h' (s.heap.objs.size + 1) s.heap.objs.size 0 .none → h'.get? s.heap.objs.size = some o → h'.objs.size = s.heap.objs.size + 2 →
      (∀ b o, s.heap.get? b = some o → h'.get? b = some o) → Q (.ref (s.heap.objs.size + 1)) { s with heap := h' }) :
    wpAny (model prog w) A (call (.type "enumerate") [v]) Q E s := by
  refine callType_new F.called_enumerate (by decide) (F.typeCall_enumerate_1 _) (F.newCall_enumerate_1 _) (fun obj => F.args_object_init_2 obj _) F.entry_enumerate_new
    (led_enumerate_new B) ⟨h1, ?_⟩
  have hz : (s.heap.push o).objs.size = s.heap.objs.size + 1 := Heap.size_push ..
  show _ ∧ _
  rw [hz]
  have he : IsEnum ((s.heap.push o).push { cls := .type "enumerate", data := .fields #[.none, .bool false, .ref s.heap.objs.size, rawInt 0, .none, .none] }) (s.heap.objs.size + 1) s.heap.objs.size 0 .none := by
    have := Heap.get?_push_size (s.heap.push o) (o := { cls := .type "enumerate", data := .fields #[.none, .bool false, .ref s.heap.objs.size, rawInt 0, .none, .none] }) rfl
    rw [hz] at this; exact this
  refine ⟨⟨_, he, rfl⟩, h _ he (Heap.get?_push_of_some _ (Heap.get?_push_size _ B.free)) (by rw [Heap.size_push, hz]) fun b o x => Heap.get?_push_of_some _ (Heap.get?_push_of_some _ x)⟩
end
end PySem
namespace L2
open PySem PySem.Spec PyProof.Rows
/-- the tuple at a as it stands at each turn, each item in a new pair -/
def IteT (a : Addr) : It :=
  ⟨fun i H => ∃ (xs : List V) (x : V), H a = some (.tup xs) ∧ xs[i]? = some x, fun i H v H' => ∃ T x, v = .ref T ∧ H T = none ∧ H' = upd H T (.tup [.int (i : Nat), x]) ∧ ∀ xs, H a = some (.tup xs) → xs[i]? = some x, fun i H => ∃ xs : List V, H a = some (.tup xs) ∧ xs.length ≤ i⟩
theorem turn_enumT {P : Program} {w : World} {K : PySem.W.Frag} {elts : List Expr} {kk : Nat} {tpos : Pos} (a e it : Addr) :
    Turn P w K (.Tuple elts kk tpos) (IteT a) [e, it] e (fun i h => (∃ old, IsEnum h e it ((i : Nat) : Int) old) ∧ h.IsTupleIter it a i ∧ e ≠ it) where
  mem := by simp
  obj := fun i h st b hb => by
    obtain ⟨⟨old, he⟩, ⟨o, ho, hc, hd⟩, _⟩ := st
    have e' : b = e ∨ b = it := by simpa using hb
    rcases e' with z | z
    · rw [z]; exact ⟨_, he, fun v q => nomatch q⟩
    · rw [z]; exact ⟨o, ho, fun v q => by rw [hd] at q; cases q⟩
  keep := fun i h h' st k => let ⟨⟨old, he⟩, hi, hne⟩ := st; ⟨⟨old, k e (by simp) _ he⟩, hi.at fun o q => k it (by simp) o q, hne⟩
  item := by
    intro X hP hw hK hc i pins s σ H E I hf st hg
    subst hP hw hK
    obtain ⟨⟨old, he⟩, hit, hne⟩ := st
    obtain ⟨xs, x, hq, hx⟩ := hg
    obtain ⟨hz, its, rv, p⟩ := (show ObjOk X.prog X.w H s.heap a (.tup xs) from I.hok a _ hq)
    obtain ⟨u, hu, ru⟩ := rv.get hx
    have hel : e < s.heap.objs.size := Heap.lt_size he
    have hil : it < s.heap.objs.size := by obtain ⟨_, q, _⟩ := hit; exact Heap.lt_size q
    have ha : H e = none := (hf e (by simp)).1
    have hai : H it = none := (hf it (by simp)).1
    have nai : a ≠ it := fun z => by rw [← z, hq] at hai; cases hai
    have nae : a ≠ e := fun z => by rw [← z, hq] at ha; cases ha
    have Dr := Draws.tuple (prog := X.prog) (w := X.w) (A := X.A.in1) (I.ok.hd hc) it a nai its.toArray
    have hlt : i < its.toArray.size := by
      have := (List.getElem?_eq_some_iff.mp hu).1
      simpa using this
    refine wpAny_pyNext_enum_itemD Dr he ⟨hit, p⟩ hlt hne (by simp [Ne.symm nae, hne]) fun x' h' tk hx' ho hst' hT hsz hk => ?_
    have ex : x' = u := by
      have : its.toArray[i]? = some u := by simpa using hu
      rw [this] at hx'
      exact (Option.some.inj hx').symm
    subst ex
    refine ⟨_, rfl, wpAny_letOwnedTupleGo_enum (s := { s with heap := h', toks := tk + 1 }) ho fun h'' he' sb => ?_⟩
    have hT2 : h''.get? s.heap.objs.size = some { cls := .type "tuple", data := .seq #[.int i tk, x'] } := (sb.2 _ (Nat.ne_of_gt hel)).trans hT
    have new : ObjOk X.prog X.w (upd H s.heap.objs.size (.tup [.int (i : Nat), x])) h'' s.heap.objs.size (.tup [.int (i : Nat), x]) :=
      ⟨by show 2 ≤ sizeLine; decide, [.int i tk, x'], .cons ⟨_, rfl⟩ (.cons ru .nil), ⟨_, hT2, rfl, _, rfl⟩⟩
    have I1 : Inv X pins σ (upd H s.heap.objs.size (.tup [.int (i : Nat), x])) { s with heap := h'', toks := tk + 1 } :=
      I.turnedNew (ch := [e, it]) (fun b ob hb q => (sb.2 b (fun z => hb (by simp [z]))).trans (hk b ob (fun z => hb (by simp [z])) (fun z => hb (by simp [z])) q)) hf (Nat.le_refl _) new
    refine ⟨.ref s.heap.objs.size, _, I1, rfl, ⟨_, x, rfl, I.hok.fresh (Nat.le_refl _), rfl, fun ys hy => by rw [hq] at hy; cases hy; exact hx⟩, ⟨⟨x', ?_⟩, hst'.1.at fun o q => (sb.2 it (Ne.symm hne)).trans q, hne⟩, fun b hb => ?_⟩
    · have e1 : ((i + 1 : Nat) : Int) = (i : Int) + 1 := by omega
      rw [e1]; exact he'
    · have hb' : b < s.heap.objs.size := by
        have e' : b = e ∨ b = it := by simpa using hb
        rcases e' with z | z
        · rw [z]; exact hel
        · rw [z]; exact hil
      rw [upd_ne (Nat.ne_of_lt hb')]
      exact (hf b hb).1
  done := by
    intro X hP hw hK hc i pins s σ H E I hf st hg
    subst hP hw hK
    obtain ⟨⟨old, he⟩, hit, hne⟩ := st
    obtain ⟨xs, hq, hx⟩ := hg
    obtain ⟨hz, its, rv, p⟩ := (show ObjOk X.prog X.w H s.heap a (.tup xs) from I.hok a _ hq)
    have hai : H it = none := (hf it (by simp)).1
    have nai : a ≠ it := fun z => by rw [← z, hq] at hai; cases hai
    obtain ⟨f0, f1, f2, f3, f4, f5⟩ := hf it (by simp)
    have hl := rv.length
    have hT : s.TypeIs (.ref e) "enumerate" := ⟨_, he, rfl⟩
    unfold pyNext
    refine wpAny_bind (wpAny_attempt (wpAny_callSpecial?_slot (name := Str.ofString "__next__") hT F.slot_enumerate_next
      (wpAny_call_entry F.slot_enumerate_next hT F.entry_enumerate_next ?_ (F.args_enumerate_next_1 _))))
    show wpAny _ _ (field (.ref e) 2 >>= _) _ _ _
    refine wpAny_bind (wpAny_field he rfl (x := .ref it) rfl ?_)
    refine wpAny_bind (wpAny_nextOf_tuple_end (I.ok.hd hc) hit (items := its.toArray) p (by simp; omega) fun h' x he' hx' => ?_)
    obtain ⟨o, ho, hcl⟩ := hx'
    refine wpAny_bind (wpAny_isInstance (T := "StopIteration") (b := true) ⟨o, ho, hcl⟩ isSubtype_stop ?_)
    exact wpAny_pure ⟨rfl, I.turned (t' := s.toks) (fun b o hb q => he' b o hb q) f0 f1 f3 f4 f5⟩
  self := fun A i s Q E st h => let ⟨⟨_, he⟩, _⟩ := st; wpAny_pyIter_enum he h
def iEnumT (ta : TA) : TI := fun σ H R => ta σ H fun vs H1 => ∃ a xs, vs = [.ref a] ∧ H1 a = some (.tup xs) ∧ R (IteT a) H1
theorem pi_enumT {X : Cx} {e : Expr} {ta : TA} {p pos tpos : Pos} {elts : List Expr} {kk : Nat} (hg : Gl X "enumerate") (hm : X.mg "enumerate" = none) (ha : PA X [e] ta) (hs : starEach [e] X.env = [(false, eval e X.env)]) :
    PI X (.Tuple elts kk tpos) (.Call (.Name "enumerate" p) [e] [] pos) (iEnumT ta) := by
  refine ⟨fun pins s σ H R I h => ?_⟩
  refine Call_ (ld_blt I hg hm boot_enumerate (PyProof.Rows.callWith_type1 (thn (ha.run pos pins s σ H _ I h) fun us s1 ⟨vs, H1, I1, r1, q1⟩ => ?_) hs rfl))
  obtain ⟨a, xs, ex, hq, q⟩ := q1
  subst ex
  cases r1 with
  | cons r rr =>
    cases rr
    cases r
    obtain ⟨hz, its, rv, p'⟩ := (show ObjOk X.prog X.w H1 s1.heap a (.tup xs) from I1.hok a _ hq)
    refine led_enum_begins (begins_tuple a its.toArray) p' fun h' he hit hsz hk => wpAny_pyIter_enum he ?_
    have I2 : Inv X pins σ H1 { s1 with heap := h' } := I1.kept (t' := s1.toks) hk
    refine ⟨s1.heap.objs.size + 1, [s1.heap.objs.size + 1, s1.heap.objs.size], _, _, H1, rfl, I2, turn_enumT a (s1.heap.objs.size + 1) s1.heap.objs.size, ⟨⟨.none, he⟩, ⟨_, hit, rfl, rfl⟩, Nat.succ_ne_self _⟩, fun b hb => ?_, q⟩
    have e' : b = s1.heap.objs.size + 1 ∨ b = s1.heap.objs.size := by simpa using hb
    have hle : s1.heap.objs.size ≤ b := by
      rcases e' with z | z
      · rw [z]; exact Nat.le_add_right _ _
      · rw [z]; exact Nat.le_refl _
    exact I1.fpOk hle (I1.hok.fresh hle)
end L2
namespace Led
open PySem L2 Evl
section
variable {C : Ct} {ρ : Rh} {H : Hp} {a b tg it : Expr} {pos : Pos}
/-- (0, x0), (1, x1), .. -/
def enumD (ds : List Dt) : List Dt := ds.mapIdx fun i d => .tup [.int (i : Int), d]
theorem enumD_get {ds : List Dt} {i : Nat} : (enumD ds)[i]? = (ds[i]?).map fun d => .tup [.int (i : Int), d] := by
  unfold enumD
  rw [List.getElem?_mapIdx]
theorem enumD_len (ds : List Dt) : (enumD ds).length = ds.length := by unfold enumD; simp
theorem ji_enumT {ds : List Dt} {p : Pos} {elts : List Expr} {kk : Nat} {tpos : Pos} (hs : NoStar a []) (hg : GlN C "enumerate") (hm : C.mg "enumerate" = none) (h : JE C ρ H a (.tup ds)) : JI C ρ H (.Tuple elts kk tpos) (.Call (Nm "enumerate" p) [a] [] pos) [] (enumD ds) := ⟨fun X o => ⟨_, pi_enumT (o.gl hg) (o.fr hm) (pa_cons pe_w pa_nil (hs _)) (hs _), fun σ H1 e1 env R k => h.run X o o.N σ H1 e1 (by rw [o.K]; exact env) _ fun v H2 e2 q => by
  rw [o.K] at q
  obtain ⟨p, xs, rfl, h1, h2⟩ := q.tup_raw
  refine ⟨p, xs, rfl, h1, k _ H2 [] e2 (by simp) fun ms H' e' hm i => ?_⟩
  have tx : Tx C.K H2 H' := e'.tx fun m z => (hm m z).1
  have h1' : H' p = some (.tup xs) := tx _ _ h1
  refine ⟨fun d hd => ?_, fun hl => ⟨xs, h1', by rw [h2.length, ← enumD_len]; exact hl⟩⟩
  rw [enumD_get] at hd
  cases hdi : ds[i]? with
  | none => rw [hdi] at hd; cases hd
  | some d0 =>
    rw [hdi] at hd
    cases hd
    obtain ⟨v, hv, dv⟩ := h2.get hdi
    refine ⟨⟨xs, v, h1', hv⟩, fun x H'' y => ?_⟩
    obtain ⟨T, x0, rfl, nT, rfl, hy⟩ := y
    have := (hy xs h1').symm.trans hv
    cases this
    have ex : Ex H' (upd H' T (.tup [.int (i : Nat), v])) := Ex.new nT
    exact ⟨ex, .tup upd_same (.cons (.int _) (.cons ((dv.mono tx).mono (ex_tx ex)) .nil))⟩⟩⟩
end
end Led

set_option maxRecDepth 100000
set_option maxHeartbeats 1000000
namespace Led
open PySem L2 Evl
section
variable {C : Ct} {X : Cx} {ρ : Rh} {σ : St} {H : Hp} {a b c e : Expr} {d : Dt} {pos : Pos} {D : Ends}
/-! ### instances with slots -/
theorem slt_ex {H H' : Hp} {x CD dx : Addr} {vs : List (Option V)} (e : Ex H H') (h : SlX.Slt H x CD dx vs) : SlX.Slt H' x CD dx vs := by
  rcases h with ⟨h1, h2⟩ | ⟨h1, h2⟩
  · exact .inl ⟨e _ _ h1, h2⟩
  · exact .inr ⟨e _ _ h1, e _ _ h2⟩
theorem exb_slH {H : Hp} {x CD dx : Addr} {vs : List (Option V)} : ExB [x, dx] H (SlX.slH H x CD dx vs) := fun b o h n => by
  simp only [List.mem_cons, List.not_mem_nil, or_false, not_or] at n
  rw [SlX.slH_ne n.1 n.2]
  exact h
theorem slt_exb {H H' : Hp} {x CD dx : Addr} {vs : List (Option V)} {ms : List Addr} (e : ExB ms H H') (h1 : x ∉ ms) (h2 : dx ∉ ms) (h : SlX.Slt H x CD dx vs) : SlX.Slt H' x CD dx vs := by
  rcases h with ⟨q1, q2⟩ | ⟨q1, q2⟩
  · exact .inl ⟨e _ _ q1 h1, q2⟩
  · exact .inr ⟨e _ _ q1 h1, e _ _ q2 h2⟩
/-- o.f, f a slot that holds data -/
theorem je_slot {f : Str} {x CD dx p : Addr} {vs : List (Option V)} {v : V} {i : Nat} (hb : ∀ env, attributeBase a f env (eval a env) = eval a env) (ha : JE C ρ H a (.ref x)) (hs : SlX.Slt H x CD dx vs) (hc : SlX.SCls C.K CD) (h1 : SlX.Slot1 C.K CD f p i) (hv : vs[i]? = some (some v)) (hd : Di C.K H v d) : JE C ρ H (.Attribute a f pos) d := ⟨fun X o hN σ H1 e1 env Q q =>
  PEw (SlX.pe_sl pe_w (hb _)) (ha.run X o hN σ H1 e1 env _ fun u H2 e2 q1 => by
    rw [q1.ref_inv]
    exact ⟨x, CD, dx, p, vs, i, v, rfl, slt_ex (e1.trans e2) hs, by rw [o.K]; exact hc, by rw [o.K]; exact h1, hv, q v H2 e2 (by rw [o.K]; exact hd.mono (ex_tx (e1.trans e2)))⟩)⟩
/-- o.f = e -/
theorem ws_slot {f : Str} {p' : Pos} {x CD dx p : Addr} {vs : List (Option V)} {i : Nat} (o : C.Of X) (env : EnvD C.K H σ ρ) (hsw : ∀ env, swapsWith e (some (.Attribute a f p')) pos.line env = pure false) (ha : JE C ρ H a (.ref x)) (he : JE C ρ H e d) (hs : SlX.Slt H x CD dx vs) (hc : SlX.SCls C.K CD) (h1 : SlX.Slot1 C.K CD f p i)
    (k : ∀ v H1, Ex H H1 → Di C.K H1 v d → D.nx σ (SlX.slH H1 x CD dx (SlX.putS i v vs))) : WS X (.Assign [.Attribute a f p'] e pos) D σ H :=
  PSw (SlX.ps_sl pe_w pe_w (hsw _)) (he.run X o o.N σ H (Ex.refl H) (by rw [o.K]; exact env) _ fun v H1 e1 q1 => ha.run X o o.N σ H1 e1 (by rw [o.K]; exact env.mono (ex_tx e1)) _ fun u H2 e2 q2 => by
    rw [o.K] at q1
    rw [q2.ref_inv]
    exact ⟨x, CD, dx, p, vs, i, rfl, slt_ex (e1.trans e2) hs, by rw [o.K]; exact hc, by rw [o.K]; exact h1, k v H2 (e1.trans e2) (q1.mono (ex_tx e2))⟩)
/-- o.f = {}, keys to be tuples -/
theorem ws_slotD {f : Str} {p' p2 : Pos} {x CD dx p : Addr} {vs : List (Option V)} {i : Nat} (o : C.Of X) (env : EnvD C.K H σ ρ) (hsw : ∀ env, swapsWith (.Dict [] [] p2) (some (.Attribute a f p')) pos.line env = pure false) (ha : JE C ρ H a (.ref x)) (hs : SlX.Slt H x CD dx vs) (hc : SlX.SCls C.K CD) (h1 : SlX.Slot1 C.K CD f p i)
    (k : ∀ l H1, H l = none → Ex H H1 → H1 l = some (.dT []) → D.nx σ (SlX.slH H1 x CD dx (SlX.putS i (.ref l) vs))) : WS X (.Assign [.Attribute a f p'] (.Dict [] [] p2) pos) D σ H :=
  PSw (SlX.ps_sl pe_w pe_dnewT (hsw _)) (by
    intro l hl
    refine ha.run X o o.N σ _ (Ex.new hl) (by rw [o.K]; exact env.mono (ex_tx (Ex.new hl))) _ fun u H2 e2 q2 => ?_
    rw [q2.ref_inv]
    exact ⟨x, CD, dx, p, vs, i, rfl, slt_ex ((Ex.new hl).trans e2) hs, by rw [o.K]; exact hc, by rw [o.K]; exact h1, k l H2 hl ((Ex.new hl).trans e2) (e2 _ _ upd_same)⟩)
/-- d[i, j] = e: a dict with pairs of ints as keys -/
theorem ws_dput2 {p1 p' : Pos} {kk : Nat} {l : Addr} {kvs : List (List Key × V)} {i j : Int} {b c : Expr} (o : C.Of X) (env : EnvD C.K H σ ρ) (hsw : ∀ env, swapsWith e (some (.Subscript a (.Tuple [b, c] kk p1) p')) pos.line env = pure false) (ha : JE C ρ H a (.ref l)) (hb : JA C ρ H [b, c] [.int i, .int j]) (he : JE C ρ H e d) (hl : H l = some (.dT kvs)) (hz : kvs.length < 100000)
    (k : ∀ v H1, Ex H H1 → Di C.K H1 v d → H1 l = some (.dT kvs) → D.nx σ (upd H1 l (.dT (putK kvs [.inl i, .inl j] v)))) : WS X (.Assign [.Subscript a (.Tuple [b, c] kk p1) p'] e pos) D σ H :=
  PSw (ps_dput (hu_of o.room) pe_w (pe_tup pa_w) pe_w (hsw _)) (he.run X o o.N σ H (Ex.refl H) (by rw [o.K]; exact env) _ fun v H1 e1 q1 => ha.run X o o.N σ H1 e1 (by rw [o.K]; exact env.mono (ex_tx e1)) _ fun u H2 e2 q2 => by
    rw [o.K] at q1
    rw [q2.ref_inv]
    refine hb.run X o o.N σ H2 (e1.trans e2) (by rw [o.K]; exact env.mono (ex_tx (e1.trans e2))) _ fun vs H3 e3 q3 => ⟨by rw [q3.length]; exact Nat.le_of_ble_eq_true rfl, fun t ht => ?_⟩
    obtain ⟨v1, v2, rfl, h1, h2⟩ := dis2 q3
    rw [h1.int_inv, h2.int_inv]
    have h3 : (upd H3 t (.tup [.int i, .int j])) l = some (.dT kvs) := (Ex.new ht) _ _ (((e1.trans e2).trans e3) _ _ hl)
    exact ⟨l, _, rfl, DPut.t (k := [.inl i, .inl j]) h3 upd_same (sz_lt hz), k v _ (((e1.trans e2).trans e3).trans (Ex.new ht)) (q1.mono (ex_tx ((e2.trans e3).trans (Ex.new ht)))) h3⟩)
end
end Led

set_option maxRecDepth 100000
set_option maxHeartbeats 1000000
namespace Led
open PySem L2 Evl
section
variable {C : Ct} {X : Cx} {ρ : Rh} {σ : St} {H : Hp} {a b c e : Expr} {d : Dt} {pos : Pos} {D : Ends}
/-- a statement, then the rest, from what is known between them -/
theorem wb_cut {st : Stmt} {rest : List Stmt} (Mid : St → Hp → Prop) (h1 : WS X st { D with nx := Mid } σ H) (h2 : ∀ σ' H', Mid σ' H' → WB X rest D σ' H') : WB X (st :: rest) D σ H := PBw (pss_cut ps_w pb_w) ⟨Mid, h1, h2⟩
theorem je_pow {i j : Int} (ha : JE C ρ H a (.int i)) (hb : JE C ρ H b (.int j)) (hc : CPow i j) : JE C ρ H (.BinOp a .Pow b pos) (.int (i ^ j.toNat)) := ⟨fun X o => de_II (pe_op op_pow pe_w pe_w) (ha.run X o) (hb.run X o) hc fun _ _ => .int _⟩
/-- xs[i] = e of a tracked list -/
theorem ws_setIt {l : Addr} {vs : List V} {i : Int} {j : Nat} {p' : Pos} (o : C.Of X) (env : EnvD C.K H σ ρ) (ha : JE C ρ H a (.ref l)) (hb : JE C ρ H b (.int i)) (he : JE C ρ H e d) (hl : H l = some (.lst vs)) (hi : ixN vs.length i = some j)
    (hs : ∀ env, swapsWithSole [.Subscript a b p'] e pos.line env = pure false) (hw : ∀ env, swappedStores [.Subscript a b p'] e env = pure none) (h1 : ∀ env, (assignEach [.Subscript a b p'] env).map (·.2) = [assign (.Subscript a b p') env]) (hpl : ∀ env v, assign (.Subscript a b p') env v = (do
      let ov ← holding [v] (eval a env)
      let iv ← holding [v, ov] (eval b env)
      standAt p'
      holding [v, ov, iv] (setItem ov iv v)
      release [v, ov, iv] []))
    (k : ∀ v H1, Ex H H1 → Di C.K H1 v d → H1 l = some (.lst vs) → D.nx σ (upd H1 l (.lst (vs.set j v)))) : WS X (.Assign [.Subscript a b p'] e pos) D σ H :=
  PSw (ps_asg pe_w (pg_sub pe_w pe_w set_list (hpl _)) (hs _) (hw _) (h1 _)) (he.run X o o.N σ H (Ex.refl H) (by rw [o.K]; exact env) _ fun v H1 e1 q1 => ha.run X o o.N σ H1 e1 (by rw [o.K]; exact env.mono (ex_tx e1)) _ fun u H2 e2 q2 => hb.run X o o.N σ H2 (e1.trans e2) (by rw [o.K]; exact env.mono (ex_tx (e1.trans e2))) _ fun w H3 e3 q3 => by
    rw [o.K] at q1
    rw [q2.ref_inv, q3.int_inv]
    have h3 : H3 l = some (.lst vs) := ((e1.trans e2).trans e3) _ _ hl
    exact ⟨l, vs, i, j, rfl, rfl, h3, hi, k v H3 ((e1.trans e2).trans e3) (q1.mono (ex_tx (e2.trans e3))) h3⟩)
/-- [elt for x in range(n)], elt changing what stands at ms -/
theorem we_lcM {elt : Expr} {scope : Scope} {x : Str} {j n : Nat} {p p1 p2 p3 : Pos} {Q : VK} (o : C.Of X) (env : EnvD C.K H σ ρ) (nd : C.N.Nodup) (ok : BlkOk C.N C.sc scope [(x, j)]) (hj : C.N[j]? = some x) (hx : LocN { C with sc := rl scope C.sc, fn := false } x) (hs1 : NoStar a []) (hg : GlN C "range") (hm : C.mg "range" = none) (ha : JE C ρ H a (.int (n : Int))) (hn : n < 100000)
    (ms : List Addr) (hms : ∀ m ∈ ms, (H m).isSome = true) (Iv : Nat → List V → Hp → Prop) (h0 : ∀ H1, Ex H H1 → Iv 0 [] H1) (hno : ∀ i vs H1, Iv i vs H1 → ∀ m ∈ ms, NoT (H1 m)) (stab : ∀ i vs H1 D u, H D = none → Iv i vs H1 → Iv i vs (upd H1 D u)) (hlen : ∀ i vs H1, Iv i vs H1 → vs.length ≤ i)
    (hs : ∀ X', ({ C with sc := rl scope C.sc, fn := false } : Ct).Of X' → ∀ (i : Nat) vs σ' H1, i < n → Iv i vs H1 → EnvD C.K H1 σ' (ρ.set j (some (.int (i : Int)))) → ∀ Q' : VK, (∀ y H2, ExB ms H1 H2 → Iv (i + 1) (vs ++ [y]) H2 → Q' y H2) → WE X' elt σ' H1 Q')
    (q : ∀ l vs H', H l = none → ExB ms H H' → H' l = some (.lst vs) → Iv n vs H' → Q (.ref l) H') : WE X (.ListComp elt [⟨.Name x p, .Call (Nm "range" p1) [a] [] p2, [], 0⟩] scope p3) σ H Q := by
  refine PEw (pe_lc (own := [(x, j)]) (g := fun v σ H Q => ∀ s Hh Cc cl fp, WG (X.blk s Hh scope (compEnvC scope cl Cc X.env) fp) (.Name x p) v σ H Q) (tt := tYes)
    (te := fun σ H Q => ∀ s Hh Cc cl fp, WE (X.blk s Hh scope (compEnvC scope cl Cc X.env) fp) elt σ H Q) o.calm (by rw [o.N]; exact nd) (pi_range1 (o.gl hg) (o.fr hm) (pa_cons pe_w pa_nil (hs1 _)) (hs1 _)) (by rw [o.N, o.sc]; exact ok) (fun s Hh Cc cl fp => ⟨fun pins s1 σ1 H2 v1 u Q1 I r h => h s Hh Cc cl fp pins s1 u I r⟩)
    (fun s Hh Cc cl fp => pts_nil) (fun s Hh Cc cl fp => ⟨fun pins s1 σ1 H2 Q1 I h => h s Hh Cc cl fp pins s1 I⟩)) ?_
  refine ha.run X o o.N σ H (Ex.refl H) (by rw [o.K]; exact env) _ fun v H1 e1 qv => ?_
  rw [qv.int_inv]
  refine ⟨(n : Int), rfl, by omega, by omega, fun D hD => ?_⟩
  have hDH : H D = none := fresh_back e1 hD
  have hDm : D ∉ ms := fun z => by
    have := hms D z
    rw [hDH] at this
    cases this
  refine lc_range (lo := 0) (n := (n : Int).toNat) (g := fun v σ H Q => ∀ s Hh Cc cl fp, WG (X.blk s Hh scope (compEnvC scope cl Cc X.env) fp) (.Name x p) v σ H Q) (tt := tYes) (te := fun σ H Q => ∀ s Hh Cc cl fp, WE (X.blk s Hh scope (compEnvC scope cl Cc X.env) fp) elt σ H Q) (vs := [(x, j)].map (·.2)) (σ := σ) (Qd := fun H => Q (.ref D) H) (fun i H' => ∃ vs, H' D = some (.lst vs) ∧ Iv i vs H' ∧ ExB ms H H' ∧ EnvD C.K H' σ ρ) ⟨[], upd_same, stab _ _ _ _ _ hDH (h0 H1 e1), ?_, env.mono (ex_tx (e1.trans (Ex.new hD)))⟩ (fun i H' hi pv => ?_) (fun H' pv => ?_)
  · exact .of (e1.trans (Ex.new hD))
  · obtain ⟨vs, hvs, iv, xb, en⟩ := pv
    intro s Hh Cc cl fp
    have o1 := of_blk o s Hh scope cl Cc fp
    refine (jg_name (C := { C with sc := rl scope C.sc, fn := false }) (i := j) nd hj hx).run _ o1 _ (wipe σ _) H' _ (env_wipe en _) (.int _) ?_
    intro σ2 en2 l2 w2
    refine ⟨wipe_eq l2 w2 (by intro k hk; exact hk), ?_⟩
    unfold tYes
    dsimp only
    rw [if_pos rfl]
    intro s' Hh' Cc' cl' fp'
    have hen : EnvD C.K H' σ2 (ρ.set j (some (.int (i : Int)))) := by
      have e0 : (0 : Int) + (i : Int) = (i : Int) := by omega
      have : EnvD C.K H' σ2 ((ρ.set j none).set j (some (.int ((0 : Int) + (i : Int))))) := en2
      rw [List.set_set, e0] at this
      exact this
    refine hs _ (of_blk o s' Hh' scope cl' Cc' fp') i vs σ2 H' (by omega) iv hen _ fun y H2 xb2 iv2 => ?_
    have hD2 : H2 D = some (.lst vs) := xb2 _ _ hvs hDm
    have hl := hlen i vs H' iv
    refine ⟨vs, hD2, sz_lt (by omega), vs ++ [y], upd_same, stab _ _ _ _ _ hDH iv2, ?_, ?_⟩
    · intro b u hb nb
      rw [upd_ne (ne_of_none hb hDH)]
      exact xb2 _ _ (xb b u hb nb) nb
    · have tx1 : Tx C.K H' H2 := xb2.tx (hno i vs H' iv)
      exact en.mono (tx1.trans (tx_upd (by rw [hD2]; trivial)))
  · obtain ⟨vs, hvs, iv, xb, en⟩ := pv
    rw [Int.toNat_natCast] at iv
    exact q D vs H' hDH xb hvs iv
end
end Led

set_option maxRecDepth 100000
set_option maxHeartbeats 1000000
namespace Led
section
open PySem PyProof.Rows
/-! ### != by an own __eq__ -/
section
variable {M : Model} {prog : Program} {w : World} {A : Around} {E : Value → Shared → Prop} {s : Shared} {K : PySem.W.Frag} {x y C f : Addr} {ox oy : Obj} {od od' : Option Obj}
theorem ifBound_objNe {args : List Value} {Q : Option Value → Shared → Prop} (X : K.In s.heap) (I : PySem.W.InstAt s.heap x ox C od) (hs : PySem.W.findIn K (.ref C) "__ne__" = some (some (.builtin "object.__ne__")))
    (h : wpAny M A (call (.builtin "object.__ne__") (.ref x :: args)) (fun v => Q (some v)) E s) : wpAny M A (callSpecialIfBound? (.ref x) "__ne__" args) Q E s := by
  simp only [callSpecialIfBound?, bindSpecialIfBound?]
  refine wpAny_holding (wpAny_bind (wpAny_bind (wpAny_bind (I.type.here ((PySem.W.looks_findIn X hs).here ?_)))))
  refine wpAny_bind (wpAny_askSetting (wpAny_ite ?_))
  have fin : wpAny M A (call (.builtin "object.__ne__") ([.ref x] ++ args) >>= fun v => pure (some v)) Q E s := wpAny_bind (wpAny_mono h (fun v s' h' => wpAny_pure h') fun _ _ h' => h')
  split
  · exact wpAny_bind (wpAny_of_eq (F.cmp_object.ne.bind _) (wpAny_pure (by exact fin)))
  · exact wpAny_tryCatch (wpAny_bind (wpAny_of_eq (F.cmp_object.ne.bind _) (wpAny_pure (by exact fin))))
theorem objNe_entry {Q : Fin → Shared → Prop} (X : K.In s.heap) (I : PySem.W.InstAt s.heap x ox C od) (hs : PySem.W.findIn K (.ref C) "__eq__" = some (some (.ref f))) (hf : PySem.W.isFn K (.ref f) = true) (hu : A.units < cLine)
    (hcall : wpAny (model prog w) A (call (.ref f) [.ref x, .ref y]) (fun v s' => ∃ b, v = .bool b ∧ Q (.done (.ret (.bool (!b)))) s') E s) :
    wpAny (model prog w) A (Builtin.«object.__ne__» ⟨[.ref x, .ref y], []⟩) Q E s := by
  obtain ⟨h, g, d, t, os⟩ := s
  unfold Builtin.«object.__ne__»
  repeat (first
    | with_reducible refine wpAny_cRoomFor hu ?_
    | (refine wpAny_bind (m := callSpecialIfBound? (.ref x) (Str.ofString "__eq__") [.ref y])
        (PySem.W.ifBound_K X I hs hf (wpAny_mono hcall (fun r s' hr => by
          obtain ⟨b, rfl, hq⟩ := hr
          repeat (first | exact hq | exact wpAny_pure hq | exact wpAny_truthy_bool hq | (refine wpAny_bind (m := truthy (.bool _)) (wpAny_truthy_bool ?_)) | wp_step)) fun _ _ e => e)))
    | wp_step)
theorem rc_ne {Q : Value → Shared → Prop} (X : K.In s.heap) (I : PySem.W.InstAt s.heap x ox C od) (I' : PySem.W.InstAt s.heap y oy C od') (hm : PySem.W.mroIn K C (.type "object") = some true) (hn : PySem.W.findIn K (.ref C) "__ne__" = some (some (.builtin "object.__ne__")))
    (hs : PySem.W.findIn K (.ref C) "__eq__" = some (some (.ref f))) (hf : PySem.W.isFn K (.ref f) = true) (hu : A.units < cLine) (hu1 : A.in1.units < cLine)
    (hcall : wpAny (model prog w) A.in1 (call (.ref f) [.ref x, .ref y]) (fun v s' => ∃ b, v = .bool b ∧ Q (.bool (!b)) s') E s) : wpAny (model prog w) A (richCompare .NotEq (.ref x) (.ref y)) Q E s := by
  have one : wpAny (model prog w) A (tryCompare (.ref x) "__ne__" (.ref y)) (fun r s' => ∃ b, r = some (.bool b) ∧ Q (.bool b) s') E s := by
    unfold tryCompare
    refine wpAny_bind (ifBound_objNe X I hn (wpAny_call (codeAny_call_builtin F.cmp_object.ne.plain F.cmpEntry_ne (PySem.W.check_slot F.cmpKind_ne F.cmpSplit_ne (I.type.andThen (PySem.W.looks_mroIn X hm)) (F.cmpArgs_ne _ _) (objNe_entry X I hs hf hu1 (wpAny_mono hcall (fun v s' hv => ?_) fun _ _ e => e))))))
    obtain ⟨b, rfl, hq⟩ := hv
    exact ⟨b, rfl, wpAny_pure ⟨_, rfl, hq⟩⟩
  unfold richCompare
  simp only [oneThing_ref]
  refine wpAny_holding (wpAny_bind (wpAny_cRoomFor hu ?_))
  rw [cmpInfo_NotEq]
  dsimp only
  refine wpAny_bind (I.type.here (wpAny_bind (I'.type.here ?_)))
  rw [show (Value.ref C != Value.ref C) = false from by simp]
  simp only [Bool.false_eq_true, if_false]
  refine wpAny_bind (wpAny_pure ?_)
  simp only [Bool.false_eq_true, if_false]
  refine wpAny_bind (wpAny_mono one (fun r s' z => ?_) fun _ _ e => e)
  obtain ⟨b, rfl, hq⟩ := z
  exact wpAny_pure hq
end
end
open PySem L2 Evl
section
variable {X : Cx} {CX : CXT} {n : Nat} {C f : Addr} {sp : Sp} {E : XK}
/-- a special method of a slotted class, called amid a builtin -/
theorem call_in1 {pins : List (Addr × Obj)} {σ : St} {H : Hp} {s : Shared} {us : List Value} {vs : List V} {Q : VK} {R : Value → Shared → Prop} {A : Around} (F : FnR X.prog X.w X.K X.mg X.base CX n f sp) (hr : Room n A) (hfr : A.frames = X.A.frames) (hx : Passes CX X E) (I : Inv X pins σ H s) (r : Vals vs us) (h : sp vs H Q E)
    (q : ∀ v u H' s', Inv X pins σ H' s' → RelV v u → Q v H' → R u s') : wpAny (model X.prog X.w) A (call (.ref f) us) R X.xe s := by
  have e0 : Env0 X.prog X.w X.K X.mg X.base A X.stack s H := by
    have e := I.env0
    exact ⟨by rw [hfr]; exact e.frames, e.mod, e.bs, e.bsz, e.funs, e.frf, e.hok, e.bare⟩
  refine wpAny_call (codeAny_mono (F A X.stack s H us vs Q E hr e0 r h) fun r s' hq => ?_)
  cases r with
  | error e => exact hx pins σ H s e s' I hq
  | ok fl =>
    cases fl with
    | ret w =>
      obtain ⟨z, H', I', rz, ez⟩ := I.after hq
      exact q z w H' s' I' rz ez
    | next => exact False.elim hq
    | brk => exact False.elim hq
    | cont => exact False.elim hq
theorem call_lenSl (F : FnR X.prog X.w X.K X.mg X.base CX n f sp) (hr : Room (n + 1) X.A) (hx : Passes CX X E) (hs : PySem.W.findIn X.K (.ref C) "__len__" = some (some (.ref f))) (hf : PySem.W.isFn X.K (.ref f) = true) :
    CallR X (.builtin "len") (fun xs H Q => ∃ a dx vs, xs = [.ref a] ∧ SlX.Slt H a C dx vs ∧ sp [.ref a] H (fun v H' => ∃ n : Int, v = .int n ∧ (0 ≤ n ∧ n < 2 ^ 63) ∧ Q (.int n) H') E) := by
  intro pins s σ H xs us Q I r h
  obtain ⟨a, dx, vs, rfl, hsl, h⟩ := h
  obtain ⟨u, rfl, ru⟩ := vals1 r
  obtain rfl : u = Value.ref a := ru
  obtain ⟨sl, od, _, J, _⟩ := SlX.slt_inst I hsl
  obtain ⟨m, hF⟩ := I.fr
  refine PySem.W.len_K hF I.ok.mod.kin J hs hf (call_in1 F hr.in1 rfl hx I r h fun v u H' s' I' rv ⟨k, hk, hb, q⟩ => ?_)
  subst hk
  obtain ⟨t, rfl⟩ := rv
  exact ⟨hb, .int k, H', I'.tok _, ⟨_, rfl⟩, q⟩
theorem op_neSl (F : FnR X.prog X.w X.K X.mg X.base CX n f sp) (hr : Room (n + 1) X.A) (hx : Passes CX X E) (hm : PySem.W.mroIn X.K C (.type "object") = some true) (hn : PySem.W.findIn X.K (.ref C) "__ne__" = some (some (.builtin "object.__ne__"))) (hs : PySem.W.findIn X.K (.ref C) "__eq__" = some (some (.ref f))) (hf : PySem.W.isFn X.K (.ref f) = true) :
    OpR X (compareOp .NotEq) (fun x y H Q => ∃ a b dx dy vs ws, x = .ref a ∧ y = .ref b ∧ SlX.Slt H a C dx vs ∧ SlX.Slt H b C dy ws ∧ sp [.ref a, .ref b] H (fun v H' => ∃ k : Bool, v = .bl k ∧ Q (.bl (!k)) H') E) := by
  intro pins s σ H x y v u Q I rx ry h
  obtain ⟨a, b, dx, dy, vs, ws, rfl, rfl, h1, h2, h⟩ := h
  cases rx
  cases ry
  obtain ⟨sl, od, _, J, _⟩ := SlX.slt_inst I h1
  obtain ⟨sl', od', _, J', _⟩ := SlX.slt_inst I h2
  show wpAny (model X.prog X.w) X.A (richCompare .NotEq _ _) (EP X pins σ Q) X.xe s
  have r2 : Vals [V.ref a, V.ref b] [Value.ref a, Value.ref b] := .cons rfl (.cons rfl .nil)
  refine rc_ne I.kIn J J' hm hn hs hf hr.units0 hr.in1.units0 (call_in1 F hr.in1 rfl hx I r2 h fun v u H' s' I' rv ⟨k, hk, q⟩ => ?_)
  subst hk
  cases rv
  exact ⟨k, rfl, .bl (!k), H', I', rfl, q⟩
end
end Led

set_option maxRecDepth 100000
set_option maxHeartbeats 1000000
namespace Led
section
open PySem PySem.Builtin PySem.AutoSeq1
theorem extend_tup (l : Addr) (items : Array Value) (n : Nat) (b : Addr) (items2 : Array Value) (n2 : Nat) (dd : Option Addr) (sl : Array (Option Value)) (hs0 : ¬(!items.isEmpty && Builtin.List.listTooLong (items.size + items2.size)) = true) (hs1 : items.size ≤ sizeLine) (hs2 : items.size + items2.size ≤ sizeLine + 1) :
    Meets (Builtin.«list.extend» ⟨[.ref l, .ref b], []⟩) (fun _ R s => s.heap.get? l = some { cls := .type "list", dict := none, data := .seq items n, slots := #[] } ∧ s.heap.get? b = some { cls := .type "tuple", dict := dd, data := .seq items2 n2, slots := sl } ∧ R (.ok (.ret Value.none)) { s with heap := s.heap.update l (Obj.mapSeq fun x => x ++ items2), toks := s.toks }) :=
  .of_wp fun prog w A R s h => by
    obtain ⟨hp, g, d, tk, os⟩ := s; obtain ⟨hl, hb, h⟩ := h; have f1 := idx_int; have f2 := sub_tuple_tuple; have f3 := sub_list_list; have f4 := sub_tuple_list; have f5 := sub_list_tuple;
    have hz' : (items ++ items2).size ≤ sizeLine + 1 := by rw [Array.size_append]; exact hs2
    wp_walk using (wpAny_updateSeq hl rfl (hz := hs1) (_hz' := hz')), wpAny_loadPart' hl, wpAny_loadPart' hb; exact ⟨_, rfl, h⟩
end
open PySem L2 Evl
section
variable {X : Cx}
def rExtendT (K : PySem.W.Frag) : V → List V → Hp → VK → Prop := fun x vs H Q => ∃ l b xs zs, x = .ref l ∧ vs = [.ref b] ∧ H l = some (.lst xs) ∧ SqT K H b zs ∧ xs.length + zs.length ≤ sizeLine ∧ Q .non (upd H l (.lst (xs ++ zs)))
theorem mt_extendT : MtM X "list.extend" (rExtendT X.K) := by
  intro pins s σ H x vs v us Q I rx rv h
  obtain ⟨l, b, xs, zs, rfl, rfl, hH, hB, hz, q⟩ := h
  cases rx
  obtain ⟨u, rfl, ru⟩ := rv.one
  cases ru
  obtain ⟨z, its, n, r, hl, e⟩ := I.lstM hH
  obtain ⟨its2, r2, ⟨⟨oc, od, odt, osl⟩, e2, hc, n2, hd⟩, hz2⟩ := I.tuple hB
  cases hc
  cases hd
  have hl2 := r2.length
  have hsz : its.toArray.size + its2.toArray.size ≤ sizeLine := by rw [List.size_toArray, List.size_toArray]; omega
  have hlong : ¬ (!its.toArray.isEmpty && Builtin.List.listTooLong (its.toArray.size + its2.toArray.size)) = true := by
    rw [notLongL hsz, Bool.and_false]
    exact Bool.false_ne_true
  refine call_meets PySem.F.slot_list_extend ⟨_, e, rfl⟩ PySem.F.entry_list_extend (PySem.F.args_list_extend_2 _ _)
    (extend_tup l its.toArray n b its2.toArray n2 od osl hlong (by rw [List.size_toArray]; omega) (by omega)) ⟨e, e2, ?_⟩
  refine ⟨.non, _, I.lset (its' := its ++ its2) hH e (by simp) (r.append r2) ?_, rfl, q⟩
  rw [List.length_append]
  omega
end
section
variable {C : Ct} {X : Cx} {ρ : Rh} {σ : St} {H : Hp} {a b c e : Expr} {d : Dt} {pos : Pos} {D : Ends}
theorem ws_extendT {l : Addr} {vs : List V} {ds : List Dt} {p1 p2 : Pos} (o : C.Of X) (env : EnvD C.K H σ ρ) (hb : ∀ env, attributeBase a "extend" env (eval a env) = eval a env) (hfew : ∀ env, ((backTo p2 (starEach [e] env)).all (fun x => !x.1) && (backToKw p2 (keywordEach [] env)).all (fun x => x.1.isSome) && decide ([e].length + ([] : List Keyword).length + (if ([] : List Keyword).isEmpty then 0 else 1) < 30)) = true) (hs : NoStar e []) (ha : JE C ρ H a (.ref l)) (hl : H l = some (.lst vs)) (hz : vs.length + ds.length < 100000) (he : JE C ρ H e (.tup ds))
    (hq : ∀ env, swapsWith (.Call (.Attribute a "extend" p1) [e] [] p2) none pos.line env = pure false) (hline : (p1.endLine == p2.line) = true)
    (k : ∀ ws H1, Ex H H1 → Dis C.K H1 ws ds → EnvD C.K (upd H1 l (.lst (vs ++ ws))) σ ρ → Tx C.K H1 (upd H1 l (.lst (vs ++ ws))) → D.nx σ (upd H1 l (.lst (vs ++ ws)))) : WS X (.Expr (.Call (.Attribute a "extend" p1) [e] [] p2) pos) D σ H := by
  refine PSw (ps_expr (pe_bm PySem.F.plainAttrs_list PySem.F.slot_list_extend PySem.F.type_list_extend mt_extendT pe_w (pa_cons pe_w pa_nil (hs _)) (hb _) (hfew _) hline (hs _) rfl) (hq _)) ?_
  refine ha.run X o o.N σ H (Ex.refl H) (by rw [o.K]; exact env) _ fun v0 H1 e1 q1 => ?_
  rw [q1.ref_inv]
  refine ⟨.inl ⟨rfl, vs, sq_of (e1 _ _ hl)⟩, ?_⟩
  refine he.run X o o.N σ H1 e1 (by rw [o.K]; exact env.mono (ex_tx e1)) _ fun v H2 e2 q2 => ?_
  rw [o.K] at q2
  obtain ⟨t, ws, rfl, ht, hd⟩ := q2.tup_inv
  have h2 : H2 l = some (.lst vs) := e2 _ _ (e1 _ _ hl)
  have tx : Tx C.K H2 (upd H2 l (.lst (vs ++ ws))) := tx_upd (by rw [h2]; trivial)
  exact ⟨l, t, vs, ws, rfl, rfl, h2, by rw [o.K]; exact ht, sz_of (by rw [hd.length]; omega), k ws H2 (e1.trans e2) hd (env.mono ((ex_tx (e1.trans e2)).trans tx)) tx⟩
/-! ### plain instances -/
theorem je_fld {f : Str} {x Cc dx : Addr} {fs : List (Str × V)} {v : V} (hb : ∀ env, attributeBase a f env (eval a env) = eval a env) (ha : JE C ρ H a (.ref x)) (hx : H x = some (.ins Cc dx fs)) (hc : Cls C.K Cc) (hn : NoAttr C.K Cc f) (hv : fs.lookup f = some v) (hd : Di C.K H v d) : JE C ρ H (.Attribute a f pos) d := ⟨fun X o hN σ H1 e1 env Q q =>
  PEw (pe_fld pe_w (hb _)) (ha.run X o hN σ H1 e1 env _ fun u H2 e2 q1 => by
    rw [q1.ref_inv]
    exact ⟨x, Cc, dx, fs, v, rfl, (e1.trans e2) _ _ hx, by rw [o.K]; exact hc, by rw [o.K]; exact hn, hv, q v H2 e2 (by rw [o.K]; exact hd.mono (ex_tx (e1.trans e2)))⟩)⟩
theorem ws_fld {f : Str} {p' : Pos} {x Cc dx : Addr} {fs : List (Str × V)} (o : C.Of X) (env : EnvD C.K H σ ρ) (hsw : ∀ env, swapsWith e (some (.Attribute a f p')) pos.line env = pure false) (ha : JE C ρ H a (.ref x)) (he : JE C ρ H e d) (hx : H x = some (.ins Cc dx fs)) (hc : Cls C.K Cc) (hn : NoAttr C.K Cc f) (hl : fs.length < 1000)
    (k : ∀ v H1, Ex H H1 → Di C.K H1 v d → H1 x = some (.ins Cc dx fs) → EnvD C.K (upd H1 x (.ins Cc dx (putF f v fs))) σ ρ → D.nx σ (upd H1 x (.ins Cc dx (putF f v fs)))) : WS X (.Assign [.Attribute a f p'] e pos) D σ H :=
  PSw (ps_fld pe_w pe_w (hsw _)) (he.run X o o.N σ H (Ex.refl H) (by rw [o.K]; exact env) _ fun v H1 e1 q1 => ha.run X o o.N σ H1 e1 (by rw [o.K]; exact env.mono (ex_tx e1)) _ fun u H2 e2 q2 => by
    rw [o.K] at q1
    rw [q2.ref_inv]
    have h2 := (e1.trans e2) _ _ hx
    have tx : Tx C.K H2 (upd H2 x (.ins Cc dx (putF f v fs))) := tx_upd (by rw [h2]; trivial)
    exact ⟨x, Cc, dx, fs, rfl, h2, by rw [o.K]; exact hc, by rw [o.K]; exact hn, hl, k v H2 (e1.trans e2) (q1.mono (ex_tx e2)) h2 (env.mono ((ex_tx (e1.trans e2)).trans tx))⟩)
/-- o.f += e, ints -/
theorem ws_fldaug {f : Str} {p' : Pos} {x Cc dx : Addr} {fs : List (Str × V)} {i j : Int} (o : C.Of X) (env : EnvD C.K H σ ρ) (ha : JE C ρ H a (.ref x)) (he : JE C ρ H e (.int j)) (hx : H x = some (.ins Cc dx fs)) (hc : Cls C.K Cc) (hn : NoAttr C.K Cc f) (hv : fs.lookup f = some (.int i)) (hl : fs.length < 1000)
    (k : ∀ H1, Ex H H1 → H1 x = some (.ins Cc dx fs) → EnvD C.K (upd H1 x (.ins Cc dx (putF f (.int (i + j)) fs))) σ ρ → D.nx σ (upd H1 x (.ins Cc dx (putF f (.int (i + j)) fs)))) : WS X (.AugAssign (.Attribute a f p') .Add e pos) D σ H :=
  PSw (ps_fldaug pe_w pe_w in_add) (ha.run X o o.N σ H (Ex.refl H) (by rw [o.K]; exact env) _ fun u H1 e1 q1 => by
    rw [q1.ref_inv]
    refine ⟨x, Cc, dx, fs, .int i, rfl, e1 _ _ hx, by rw [o.K]; exact hc, by rw [o.K]; exact hn, hv, he.run X o o.N σ H1 e1 (by rw [o.K]; exact env.mono (ex_tx e1)) _ fun w H2 e2 q2 => ?_⟩
    rw [q2.int_inv]
    have h2 := (e1.trans e2) _ _ hx
    have tx : Tx C.K H2 (upd H2 x (.ins Cc dx (putF f (.int (i + j)) fs))) := tx_upd (by rw [h2]; trivial)
    exact ⟨i, j, rfl, rfl, dx, fs, h2, hl, k H2 (e1.trans e2) h2 (env.mono ((ex_tx (e1.trans e2)).trans tx))⟩)
end
end Led

set_option maxRecDepth 100000
set_option maxHeartbeats 1000000
namespace Led
open PySem L2 Evl
section
variable {C : Ct} {X : Cx} {ρ : Rh} {σ : St} {H : Hp} {a b c e : Expr} {d : Dt} {pos : Pos} {D : Ends}
/-- xs[lo:hi] of a list: a new list -/
theorem jl_slL {lo hi : Option Expr} {l h : Option Int} {p : Addr} {vs : List V} {ds : List Dt} {p2 : Pos} (ha : JE C ρ H a (.ref p)) (hp : SqL C.K H p vs) (hd : Dis C.K H vs ds) (h1 : JO C ρ H lo l) (h2 : JO C ρ H hi h) : JL C ρ H (.Subscript a (.Slice lo hi none p2) pos) (cutD ds l h) := ⟨fun X o hN σ H1 e1 env Q q => by
  obtain ⟨tl, pl, kl⟩ := h1.run X o hN
  obtain ⟨th, ph, kh⟩ := h2.run X o hN
  refine PEw (pe_slice sl_list pe_w pl ph) (ha.run X o hN σ H1 e1 env _ fun v H2 e2 q1 => kl σ H2 (e1.trans e2) (env.mono (ex_tx e2)) _ fun H3 e3 => kh σ H3 ((e1.trans e2).trans e3) (env.mono (ex_tx (e2.trans e3))) _ fun H4 e4 => ?_)
  rw [q1.ref_inv]
  have ex := (((e1.trans e2).trans e3).trans e4)
  exact ⟨p, vs, rfl, by rw [o.K]; exact ex_l ex hp, fun r hr => q r _ _ (fresh_back ((e2.trans e3).trans e4) hr) (((e2.trans e3).trans e4).trans (Ex.new hr)) upd_same (by rw [o.K]; exact (dis_cut hd l h).mono (ex_tx (ex.trans (Ex.new hr))))⟩⟩
theorem we_mono {e : Expr} {Q Q' : VK} (h : WE X e σ H Q) (k : ∀ v H', Q v H' → Q' v H') : WE X e σ H Q' := fun pins s I => wpAny_mono (h pins s I) (fun v s' ⟨x, H', I', r, q⟩ => ⟨x, H', I', r, k x H' q⟩) fun _ _ z => z
/-- [elt for x in range(a)], a and elt changing the heap -/
theorem we_lcM2 {elt : Expr} {scope : Scope} {x : Str} {j n : Nat} {p p1 p2 p3 : Pos} {Q : VK} (o : C.Of X) (nd : C.N.Nodup) (ok : BlkOk C.N C.sc scope [(x, j)]) (hj : C.N[j]? = some x) (hx : LocN { C with sc := rl scope C.sc, fn := false } x) (hs1 : NoStar a []) (hg : GlN C "range") (hm : C.mg "range" = none) (hn : n < 100000)
    (ha : WE X a σ H (fun v H0 => v = .int (n : Int) ∧ EnvD C.K H0 σ ρ ∧ ∃ (ms : List Addr) (Iv : Nat → List V → Hp → Prop), (∀ m ∈ ms, (H0 m).isSome = true) ∧ (∀ H1, Ex H0 H1 → Iv 0 [] H1) ∧ (∀ i vs H1, Iv i vs H1 → ∀ m ∈ ms, NoT (H1 m)) ∧ (∀ i vs H1 D u, H0 D = none → NoT (H1 D) → Iv i vs H1 → Iv i vs (upd H1 D u)) ∧ (∀ i vs H1, Iv i vs H1 → vs.length ≤ i) ∧
      (∀ X', ({ C with sc := rl scope C.sc, fn := false } : Ct).Of X' → ∀ (i : Nat) vs σ' H1, i < n → Iv i vs H1 → EnvD C.K H1 σ' (ρ.set j (some (.int (i : Int)))) → ∀ Q' : VK, (∀ y H2, ExB ms H1 H2 → Iv (i + 1) (vs ++ [y]) H2 → Q' y H2) → WE X' elt σ' H1 Q') ∧
      (∀ l vs H', H0 l = none → ExB ms H0 H' → H' l = some (.lst vs) → Iv n vs H' → Q (.ref l) H'))) : WE X (.ListComp elt [⟨.Name x p, .Call (Nm "range" p1) [a] [] p2, [], 0⟩] scope p3) σ H Q := by
  refine PEw (pe_lc (own := [(x, j)]) (g := fun v σ H Q => ∀ s Hh Cc cl fp, WG (X.blk s Hh scope (compEnvC scope cl Cc X.env) fp) (.Name x p) v σ H Q) (tt := tYes)
    (te := fun σ H Q => ∀ s Hh Cc cl fp, WE (X.blk s Hh scope (compEnvC scope cl Cc X.env) fp) elt σ H Q) o.calm (by rw [o.N]; exact nd) (pi_range1 (o.gl hg) (o.fr hm) (pa_cons pe_w pa_nil (hs1 _)) (hs1 _)) (by rw [o.N, o.sc]; exact ok) (fun s Hh Cc cl fp => ⟨fun pins s1 σ1 H2 v1 u Q1 I r h => h s Hh Cc cl fp pins s1 u I r⟩)
    (fun s Hh Cc cl fp => pts_nil) (fun s Hh Cc cl fp => ⟨fun pins s1 σ1 H2 Q1 I h => h s Hh Cc cl fp pins s1 I⟩)) ?_
  refine we_mono ha fun v H0 hv => ?_
  obtain ⟨rfl, env, ms, Iv, hms, h0, hno, stab, hlen, hs, q⟩ := hv
  refine ⟨(n : Int), rfl, by omega, by omega, fun D hDH => ?_⟩
  have hDm : D ∉ ms := fun z => by
    have := hms D z
    rw [hDH] at this
    cases this
  refine lc_range (lo := 0) (n := (n : Int).toNat) (g := fun v σ H Q => ∀ s Hh Cc cl fp, WG (X.blk s Hh scope (compEnvC scope cl Cc X.env) fp) (.Name x p) v σ H Q) (tt := tYes) (te := fun σ H Q => ∀ s Hh Cc cl fp, WE (X.blk s Hh scope (compEnvC scope cl Cc X.env) fp) elt σ H Q) (vs := [(x, j)].map (·.2)) (σ := σ) (Qd := fun H => Q (.ref D) H) (fun i H' => ∃ vs, H' D = some (.lst vs) ∧ Iv i vs H' ∧ ExB ms H0 H' ∧ EnvD C.K H' σ ρ) ⟨[], upd_same, stab _ _ _ _ _ hDH (by rw [hDH]; trivial) (h0 H0 (Ex.refl _)), ?_, env.mono (ex_tx (Ex.new hDH))⟩ (fun i H' hi pv => ?_) (fun H' pv => ?_)
  · exact .of (Ex.new hDH)
  · obtain ⟨vs, hvs, iv, xb, en⟩ := pv
    intro s Hh Cc cl fp
    have o1 := of_blk o s Hh scope cl Cc fp
    refine (jg_name (C := { C with sc := rl scope C.sc, fn := false }) (i := j) nd hj hx).run _ o1 _ (wipe σ _) H' _ (env_wipe en _) (.int _) ?_
    intro σ2 en2 l2 w2
    refine ⟨wipe_eq l2 w2 (by intro k hk; exact hk), ?_⟩
    unfold tYes
    dsimp only
    rw [if_pos rfl]
    intro s' Hh' Cc' cl' fp'
    have hen : EnvD C.K H' σ2 (ρ.set j (some (.int (i : Int)))) := by
      have e0 : (0 : Int) + (i : Int) = (i : Int) := by omega
      have : EnvD C.K H' σ2 ((ρ.set j none).set j (some (.int ((0 : Int) + (i : Int))))) := en2
      rw [List.set_set, e0] at this
      exact this
    refine hs _ (of_blk o s' Hh' scope cl' Cc' fp') i vs σ2 H' (by omega) iv hen _ fun y H2 xb2 iv2 => ?_
    have hD2 : H2 D = some (.lst vs) := xb2 _ _ hvs hDm
    have hl := hlen i vs H' iv
    refine ⟨vs, hD2, sz_lt (by omega), vs ++ [y], upd_same, stab _ _ _ _ _ hDH (by rw [hD2]; trivial) iv2, ?_, ?_⟩
    · intro b u hb nb
      rw [upd_ne (ne_of_none hb hDH)]
      exact xb2 _ _ (xb b u hb nb) nb
    · have tx1 : Tx C.K H' H2 := xb2.tx (hno i vs H' iv)
      exact en.mono (tx1.trans (tx_upd (by rw [hD2]; trivial)))
  · obtain ⟨vs, hvs, iv, xb, en⟩ := pv
    rw [Int.toNat_natCast] at iv
    exact q D vs H' hDH xb hvs iv
/-- y = [elt for x in range(a)], a and elt changing the heap -/
theorem ws_setLcM2 {i : Nat} {y : Str} {py spos : Pos} {elt : Expr} {scope : Scope} {x : Str} {j n : Nat} {p p1 p2 p3 : Pos} (o : C.Of X) (nd : C.N.Nodup) (hy : C.N[i]? = some y) (hyl : LocN C y) (hsw : ∀ env : Env, env.scope = C.sc → swapsWith (.ListComp elt [⟨.Name x p, .Call (Nm "range" p1) [a] [] p2, [], 0⟩] scope p3) (some (.Name y py)) spos.line env = pure true) (ok : BlkOk C.N C.sc scope [(x, j)]) (hj : C.N[j]? = some x) (hx : LocN { C with sc := rl scope C.sc, fn := false } x) (hs1 : NoStar a []) (hg : GlN C "range") (hm : C.mg "range" = none) (hn : n < 100000)
    (ha : WE X a σ H (fun v H0 => v = .int (n : Int) ∧ EnvD C.K H0 σ ρ ∧ ∃ (ms : List Addr) (Iv : Nat → List V → Hp → Prop), (∀ m ∈ ms, (H0 m).isSome = true) ∧ (∀ H1, Ex H0 H1 → Iv 0 [] H1) ∧ (∀ i vs H1, Iv i vs H1 → ∀ m ∈ ms, NoT (H1 m)) ∧ (∀ i vs H1 D u, H0 D = none → NoT (H1 D) → Iv i vs H1 → Iv i vs (upd H1 D u)) ∧ (∀ i vs H1, Iv i vs H1 → vs.length ≤ i) ∧
      (∀ X', ({ C with sc := rl scope C.sc, fn := false } : Ct).Of X' → ∀ (i : Nat) vs σ' H1, i < n → Iv i vs H1 → EnvD C.K H1 σ' (ρ.set j (some (.int (i : Int)))) → ∀ Q' : VK, (∀ y H2, ExB ms H1 H2 → Iv (i + 1) (vs ++ [y]) H2 → Q' y H2) → WE X' elt σ' H1 Q') ∧
      (∀ l vs σ' H', H0 l = none → ExB ms H0 H' → H' l = some (.lst vs) → Iv n vs H' → EnvD C.K H' σ' (ρ.set i (some (.ref l))) → D.nx σ' H'))) : WS X (.Assign [.Name y py] (.ListComp elt [⟨.Name x p, .Call (Nm "range" p1) [a] [] p2, [], 0⟩] scope p3) spos) D σ H := by
  refine PSw (ps_setLc (i := i) (own := [(x, j)]) (g := fun v σ H Q => ∀ s Hh Cc cl fp, WG (X.blk s Hh scope (compEnvC scope cl Cc X.env) fp) (.Name x p) v σ H Q) (tt := tYes)
    (te := fun σ H Q => ∀ s Hh Cc cl fp, WE (X.blk s Hh scope (compEnvC scope cl Cc X.env) fp) elt σ H Q) o.calm (by rw [o.N]; exact nd) (by rw [o.N]; exact hy) (by rw [o.sc]; exact hyl) (hsw _ o.sc) (pi_range1 (o.gl hg) (o.fr hm) (pa_cons pe_w pa_nil (hs1 _)) (hs1 _)) (by rw [o.N, o.sc]; exact ok) (fun s Hh Cc cl fp => ⟨fun pins s1 σ1 H2 v1 u Q1 I r h => h s Hh Cc cl fp pins s1 u I r⟩)
    (fun s Hh Cc cl fp => pts_nil) (fun s Hh Cc cl fp => ⟨fun pins s1 σ1 H2 Q1 I h => h s Hh Cc cl fp pins s1 I⟩)) ?_
  refine we_mono ha fun v H0 hv => ?_
  obtain ⟨rfl, env, ms, Iv, hms, h0, hno, stab, hlen, hs, q⟩ := hv
  refine ⟨(n : Int), rfl, by omega, by omega, fun L hDH => ?_⟩
  have hDm : L ∉ ms := fun z => by
    have := hms L z
    rw [hDH] at this
    cases this
  refine lc_range (lo := 0) (n := (n : Int).toNat) (g := fun v σ H Q => ∀ s Hh Cc cl fp, WG (X.blk s Hh scope (compEnvC scope cl Cc X.env) fp) (.Name x p) v σ H Q) (tt := tYes) (te := fun σ H Q => ∀ s Hh Cc cl fp, WE (X.blk s Hh scope (compEnvC scope cl Cc X.env) fp) elt σ H Q) (vs := [(x, j)].map (·.2)) (σ := σ) (Qd := fun H => D.nx (σ.set i (some (.ref L))) H) (fun ii H' => ∃ vs, H' L = some (.lst vs) ∧ Iv ii vs H' ∧ ExB ms H0 H' ∧ EnvD C.K H' σ ρ) ⟨[], upd_same, stab _ _ _ _ _ hDH (by rw [hDH]; trivial) (h0 H0 (Ex.refl _)), ?_, env.mono (ex_tx (Ex.new hDH))⟩ (fun ii H' hi pv => ?_) (fun H' pv => ?_)
  · exact .of (Ex.new hDH)
  · obtain ⟨vs, hvs, iv, xb, en⟩ := pv
    intro s Hh Cc cl fp
    have o1 := of_blk o s Hh scope cl Cc fp
    refine (jg_name (C := { C with sc := rl scope C.sc, fn := false }) (i := j) nd hj hx).run _ o1 _ (wipe σ _) H' _ (env_wipe en _) (.int _) ?_
    intro σ2 en2 l2 w2
    refine ⟨wipe_eq l2 w2 (by intro k hk; exact hk), ?_⟩
    unfold tYes
    dsimp only
    rw [if_pos rfl]
    intro s' Hh' Cc' cl' fp'
    have hen : EnvD C.K H' σ2 (ρ.set j (some (.int (ii : Int)))) := by
      have e0 : (0 : Int) + (ii : Int) = (ii : Int) := by omega
      have : EnvD C.K H' σ2 ((ρ.set j none).set j (some (.int ((0 : Int) + (ii : Int))))) := en2
      rw [List.set_set, e0] at this
      exact this
    refine hs _ (of_blk o s' Hh' scope cl' Cc' fp') ii vs σ2 H' (by omega) iv hen _ fun y H2 xb2 iv2 => ?_
    have hD2 : H2 L = some (.lst vs) := xb2 _ _ hvs hDm
    have hl := hlen ii vs H' iv
    refine ⟨vs, hD2, sz_lt (by omega), vs ++ [y], upd_same, stab _ _ _ _ _ hDH (by rw [hD2]; trivial) iv2, ?_, ?_⟩
    · intro b u hb nb
      rw [upd_ne (ne_of_none hb hDH)]
      exact xb2 _ _ (xb b u hb nb) nb
    · have tx1 : Tx C.K H' H2 := xb2.tx (hno ii vs H' iv)
      exact en.mono (tx1.trans (tx_upd (by rw [hD2]; trivial)))
  · obtain ⟨vs, hvs, iv, xb, en⟩ := pv
    rw [Int.toNat_natCast] at iv
    exact q L vs _ H' hDH xb hvs iv ((env.mono (xb.tx (hno 0 [] H0 (h0 H0 (Ex.refl _))))).set (.ref L))
end
end Led

set_option maxRecDepth 100000
set_option maxHeartbeats 4000000
namespace Led
open PySem L2 Evl
local macro_rules | `(tactic| walk_at "at") => `(tactic| first
  | with_reducible exact At.here
  | (with_reducible refine' At.there ?h0; (case h0 => walk_at "at")))
local macro_rules | `(tactic| walk_at "vis") => `(tactic| first
  | exact Or.inl rfl
  | exact Or.inr (Or.inl rfl)
  | exact Or.inr (Or.inr rfl))
local macro_rules | `(tactic| walk_at "kit") => `(tactic| first
  | with_reducible exact kit_ii
  | with_reducible exact kit_ib
  | with_reducible exact kit_it
  | with_reducible exact kit_is
  | with_reducible exact kit_bi
  | with_reducible exact kit_bb
  | with_reducible exact kit_bt
  | with_reducible exact kit_bs
  | with_reducible exact kit_si
  | with_reducible exact kit_sb
  | with_reducible exact kit_st
  | with_reducible exact kit_ss
  | with_reducible exact kit_ni
  | with_reducible exact kit_nb
  | with_reducible exact kit_nt
  | with_reducible exact kit_ns
  | with_reducible exact kit_ti
  | with_reducible exact kit_tb
  | with_reducible exact kit_tt
  | with_reducible exact kit_ts)
local macro_rules | `(tactic| walk_at "je") => `(tactic| first
  | exact je_int
  | exact je_bl
  | exact je_non
  | exact je_str
  | (refine' je_var ?h0 ?h1 ?h2 ?h3; (case h0 => walk_at "at"); (case h1 => walk_at "vis"); (case h2 => decide +kernel); (case h3 => decide +kernel))
  | (refine' je_var2 ?h0 ?h1 ?h2 ?h3; (case h0 => rfl); (case h1 => walk_at "vis"); (case h2 => decide +kernel); (case h3 => decide +kernel))
  | (refine' je_globI ?h0 ?h1 ?h2; (case h0 => rfl); (case h1 => with_reducible assumption); (case h2 => decide +kernel))
  | (refine' je_globS ?h0 ?h1 ?h2; (case h0 => rfl); (case h1 => with_reducible assumption); (case h2 => decide +kernel))
  | (refine' je_add ?h0 ?h1; (case h0 => walk_at "je"); (case h1 => walk_at "je"))
  | (refine' je_sub ?h0 ?h1; (case h0 => walk_at "je"); (case h1 => walk_at "je"))
  | (refine' je_lt ?h0 ?h1; (case h0 => walk_at "je"); (case h1 => walk_at "je"))
  | (refine' je_le ?h0 ?h1; (case h0 => walk_at "je"); (case h1 => walk_at "je"))
  | (refine' je_gt ?h0 ?h1; (case h0 => walk_at "je"); (case h1 => walk_at "je"))
  | (refine' je_ge ?h0 ?h1; (case h0 => walk_at "je"); (case h1 => walk_at "je"))
  | (refine' je_eqI ?h0 ?h1; (case h0 => walk_at "je"); (case h1 => walk_at "je"))
  | (refine' je_neI ?h0 ?h1; (case h0 => walk_at "je"); (case h1 => walk_at "je"))
  | (refine' je_mul ?h0 ?h1 ?h2; (case h0 => walk_at "je"); (case h1 => walk_at "je"); (case h2 => walk_at "side"))
  | (refine' je_div ?h0 ?h1 ?h2; (case h0 => walk_at "je"); (case h1 => walk_at "je"); (case h2 => walk_at "side"))
  | (refine' je_mod ?h0 ?h1 ?h2; (case h0 => walk_at "je"); (case h1 => walk_at "je"); (case h2 => walk_at "side"))
  | (refine' je_lele ?h0 ?h1 ?h2 ?h3; (case h0 => walk_at "je"); (case h1 => walk_at "je"); (case h2 => walk_at "je"); (case h3 => with_unfolding_all rfl))
  | (refine' je_isN ?h0; (case h0 => walk_at "je"))
  | (refine' je_notN ?h0; (case h0 => walk_at "je"))
  | (refine' je_not ?h0; (case h0 => walk_at "je"))
  | (refine' je_one ?h0; (case h0 => walk_at "je"))
  | (refine' je_un ?h0; (case h0 => walk_at "je"))
  | (refine' je_andB ?h0 (fun _ => ?h1); (case h0 => walk_at "je"); (case h1 => walk_at "je"))
  | (refine' je_orB ?h0 (fun _ => ?h1); (case h0 => walk_at "je"); (case h1 => walk_at "je"))
  | (refine' je_notT ?h0; (case h0 => walk_at "je"))
  | (refine' je_notF ?h0; (case h0 => walk_at "je"))
  | (refine' je_andF ?h0; (case h0 => walk_at "je"))
  | (refine' je_orT ?h0; (case h0 => walk_at "je"))
  | (refine' je_if ?h0 (fun _ => ?h1) (fun _ => ?h2); (case h0 => walk_at "jt"); (case h1 => walk_at "je"); (case h2 => walk_at "je"))
  | (refine' je_tup ?h0 ?h1; (case h0 => walk_at "ja"); (case h1 => walk_at "side"))
  | (refine' je_ixT ?h0 ?h1 ?h2 ?h3; (case h0 => exact fun _ _ => rfl); (case h1 => walk_at "je"); (case h2 => walk_at "je"); (case h3 => walk_at "ix"))
  | (refine' je_ixN ?h0 ?h1 ?h2 ?h3; (case h0 => exact fun _ _ => rfl); (case h1 => walk_at "jl"); (case h2 => walk_at "je"); (case h3 => walk_at "ix"))
  | (refine' je_sl ?h0 ?h1 ?h2 ?h3; (case h0 => walk_at "je"); (case h1 => walk_at "jo"); (case h2 => walk_at "jo"); (case h3 => walk_at "side"))
  | (refine' je_abs ?h0 ?h1 ?h2 ?h3; (case h0 => exact fun _ => rfl); (case h1 => rfl); (case h2 => with_reducible assumption); (case h3 => walk_at "je"))
  | (refine' je_int1 ?h0 ?h1 ?h2 ?h3; (case h0 => exact fun _ => rfl); (case h1 => rfl); (case h2 => with_reducible assumption); (case h3 => walk_at "je"))
  | (refine' je_max2 ?h0 ?h1 ?h2 ?h3 ?h4; (case h0 => exact fun _ => rfl); (case h1 => exact fun _ _ => rfl); (case h2 => rfl); (case h3 => with_reducible assumption); (case h4 => walk_at "ja"))
  | (refine' je_min2 ?h0 ?h1 ?h2 ?h3 ?h4; (case h0 => exact fun _ => rfl); (case h1 => exact fun _ _ => rfl); (case h2 => rfl); (case h3 => with_reducible assumption); (case h4 => walk_at "ja"))
  | (refine' je_lenT ?h0 ?h1 ?h2 ?h3; (case h0 => exact fun _ => rfl); (case h1 => rfl); (case h2 => with_reducible assumption); (case h3 => walk_at "je"))
  | (refine' je_tupN ?h0 ?h1 ?h2 ?h3; (case h0 => exact fun _ => rfl); (case h1 => rfl); (case h2 => with_reducible assumption); (case h3 => walk_at "jl"))
  | (refine' je_all ?h0 ?h1 ?h2 ?h3; (case h0 => exact fun _ => rfl); (case h1 => rfl); (case h2 => with_reducible assumption); (case h3 => walk_at "jl"))
  | (refine' je_any ?h0 ?h1 ?h2 ?h3; (case h0 => exact fun _ => rfl); (case h1 => rfl); (case h2 => with_reducible assumption); (case h3 => walk_at "jl"))
  | (refine' je_isiI ?h0 ?h1 ?h2 ?h3 ?h4 ?h5 ?h6 ?h7; (case h0 => exact fun _ => rfl); (case h1 => rfl); (case h2 => with_reducible assumption); (case h3 => rfl); (case h4 => with_reducible assumption); (case h5 => walk_at "je"); (case h6 => rfl); (case h7 => walk_at "kit"))
  | (refine' je_isiB ?h0 ?h1 ?h2 ?h3 ?h4 ?h5 ?h6 ?h7; (case h0 => exact fun _ => rfl); (case h1 => rfl); (case h2 => with_reducible assumption); (case h3 => rfl); (case h4 => with_reducible assumption); (case h5 => walk_at "je"); (case h6 => rfl); (case h7 => walk_at "kit"))
  | (refine' je_isiT ?h0 ?h1 ?h2 ?h3 ?h4 ?h5 ?h6 ?h7; (case h0 => exact fun _ => rfl); (case h1 => rfl); (case h2 => with_reducible assumption); (case h3 => rfl); (case h4 => with_reducible assumption); (case h5 => walk_at "je"); (case h6 => rfl); (case h7 => walk_at "kit"))
  | (refine' je_isiS ?h0 ?h1 ?h2 ?h3 ?h4 ?h5 ?h6 ?h7; (case h0 => exact fun _ => rfl); (case h1 => rfl); (case h2 => with_reducible assumption); (case h3 => rfl); (case h4 => with_reducible assumption); (case h5 => walk_at "je"); (case h6 => rfl); (case h7 => walk_at "kit"))
  | (refine' je_call ?h0 ?h1 ?h2 ?h3 ?h4 ?h5 ?h6 ?h7; (case h0 => with_reducible assumption); (case h1 => exact Nat.le_of_ble_eq_true rfl); (case h2 => rfl); (case h3 => decide +kernel); (case h4 => exact fun _ => rfl); (case h5 => exact fun _ _ => rfl); (case h6 => walk_at "ja"); (case h7 => walk_at "rel"))
  | (refine' je_cat ?h0 ?h1 ?h2 ?h3; (case h0 => walk_at "je"); (case h1 => walk_at "je"); (case h2 => walk_at "side"); (case h3 => walk_at "side")))
local macro_rules | `(tactic| walk_at "jt") => `(tactic| first
  | (refine' jt_lt ?h0 ?h1; (case h0 => walk_at "je"); (case h1 => walk_at "je"))
  | (refine' jt_le ?h0 ?h1; (case h0 => walk_at "je"); (case h1 => walk_at "je"))
  | (refine' jt_gt ?h0 ?h1; (case h0 => walk_at "je"); (case h1 => walk_at "je"))
  | (refine' jt_ge ?h0 ?h1; (case h0 => walk_at "je"); (case h1 => walk_at "je"))
  | (refine' jt_eqI ?h0 ?h1; (case h0 => walk_at "je"); (case h1 => walk_at "je"))
  | (refine' jt_neI ?h0 ?h1; (case h0 => walk_at "je"); (case h1 => walk_at "je"))
  | (refine' jt_lele ?h0 ?h1 ?h2 ?h3; (case h0 => walk_at "je"); (case h1 => walk_at "je"); (case h2 => walk_at "je"); (case h3 => with_unfolding_all rfl))
  | (refine' jt_isN ?h0; (case h0 => walk_at "je"))
  | (refine' jt_notN ?h0; (case h0 => walk_at "je"))
  | (refine' jt_not ?h0; (case h0 => walk_at "jt"))
  | (refine' jt_w ?h0; (case h0 => walk_at "jw"))
  | (refine' jt_val ?h0 ?h1; (case h0 => exact fun _ _ => rfl); (case h1 => walk_at "je")))
local macro_rules | `(tactic| walk_at "jw") => `(tactic| first
  | (refine' jw_and1 ?h0; (case h0 => walk_at "jt"))
  | (refine' jw_or1 ?h0; (case h0 => walk_at "jt"))
  | (refine' jw_and ?h0 (fun _ => ?h1); (case h0 => walk_at "jt"); (case h1 => walk_at "jw"))
  | (refine' jw_or ?h0 (fun _ => ?h1); (case h0 => walk_at "jt"); (case h1 => walk_at "jw"))
  | (refine' jw_andF ?h0; (case h0 => walk_at "jt"))
  | (refine' jw_orT ?h0; (case h0 => walk_at "jt")))
local macro_rules | `(tactic| walk_at "ja") => `(tactic| first
  | exact ja_nil
  | (refine' ja_cons ?h0 ?h1 ?h2; (case h0 => exact fun _ => rfl); (case h1 => walk_at "je"); (case h2 => walk_at "ja")))
local macro_rules | `(tactic| walk_at "jo") => `(tactic| first
  | exact jo_none
  | (refine' jo_some ?h0; (case h0 => walk_at "je")))
local macro_rules | `(tactic| walk_at "jl") => `(tactic| first
  | (refine' jl_lst ?h0 ?h1; (case h0 => walk_at "ja"); (case h1 => walk_at "side"))
  | (refine' jl_list ?h0 ?h1 ?h2 ?h3; (case h0 => exact fun _ => rfl); (case h1 => rfl); (case h2 => with_reducible assumption); (case h3 => walk_at "je")))
local macro_rules | `(tactic| walk_at "ix") => `(tactic| first
  | rfl
  | assumption)
local macro_rules | `(tactic| walk_at "side") => `(tactic| first
  | exact Nat.le_of_ble_eq_true rfl
  | omega
  | exact ⟨by omega, by omega⟩
  | exact Or.inl ⟨by omega, by omega⟩
  | exact Or.inr ⟨by omega, by omega⟩
  | exact fun z => absurd z.1 (Nat.ne_of_beq_eq_false rfl)
  | exact fun z => absurd z.2 (Nat.ne_of_beq_eq_false rfl)
  | exact List.cons_ne_nil _ _
  | assumption)
local macro_rules | `(tactic| walk_at "rel") => `(tactic| first
  | assumption)
def top (i : Nat) : Stmt := PySem.Challenge.pw_ledlines_k44_codes_there_and_back.main.body.getD i (.Pass ⟨0, 0, 0, 0⟩)
abbrev s__wall : Stmt := top 0
abbrev s_InvalidDrawing___init__ : Stmt := inClass (top 3) 0
abbrev s_DecodeError___init__ : Stmt := inClass (top 4) 0
abbrev s_is_number : Stmt := top 9
abbrev s_is_piece : Stmt := top 10
abbrev s_divisor : Stmt := top 11
abbrev s_fraction : Stmt := top 12
abbrev s_across : Stmt := top 13
abbrev s_way : Stmt := top 14
abbrev s_along : Stmt := top 15
abbrev s_overlap : Stmt := top 16
abbrev s_point_at : Stmt := top 17
abbrev s_common_point : Stmt := top 18
abbrev s_Drawing___init__ : Stmt := inClass (top 19) 1
abbrev s_Drawing_pieces : Stmt := inClass (top 19) 2
abbrev s_Drawing___len__ : Stmt := inClass (top 19) 3
abbrev s_Drawing___eq__ : Stmt := inClass (top 19) 4
abbrev s_Drawing_check_piece : Stmt := inClass (top 19) 5
abbrev s_checksum : Stmt := top 25
abbrev s_encode_drawing : Stmt := top 26
abbrev s_Reader___init__ : Stmt := inClass (top 27) 0
abbrev s_Reader_item : Stmt := inClass (top 27) 1
abbrev s_Reader_read_piece : Stmt := inClass (top 27) 2
abbrev s_Reader_finish : Stmt := inClass (top 27) 3
abbrev s_decode_drawing : Stmt := top 28
abbrev s__law_taken : Stmt := top 30
abbrev s__law_is_good : Stmt := top 31
abbrev s__law_drawing : Stmt := top 32
abbrev s__law_checked : Stmt := top 33
abbrev s_law : Stmt := top 34
section
variable {P : Program} {w : World} {K : PySem.W.Frag} {mg : Str → Option Value} {base : Heap}
/-! is_number -/
def isNum (d : Dt) (a b : Int) : Bool := match d with
  | .int i => decide (a ≤ i) && decide (i ≤ b)
  | _ => false
def R_is_number (ds : List Dt) (d : Dt) : Prop := ∃ v a b, ds = [v, .int a, .int b] ∧ (tyD v).isSome = true ∧ d = .bl (isNum v a b)
theorem sc_is_number : FnScope ["value", "smallest", "largest"] ["value", "smallest", "largest"] (defScope s_is_number) := ⟨rfl, rfl, rfl, by decide +kernel, rfl, by decide +kernel, by decide +kernel⟩
theorem ok_is_number {f : Addr} {fd : FuncData} (F : Fun K "is_number" "is_number" s_is_number f fd) (m1 : mg "isinstance" = none) (m2 : mg "int" = none) (m3 : mg "bool" = none) : FnOk P w K mg base CX0 1 f fd ["value", "smallest", "largest"] (SpF K R_is_number) := by
  refine fn_pure F sc_is_number (fun ds d h => ?_) (fun X ds d σ H Q o pn hR env q => ?_)
  · obtain ⟨v, a, b, rfl, _⟩ := h
    rfl
  · obtain ⟨v, a, b, rfl, ht, rfl⟩ := hR
    replace env : EnvD K H σ [some v, some (.int a), some (.int b)] := env
    cases v with
    | ref a => cases ht
    | _ =>
      refine' wb_one (ws_ret o env (je_is ?h0 ?h1) q)
      case h0 => walk_at "je"
      case h1 => rfl
/-! divisor -/
def R_divisor (ds : List Dt) (d : Dt) : Prop := ∃ a b : Int, ds = [.int a, .int b] ∧ 0 ≤ b ∧ d = .int (Int.gcd a b)
theorem gcd_step (x y : Int) : Int.gcd y (x % y) = Int.gcd x y := by
  have h : x = x % y + y * (x / y) := (Int.emod_add_mul_ediv x y).symm
  rw [Int.gcd_comm y]
  conv => rhs; rw [h]
  exact (Int.gcd_add_mul_left_left y (x % y) (x / y)).symm
theorem gcd_zero_abs (x : Int) : (if x < 0 then -x else x) = ((Int.gcd x 0 : Nat) : Int) := by
  rw [Int.gcd_zero_right]
  split <;> omega
theorem sc_divisor : FnScope ["one", "other"] ["one", "other"] (defScope s_divisor) := ⟨rfl, rfl, rfl, by decide +kernel, rfl, by decide +kernel, by decide +kernel⟩
theorem ok_divisor {f : Addr} {fd : FuncData} (F : Fun K "divisor" "divisor" s_divisor f fd) (m1 : mg "int" = none) (m2 : mg "abs" = none) : FnOk P w K mg base CX0 1 f fd ["one", "other"] (SpF K R_divisor) := by
  refine fn_pure F sc_divisor (fun ds d h => ?_) (fun X ds d σ H Q o pn hR env q => ?_)
  · obtain ⟨a, b, rfl, _⟩ := h
    rfl
  · obtain ⟨a, b, rfl, hb, rfl⟩ := hR
    replace env : EnvD K H σ [some (.int a), some (.int b)] := env
    refine wb_cons (ws_while o pn (fun m σ' H' => ∃ x y : Int, 0 ≤ y ∧ m = y.toNat ∧ Int.gcd x y = Int.gcd a b ∧ EnvD K H' σ' [some (.int x), some (.int y)] ∧ Ex H H') b.toNat ⟨a, b, hb, rfl, rfl, env, Ex.refl H⟩ ?_)
    rintro m σ' H' ⟨x, y, hy, rfl, hg, en, ex⟩
    refine ⟨_, !decide (y = 0), en, jt_neI (by walk_at "je") (by walk_at "je"), fun ht H1 e1 en1 => ?_, fun hf H1 e1 => ?_⟩
    · have hy0 : 0 < y := by
        have : ¬ y = 0 := by simpa using ht
        omega
      refine ⟨fun σ2 H2 => EnvD K H2 σ2 [some (.int y), some (.int (x % y))] ∧ Ex H H2, fun σ2 H2 ⟨en2, ex2⟩ => ⟨(x % y).toNat, ?_, y, x % y, Int.emod_nonneg _ (by omega), rfl, by rw [gcd_step]; exact hg, en2, ex2⟩, ?_⟩
      · have := Int.emod_lt_of_pos x hy0
        have := Int.emod_nonneg x (show y ≠ 0 by omega)
        omega
      · refine' wb_one (ws_par (i := 0) (j := 1) (d1 := .int y) (d2 := .int (x % y)) o en1 sc_divisor.nd rfl rfl (by decide) rfl rfl ?h0 ?h1 ?h2 fun v w σ2 H2 e2 hv hw en2 => ⟨en2, (ex.trans e1).trans e2⟩)
        case h0 => intro env h; cases env; cases h; rfl
        case h1 => intro env h; cases env; cases h; rfl
        case h2 => walk_at "ja"
    · have hy0 : y = 0 := by simpa using hf
      subst hy0
      refine' wb_one (ws_ret o (en.mono (ex_tx e1)) (je_is ?h0 ?h1) fun v H2 e2 hv => q v H2 ((ex.trans e1).trans e2) hv)
      case h0 => walk_at "je"
      case h1 => rw [gcd_zero_abs, hg]
/-! fraction -/
def R_fraction (ds : List Dt) (d : Dt) : Prop := ∃ a b : Int, ds = [.int a, .int b] ∧ 0 < b ∧ b < 1073741824 ∧ d = .tup [.int (a / Int.gcd a b), .int (b / Int.gcd a b)]
theorem sc_fraction : FnScope ["top", "bottom", "common", "sign"] ["top", "bottom"] (defScope s_fraction) := ⟨rfl, rfl, rfl, by decide +kernel, rfl, by decide +kernel, by decide +kernel⟩
theorem gcd_le_right {a b : Int} (hb : 0 < b) : (0 : Int) < Int.gcd a b ∧ (Int.gcd a b : Int) ≤ b := by
  have h1 : (Int.gcd a b : Int) ∣ b := Int.gcd_dvd_right ..
  have h2 := Int.le_of_dvd hb h1
  have h3 : Int.gcd a b ≠ 0 := fun z => by
    have := (Int.gcd_eq_zero_iff.mp z).2
    omega
  omega
theorem ok_fraction {f : Addr} {fd : FuncData} (F : Fun K "fraction" "fraction" s_fraction f fd) (G1 : Fn0 P w K mg base CX0 1 "divisor" (SpF K R_divisor)) : FnOk P w K mg base CX0 2 f fd ["top", "bottom"] (SpF K R_fraction) := by
  refine fn_pure F sc_fraction (fun ds d h => ?_) (fun X ds d σ H Q o pn hR env q => ?_)
  · obtain ⟨a, b, rfl, _⟩ := h
    rfl
  · obtain ⟨a, b, rfl, hb, hb2, rfl⟩ := hR
    replace env : EnvD K H σ [some (.int a), some (.int b), none, none] := env
    have hg := gcd_le_right (a := a) hb
    refine' wb_cons (ws_set (i := 2) (d := .int (Int.gcd a b)) o env sc_fraction.nd rfl rfl (fun _ => rfl) ?h0 fun v σ1 H1 e1 hv en1 => ?_)
    case h0 =>
      refine' je_call G1 (Nat.le_of_ble_eq_true rfl) rfl (by decide +kernel) (fun _ => rfl) (fun _ _ => rfl) ?h1 ?h2
      case h1 => walk_at "ja"
      case h2 => exact ⟨a, b, rfl, by omega, rfl⟩
    refine' wb_cons (ws_set (i := 3) (d := .int 1) o en1 sc_fraction.nd rfl rfl (fun _ => rfl) (je_is ?h0 ?h1) fun v σ2 H2 e2 hv en2 => ?_)
    case h0 => 
      refine' je_if ?h2 (fun _ => ?h3) (fun _ => ?h4)
      case h2 => walk_at "jt"
      case h3 => walk_at "je"
      case h4 => exact je_un (by walk_at "je")
    case h1 => rw [decide_eq_true hb, if_pos rfl]
    refine' wb_one (ws_ret o en2 (je_is ?h0 ?h1) fun v H3 e3 hv => q v H3 ((e1.trans e2).trans e3) hv)
    case h0 => walk_at "je"
    case h1 => rw [Int.one_mul, Int.one_mul]
/-! way, across -/
local macro_rules | `(tactic| walk_at "rel") => `(tactic| first | exact ⟨_, _, _, _, rfl, rfl⟩ | exact ⟨_, _, _, _, rfl, ⟨by omega, by omega⟩, ⟨by omega, by omega⟩, rfl⟩)
def R_way (ds : List Dt) (d : Dt) : Prop := ∃ a b c e : Int, ds = [.tup [.int a, .int b, .int c, .int e]] ∧ d = .tup [.int (c - a), .int (e - b)]
theorem sc_way : FnScope ["piece"] ["piece"] (defScope s_way) := ⟨rfl, rfl, rfl, by decide +kernel, rfl, by decide +kernel, by decide +kernel⟩
theorem ok_way {f : Addr} {fd : FuncData} (F : Fun K "way" "way" s_way f fd) : FnOk P w K mg base CX0 1 f fd ["piece"] (SpF K R_way) := by
  refine fn_pure F sc_way (fun ds d h => ?_) (fun X ds d σ H Q o pn hR env q => ?_)
  · obtain ⟨a, b, c, e, rfl, _⟩ := h
    rfl
  · obtain ⟨a, b, c, e, rfl, rfl⟩ := hR
    replace env : EnvD K H σ [some (.tup [.int a, .int b, .int c, .int e])] := env
    refine' wb_one (ws_ret o env ?h0 q)
    case h0 => walk_at "je"
def R_across (ds : List Dt) (d : Dt) : Prop := ∃ a b c e : Int, ds = [.tup [.int a, .int b], .tup [.int c, .int e]] ∧ (-1000000 < a ∧ a < 1000000) ∧ (-1000000 < b ∧ b < 1000000) ∧ d = .int (a * e - b * c)
theorem sc_across : FnScope ["one", "other"] ["one", "other"] (defScope s_across) := ⟨rfl, rfl, rfl, by decide +kernel, rfl, by decide +kernel, by decide +kernel⟩
theorem ok_across {f : Addr} {fd : FuncData} (F : Fun K "across" "across" s_across f fd) : FnOk P w K mg base CX0 1 f fd ["one", "other"] (SpF K R_across) := by
  refine fn_pure F sc_across (fun ds d h => ?_) (fun X ds d σ H Q o pn hR env q => ?_)
  · obtain ⟨a, b, c, e, rfl, _⟩ := h
    rfl
  · obtain ⟨a, b, c, e, rfl, ha, hb, rfl⟩ := hR
    replace env : EnvD K H σ [some (.tup [.int a, .int b]), some (.tup [.int c, .int e])] := env
    refine' wb_one (ws_ret o env ?h0 q)
    case h0 => walk_at "je"
/-! along -/
structure Pc where
  x : Int
  y : Int
  u : Int
  v : Int
  deriving DecidableEq
def Pc.d (p : Pc) : Dt := .tup [.int p.x, .int p.y, .int p.u, .int p.v]
structure Pc.In (p : Pc) : Prop where
  x : 0 ≤ p.x ∧ p.x ≤ 60
  y : 0 ≤ p.y ∧ p.y ≤ 60
  u : 0 ≤ p.u ∧ p.u ≤ 60
  v : 0 ≤ p.v ∧ p.v ≤ 60
def Pc.a (p : Pc) : Int := p.u - p.x
def Pc.b (p : Pc) : Int := p.v - p.y
def Pc.len (p : Pc) : Int := p.a * p.a + p.b * p.b
def Pc.at1 (p q : Pc) : Int := (q.x - p.x) * p.a + (q.y - p.y) * p.b
def Pc.at2 (p q : Pc) : Int := (q.u - p.x) * p.a + (q.v - p.y) * p.b
def imin (a b : Int) : Int := if b < a then b else a
def imax (a b : Int) : Int := if b > a then b else a
def Pc.low (p q : Pc) : Int := imax 0 (imin (p.at1 q) (p.at2 q))
def Pc.high (p q : Pc) : Int := imin p.len (imax (p.at1 q) (p.at2 q))
def R_along (ds : List Dt) (d : Dt) : Prop := ∃ p q : Pc, ds = [p.d, q.d] ∧ p.In ∧ q.In ∧ d = (if decide (p.low q ≤ p.high q) = true then .tup [.int (p.low q), .int (p.high q)] else .non)
theorem sc_along : FnScope ["one", "other", "step", "length", "ends", "low", "high", "x", "y"] ["one", "other"] (defScope s_along) := ⟨rfl, rfl, rfl, by decide +kernel, rfl, by decide +kernel, by decide +kernel⟩
theorem ok_along {f : Addr} {fd : FuncData} (F : Fun K "along" "along" s_along f fd) (m1 : mg "min" = none) (m2 : mg "max" = none) (G1 : Fn0 P w K mg base CX0 1 "way" (SpF K R_way)) : FnOk P w K mg base CX0 2 f fd ["one", "other"] (SpF K R_along) := by
  refine fn_pure F sc_along (fun ds d h => ?_) (fun X ds d σ H Q o pn hR env q => ?_)
  · obtain ⟨p, q, rfl, _⟩ := h
    rfl
  · obtain ⟨p, r, rfl, hp, hr, rfl⟩ := hR
    obtain ⟨⟨p1, p2⟩, ⟨p3, p4⟩, ⟨p5, p6⟩, ⟨p7, p8⟩⟩ := hp
    obtain ⟨⟨r1, r2⟩, ⟨r3, r4⟩, ⟨r5, r6⟩, ⟨r7, r8⟩⟩ := hr
    replace env : EnvD K H σ [some (.tup [.int p.x, .int p.y, .int p.u, .int p.v]), some (.tup [.int r.x, .int r.y, .int r.u, .int r.v]), none, none, none, none, none, none, none] := env
    refine' wb_cons (ws_set (i := 2) o env sc_along.nd rfl rfl (fun _ => rfl) ?h0 fun v σ1 H1 e1 hv en1 => ?_)
    case h0 => walk_at "je"
    clear hv
    refine' wb_cons (ws_set (i := 3) o en1 sc_along.nd rfl rfl (fun _ => rfl) ?h0 fun v σ2 H2 e2 hv en2 => ?_)
    case h0 => walk_at "je"
    clear hv
    refine' wb_cons (ws_setL (i := 4) o en2 sc_along.nd rfl rfl (fun _ => rfl) (jl_lst ja_nil (Nat.zero_le _)) fun l vs σ3 H3 hl0 e3 h3 hd en3 => ?_)
    cases hd
    replace en3 : EnvD K H3 σ3 [some (.tup [.int p.x, .int p.y, .int p.u, .int p.v]), some (.tup [.int r.x, .int r.y, .int r.u, .int r.v]), some (.tup [.int p.a, .int p.b]), some (.int p.len), some (.ref l), none, none, none, none] := en3
    refine' wb_cons (ws_for o pn (fun _ _ => rfl) en3 (ji_tup (ds := [.tup [.int r.x, .int r.y], .tup [.int r.u, .int r.v]]) (je_is ?h0 ?h1)) [l] (by simp [h3, NoT]) fun H4 e4 en4 => ?_)
    case h0 => walk_at "je"
    case h1 => rfl
    refine ⟨fun i σ' H' => ∃ z1 z2, EnvD K H' σ' [some (.tup [.int p.x, .int p.y, .int p.u, .int p.v]), some (.tup [.int r.x, .int r.y, .int r.u, .int r.v]), some (.tup [.int p.a, .int p.b]), some (.int p.len), some (.ref l), none, none, z1, z2] ∧ ExB [l] H4 H' ∧ H' l = some (.lst (([p.at1 r, p.at2 r].take i).map V.int)), ⟨none, none, en4, .of (Ex.refl _), e4 _ _ h3⟩, fun i σ' H' ⟨_, _, _, h, _⟩ => h, ?_, ?_⟩
    · rintro i d σ' H' H5 hd ⟨z1, z2, en, xb, hl⟩ e5
      obtain ⟨x, y, rfl, hxy, hn⟩ : ∃ x y, d = .tup [.int x, .int y] ∧ (0 ≤ x ∧ x ≤ 60 ∧ 0 ≤ y ∧ y ≤ 60) ∧ ([p.at1 r, p.at2 r].take (i + 1)) = ([p.at1 r, p.at2 r].take i) ++ [(x - p.x) * p.a + (y - p.y) * p.b] := by
        match i, hd with
        | 0, hd => cases hd; exact ⟨_, _, rfl, ⟨r1, r2, r3, r4⟩, rfl⟩
        | 1, hd => cases hd; exact ⟨_, _, rfl, ⟨r5, r6, r7, r8⟩, rfl⟩
        | (k + 2), hd => cases hd
      obtain ⟨x1, x2, y1, y2⟩ := hxy
      refine ⟨_, _, _, en.mono (ex_tx e5), jg_two (i := 7) (j := 8) sc_along.nd rfl rfl rfl rfl, fun σ2 en2 _ => ?_⟩
      refine' wb_one (ws_append o en2 (fun _ => rfl) (fun _ => rfl) (fun _ => rfl) ?h0 (e5 _ _ hl) ?h1 ?h2 (fun _ => rfl) rfl fun v H6 e6 hv en6 tx => ?_)
      case h0 => walk_at "je"
      case h1 => simp only [List.length_map, List.length_take]; exact Nat.lt_of_le_of_lt (Nat.min_le_right _ _) (Nat.le_of_ble_eq_true rfl)
      case h2 => walk_at "je"
      refine ⟨_, _, en6, exb_upd (xb.trans (.of (e5.trans e6))) (by simp), ?_⟩
      rw [upd_same, hn, List.map_append, hv.int_inv] <;> rfl
    · rintro σ' H' ⟨z1, z2, en, xb, hl⟩
      have hl2 : SqL K H' l ([p.at1 r, p.at2 r].map V.int) := sq_of hl
      refine' wb_cons (ws_par (i := 5) (j := 6) (d1 := .int (p.low r)) (d2 := .int (p.high r)) o en sc_along.nd rfl rfl (by decide) rfl rfl ?h0 ?h1 ?h2 fun v w σ5 H5 e5 hv hw en5 => ?_)
      case h0 => intro env h; cases env; cases h; rfl
      case h1 => intro env h; cases env; cases h; rfl
      case h2 =>
        refine' ja_cons (fun _ => rfl) ?h0 (ja_cons (fun _ => rfl) ?h1 ja_nil)
        case h0 =>
          refine' je_max2 (fun _ => rfl) (fun _ _ => rfl) rfl m2 (ja_cons (fun _ => rfl) ?h2 (ja_cons (fun _ => rfl) ?h3 ja_nil))
          case h2 => walk_at "je"
          case h3 =>
            refine' je_minL (fun _ => rfl) rfl m1 ?h4 hl2 ?h5 ?h6
            case h4 => walk_at "je"
            case h5 => unfold imin; split <;> simp
            case h6 => unfold imin; simp only [List.mem_cons, List.not_mem_nil, or_false]; rintro y (rfl | rfl) <;> split <;> omega
        case h1 =>
          refine' je_min2 (fun _ => rfl) (fun _ _ => rfl) rfl m1 (ja_cons (fun _ => rfl) ?h2 (ja_cons (fun _ => rfl) ?h3 ja_nil))
          case h2 => walk_at "je"
          case h3 =>
            refine' je_maxL (fun _ => rfl) rfl m2 ?h4 hl2 ?h5 ?h6
            case h4 => walk_at "je"
            case h5 => unfold imax; split <;> simp
            case h6 => unfold imax; simp only [List.mem_cons, List.not_mem_nil, or_false]; rintro y (rfl | rfl) <;> split <;> omega
      refine' wb_one (ws_ret o en5 ?h0 fun v H6 e3' hv => q v H6 ?h1 hv)
      case h0 => walk_at "je"
      case h1 => exact (ExB.back ((e1.trans e2).trans (e3.trans e4)) xb (by simp [fresh_back (e1.trans e2) hl0])).trans (e5.trans e3')
end
end Led

set_option maxRecDepth 100000
set_option maxHeartbeats 4000000
namespace Led
open PySem L2 Evl
local macro_rules | `(tactic| walk_at "at") => `(tactic| first
  | with_reducible exact At.here
  | (with_reducible refine' At.there ?h0; (case h0 => walk_at "at")))
local macro_rules | `(tactic| walk_at "vis") => `(tactic| first
  | exact Or.inl rfl
  | exact Or.inr (Or.inl rfl)
  | exact Or.inr (Or.inr rfl))
local macro_rules | `(tactic| walk_at "kit") => `(tactic| first
  | with_reducible exact kit_ii
  | with_reducible exact kit_ib
  | with_reducible exact kit_it
  | with_reducible exact kit_is
  | with_reducible exact kit_bi
  | with_reducible exact kit_bb
  | with_reducible exact kit_bt
  | with_reducible exact kit_bs
  | with_reducible exact kit_si
  | with_reducible exact kit_sb
  | with_reducible exact kit_st
  | with_reducible exact kit_ss
  | with_reducible exact kit_ni
  | with_reducible exact kit_nb
  | with_reducible exact kit_nt
  | with_reducible exact kit_ns
  | with_reducible exact kit_ti
  | with_reducible exact kit_tb
  | with_reducible exact kit_tt
  | with_reducible exact kit_ts)
local macro_rules | `(tactic| walk_at "je") => `(tactic| first
  | exact je_int
  | exact je_bl
  | exact je_non
  | exact je_str
  | (refine' je_var ?h0 ?h1 ?h2 ?h3; (case h0 => walk_at "at"); (case h1 => walk_at "vis"); (case h2 => decide +kernel); (case h3 => decide +kernel))
  | (refine' je_var2 ?h0 ?h1 ?h2 ?h3; (case h0 => rfl); (case h1 => walk_at "vis"); (case h2 => decide +kernel); (case h3 => decide +kernel))
  | (refine' je_globI ?h0 ?h1 ?h2; (case h0 => rfl); (case h1 => with_reducible assumption); (case h2 => decide +kernel))
  | (refine' je_globS ?h0 ?h1 ?h2; (case h0 => rfl); (case h1 => with_reducible assumption); (case h2 => decide +kernel))
  | (refine' je_add ?h0 ?h1; (case h0 => walk_at "je"); (case h1 => walk_at "je"))
  | (refine' je_sub ?h0 ?h1; (case h0 => walk_at "je"); (case h1 => walk_at "je"))
  | (refine' je_lt ?h0 ?h1; (case h0 => walk_at "je"); (case h1 => walk_at "je"))
  | (refine' je_le ?h0 ?h1; (case h0 => walk_at "je"); (case h1 => walk_at "je"))
  | (refine' je_gt ?h0 ?h1; (case h0 => walk_at "je"); (case h1 => walk_at "je"))
  | (refine' je_ge ?h0 ?h1; (case h0 => walk_at "je"); (case h1 => walk_at "je"))
  | (refine' je_eqI ?h0 ?h1; (case h0 => walk_at "je"); (case h1 => walk_at "je"))
  | (refine' je_neI ?h0 ?h1; (case h0 => walk_at "je"); (case h1 => walk_at "je"))
  | (refine' je_mul ?h0 ?h1 ?h2; (case h0 => walk_at "je"); (case h1 => walk_at "je"); (case h2 => walk_at "side"))
  | (refine' je_div ?h0 ?h1 ?h2; (case h0 => walk_at "je"); (case h1 => walk_at "je"); (case h2 => walk_at "side"))
  | (refine' je_mod ?h0 ?h1 ?h2; (case h0 => walk_at "je"); (case h1 => walk_at "je"); (case h2 => walk_at "side"))
  | (refine' je_lele ?h0 ?h1 ?h2 ?h3; (case h0 => walk_at "je"); (case h1 => walk_at "je"); (case h2 => walk_at "je"); (case h3 => with_unfolding_all rfl))
  | (refine' je_isN ?h0; (case h0 => walk_at "je"))
  | (refine' je_notN ?h0; (case h0 => walk_at "je"))
  | (refine' je_not ?h0; (case h0 => walk_at "je"))
  | (refine' je_one ?h0; (case h0 => walk_at "je"))
  | (refine' je_un ?h0; (case h0 => walk_at "je"))
  | (refine' je_andB ?h0 (fun _ => ?h1); (case h0 => walk_at "je"); (case h1 => walk_at "je"))
  | (refine' je_orB ?h0 (fun _ => ?h1); (case h0 => walk_at "je"); (case h1 => walk_at "je"))
  | (refine' je_notT ?h0; (case h0 => walk_at "je"))
  | (refine' je_notF ?h0; (case h0 => walk_at "je"))
  | (refine' je_andF ?h0; (case h0 => walk_at "je"))
  | (refine' je_orT ?h0; (case h0 => walk_at "je"))
  | (refine' je_if ?h0 (fun _ => ?h1) (fun _ => ?h2); (case h0 => walk_at "jt"); (case h1 => walk_at "je"); (case h2 => walk_at "je"))
  | (refine' je_tup ?h0 ?h1; (case h0 => walk_at "ja"); (case h1 => walk_at "side"))
  | (refine' je_ixT ?h0 ?h1 ?h2 ?h3; (case h0 => exact fun _ _ => rfl); (case h1 => walk_at "je"); (case h2 => walk_at "je"); (case h3 => walk_at "ix"))
  | (refine' je_ixN ?h0 ?h1 ?h2 ?h3; (case h0 => exact fun _ _ => rfl); (case h1 => walk_at "jl"); (case h2 => walk_at "je"); (case h3 => walk_at "ix"))
  | (refine' je_sl ?h0 ?h1 ?h2 ?h3; (case h0 => walk_at "je"); (case h1 => walk_at "jo"); (case h2 => walk_at "jo"); (case h3 => walk_at "side"))
  | (refine' je_abs ?h0 ?h1 ?h2 ?h3; (case h0 => exact fun _ => rfl); (case h1 => rfl); (case h2 => with_reducible assumption); (case h3 => walk_at "je"))
  | (refine' je_int1 ?h0 ?h1 ?h2 ?h3; (case h0 => exact fun _ => rfl); (case h1 => rfl); (case h2 => with_reducible assumption); (case h3 => walk_at "je"))
  | (refine' je_max2 ?h0 ?h1 ?h2 ?h3 ?h4; (case h0 => exact fun _ => rfl); (case h1 => exact fun _ _ => rfl); (case h2 => rfl); (case h3 => with_reducible assumption); (case h4 => walk_at "ja"))
  | (refine' je_min2 ?h0 ?h1 ?h2 ?h3 ?h4; (case h0 => exact fun _ => rfl); (case h1 => exact fun _ _ => rfl); (case h2 => rfl); (case h3 => with_reducible assumption); (case h4 => walk_at "ja"))
  | (refine' je_lenT ?h0 ?h1 ?h2 ?h3; (case h0 => exact fun _ => rfl); (case h1 => rfl); (case h2 => with_reducible assumption); (case h3 => walk_at "je"))
  | (refine' je_tupN ?h0 ?h1 ?h2 ?h3; (case h0 => exact fun _ => rfl); (case h1 => rfl); (case h2 => with_reducible assumption); (case h3 => walk_at "jl"))
  | (refine' je_all ?h0 ?h1 ?h2 ?h3; (case h0 => exact fun _ => rfl); (case h1 => rfl); (case h2 => with_reducible assumption); (case h3 => walk_at "jl"))
  | (refine' je_any ?h0 ?h1 ?h2 ?h3; (case h0 => exact fun _ => rfl); (case h1 => rfl); (case h2 => with_reducible assumption); (case h3 => walk_at "jl"))
  | (refine' je_isiI ?h0 ?h1 ?h2 ?h3 ?h4 ?h5 ?h6 ?h7; (case h0 => exact fun _ => rfl); (case h1 => rfl); (case h2 => with_reducible assumption); (case h3 => rfl); (case h4 => with_reducible assumption); (case h5 => walk_at "je"); (case h6 => rfl); (case h7 => walk_at "kit"))
  | (refine' je_isiB ?h0 ?h1 ?h2 ?h3 ?h4 ?h5 ?h6 ?h7; (case h0 => exact fun _ => rfl); (case h1 => rfl); (case h2 => with_reducible assumption); (case h3 => rfl); (case h4 => with_reducible assumption); (case h5 => walk_at "je"); (case h6 => rfl); (case h7 => walk_at "kit"))
  | (refine' je_isiT ?h0 ?h1 ?h2 ?h3 ?h4 ?h5 ?h6 ?h7; (case h0 => exact fun _ => rfl); (case h1 => rfl); (case h2 => with_reducible assumption); (case h3 => rfl); (case h4 => with_reducible assumption); (case h5 => walk_at "je"); (case h6 => rfl); (case h7 => walk_at "kit"))
  | (refine' je_isiS ?h0 ?h1 ?h2 ?h3 ?h4 ?h5 ?h6 ?h7; (case h0 => exact fun _ => rfl); (case h1 => rfl); (case h2 => with_reducible assumption); (case h3 => rfl); (case h4 => with_reducible assumption); (case h5 => walk_at "je"); (case h6 => rfl); (case h7 => walk_at "kit"))
  | (refine' je_call ?h0 ?h1 ?h2 ?h3 ?h4 ?h5 ?h6 ?h7; (case h0 => with_reducible assumption); (case h1 => exact Nat.le_of_ble_eq_true rfl); (case h2 => rfl); (case h3 => decide +kernel); (case h4 => exact fun _ => rfl); (case h5 => exact fun _ _ => rfl); (case h6 => walk_at "ja"); (case h7 => walk_at "rel"))
  | (refine' je_cat ?h0 ?h1 ?h2 ?h3; (case h0 => walk_at "je"); (case h1 => walk_at "je"); (case h2 => walk_at "side"); (case h3 => walk_at "side")))
local macro_rules | `(tactic| walk_at "jt") => `(tactic| first
  | (refine' jt_lt ?h0 ?h1; (case h0 => walk_at "je"); (case h1 => walk_at "je"))
  | (refine' jt_le ?h0 ?h1; (case h0 => walk_at "je"); (case h1 => walk_at "je"))
  | (refine' jt_gt ?h0 ?h1; (case h0 => walk_at "je"); (case h1 => walk_at "je"))
  | (refine' jt_ge ?h0 ?h1; (case h0 => walk_at "je"); (case h1 => walk_at "je"))
  | (refine' jt_eqI ?h0 ?h1; (case h0 => walk_at "je"); (case h1 => walk_at "je"))
  | (refine' jt_neI ?h0 ?h1; (case h0 => walk_at "je"); (case h1 => walk_at "je"))
  | (refine' jt_lele ?h0 ?h1 ?h2 ?h3; (case h0 => walk_at "je"); (case h1 => walk_at "je"); (case h2 => walk_at "je"); (case h3 => with_unfolding_all rfl))
  | (refine' jt_isN ?h0; (case h0 => walk_at "je"))
  | (refine' jt_notN ?h0; (case h0 => walk_at "je"))
  | (refine' jt_not ?h0; (case h0 => walk_at "jt"))
  | (refine' jt_w ?h0; (case h0 => walk_at "jw"))
  | (refine' jt_val ?h0 ?h1; (case h0 => exact fun _ _ => rfl); (case h1 => walk_at "je")))
local macro_rules | `(tactic| walk_at "jw") => `(tactic| first
  | (refine' jw_and1 ?h0; (case h0 => walk_at "jt"))
  | (refine' jw_or1 ?h0; (case h0 => walk_at "jt"))
  | (refine' jw_and ?h0 (fun _ => ?h1); (case h0 => walk_at "jt"); (case h1 => walk_at "jw"))
  | (refine' jw_or ?h0 (fun _ => ?h1); (case h0 => walk_at "jt"); (case h1 => walk_at "jw"))
  | (refine' jw_andF ?h0; (case h0 => walk_at "jt"))
  | (refine' jw_orT ?h0; (case h0 => walk_at "jt")))
local macro_rules | `(tactic| walk_at "ja") => `(tactic| first
  | exact ja_nil
  | (refine' ja_cons ?h0 ?h1 ?h2; (case h0 => exact fun _ => rfl); (case h1 => walk_at "je"); (case h2 => walk_at "ja")))
local macro_rules | `(tactic| walk_at "jo") => `(tactic| first
  | exact jo_none
  | (refine' jo_some ?h0; (case h0 => walk_at "je")))
local macro_rules | `(tactic| walk_at "jl") => `(tactic| first
  | (refine' jl_lst ?h0 ?h1; (case h0 => walk_at "ja"); (case h1 => walk_at "side"))
  | (refine' jl_list ?h0 ?h1 ?h2 ?h3; (case h0 => exact fun _ => rfl); (case h1 => rfl); (case h2 => with_reducible assumption); (case h3 => walk_at "je")))
local macro_rules | `(tactic| walk_at "ix") => `(tactic| first
  | rfl
  | assumption)
local macro_rules | `(tactic| walk_at "side") => `(tactic| first
  | exact Nat.le_of_ble_eq_true rfl
  | omega
  | exact ⟨by omega, by omega⟩
  | exact Or.inl ⟨by omega, by omega⟩
  | exact Or.inr ⟨by omega, by omega⟩
  | exact fun z => absurd z.1 (Nat.ne_of_beq_eq_false rfl)
  | exact fun z => absurd z.2 (Nat.ne_of_beq_eq_false rfl)
  | exact List.cons_ne_nil _ _
  | assumption)
local macro_rules | `(tactic| walk_at "rel") => `(tactic| first
  | assumption)
section
variable {P : Program} {w : World} {K : PySem.W.Frag} {mg : Str → Option Value} {base : Heap}
/-! overlap -/
def Pc.ga (p q : Pc) : Int := q.x - p.x
def Pc.gb (p q : Pc) : Int := q.y - p.y
/-- how the directions turn -/
def Pc.turn (p q : Pc) : Int := p.a * q.b - p.b * q.a
/-- how the gap turns -/
def Pc.gap (p q : Pc) : Int := p.a * (q.y - p.y) - p.b * (q.x - p.x)
def Pc.over (p q : Pc) : Bool := if (!decide (p.turn q = 0) || !decide (p.gap q = 0)) = true then false else decide (p.low q ≤ p.high q) && decide (p.low q < p.high q)
local macro_rules | `(tactic| walk_at "rel") => `(tactic| first | exact ⟨_, _, _, _, rfl, rfl⟩ | exact ⟨_, _, _, _, rfl, ⟨by omega, by omega⟩, ⟨by omega, by omega⟩, rfl⟩)
def R_overlap (ds : List Dt) (d : Dt) : Prop := ∃ p q : Pc, ds = [p.d, q.d] ∧ p.In ∧ q.In ∧ d = .bl (p.over q)
theorem sc_overlap : FnScope ["one", "other", "step", "gap", "found"] ["one", "other"] (defScope s_overlap) := ⟨rfl, rfl, rfl, by decide +kernel, rfl, by decide +kernel, by decide +kernel⟩
theorem ok_overlap {f : Addr} {fd : FuncData} (F : Fun K "overlap" "overlap" s_overlap f fd) (G1 : Fn0 P w K mg base CX0 1 "way" (SpF K R_way)) (G2 : Fn0 P w K mg base CX0 1 "across" (SpF K R_across)) (G3 : Fn0 P w K mg base CX0 2 "along" (SpF K R_along)) : FnOk P w K mg base CX0 3 f fd ["one", "other"] (SpF K R_overlap) := by
  refine fn_pure F sc_overlap (fun ds d h => ?_) (fun X ds d σ H Q o pn hR env q => ?_)
  · obtain ⟨p, q, rfl, _⟩ := h
    rfl
  · obtain ⟨p, r, rfl, hp, hr, rfl⟩ := hR
    have hp' := hp
    have hr' := hr
    obtain ⟨⟨p1, p2⟩, ⟨p3, p4⟩, ⟨p5, p6⟩, ⟨p7, p8⟩⟩ := hp
    obtain ⟨⟨r1, r2⟩, ⟨r3, r4⟩, ⟨r5, r6⟩, ⟨r7, r8⟩⟩ := hr
    replace env : EnvD K H σ [some (.tup [.int p.x, .int p.y, .int p.u, .int p.v]), some (.tup [.int r.x, .int r.y, .int r.u, .int r.v]), none, none, none] := env
    refine' wb_cons (ws_par (i := 2) (j := 3) o env sc_overlap.nd rfl rfl (by decide) rfl rfl ?h0 ?h1 ?h2 fun v w σ1 H1 e1 hv hw en1 => ?_)
    case h0 => intro env h; cases env; cases h; rfl
    case h1 => intro env h; cases env; cases h; rfl
    case h2 => walk_at "ja"
    refine' wb_cons (ws_if (k := !decide (p.turn r = 0) || !decide (p.gap r = 0)) o en1 (jt_is ?h0 ?h1) (fun hk H2 e2 en2 => ?_) (fun hk H2 e2 en2 => wb_nil ?_))
    case h0 => walk_at "jt"
    case h1 => rfl
    · refine' wb_one (ws_ret o en2 je_bl fun v H3 e3 hv => q v H3 ((e1.trans e2).trans e3) ?_)
      unfold Pc.over
      rw [if_pos hk]
      exact hv
    · have hov : p.over r = (decide (p.low r ≤ p.high r) && decide (p.low r < p.high r)) := by
        unfold Pc.over
        rw [if_neg (by rw [hk]; exact Bool.false_ne_true)]
      refine' wb_cons (ws_set (i := 4) (d := (if decide (p.low r ≤ p.high r) = true then .tup [.int (p.low r), .int (p.high r)] else .non)) o en2 sc_overlap.nd rfl rfl (fun _ => rfl) ?h0 fun v σ3 H3 e3 hv en3 => ?_)
      case h0 =>
        refine' je_call G3 (Nat.le_of_ble_eq_true rfl) rfl (by decide +kernel) (fun _ => rfl) (fun _ _ => rfl) ?h1 ?h2
        case h1 => walk_at "ja"
        case h2 => exact ⟨p, r, rfl, hp', hr', rfl⟩
      by_cases c : p.low r ≤ p.high r
      · rw [decide_eq_true c, if_pos rfl] at en3
        refine' wb_one (ws_ret o en3 (je_is ?h0 ?h1) fun v H4 e4 hv => q v H4 (((e1.trans e2).trans e3).trans e4) hv)
        case h0 => walk_at "je"
        case h1 => rw [hov, decide_eq_true c]; rfl
      · rw [decide_eq_false c, if_neg Bool.false_ne_true] at en3
        refine' wb_one (ws_ret o en3 (je_is ?h0 ?h1) fun v H4 e4 hv => q v H4 (((e1.trans e2).trans e3).trans e4) hv)
        case h0 => exact je_andF (je_is (je_notN (d := .non) (by walk_at "je")) rfl)
        case h1 => rw [hov, decide_eq_false c]; rfl
/-! point_at -/
def frD (t b : Int) : Dt := .tup [.int (t / Int.gcd t b), .int (b / Int.gcd t b)]
def Pc.pt (p : Pc) (t b : Int) : Dt := .tup [frD (p.x * b + p.a * t) b, frD (p.y * b + p.b * t) b]
def R_point_at (ds : List Dt) (d : Dt) : Prop := ∃ (p : Pc) (t b : Int), ds = [p.d, .int t, .int b] ∧ p.In ∧ (0 < b ∧ b < 1073741824) ∧ d = p.pt t b
theorem sc_point_at : FnScope ["piece", "top", "bottom", "step"] ["piece", "top", "bottom"] (defScope s_point_at) := ⟨rfl, rfl, rfl, by decide +kernel, rfl, by decide +kernel, by decide +kernel⟩
theorem ok_point_at {f : Addr} {fd : FuncData} (F : Fun K "point_at" "point_at" s_point_at f fd) (G1 : Fn0 P w K mg base CX0 1 "way" (SpF K R_way)) (G2 : Fn0 P w K mg base CX0 2 "fraction" (SpF K R_fraction)) : FnOk P w K mg base CX0 3 f fd ["piece", "top", "bottom"] (SpF K R_point_at) := by
  refine fn_pure F sc_point_at (fun ds d h => ?_) (fun X ds d σ H Q o pn hR env q => ?_)
  · obtain ⟨p, t, b, rfl, _⟩ := h
    rfl
  · obtain ⟨p, t, b, rfl, hp, ⟨hb1, hb2⟩, rfl⟩ := hR
    obtain ⟨⟨p1, p2⟩, ⟨p3, p4⟩, ⟨p5, p6⟩, ⟨p7, p8⟩⟩ := hp
    replace env : EnvD K H σ [some (.tup [.int p.x, .int p.y, .int p.u, .int p.v]), some (.int t), some (.int b), none] := env
    refine' wb_cons (ws_set (i := 3) o env sc_point_at.nd rfl rfl (fun _ => rfl) ?h0 fun v σ1 H1 e1 hv en1 => ?_)
    case h0 => walk_at "je"
    refine' wb_one (ws_ret o en1 ?h0 fun v H2 e2 hv => q v H2 (e1.trans e2) hv)
    case h0 =>
      refine' je_tup (ja_cons (fun _ => rfl) ?h1 (ja_cons (fun _ => rfl) ?h2 ja_nil)) (Nat.le_of_ble_eq_true rfl)
      case h1 =>
        refine' je_call G2 (Nat.le_of_ble_eq_true rfl) rfl (by decide +kernel) (fun _ => rfl) (fun _ _ => rfl) ?h3 ?h4
        case h3 => walk_at "ja"
        case h4 => exact ⟨_, _, rfl, hb1, hb2, rfl⟩
      case h2 =>
        refine' je_call G2 (Nat.le_of_ble_eq_true rfl) rfl (by decide +kernel) (fun _ => rfl) (fun _ _ => rfl) ?h3 ?h4
        case h3 => walk_at "ja"
        case h4 => exact ⟨_, _, rfl, hb1, hb2, rfl⟩
/-! common_point -/
theorem mul_bd {a b : Int} {m n : Nat} (h1 : -(m : Int) ≤ a) (h2 : a ≤ m) (h3 : -(n : Int) ≤ b) (h4 : b ≤ n) : -((m * n : Nat) : Int) ≤ a * b ∧ a * b ≤ ((m * n : Nat) : Int) := by
  have h5 : (a * b).natAbs ≤ m * n := by
    rw [Int.natAbs_mul]
    exact Nat.mul_le_mul (by omega) (by omega)
  omega
theorem Pc.In.ab {p : Pc} (h : p.In) : (-60 ≤ p.a ∧ p.a ≤ 60) ∧ (-60 ≤ p.b ∧ p.b ≤ 60) := by
  obtain ⟨⟨p1, p2⟩, ⟨p3, p4⟩, ⟨p5, p6⟩, ⟨p7, p8⟩⟩ := h
  unfold Pc.a Pc.b
  omega
theorem Pc.In.turn {p q : Pc} (h : p.In) (h' : q.In) : -7200 ≤ p.turn q ∧ p.turn q ≤ 7200 := by
  obtain ⟨⟨a1, a2⟩, b1, b2⟩ := h.ab
  obtain ⟨⟨c1, c2⟩, d1, d2⟩ := h'.ab
  have h1 := mul_bd (m := 60) (n := 60) a1 a2 d1 d2
  have h2 := mul_bd (m := 60) (n := 60) b1 b2 c1 c2
  unfold Pc.turn
  omega
theorem Pc.In.len {p : Pc} (h : p.In) : 0 ≤ p.len ∧ p.len ≤ 7200 := by
  obtain ⟨⟨a1, a2⟩, b1, b2⟩ := h.ab
  have h1 := mul_bd (m := 60) (n := 60) a1 a2 a1 a2
  have h2 := mul_bd (m := 60) (n := 60) b1 b2 b1 b2
  have h3 : 0 ≤ p.a * p.a := by
    rcases Int.le_total 0 p.a with z | z
    · exact Int.mul_nonneg z z
    · exact Int.mul_nonneg_of_nonpos_of_nonpos z z
  have h4 : 0 ≤ p.b * p.b := by
    rcases Int.le_total 0 p.b with z | z
    · exact Int.mul_nonneg z z
    · exact Int.mul_nonneg_of_nonpos_of_nonpos z z
  unfold Pc.len
  omega
def Pc.top1 (p q : Pc) : Int := (q.x - p.x) * q.b - (q.y - p.y) * q.a
def Pc.top2 (p q : Pc) : Int := (q.x - p.x) * p.b - (q.y - p.y) * p.a
def sgn (t : Int) : Int := if decide (0 < t) = true then 1 else -1
/-- the common point, or None -/
def Pc.meet (p q : Pc) : Dt :=
  if p.turn q = 0 then (if p.gap q = 0 ∧ p.low q ≤ p.high q then p.pt (p.low q) p.len else .non)
  else if (!(decide (0 ≤ sgn (p.turn q) * p.top1 q) && decide (sgn (p.turn q) * p.top1 q ≤ sgn (p.turn q) * p.turn q)) || !(decide (0 ≤ sgn (p.turn q) * p.top2 q) && decide (sgn (p.turn q) * p.top2 q ≤ sgn (p.turn q) * p.turn q))) = true then .non
  else p.pt (sgn (p.turn q) * p.top1 q) (sgn (p.turn q) * p.turn q)
def R_common_point (ds : List Dt) (d : Dt) : Prop := ∃ p q : Pc, ds = [p.d, q.d] ∧ p.In ∧ q.In ∧ 0 < p.len ∧ d = p.meet q
theorem sc_common_point : FnScope ["one", "other", "step", "second", "gap", "turn", "found", "sign", "top", "other_top"] ["one", "other"] (defScope s_common_point) := ⟨rfl, rfl, rfl, by decide +kernel, rfl, by decide +kernel, by decide +kernel⟩
theorem ok_common_point {f : Addr} {fd : FuncData} (F : Fun K "common_point" "common_point" s_common_point f fd) (G1 : Fn0 P w K mg base CX0 1 "way" (SpF K R_way)) (G2 : Fn0 P w K mg base CX0 1 "across" (SpF K R_across)) (G3 : Fn0 P w K mg base CX0 2 "along" (SpF K R_along)) (G4 : Fn0 P w K mg base CX0 3 "point_at" (SpF K R_point_at)) : FnOk P w K mg base CX0 4 f fd ["one", "other"] (SpF K R_common_point) := by
  refine fn_pure F sc_common_point (fun ds d h => ?_) (fun X ds d σ H Q o pn hR env q => ?_)
  · obtain ⟨p, q, rfl, _⟩ := h
    rfl
  · obtain ⟨p, r, rfl, hp, hr, hlen, rfl⟩ := hR
    have hp' := hp
    have hr' := hr
    have ht := hp.turn hr
    have hl := hp.len
    obtain ⟨⟨p1, p2⟩, ⟨p3, p4⟩, ⟨p5, p6⟩, ⟨p7, p8⟩⟩ := hp
    obtain ⟨⟨r1, r2⟩, ⟨r3, r4⟩, ⟨r5, r6⟩, ⟨r7, r8⟩⟩ := hr
    replace env : EnvD K H σ [some (.tup [.int p.x, .int p.y, .int p.u, .int p.v]), some (.tup [.int r.x, .int r.y, .int r.u, .int r.v]), none, none, none, none, none, none, none, none] := env
    refine' wb_cons (ws_par (i := 2) (j := 3) o env sc_common_point.nd rfl rfl (by decide) rfl rfl ?h0 ?h1 ?h2 fun v w σ1 H1 e1 hv hw en1 => ?_)
    case h0 => intro env h; cases env; cases h; rfl
    case h1 => intro env h; cases env; cases h; rfl
    case h2 => walk_at "ja"
    refine' wb_cons (ws_set (i := 4) o en1 sc_common_point.nd rfl rfl (fun _ => rfl) ?h0 fun v σ2 H2 e2 hv en2 => ?_)
    case h0 => walk_at "je"
    refine' wb_cons (ws_set (i := 5) o en2 sc_common_point.nd rfl rfl (fun _ => rfl) ?h0 fun v σ3 H3 e3 hv en3 => ?_)
    case h0 => walk_at "je"
    have ex3 : Ex H H3 := (e1.trans e2).trans e3
    clear en1 en2
    replace en3 : EnvD K H3 σ3 [some (.tup [.int p.x, .int p.y, .int p.u, .int p.v]), some (.tup [.int r.x, .int r.y, .int r.u, .int r.v]), some (.tup [.int (p.u - p.x), .int (p.v - p.y)]), some (.tup [.int (r.u - r.x), .int (r.v - r.y)]), some (.tup [.int (r.x - p.x), .int (r.y - p.y)]), some (.int (p.turn r)), none, none, none, none] := en3
    refine' wb_cons (ws_if (k := decide (p.turn r = 0)) o en3 (jt_is ?h0 ?h1) (fun hk H4 e4 en4 => ?_) (fun hk H4 e4 en4 => wb_nil ?_))
    case h0 => walk_at "jt"
    case h1 => rfl
    · have hk : p.turn r = 0 := of_decide_eq_true hk
      refine' wb_cons (ws_set (i := 6) (d := if p.gap r = 0 ∧ p.low r ≤ p.high r then .tup [.int (p.low r), .int (p.high r)] else .non) o en4 sc_common_point.nd rfl rfl (fun _ => rfl) (je_is ?h0 ?h1) fun v σ5 H5 e5 hv en5 => ?_)
      case h0 =>
        refine' je_if ?h2 (fun _ => ?h3) (fun _ => ?h4)
        case h2 => walk_at "jt"
        case h3 =>
          refine' je_call G3 (Nat.le_of_ble_eq_true rfl) rfl (by decide +kernel) (fun _ => rfl) (fun _ _ => rfl) ?h5 ?h6
          case h5 => walk_at "ja"
          case h6 => exact ⟨p, r, rfl, hp', hr', rfl⟩
        case h4 => walk_at "je"
      case h1 =>
        show (if decide (p.gap r = 0) = true then (if decide (p.low r ≤ p.high r) = true then _ else _) else _) = _
        by_cases c1 : p.gap r = 0
        · by_cases c2 : p.low r ≤ p.high r
          · rw [decide_eq_true c1, if_pos rfl, decide_eq_true c2, if_pos rfl, if_pos ⟨c1, c2⟩]
          · rw [decide_eq_true c1, if_pos rfl, decide_eq_false c2, if_neg Bool.false_ne_true, if_neg fun z => c2 z.2]
        · rw [decide_eq_false c1, if_neg Bool.false_ne_true, if_neg fun z => c1 z.1]
      by_cases c : p.gap r = 0 ∧ p.low r ≤ p.high r
      · rw [if_pos c] at en5
        refine' wb_one (ws_ret o en5 (je_is ?h0 ?h1) fun v H6 e6 hv => q v H6 (((ex3.trans e4).trans e5).trans e6) hv)
        case h0 =>
          refine' je_if ?h2 (fun z => ?h3) (fun _ => ?h4)
          case h2 => exact jt_isN (by walk_at "je")
          case h3 => exact je_non
          case h4 =>
            refine' je_call G4 (Nat.le_of_ble_eq_true rfl) rfl (by decide +kernel) (fun _ => rfl) (fun _ _ => rfl) ?h5 ?h6
            case h5 => walk_at "ja"
            case h6 => exact ⟨p, p.low r, p.len, rfl, hp', ⟨hlen, by omega⟩, rfl⟩
        case h1 =>
          unfold Pc.meet
          rw [if_pos hk, if_pos c]
          rfl
      · rw [if_neg c] at en5
        refine' wb_one (ws_ret o en5 (je_is ?h0 ?h1) fun v H6 e6 hv => q v H6 (((ex3.trans e4).trans e5).trans e6) hv)
        case h0 =>
          refine' je_ifT (jt_is (jt_isN (d := .non) (by walk_at "je")) rfl) ?h3
          case h3 => exact je_non
        case h1 =>
          unfold Pc.meet
          rw [if_pos hk, if_neg c]
    · have hk : ¬ p.turn r = 0 := of_decide_eq_false hk
      refine' wb_cons (ws_set (i := 7) (d := .int (sgn (p.turn r))) o en4 sc_common_point.nd rfl rfl (fun _ => rfl) (je_is ?h0 ?h1) fun v σ5 H5 e5 hv en5 => ?_)
      case h0 => walk_at "je"
      case h1 => unfold sgn; split <;> rfl
      have hs : sgn (p.turn r) = 1 ∨ sgn (p.turn r) = -1 := by unfold sgn; split <;> simp
      have hst : 0 < sgn (p.turn r) * p.turn r ∧ sgn (p.turn r) * p.turn r ≤ 7200 := by
        unfold sgn
        by_cases z : 0 < p.turn r
        · rw [decide_eq_true z, if_pos rfl, Int.one_mul]; omega
        · rw [decide_eq_false z, if_neg Bool.false_ne_true]
          have : -1 * p.turn r = - p.turn r := by omega
          omega
      generalize hsg : sgn (p.turn r) = s at *
      refine' wb_cons (ws_par (i := 8) (j := 9) (d1 := .int (s * p.top1 r)) (d2 := .int (s * p.top2 r)) o en5 sc_common_point.nd rfl rfl (by decide) rfl rfl ?h0 ?h1 ?h2 fun v w σ6 H6 e6 hv hw en6 => ?_)
      case h0 => intro env h; cases env; cases h; rfl
      case h1 => intro env h; cases env; cases h; rfl
      case h2 => walk_at "ja"
      refine' wb_cons (ws_if (k := (!(decide (0 ≤ s * p.top1 r) && decide (s * p.top1 r ≤ s * p.turn r)) || !(decide (0 ≤ s * p.top2 r) && decide (s * p.top2 r ≤ s * p.turn r)))) o en6 (jt_is ?h0 ?h1) (fun hk2 H7 e7 en7 => ?_) (fun hk2 H7 e7 en7 => wb_nil ?_))
      case h0 => walk_at "jt"
      case h1 => rfl
      · refine' wb_one (ws_ret o en7 je_non fun v H8 e8 hv => q v H8 (((((ex3.trans e4).trans e5).trans e6).trans e7).trans e8) ?_)
        unfold Pc.meet
        rw [if_neg hk, hsg, if_pos hk2]
        exact hv
      · refine' wb_one (ws_ret o en7 ?h0 fun v H8 e8 hv => q v H8 (((((ex3.trans e4).trans e5).trans e6).trans e7).trans e8) ?_)
        case h0 =>
          refine' je_call G4 (Nat.le_of_ble_eq_true rfl) rfl (by decide +kernel) (fun _ => rfl) (fun _ _ => rfl) ?h5 ?h6
          case h5 => walk_at "ja"
          case h6 => exact ⟨p, s * p.top1 r, s * p.turn r, rfl, hp', ⟨hst.1, by omega⟩, rfl⟩
        unfold Pc.meet
        rw [if_neg hk, hsg, if_neg (by rw [hk2]; exact Bool.false_ne_true)]
        exact hv
end
end Led

set_option maxRecDepth 100000
set_option maxHeartbeats 4000000
namespace Led
open PySem L2 Evl
local macro_rules | `(tactic| walk_at "at") => `(tactic| first
  | with_reducible exact At.here
  | (with_reducible refine' At.there ?h0; (case h0 => walk_at "at")))
local macro_rules | `(tactic| walk_at "vis") => `(tactic| first
  | exact Or.inl rfl
  | exact Or.inr (Or.inl rfl)
  | exact Or.inr (Or.inr rfl))
local macro_rules | `(tactic| walk_at "kit") => `(tactic| first
  | with_reducible exact kit_ii
  | with_reducible exact kit_ib
  | with_reducible exact kit_it
  | with_reducible exact kit_is
  | with_reducible exact kit_bi
  | with_reducible exact kit_bb
  | with_reducible exact kit_bt
  | with_reducible exact kit_bs
  | with_reducible exact kit_si
  | with_reducible exact kit_sb
  | with_reducible exact kit_st
  | with_reducible exact kit_ss
  | with_reducible exact kit_ni
  | with_reducible exact kit_nb
  | with_reducible exact kit_nt
  | with_reducible exact kit_ns
  | with_reducible exact kit_ti
  | with_reducible exact kit_tb
  | with_reducible exact kit_tt
  | with_reducible exact kit_ts)
local macro_rules | `(tactic| walk_at "je") => `(tactic| first
  | exact je_int
  | exact je_bl
  | exact je_non
  | exact je_str
  | (refine' je_var ?h0 ?h1 ?h2 ?h3; (case h0 => walk_at "at"); (case h1 => walk_at "vis"); (case h2 => decide +kernel); (case h3 => decide +kernel))
  | (refine' je_var2 ?h0 ?h1 ?h2 ?h3; (case h0 => rfl); (case h1 => walk_at "vis"); (case h2 => decide +kernel); (case h3 => decide +kernel))
  | (refine' je_globI ?h0 ?h1 ?h2; (case h0 => rfl); (case h1 => with_reducible assumption); (case h2 => decide +kernel))
  | (refine' je_globS ?h0 ?h1 ?h2; (case h0 => rfl); (case h1 => with_reducible assumption); (case h2 => decide +kernel))
  | (refine' je_add ?h0 ?h1; (case h0 => walk_at "je"); (case h1 => walk_at "je"))
  | (refine' je_sub ?h0 ?h1; (case h0 => walk_at "je"); (case h1 => walk_at "je"))
  | (refine' je_lt ?h0 ?h1; (case h0 => walk_at "je"); (case h1 => walk_at "je"))
  | (refine' je_le ?h0 ?h1; (case h0 => walk_at "je"); (case h1 => walk_at "je"))
  | (refine' je_gt ?h0 ?h1; (case h0 => walk_at "je"); (case h1 => walk_at "je"))
  | (refine' je_ge ?h0 ?h1; (case h0 => walk_at "je"); (case h1 => walk_at "je"))
  | (refine' je_eqI ?h0 ?h1; (case h0 => walk_at "je"); (case h1 => walk_at "je"))
  | (refine' je_neI ?h0 ?h1; (case h0 => walk_at "je"); (case h1 => walk_at "je"))
  | (refine' je_mul ?h0 ?h1 ?h2; (case h0 => walk_at "je"); (case h1 => walk_at "je"); (case h2 => walk_at "side"))
  | (refine' je_div ?h0 ?h1 ?h2; (case h0 => walk_at "je"); (case h1 => walk_at "je"); (case h2 => walk_at "side"))
  | (refine' je_mod ?h0 ?h1 ?h2; (case h0 => walk_at "je"); (case h1 => walk_at "je"); (case h2 => walk_at "side"))
  | (refine' je_lele ?h0 ?h1 ?h2 ?h3; (case h0 => walk_at "je"); (case h1 => walk_at "je"); (case h2 => walk_at "je"); (case h3 => with_unfolding_all rfl))
  | (refine' je_isN ?h0; (case h0 => walk_at "je"))
  | (refine' je_notN ?h0; (case h0 => walk_at "je"))
  | (refine' je_not ?h0; (case h0 => walk_at "je"))
  | (refine' je_one ?h0; (case h0 => walk_at "je"))
  | (refine' je_un ?h0; (case h0 => walk_at "je"))
  | (refine' je_andB ?h0 (fun _ => ?h1); (case h0 => walk_at "je"); (case h1 => walk_at "je"))
  | (refine' je_orB ?h0 (fun _ => ?h1); (case h0 => walk_at "je"); (case h1 => walk_at "je"))
  | (refine' je_notT ?h0; (case h0 => walk_at "je"))
  | (refine' je_notF ?h0; (case h0 => walk_at "je"))
  | (refine' je_andF ?h0; (case h0 => walk_at "je"))
  | (refine' je_orT ?h0; (case h0 => walk_at "je"))
  | (refine' je_if ?h0 (fun _ => ?h1) (fun _ => ?h2); (case h0 => walk_at "jt"); (case h1 => walk_at "je"); (case h2 => walk_at "je"))
  | (refine' je_tup ?h0 ?h1; (case h0 => walk_at "ja"); (case h1 => walk_at "side"))
  | (refine' je_ixT ?h0 ?h1 ?h2 ?h3; (case h0 => exact fun _ _ => rfl); (case h1 => walk_at "je"); (case h2 => walk_at "je"); (case h3 => walk_at "ix"))
  | (refine' je_ixN ?h0 ?h1 ?h2 ?h3; (case h0 => exact fun _ _ => rfl); (case h1 => walk_at "jl"); (case h2 => walk_at "je"); (case h3 => walk_at "ix"))
  | (refine' je_sl ?h0 ?h1 ?h2 ?h3; (case h0 => walk_at "je"); (case h1 => walk_at "jo"); (case h2 => walk_at "jo"); (case h3 => walk_at "side"))
  | (refine' je_abs ?h0 ?h1 ?h2 ?h3; (case h0 => exact fun _ => rfl); (case h1 => rfl); (case h2 => with_reducible assumption); (case h3 => walk_at "je"))
  | (refine' je_int1 ?h0 ?h1 ?h2 ?h3; (case h0 => exact fun _ => rfl); (case h1 => rfl); (case h2 => with_reducible assumption); (case h3 => walk_at "je"))
  | (refine' je_max2 ?h0 ?h1 ?h2 ?h3 ?h4; (case h0 => exact fun _ => rfl); (case h1 => exact fun _ _ => rfl); (case h2 => rfl); (case h3 => with_reducible assumption); (case h4 => walk_at "ja"))
  | (refine' je_min2 ?h0 ?h1 ?h2 ?h3 ?h4; (case h0 => exact fun _ => rfl); (case h1 => exact fun _ _ => rfl); (case h2 => rfl); (case h3 => with_reducible assumption); (case h4 => walk_at "ja"))
  | (refine' je_lenT ?h0 ?h1 ?h2 ?h3; (case h0 => exact fun _ => rfl); (case h1 => rfl); (case h2 => with_reducible assumption); (case h3 => walk_at "je"))
  | (refine' je_tupN ?h0 ?h1 ?h2 ?h3; (case h0 => exact fun _ => rfl); (case h1 => rfl); (case h2 => with_reducible assumption); (case h3 => walk_at "jl"))
  | (refine' je_all ?h0 ?h1 ?h2 ?h3; (case h0 => exact fun _ => rfl); (case h1 => rfl); (case h2 => with_reducible assumption); (case h3 => walk_at "jl"))
  | (refine' je_any ?h0 ?h1 ?h2 ?h3; (case h0 => exact fun _ => rfl); (case h1 => rfl); (case h2 => with_reducible assumption); (case h3 => walk_at "jl"))
  | (refine' je_isiI ?h0 ?h1 ?h2 ?h3 ?h4 ?h5 ?h6 ?h7; (case h0 => exact fun _ => rfl); (case h1 => rfl); (case h2 => with_reducible assumption); (case h3 => rfl); (case h4 => with_reducible assumption); (case h5 => walk_at "je"); (case h6 => rfl); (case h7 => walk_at "kit"))
  | (refine' je_isiB ?h0 ?h1 ?h2 ?h3 ?h4 ?h5 ?h6 ?h7; (case h0 => exact fun _ => rfl); (case h1 => rfl); (case h2 => with_reducible assumption); (case h3 => rfl); (case h4 => with_reducible assumption); (case h5 => walk_at "je"); (case h6 => rfl); (case h7 => walk_at "kit"))
  | (refine' je_isiT ?h0 ?h1 ?h2 ?h3 ?h4 ?h5 ?h6 ?h7; (case h0 => exact fun _ => rfl); (case h1 => rfl); (case h2 => with_reducible assumption); (case h3 => rfl); (case h4 => with_reducible assumption); (case h5 => walk_at "je"); (case h6 => rfl); (case h7 => walk_at "kit"))
  | (refine' je_isiS ?h0 ?h1 ?h2 ?h3 ?h4 ?h5 ?h6 ?h7; (case h0 => exact fun _ => rfl); (case h1 => rfl); (case h2 => with_reducible assumption); (case h3 => rfl); (case h4 => with_reducible assumption); (case h5 => walk_at "je"); (case h6 => rfl); (case h7 => walk_at "kit"))
  | (refine' je_call ?h0 ?h1 ?h2 ?h3 ?h4 ?h5 ?h6 ?h7; (case h0 => with_reducible assumption); (case h1 => exact Nat.le_of_ble_eq_true rfl); (case h2 => rfl); (case h3 => decide +kernel); (case h4 => exact fun _ => rfl); (case h5 => exact fun _ _ => rfl); (case h6 => walk_at "ja"); (case h7 => walk_at "rel"))
  | (refine' je_cat ?h0 ?h1 ?h2 ?h3; (case h0 => walk_at "je"); (case h1 => walk_at "je"); (case h2 => walk_at "side"); (case h3 => walk_at "side")))
local macro_rules | `(tactic| walk_at "jt") => `(tactic| first
  | (refine' jt_lt ?h0 ?h1; (case h0 => walk_at "je"); (case h1 => walk_at "je"))
  | (refine' jt_le ?h0 ?h1; (case h0 => walk_at "je"); (case h1 => walk_at "je"))
  | (refine' jt_gt ?h0 ?h1; (case h0 => walk_at "je"); (case h1 => walk_at "je"))
  | (refine' jt_ge ?h0 ?h1; (case h0 => walk_at "je"); (case h1 => walk_at "je"))
  | (refine' jt_eqI ?h0 ?h1; (case h0 => walk_at "je"); (case h1 => walk_at "je"))
  | (refine' jt_neI ?h0 ?h1; (case h0 => walk_at "je"); (case h1 => walk_at "je"))
  | (refine' jt_lele ?h0 ?h1 ?h2 ?h3; (case h0 => walk_at "je"); (case h1 => walk_at "je"); (case h2 => walk_at "je"); (case h3 => with_unfolding_all rfl))
  | (refine' jt_isN ?h0; (case h0 => walk_at "je"))
  | (refine' jt_notN ?h0; (case h0 => walk_at "je"))
  | (refine' jt_not ?h0; (case h0 => walk_at "jt"))
  | (refine' jt_w ?h0; (case h0 => walk_at "jw"))
  | (refine' jt_val ?h0 ?h1; (case h0 => exact fun _ _ => rfl); (case h1 => walk_at "je")))
local macro_rules | `(tactic| walk_at "jw") => `(tactic| first
  | (refine' jw_and1 ?h0; (case h0 => walk_at "jt"))
  | (refine' jw_or1 ?h0; (case h0 => walk_at "jt"))
  | (refine' jw_and ?h0 (fun _ => ?h1); (case h0 => walk_at "jt"); (case h1 => walk_at "jw"))
  | (refine' jw_or ?h0 (fun _ => ?h1); (case h0 => walk_at "jt"); (case h1 => walk_at "jw"))
  | (refine' jw_andF ?h0; (case h0 => walk_at "jt"))
  | (refine' jw_orT ?h0; (case h0 => walk_at "jt")))
local macro_rules | `(tactic| walk_at "ja") => `(tactic| first
  | exact ja_nil
  | (refine' ja_cons ?h0 ?h1 ?h2; (case h0 => exact fun _ => rfl); (case h1 => walk_at "je"); (case h2 => walk_at "ja")))
local macro_rules | `(tactic| walk_at "jo") => `(tactic| first
  | exact jo_none
  | (refine' jo_some ?h0; (case h0 => walk_at "je")))
local macro_rules | `(tactic| walk_at "jl") => `(tactic| first
  | (refine' jl_lst ?h0 ?h1; (case h0 => walk_at "ja"); (case h1 => walk_at "side"))
  | (refine' jl_list ?h0 ?h1 ?h2 ?h3; (case h0 => exact fun _ => rfl); (case h1 => rfl); (case h2 => with_reducible assumption); (case h3 => walk_at "je")))
local macro_rules | `(tactic| walk_at "ix") => `(tactic| first
  | rfl
  | assumption)
local macro_rules | `(tactic| walk_at "side") => `(tactic| first
  | exact Nat.le_of_ble_eq_true rfl
  | omega
  | exact ⟨by omega, by omega⟩
  | exact Or.inl ⟨by omega, by omega⟩
  | exact Or.inr ⟨by omega, by omega⟩
  | exact fun z => absurd z.1 (Nat.ne_of_beq_eq_false rfl)
  | exact fun z => absurd z.2 (Nat.ne_of_beq_eq_false rfl)
  | exact List.cons_ne_nil _ _
  | assumption)
local macro_rules | `(tactic| walk_at "rel") => `(tactic| first
  | assumption)
section
variable {P : Program} {w : World} {K : PySem.W.Frag} {mg : Str → Option Value} {base : Heap}
/-! is_piece -/
def isPc (es : List Dt) : Bool := decide (es.length = 4) && es.all (isNum · 0 60) && !(Dt.tup (es.take 2)).eq (.tup (es.drop 2))
def R_is_piece (ds : List Dt) (d : Dt) : Prop := ∃ es, ds = [.tup es] ∧ es.length ≤ 1000 ∧ (∀ e ∈ es, (tyD e).isSome = true) ∧ d = .bl (isPc es)
theorem sc_is_piece : FnScope ["value", "part"] ["value"] (defScope s_is_piece) := ⟨rfl, rfl, rfl, by decide +kernel, rfl, by decide +kernel, by decide +kernel⟩
theorem isNum_int {e : Dt} {a b : Int} (h : isNum e a b = true) : ∃ i, e = .int i ∧ a ≤ i ∧ i ≤ b := by
  cases e with
  | int i =>
    have h' : (decide (a ≤ i) && decide (i ≤ b)) = true := h
    rw [Bool.and_eq_true] at h'
    exact ⟨i, rfl, of_decide_eq_true h'.1, of_decide_eq_true h'.2⟩
  | _ => cases h
theorem ok_is_piece {f : Addr} {fd : FuncData} (F : Fun K "is_piece" "is_piece" s_is_piece f fd) {tF tP : Tok} (m1 : mg "isinstance" = none) (m2 : mg "tuple" = none) (m3 : mg "len" = none) (m4 : mg "all" = none) (c1 : mg "FAR" = some (.int 60 tF)) (c2 : mg "PARTS" = some (.int 4 tP)) (G1 : Fn0 P w K mg base CX0 1 "is_number" (SpF K R_is_number)) : FnOk P w K mg base CX0 2 f fd ["value"] (SpF K R_is_piece) := by
  refine fn_pure F sc_is_piece (fun ds d h => ?_) (fun X ds d σ H Q o pn hR env q => ?_)
  · obtain ⟨es, rfl, _⟩ := h
    rfl
  · obtain ⟨es, rfl, hz, hty, rfl⟩ := hR
    replace env : EnvD K H σ [some (.tup es), none] := env
    refine' wb_cons (ws_if (k := !(decide (es.length = 4) && es.all (isNum · 0 60))) o env (jt_is ?h0 ?h1) (fun hk H2 e2 en2 => ?_) (fun hk H2 e2 en2 => wb_nil ?_))
    case h0 =>
      refine' jt_w (jw_or ?h2 fun _ => jw_or ?h3 fun _ => jw_or1 (jt_not (jt_val (fun _ _ => rfl) (je_all (bs := es.map (isNum · 0 60)) (fun _ => rfl) rfl m4 ?h4))))
      case h2 => walk_at "jt"
      case h3 => walk_at "jt"
      case h4 =>
        rw [List.map_map]
        refine jl_map (j := 1) (Dt.bl ∘ (isNum · 0 60)) sc_is_piece.nd (fun _ _ => rfl) (blkOk_by (by kernel_rfl)) rfl rfl (ji_tup (by walk_at "je")) (by omega) fun d hd H1 e1 => ?_
        refine' je_call G1 (Nat.le_of_ble_eq_true rfl) rfl (by decide +kernel) (fun _ => rfl) (fun _ _ => rfl) ?h5 ?h6
        case h5 => walk_at "ja"
        case h6 => exact ⟨d, 0, 60, rfl, hty d hd, rfl⟩
    case h1 =>
      show (!true || (!decide ((es.length : Int) = 4) || !(es.map (isNum · 0 60)).all id)) = _
      rw [show decide ((es.length : Int) = 4) = decide (es.length = 4) by rw [Bool.eq_iff_iff]; simp; omega, List.all_map]
      cases decide (es.length = 4) <;> rfl
    · refine' wb_one (ws_ret o en2 je_bl fun v H3 e3 hv => q v H3 (e2.trans e3) ?_)
      unfold isPc
      rw [show (decide (es.length = 4) && es.all (isNum · 0 60)) = false from notT hk]
      exact hv
    · have hk' : (decide (es.length = 4) && es.all (isNum · 0 60)) = true := notF hk
      rw [Bool.and_eq_true] at hk'
      have hl : es.length = 4 := of_decide_eq_true hk'.1
      obtain ⟨e1, f1, g1, i1, rfl⟩ : ∃ a b c d, es = [a, b, c, d] := by
        match es, hl with
        | [a, b, c, d], _ => exact ⟨a, b, c, d, rfl⟩
      simp only [List.all_cons, List.all_nil, Bool.and_true, Bool.and_eq_true] at hk'
      obtain ⟨_, h1, h2, h3, h4⟩ := hk'
      obtain ⟨i1, rfl, _⟩ := isNum_int h1
      obtain ⟨i2, rfl, _⟩ := isNum_int h2
      obtain ⟨i3, rfl, _⟩ := isNum_int h3
      obtain ⟨i4, rfl, _⟩ := isNum_int h4
      refine' wb_one (ws_ret o en2 (je_is (je_neD 1 (by decide) ?h0 ?h1 ?h2 ?h3) ?h4) fun v H3 e3 hv => q v H3 (e2.trans e3) hv)
      case h0 => walk_at "je"
      case h1 => walk_at "je"
      case h2 => rfl
      case h3 => rfl
      case h4 =>
        show Dt.bl (!(Dt.tup [.int i1, .int i2]).eq (.tup [.int i3, .int i4])) = _
        unfold isPc
        rw [show (decide (([Dt.int i1, .int i2, .int i3, .int i4] : List Dt).length = 4) && ([Dt.int i1, .int i2, .int i3, .int i4] : List Dt).all (isNum · 0 60)) = true from notF hk] <;> rfl
end
end Led

set_option maxRecDepth 100000
set_option maxHeartbeats 4000000
namespace Led
open PySem L2 Evl
local macro_rules | `(tactic| walk_at "at") => `(tactic| first
  | with_reducible exact At.here
  | (with_reducible refine' At.there ?h0; (case h0 => walk_at "at")))
local macro_rules | `(tactic| walk_at "vis") => `(tactic| first
  | exact Or.inl rfl
  | exact Or.inr (Or.inl rfl)
  | exact Or.inr (Or.inr rfl))
local macro_rules | `(tactic| walk_at "kit") => `(tactic| first
  | with_reducible exact kit_ii
  | with_reducible exact kit_ib
  | with_reducible exact kit_it
  | with_reducible exact kit_is
  | with_reducible exact kit_bi
  | with_reducible exact kit_bb
  | with_reducible exact kit_bt
  | with_reducible exact kit_bs
  | with_reducible exact kit_si
  | with_reducible exact kit_sb
  | with_reducible exact kit_st
  | with_reducible exact kit_ss
  | with_reducible exact kit_ni
  | with_reducible exact kit_nb
  | with_reducible exact kit_nt
  | with_reducible exact kit_ns
  | with_reducible exact kit_ti
  | with_reducible exact kit_tb
  | with_reducible exact kit_tt
  | with_reducible exact kit_ts)
local macro_rules | `(tactic| walk_at "je") => `(tactic| first
  | exact je_int
  | exact je_bl
  | exact je_non
  | exact je_str
  | (refine' je_var ?h0 ?h1 ?h2 ?h3; (case h0 => walk_at "at"); (case h1 => walk_at "vis"); (case h2 => decide +kernel); (case h3 => decide +kernel))
  | (refine' je_var2 ?h0 ?h1 ?h2 ?h3; (case h0 => rfl); (case h1 => walk_at "vis"); (case h2 => decide +kernel); (case h3 => decide +kernel))
  | (refine' je_globI ?h0 ?h1 ?h2; (case h0 => rfl); (case h1 => with_reducible assumption); (case h2 => decide +kernel))
  | (refine' je_globS ?h0 ?h1 ?h2; (case h0 => rfl); (case h1 => with_reducible assumption); (case h2 => decide +kernel))
  | (refine' je_add ?h0 ?h1; (case h0 => walk_at "je"); (case h1 => walk_at "je"))
  | (refine' je_sub ?h0 ?h1; (case h0 => walk_at "je"); (case h1 => walk_at "je"))
  | (refine' je_lt ?h0 ?h1; (case h0 => walk_at "je"); (case h1 => walk_at "je"))
  | (refine' je_le ?h0 ?h1; (case h0 => walk_at "je"); (case h1 => walk_at "je"))
  | (refine' je_gt ?h0 ?h1; (case h0 => walk_at "je"); (case h1 => walk_at "je"))
  | (refine' je_ge ?h0 ?h1; (case h0 => walk_at "je"); (case h1 => walk_at "je"))
  | (refine' je_eqI ?h0 ?h1; (case h0 => walk_at "je"); (case h1 => walk_at "je"))
  | (refine' je_neI ?h0 ?h1; (case h0 => walk_at "je"); (case h1 => walk_at "je"))
  | (refine' je_mul ?h0 ?h1 ?h2; (case h0 => walk_at "je"); (case h1 => walk_at "je"); (case h2 => walk_at "side"))
  | (refine' je_div ?h0 ?h1 ?h2; (case h0 => walk_at "je"); (case h1 => walk_at "je"); (case h2 => walk_at "side"))
  | (refine' je_mod ?h0 ?h1 ?h2; (case h0 => walk_at "je"); (case h1 => walk_at "je"); (case h2 => walk_at "side"))
  | (refine' je_lele ?h0 ?h1 ?h2 ?h3; (case h0 => walk_at "je"); (case h1 => walk_at "je"); (case h2 => walk_at "je"); (case h3 => with_unfolding_all rfl))
  | (refine' je_isN ?h0; (case h0 => walk_at "je"))
  | (refine' je_notN ?h0; (case h0 => walk_at "je"))
  | (refine' je_not ?h0; (case h0 => walk_at "je"))
  | (refine' je_one ?h0; (case h0 => walk_at "je"))
  | (refine' je_un ?h0; (case h0 => walk_at "je"))
  | (refine' je_andB ?h0 (fun _ => ?h1); (case h0 => walk_at "je"); (case h1 => walk_at "je"))
  | (refine' je_orB ?h0 (fun _ => ?h1); (case h0 => walk_at "je"); (case h1 => walk_at "je"))
  | (refine' je_notT ?h0; (case h0 => walk_at "je"))
  | (refine' je_notF ?h0; (case h0 => walk_at "je"))
  | (refine' je_andF ?h0; (case h0 => walk_at "je"))
  | (refine' je_orT ?h0; (case h0 => walk_at "je"))
  | (refine' je_if ?h0 (fun _ => ?h1) (fun _ => ?h2); (case h0 => walk_at "jt"); (case h1 => walk_at "je"); (case h2 => walk_at "je"))
  | (refine' je_tup ?h0 ?h1; (case h0 => walk_at "ja"); (case h1 => walk_at "side"))
  | (refine' je_ixT ?h0 ?h1 ?h2 ?h3; (case h0 => exact fun _ _ => rfl); (case h1 => walk_at "je"); (case h2 => walk_at "je"); (case h3 => walk_at "ix"))
  | (refine' je_ixN ?h0 ?h1 ?h2 ?h3; (case h0 => exact fun _ _ => rfl); (case h1 => walk_at "jl"); (case h2 => walk_at "je"); (case h3 => walk_at "ix"))
  | (refine' je_sl ?h0 ?h1 ?h2 ?h3; (case h0 => walk_at "je"); (case h1 => walk_at "jo"); (case h2 => walk_at "jo"); (case h3 => walk_at "side"))
  | (refine' je_abs ?h0 ?h1 ?h2 ?h3; (case h0 => exact fun _ => rfl); (case h1 => rfl); (case h2 => with_reducible assumption); (case h3 => walk_at "je"))
  | (refine' je_int1 ?h0 ?h1 ?h2 ?h3; (case h0 => exact fun _ => rfl); (case h1 => rfl); (case h2 => with_reducible assumption); (case h3 => walk_at "je"))
  | (refine' je_max2 ?h0 ?h1 ?h2 ?h3 ?h4; (case h0 => exact fun _ => rfl); (case h1 => exact fun _ _ => rfl); (case h2 => rfl); (case h3 => with_reducible assumption); (case h4 => walk_at "ja"))
  | (refine' je_min2 ?h0 ?h1 ?h2 ?h3 ?h4; (case h0 => exact fun _ => rfl); (case h1 => exact fun _ _ => rfl); (case h2 => rfl); (case h3 => with_reducible assumption); (case h4 => walk_at "ja"))
  | (refine' je_lenT ?h0 ?h1 ?h2 ?h3; (case h0 => exact fun _ => rfl); (case h1 => rfl); (case h2 => with_reducible assumption); (case h3 => walk_at "je"))
  | (refine' je_tupN ?h0 ?h1 ?h2 ?h3; (case h0 => exact fun _ => rfl); (case h1 => rfl); (case h2 => with_reducible assumption); (case h3 => walk_at "jl"))
  | (refine' je_all ?h0 ?h1 ?h2 ?h3; (case h0 => exact fun _ => rfl); (case h1 => rfl); (case h2 => with_reducible assumption); (case h3 => walk_at "jl"))
  | (refine' je_any ?h0 ?h1 ?h2 ?h3; (case h0 => exact fun _ => rfl); (case h1 => rfl); (case h2 => with_reducible assumption); (case h3 => walk_at "jl"))
  | (refine' je_isiI ?h0 ?h1 ?h2 ?h3 ?h4 ?h5 ?h6 ?h7; (case h0 => exact fun _ => rfl); (case h1 => rfl); (case h2 => with_reducible assumption); (case h3 => rfl); (case h4 => with_reducible assumption); (case h5 => walk_at "je"); (case h6 => rfl); (case h7 => walk_at "kit"))
  | (refine' je_isiB ?h0 ?h1 ?h2 ?h3 ?h4 ?h5 ?h6 ?h7; (case h0 => exact fun _ => rfl); (case h1 => rfl); (case h2 => with_reducible assumption); (case h3 => rfl); (case h4 => with_reducible assumption); (case h5 => walk_at "je"); (case h6 => rfl); (case h7 => walk_at "kit"))
  | (refine' je_isiT ?h0 ?h1 ?h2 ?h3 ?h4 ?h5 ?h6 ?h7; (case h0 => exact fun _ => rfl); (case h1 => rfl); (case h2 => with_reducible assumption); (case h3 => rfl); (case h4 => with_reducible assumption); (case h5 => walk_at "je"); (case h6 => rfl); (case h7 => walk_at "kit"))
  | (refine' je_isiS ?h0 ?h1 ?h2 ?h3 ?h4 ?h5 ?h6 ?h7; (case h0 => exact fun _ => rfl); (case h1 => rfl); (case h2 => with_reducible assumption); (case h3 => rfl); (case h4 => with_reducible assumption); (case h5 => walk_at "je"); (case h6 => rfl); (case h7 => walk_at "kit"))
  | (refine' je_call ?h0 ?h1 ?h2 ?h3 ?h4 ?h5 ?h6 ?h7; (case h0 => with_reducible assumption); (case h1 => exact Nat.le_of_ble_eq_true rfl); (case h2 => rfl); (case h3 => decide +kernel); (case h4 => exact fun _ => rfl); (case h5 => exact fun _ _ => rfl); (case h6 => walk_at "ja"); (case h7 => walk_at "rel"))
  | (refine' je_cat ?h0 ?h1 ?h2 ?h3; (case h0 => walk_at "je"); (case h1 => walk_at "je"); (case h2 => walk_at "side"); (case h3 => walk_at "side")))
local macro_rules | `(tactic| walk_at "jt") => `(tactic| first
  | (refine' jt_lt ?h0 ?h1; (case h0 => walk_at "je"); (case h1 => walk_at "je"))
  | (refine' jt_le ?h0 ?h1; (case h0 => walk_at "je"); (case h1 => walk_at "je"))
  | (refine' jt_gt ?h0 ?h1; (case h0 => walk_at "je"); (case h1 => walk_at "je"))
  | (refine' jt_ge ?h0 ?h1; (case h0 => walk_at "je"); (case h1 => walk_at "je"))
  | (refine' jt_eqI ?h0 ?h1; (case h0 => walk_at "je"); (case h1 => walk_at "je"))
  | (refine' jt_neI ?h0 ?h1; (case h0 => walk_at "je"); (case h1 => walk_at "je"))
  | (refine' jt_lele ?h0 ?h1 ?h2 ?h3; (case h0 => walk_at "je"); (case h1 => walk_at "je"); (case h2 => walk_at "je"); (case h3 => with_unfolding_all rfl))
  | (refine' jt_isN ?h0; (case h0 => walk_at "je"))
  | (refine' jt_notN ?h0; (case h0 => walk_at "je"))
  | (refine' jt_not ?h0; (case h0 => walk_at "jt"))
  | (refine' jt_w ?h0; (case h0 => walk_at "jw"))
  | (refine' jt_val ?h0 ?h1; (case h0 => exact fun _ _ => rfl); (case h1 => walk_at "je")))
local macro_rules | `(tactic| walk_at "jw") => `(tactic| first
  | (refine' jw_and1 ?h0; (case h0 => walk_at "jt"))
  | (refine' jw_or1 ?h0; (case h0 => walk_at "jt"))
  | (refine' jw_and ?h0 (fun _ => ?h1); (case h0 => walk_at "jt"); (case h1 => walk_at "jw"))
  | (refine' jw_or ?h0 (fun _ => ?h1); (case h0 => walk_at "jt"); (case h1 => walk_at "jw"))
  | (refine' jw_andF ?h0; (case h0 => walk_at "jt"))
  | (refine' jw_orT ?h0; (case h0 => walk_at "jt")))
local macro_rules | `(tactic| walk_at "ja") => `(tactic| first
  | exact ja_nil
  | (refine' ja_cons ?h0 ?h1 ?h2; (case h0 => exact fun _ => rfl); (case h1 => walk_at "je"); (case h2 => walk_at "ja")))
local macro_rules | `(tactic| walk_at "jo") => `(tactic| first
  | exact jo_none
  | (refine' jo_some ?h0; (case h0 => walk_at "je")))
local macro_rules | `(tactic| walk_at "jl") => `(tactic| first
  | (refine' jl_lst ?h0 ?h1; (case h0 => walk_at "ja"); (case h1 => walk_at "side"))
  | (refine' jl_list ?h0 ?h1 ?h2 ?h3; (case h0 => exact fun _ => rfl); (case h1 => rfl); (case h2 => with_reducible assumption); (case h3 => walk_at "je")))
local macro_rules | `(tactic| walk_at "ix") => `(tactic| first
  | rfl
  | assumption)
local macro_rules | `(tactic| walk_at "side") => `(tactic| first
  | exact Nat.le_of_ble_eq_true rfl
  | omega
  | exact ⟨by omega, by omega⟩
  | exact Or.inl ⟨by omega, by omega⟩
  | exact Or.inr ⟨by omega, by omega⟩
  | exact fun z => absurd z.1 (Nat.ne_of_beq_eq_false rfl)
  | exact fun z => absurd z.2 (Nat.ne_of_beq_eq_false rfl)
  | exact List.cons_ne_nil _ _
  | assumption)
local macro_rules | `(tactic| walk_at "rel") => `(tactic| first
  | assumption)
section
variable {P : Program} {w : World} {K : PySem.W.Frag} {mg : Str → Option Value} {base : Heap}
/-! InvalidDrawing.__init__ -/
theorem sc_InvalidDrawing_init : FnScope ["self", "index"] ["self", "index"] (defScope s_InvalidDrawing___init__) := ⟨rfl, rfl, rfl, by decide +kernel, rfl, by decide +kernel, by decide +kernel⟩
theorem ok_InvalidDrawing_init {f CL : Addr} {fd : FuncData} (F : Fun K "__init__" "InvalidDrawing.__init__" s_InvalidDrawing___init__ f fd) (L : LineE K mg CL) : FnOk P w K mg base CX0 1 f fd ["self", "index"] (spOI K "index") := by
  refine fn_sp F sc_InvalidDrawing_init (fun vs H Q E h => ?_) (fun X vs H Q E o pn hst hfr tk h => ?_)
  · obtain ⟨a, C, n, rfl, _⟩ := h
    rfl
  · obtain ⟨a, CI, n, rfl, hn, T, hno, hx, q⟩ := h
    have env : EnvD K H (L2.start ["self", "index"] [.ref a, .int n]) [some (.ref a), some (.int n)] := env_start (.cons (.ref a) (.cons (.int n) .nil))
    refine' wb_cons (ws_leinit o env L rfl (fun _ => rfl) (fun _ _ => rfl) ?h0 T hx (fun _ => rfl) (fun _ => rfl) fun H1 e1 en1 => ?_)
    case h0 =>
      refine' ja_cons (fun _ => rfl) ?h1 (ja_cons (fun _ => rfl) (je_fstr ?h3 hn ?h2) ja_nil)
      case h1 => walk_at "je"
      case h2 => walk_at "je"
      case h3 => decide +kernel
    refine' wb_one (ws_ost (d := .int n) o en1 (fun _ => rfl) ?h0 ?h1 T hno (e1 _ _ hx) fun v dx H2 e2 hv hdx hne => ?_)
    case h0 => walk_at "je"
    case h1 => walk_at "je"
    rw [hv.int_inv]
    exact q dx H2 (e1.trans e2) hdx hne
/-! ### what a drawing is -/
def pcOf : List Dt → Pc
  | [.int a, .int b, .int c, .int e] => ⟨a, b, c, e⟩
  | _ => ⟨0, 0, 0, 0⟩
theorem isPc_pc {r : List Dt} (h : isPc r = true) : r = [.int (pcOf r).x, .int (pcOf r).y, .int (pcOf r).u, .int (pcOf r).v] ∧ (pcOf r).In ∧ 0 < (pcOf r).len := by
  unfold isPc at h
  rw [Bool.and_eq_true, Bool.and_eq_true] at h
  obtain ⟨⟨h1, h2⟩, h3⟩ := h
  have hl : r.length = 4 := of_decide_eq_true h1
  obtain ⟨a, b, c, d, rfl⟩ : ∃ a b c d, r = [a, b, c, d] := by
    match r, hl with
    | [a, b, c, d], _ => exact ⟨a, b, c, d, rfl⟩
  simp only [List.all_cons, List.all_nil, Bool.and_true, Bool.and_eq_true] at h2
  obtain ⟨q1, q2, q3, q4⟩ := h2
  obtain ⟨i1, rfl, a1, a2⟩ := isNum_int q1
  obtain ⟨i2, rfl, b1, b2⟩ := isNum_int q2
  obtain ⟨i3, rfl, c1, c2⟩ := isNum_int q3
  obtain ⟨i4, rfl, d1, d2⟩ := isNum_int q4
  refine ⟨rfl, ⟨⟨a1, a2⟩, ⟨b1, b2⟩, ⟨c1, c2⟩, ⟨d1, d2⟩⟩, ?_⟩
  have h4 : (decide (i1 = i3) && (decide (i2 = i4) && true)) = false := notT h3
  have sq : ∀ z : Int, z ≠ 0 → 0 < z * z := fun z hz => by
    rcases Int.lt_or_gt_of_ne hz with w | w
    · exact Int.mul_pos_of_neg_of_neg w w
    · exact Int.mul_pos w w
  have sq0 : ∀ z : Int, 0 ≤ z * z := fun z => by
    by_cases hz : z = 0
    · rw [hz]; decide
    · exact Int.le_of_lt (sq z hz)
  show 0 < (i3 - i1) * (i3 - i1) + (i4 - i2) * (i4 - i2)
  by_cases e1 : i1 = i3
  · have e2 : i2 ≠ i4 := fun z => by rw [e1, z] at h4; simp at h4
    have := sq (i4 - i2) (by omega)
    have := sq0 (i3 - i1)
    omega
  · have := sq (i3 - i1) (by omega)
    have := sq0 (i4 - i2)
    omega
/-- the pieces, or the index of the first that is wrong -/
def scanGo : Nat → List Pc → List (List Dt) → Except Nat (List Pc)
  | _, acc, [] => .ok acc
  | i, acc, r :: rs => if (decide (i = 6) || !isPc r) = true then .error i else if (acc.map fun q => (pcOf r).over q).any id = true then .error i else scanGo (i + 1) (acc ++ [pcOf r]) rs
def scan (rs : List (List Dt)) : Except Nat (List Pc) := scanGo 0 [] rs
def entP (ps : List Pc) (i j : Nat) : Option (List Key × Dt) :=
  let m := (ps.getD i ⟨0, 0, 0, 0⟩).meet (ps.getD j ⟨0, 0, 0, 0⟩)
  if m.isN = true then none else some ([.inl (i : Int), .inl (j : Int)], m)
def rowP (ps : List Pc) (j k : Nat) : List (List Key × Dt) := (List.range k).filterMap fun i => entP ps i j
def allP (ps : List Pc) (n : Nat) : List (List Key × Dt) := (List.range n).flatMap fun j => rowP ps j j
theorem rowP_succ (ps : List Pc) (j k : Nat) : rowP ps j (k + 1) = rowP ps j k ++ (entP ps k j).toList := by
  unfold rowP
  rw [List.range_succ, List.filterMap_append]
  congr 1
theorem allP_succ (ps : List Pc) (n : Nat) : allP ps (n + 1) = allP ps n ++ rowP ps n n := by
  unfold allP
  rw [List.range_succ, List.flatMap_append]
  simp [List.flatMap_cons]
theorem rowP_key {ps : List Pc} {j k : Nat} {e : List Key × Dt} (h : e ∈ rowP ps j k) : ∃ i : Nat, i < k ∧ e.1 = [.inl (i : Int), .inl (j : Int)] := by
  unfold rowP at h
  obtain ⟨i, hi, he⟩ := List.mem_filterMap.mp h
  refine ⟨i, List.mem_range.mp hi, ?_⟩
  unfold entP at he
  dsimp only at he
  split at he
  · cases he
  · cases he; rfl
theorem allP_key {ps : List Pc} {n : Nat} {e : List Key × Dt} (h : e ∈ allP ps n) : ∃ i j : Nat, i < j ∧ j < n ∧ e.1 = [.inl (i : Int), .inl (j : Int)] := by
  unfold allP at h
  obtain ⟨j, hj, he⟩ := List.mem_flatMap.mp h
  obtain ⟨i, hi, e1⟩ := rowP_key he
  exact ⟨i, j, hi, List.mem_range.mp hj, e1⟩
theorem new_key {ps : List Pc} {n k : Nat} : ∀ e ∈ allP ps n ++ rowP ps n k, e.1 ≠ [.inl (k : Int), .inl (n : Int)] := fun e he z => by
  rcases List.mem_append.mp he with h | h
  · obtain ⟨i, j, _, h2, h3⟩ := allP_key h
    rw [h3] at z
    simp only [List.cons.injEq, Sum.inl.injEq, and_true] at z
    omega
  · obtain ⟨i, h2, h3⟩ := rowP_key h
    rw [h3] at z
    simp only [List.cons.injEq, Sum.inl.injEq, and_true] at z
    omega
theorem rowP_len (ps : List Pc) (j k : Nat) : (rowP ps j k).length ≤ k := by
  unfold rowP
  have := List.length_filterMap_le (fun i => entP ps i j) (List.range k)
  rw [List.length_range] at this
  exact this
theorem allP_len (ps : List Pc) : ∀ n : Nat, (allP ps n).length ≤ n * n
  | 0 => by simp [allP]
  | n + 1 => by
    rw [allP_succ, List.length_append]
    have h1 := allP_len ps n
    have h2 := rowP_len ps n n
    have : (n + 1) * (n + 1) = n * n + 2 * n + 1 := by
      rw [Nat.add_mul, Nat.mul_add]; omega
    omega
/-- a dict's pairs are these -/
abbrev PtsOk (K : PySem.W.Frag) (H : Hp) (kvs : List (List Key × V)) (es : List (List Key × Dt)) : Prop := Paired (fun (kv : List Key × V) (e : List Key × Dt) => kv.1 = e.1 ∧ Di K H kv.2 e.2) kvs es
theorem pts_mono {H H' : Hp} {kvs : List (List Key × V)} {es : List (List Key × Dt)} (t : Tx K H H') (h : PtsOk K H kvs es) : PtsOk K H' kvs es := Paired.mapP h fun _ _ z => ⟨z.1, z.2.mono t⟩
theorem paired_append {α β : Type} {F : α → β → Prop} : ∀ {a c : List α} {b d : List β}, Paired F a b → Paired F c d → Paired F (a ++ c) (b ++ d)
  | _, _, _, _, .nil, s => s
  | _, _, _, _, .cons r t, s => .cons r (paired_append t s)
theorem paired_len {α β : Type} {F : α → β → Prop} : ∀ {a : List α} {b : List β}, Paired F a b → a.length = b.length
  | _, _, .nil => rfl
  | _, _, .cons _ t => by rw [List.length_cons, List.length_cons, paired_len t]
theorem pts_new {H : Hp} {k : List Key} : ∀ {kvs : List (List Key × V)} {es : List (List Key × Dt)}, PtsOk K H kvs es → (∀ e ∈ es, e.1 ≠ k) → valV kvs k = none
  | _, _, .nil, _ => rfl
  | _, _, .cons r t, h => by
    rw [valV_neg (by rw [r.1]; exact h _ (List.mem_cons_self ..))]
    exact pts_new t fun e he => h e (List.mem_cons_of_mem _ he)
/-- at a: a Drawing of the pieces ps -/
structure DrT (K : PySem.W.Frag) (CD : Addr) where
  pl : Addr
  il : Nat
  pp : Addr
  ip : Nat
  cls : SlX.SCls K CD
  sl : SlX.Slot1 K CD "lines" pl il
  sp : SlX.Slot1 K CD "points" pp ip
  ne : il ≠ ip
def DrAt (K : PySem.W.Frag) (CD : Addr) (T : DrT K CD) (H : Hp) (a : Addr) (ps : List Pc) : Prop :=
  ∃ (dx : Addr) (vs : List (Option V)) (vl : V) (d : Addr) (kvs : List (List Key × V)), SlX.Slt H a CD dx vs ∧ vs[T.il]? = some (some vl) ∧ vs[T.ip]? = some (some (.ref d)) ∧ Di K H vl (.tup (ps.map Pc.d)) ∧ H d = some (.dT kvs) ∧ PtsOk K H kvs (allP ps ps.length)
theorem DrAt.mono {CD : Addr} {T : DrT K CD} {H H' : Hp} {a : Addr} {ps : List Pc} (e : Ex H H') (h : DrAt K CD T H a ps) : DrAt K CD T H' a ps := by
  obtain ⟨dx, vs, vl, d, kvs, h1, h2, h3, h4, h5, h6⟩ := h
  exact ⟨dx, vs, vl, d, kvs, slt_ex e h1, h2, h3, h4.mono (ex_tx e), e _ _ h5, pts_mono (ex_tx e) h6⟩
end
end Led

set_option maxRecDepth 100000
set_option maxHeartbeats 4000000
namespace Led
open PySem L2 Evl
local macro_rules | `(tactic| walk_at "at") => `(tactic| first
  | with_reducible exact At.here
  | (with_reducible refine' At.there ?h0; (case h0 => walk_at "at")))
local macro_rules | `(tactic| walk_at "vis") => `(tactic| first
  | exact Or.inl rfl
  | exact Or.inr (Or.inl rfl)
  | exact Or.inr (Or.inr rfl))
local macro_rules | `(tactic| walk_at "kit") => `(tactic| first
  | with_reducible exact kit_ii
  | with_reducible exact kit_ib
  | with_reducible exact kit_it
  | with_reducible exact kit_is
  | with_reducible exact kit_bi
  | with_reducible exact kit_bb
  | with_reducible exact kit_bt
  | with_reducible exact kit_bs
  | with_reducible exact kit_si
  | with_reducible exact kit_sb
  | with_reducible exact kit_st
  | with_reducible exact kit_ss
  | with_reducible exact kit_ni
  | with_reducible exact kit_nb
  | with_reducible exact kit_nt
  | with_reducible exact kit_ns
  | with_reducible exact kit_ti
  | with_reducible exact kit_tb
  | with_reducible exact kit_tt
  | with_reducible exact kit_ts)
local macro_rules | `(tactic| walk_at "je") => `(tactic| first
  | exact je_int
  | exact je_bl
  | exact je_non
  | exact je_str
  | (refine' je_var ?h0 ?h1 ?h2 ?h3; (case h0 => walk_at "at"); (case h1 => walk_at "vis"); (case h2 => decide +kernel); (case h3 => decide +kernel))
  | (refine' je_var2 ?h0 ?h1 ?h2 ?h3; (case h0 => rfl); (case h1 => walk_at "vis"); (case h2 => decide +kernel); (case h3 => decide +kernel))
  | (refine' je_globI ?h0 ?h1 ?h2; (case h0 => rfl); (case h1 => with_reducible assumption); (case h2 => decide +kernel))
  | (refine' je_globS ?h0 ?h1 ?h2; (case h0 => rfl); (case h1 => with_reducible assumption); (case h2 => decide +kernel))
  | (refine' je_add ?h0 ?h1; (case h0 => walk_at "je"); (case h1 => walk_at "je"))
  | (refine' je_sub ?h0 ?h1; (case h0 => walk_at "je"); (case h1 => walk_at "je"))
  | (refine' je_lt ?h0 ?h1; (case h0 => walk_at "je"); (case h1 => walk_at "je"))
  | (refine' je_le ?h0 ?h1; (case h0 => walk_at "je"); (case h1 => walk_at "je"))
  | (refine' je_gt ?h0 ?h1; (case h0 => walk_at "je"); (case h1 => walk_at "je"))
  | (refine' je_ge ?h0 ?h1; (case h0 => walk_at "je"); (case h1 => walk_at "je"))
  | (refine' je_eqI ?h0 ?h1; (case h0 => walk_at "je"); (case h1 => walk_at "je"))
  | (refine' je_neI ?h0 ?h1; (case h0 => walk_at "je"); (case h1 => walk_at "je"))
  | (refine' je_mul ?h0 ?h1 ?h2; (case h0 => walk_at "je"); (case h1 => walk_at "je"); (case h2 => walk_at "side"))
  | (refine' je_div ?h0 ?h1 ?h2; (case h0 => walk_at "je"); (case h1 => walk_at "je"); (case h2 => walk_at "side"))
  | (refine' je_mod ?h0 ?h1 ?h2; (case h0 => walk_at "je"); (case h1 => walk_at "je"); (case h2 => walk_at "side"))
  | (refine' je_lele ?h0 ?h1 ?h2 ?h3; (case h0 => walk_at "je"); (case h1 => walk_at "je"); (case h2 => walk_at "je"); (case h3 => with_unfolding_all rfl))
  | (refine' je_isN ?h0; (case h0 => walk_at "je"))
  | (refine' je_notN ?h0; (case h0 => walk_at "je"))
  | (refine' je_not ?h0; (case h0 => walk_at "je"))
  | (refine' je_one ?h0; (case h0 => walk_at "je"))
  | (refine' je_un ?h0; (case h0 => walk_at "je"))
  | (refine' je_andB ?h0 (fun _ => ?h1); (case h0 => walk_at "je"); (case h1 => walk_at "je"))
  | (refine' je_orB ?h0 (fun _ => ?h1); (case h0 => walk_at "je"); (case h1 => walk_at "je"))
  | (refine' je_notT ?h0; (case h0 => walk_at "je"))
  | (refine' je_notF ?h0; (case h0 => walk_at "je"))
  | (refine' je_andF ?h0; (case h0 => walk_at "je"))
  | (refine' je_orT ?h0; (case h0 => walk_at "je"))
  | (refine' je_if ?h0 (fun _ => ?h1) (fun _ => ?h2); (case h0 => walk_at "jt"); (case h1 => walk_at "je"); (case h2 => walk_at "je"))
  | (refine' je_tup ?h0 ?h1; (case h0 => walk_at "ja"); (case h1 => walk_at "side"))
  | (refine' je_ixT ?h0 ?h1 ?h2 ?h3; (case h0 => exact fun _ _ => rfl); (case h1 => walk_at "je"); (case h2 => walk_at "je"); (case h3 => walk_at "ix"))
  | (refine' je_ixN ?h0 ?h1 ?h2 ?h3; (case h0 => exact fun _ _ => rfl); (case h1 => walk_at "jl"); (case h2 => walk_at "je"); (case h3 => walk_at "ix"))
  | (refine' je_sl ?h0 ?h1 ?h2 ?h3; (case h0 => walk_at "je"); (case h1 => walk_at "jo"); (case h2 => walk_at "jo"); (case h3 => walk_at "side"))
  | (refine' je_abs ?h0 ?h1 ?h2 ?h3; (case h0 => exact fun _ => rfl); (case h1 => rfl); (case h2 => with_reducible assumption); (case h3 => walk_at "je"))
  | (refine' je_int1 ?h0 ?h1 ?h2 ?h3; (case h0 => exact fun _ => rfl); (case h1 => rfl); (case h2 => with_reducible assumption); (case h3 => walk_at "je"))
  | (refine' je_max2 ?h0 ?h1 ?h2 ?h3 ?h4; (case h0 => exact fun _ => rfl); (case h1 => exact fun _ _ => rfl); (case h2 => rfl); (case h3 => with_reducible assumption); (case h4 => walk_at "ja"))
  | (refine' je_min2 ?h0 ?h1 ?h2 ?h3 ?h4; (case h0 => exact fun _ => rfl); (case h1 => exact fun _ _ => rfl); (case h2 => rfl); (case h3 => with_reducible assumption); (case h4 => walk_at "ja"))
  | (refine' je_lenT ?h0 ?h1 ?h2 ?h3; (case h0 => exact fun _ => rfl); (case h1 => rfl); (case h2 => with_reducible assumption); (case h3 => walk_at "je"))
  | (refine' je_tupN ?h0 ?h1 ?h2 ?h3; (case h0 => exact fun _ => rfl); (case h1 => rfl); (case h2 => with_reducible assumption); (case h3 => walk_at "jl"))
  | (refine' je_all ?h0 ?h1 ?h2 ?h3; (case h0 => exact fun _ => rfl); (case h1 => rfl); (case h2 => with_reducible assumption); (case h3 => walk_at "jl"))
  | (refine' je_any ?h0 ?h1 ?h2 ?h3; (case h0 => exact fun _ => rfl); (case h1 => rfl); (case h2 => with_reducible assumption); (case h3 => walk_at "jl"))
  | (refine' je_isiI ?h0 ?h1 ?h2 ?h3 ?h4 ?h5 ?h6 ?h7; (case h0 => exact fun _ => rfl); (case h1 => rfl); (case h2 => with_reducible assumption); (case h3 => rfl); (case h4 => with_reducible assumption); (case h5 => walk_at "je"); (case h6 => rfl); (case h7 => walk_at "kit"))
  | (refine' je_isiB ?h0 ?h1 ?h2 ?h3 ?h4 ?h5 ?h6 ?h7; (case h0 => exact fun _ => rfl); (case h1 => rfl); (case h2 => with_reducible assumption); (case h3 => rfl); (case h4 => with_reducible assumption); (case h5 => walk_at "je"); (case h6 => rfl); (case h7 => walk_at "kit"))
  | (refine' je_isiT ?h0 ?h1 ?h2 ?h3 ?h4 ?h5 ?h6 ?h7; (case h0 => exact fun _ => rfl); (case h1 => rfl); (case h2 => with_reducible assumption); (case h3 => rfl); (case h4 => with_reducible assumption); (case h5 => walk_at "je"); (case h6 => rfl); (case h7 => walk_at "kit"))
  | (refine' je_isiS ?h0 ?h1 ?h2 ?h3 ?h4 ?h5 ?h6 ?h7; (case h0 => exact fun _ => rfl); (case h1 => rfl); (case h2 => with_reducible assumption); (case h3 => rfl); (case h4 => with_reducible assumption); (case h5 => walk_at "je"); (case h6 => rfl); (case h7 => walk_at "kit"))
  | (refine' je_call ?h0 ?h1 ?h2 ?h3 ?h4 ?h5 ?h6 ?h7; (case h0 => with_reducible assumption); (case h1 => exact Nat.le_of_ble_eq_true rfl); (case h2 => rfl); (case h3 => decide +kernel); (case h4 => exact fun _ => rfl); (case h5 => exact fun _ _ => rfl); (case h6 => walk_at "ja"); (case h7 => walk_at "rel"))
  | (refine' je_cat ?h0 ?h1 ?h2 ?h3; (case h0 => walk_at "je"); (case h1 => walk_at "je"); (case h2 => walk_at "side"); (case h3 => walk_at "side")))
local macro_rules | `(tactic| walk_at "jt") => `(tactic| first
  | (refine' jt_lt ?h0 ?h1; (case h0 => walk_at "je"); (case h1 => walk_at "je"))
  | (refine' jt_le ?h0 ?h1; (case h0 => walk_at "je"); (case h1 => walk_at "je"))
  | (refine' jt_gt ?h0 ?h1; (case h0 => walk_at "je"); (case h1 => walk_at "je"))
  | (refine' jt_ge ?h0 ?h1; (case h0 => walk_at "je"); (case h1 => walk_at "je"))
  | (refine' jt_eqI ?h0 ?h1; (case h0 => walk_at "je"); (case h1 => walk_at "je"))
  | (refine' jt_neI ?h0 ?h1; (case h0 => walk_at "je"); (case h1 => walk_at "je"))
  | (refine' jt_lele ?h0 ?h1 ?h2 ?h3; (case h0 => walk_at "je"); (case h1 => walk_at "je"); (case h2 => walk_at "je"); (case h3 => with_unfolding_all rfl))
  | (refine' jt_isN ?h0; (case h0 => walk_at "je"))
  | (refine' jt_notN ?h0; (case h0 => walk_at "je"))
  | (refine' jt_not ?h0; (case h0 => walk_at "jt"))
  | (refine' jt_w ?h0; (case h0 => walk_at "jw"))
  | (refine' jt_val ?h0 ?h1; (case h0 => exact fun _ _ => rfl); (case h1 => walk_at "je")))
local macro_rules | `(tactic| walk_at "jw") => `(tactic| first
  | (refine' jw_and1 ?h0; (case h0 => walk_at "jt"))
  | (refine' jw_or1 ?h0; (case h0 => walk_at "jt"))
  | (refine' jw_and ?h0 (fun _ => ?h1); (case h0 => walk_at "jt"); (case h1 => walk_at "jw"))
  | (refine' jw_or ?h0 (fun _ => ?h1); (case h0 => walk_at "jt"); (case h1 => walk_at "jw"))
  | (refine' jw_andF ?h0; (case h0 => walk_at "jt"))
  | (refine' jw_orT ?h0; (case h0 => walk_at "jt")))
local macro_rules | `(tactic| walk_at "ja") => `(tactic| first
  | exact ja_nil
  | (refine' ja_cons ?h0 ?h1 ?h2; (case h0 => exact fun _ => rfl); (case h1 => walk_at "je"); (case h2 => walk_at "ja")))
local macro_rules | `(tactic| walk_at "jo") => `(tactic| first
  | exact jo_none
  | (refine' jo_some ?h0; (case h0 => walk_at "je")))
local macro_rules | `(tactic| walk_at "jl") => `(tactic| first
  | (refine' jl_lst ?h0 ?h1; (case h0 => walk_at "ja"); (case h1 => walk_at "side"))
  | (refine' jl_list ?h0 ?h1 ?h2 ?h3; (case h0 => exact fun _ => rfl); (case h1 => rfl); (case h2 => with_reducible assumption); (case h3 => walk_at "je")))
local macro_rules | `(tactic| walk_at "ix") => `(tactic| first
  | rfl
  | assumption)
local macro_rules | `(tactic| walk_at "side") => `(tactic| first
  | exact Nat.le_of_ble_eq_true rfl
  | omega
  | exact ⟨by omega, by omega⟩
  | exact Or.inl ⟨by omega, by omega⟩
  | exact Or.inr ⟨by omega, by omega⟩
  | exact fun z => absurd z.1 (Nat.ne_of_beq_eq_false rfl)
  | exact fun z => absurd z.2 (Nat.ne_of_beq_eq_false rfl)
  | exact List.cons_ne_nil _ _
  | assumption)
local macro_rules | `(tactic| walk_at "rel") => `(tactic| first
  | assumption)
section
variable {P : Program} {w : World} {K : PySem.W.Frag} {mg : Str → Option Value} {base : Heap}
/-! Drawing.__init__ -/
structure RawOk (rs : List (List Dt)) : Prop where
  len : rs.length ≤ 300
  all : ∀ r ∈ rs, r.length ≤ 1000 ∧ ∀ e ∈ r, (tyD e).isSome = true
def spDI (K : PySem.W.Frag) (CD CI : Addr) (T : DrT K CD) : Sp := fun vs H Q E => ∃ (x dx : Addr) (v : V) (rs : List (List Dt)), vs = [.ref x, v] ∧ H x = some (.ins CD dx []) ∧ (H dx).isSome = true ∧ dx ≠ x ∧ NoT (H dx) ∧ Di K H v (.tup (rs.map Dt.tup)) ∧ RawOk rs ∧
  (∀ i, scan rs = .error i → ∀ dd H', Ex H H' → H dd = none → H' dd = some (.xd [("index", .int (i : Int))]) → E (.ref CI) (some dd) H') ∧
  (∀ ps, scan rs = .ok ps → ∀ H', ExB [x, dx] H H' → DrAt K CD T H' x ps → Q .non H')
theorem sc_Drawing_init : FnScope ["self", "pieces", "index", "piece", "other", "one", "point", "earlier"] ["self", "pieces"] (defScope s_Drawing___init__) := ⟨rfl, rfl, rfl, by decide +kernel, rfl, by decide +kernel, by decide +kernel⟩
theorem take_succ_get {α : Type} {l : List α} {i : Nat} {x : α} (h : l[i]? = some x) : l.take (i + 1) = l.take i ++ [x] := by
  rw [List.take_add_one, h] <;> rfl
theorem drop_get {α : Type} {l : List α} {i : Nat} {x : α} (h : l[i]? = some x) : l.drop i = x :: l.drop (i + 1) := by
  obtain ⟨h1, h2⟩ := List.getElem?_eq_some_iff.mp h
  rw [List.drop_eq_getElem_cons h1, h2]
theorem small_log {n : Nat} (h : n ≤ 1000) : ((n : Int)).natAbs.log2 < 1920 := by
  have : (n : Int).natAbs = n := by omega
  rw [this]
  by_cases z : n = 0
  · rw [z]; decide
  · exact Nat.lt_of_lt_of_le ((Nat.log2_lt z).mpr (Nat.lt_of_le_of_lt h (by decide : 1000 < 2 ^ 10))) (by decide)
theorem ok_Drawing_init {f CD CI : Addr} {fd : FuncData} {t6 : Tok} (F : Fun K "__init__" "Drawing.__init__" s_Drawing___init__ f fd) (T : DrT K CD) (TI : ErrI P w K mg base 1 "InvalidDrawing" "index" CI)
    (m1 : mg "enumerate" = none) (m2 : mg "any" = none) (m3 : mg "range" = none) (m4 : mg "len" = none) (c1 : mg "MAX_PIECES" = some (.int 6 t6)) (G1 : Fn0 P w K mg base CX0 2 "is_piece" (SpF K R_is_piece)) (G2 : Fn0 P w K mg base CX0 3 "overlap" (SpF K R_overlap)) (G3 : Fn0 P w K mg base CX0 4 "common_point" (SpF K R_common_point)) :
    FnOk P w K mg base (L2.CX P w) 6 f fd ["self", "pieces"] (spDI K CD CI T) := by
  refine fn_rs F sc_Drawing_init (fun vs H Q E h => ?_) (fun X vs H Q E o pn hst hfr tk h => ?_)
  · obtain ⟨x, dx, v, rs, rfl, _⟩ := h
    rfl
  · obtain ⟨x, dx, v, rs, rfl, hx, hdx, ndx, tdx, hv, hraw, qE, qQ⟩ := h
    have env : EnvD K H (L2.start ["self", "pieces", "index", "piece", "other", "one", "point", "earlier"] [.ref x, v]) [some (.ref x), some (.tup (rs.map Dt.tup)), none, none, none, none, none, none] := env_start (.cons (.ref x) (.cons hv .nil))
    refine' wb_cons (ws_for o pn (fun _ _ => rfl) env (ji_enumT (ds := rs.map Dt.tup) (fun _ => rfl) rfl m1 ?h0) [] (by simp) fun H1 e1 en1 => ?_)
    case h0 => walk_at "je"
    refine ⟨fun i σ' H' => ∃ z2 z3, EnvD K H' σ' [some (.ref x), some (.tup (rs.map Dt.tup)), z2, z3, none, none, none, none] ∧ Ex H1 H' ∧ i ≤ rs.length ∧ scan rs = scanGo i ((rs.take i).map pcOf) (rs.drop i) ∧ (∀ r ∈ rs.take i, isPc r = true), ⟨none, none, en1, Ex.refl _, Nat.zero_le _, rfl, by simp⟩, fun i σ' H' ⟨_, _, _, h, _⟩ => .of h, ?_, ?_⟩
    · rintro i d σ' H' H2 hd ⟨z2, z3, en, ex, hle, hsc, hok⟩ e2
      rw [enumD_get, List.getElem?_map] at hd
      cases hr : rs[i]? with
      | none => rw [hr] at hd; cases hd
      | some r =>
        rw [hr] at hd
        cases hd
        have hil : i < rs.length := (List.getElem?_eq_some_iff.mp hr).1
        have hrm : r ∈ rs := List.mem_of_getElem? hr
        rw [drop_get hr] at hsc
        refine ⟨_, _, _, en.mono (ex_tx e2), jg_pair (fun _ => rfl) (fun _ => rfl) (fun _ => rfl) (fun _ => rfl) (jg_name (i := 2) sc_Drawing_init.nd rfl rfl) (jg_nameC (i := 3) sc_Drawing_init.nd rfl rfl rfl), fun σ2 en2 _ => ?_⟩
        replace en2 : EnvD K H2 σ2 [some (.ref x), some (.tup (rs.map Dt.tup)), some (.int i), some (.tup r), none, none, none, none] := en2
        refine' wb_cons (ws_if (k := decide (i = 6) || !isPc r) o en2 (jt_is ?h0 ?h1) (fun hk H3 e3 en3 => ?_) (fun hk H3 e3 en3 => wb_nil ?_))
        case h0 =>
          refine' jt_w (jw_or ?h2 fun _ => jw_or1 (jt_not (jt_val (fun _ _ => rfl) ?h3)))
          case h2 => walk_at "jt"
          case h3 =>
            refine' je_call G1 (Nat.le_of_ble_eq_true rfl) rfl (by decide +kernel) (fun _ => rfl) (fun _ _ => rfl) ?h4 ?h5
            case h4 => walk_at "ja"
            case h5 => exact ⟨r, rfl, (hraw.all r hrm).1, (hraw.all r hrm).2, rfl⟩
        case h1 =>
          rw [show decide ((i : Int) = 6) = decide (i = 6) by rw [Bool.eq_iff_iff]; simp; omega]
        · refine' wb_one (ws_raiseI (n := (i : Int)) o en3 tk TI (Nat.le_of_ble_eq_true rfl) rfl (by decide +kernel) (fun _ => rfl) ?h0 (small_log (by have := hraw.len; omega)) fun dd H4 e4 hd4 h4 => qE i ?_ dd H4 ((((e1.trans ex).trans e2).trans e3).trans e4) (fresh_back (((e1.trans ex).trans e2).trans e3) hd4) h4)
          case h0 => walk_at "je"
          rw [hsc]
          show scanGo i _ (r :: rs.drop (i + 1)) = _
          unfold scanGo
          rw [if_pos hk]
        · have hk' : (decide (i = 6) || !isPc r) = false := hk
          have hpc : isPc r = true := by
            rw [Bool.or_eq_false_iff] at hk'
            exact notF hk'.2
          obtain ⟨er, hin, hlen⟩ := isPc_pc hpc
          refine' wb_one (ws_if (k := ((((rs.take i).map pcOf).map fun q => (pcOf r).over q).any id)) o en3 (jt_val (fun _ _ => rfl) (je_any (fun _ => rfl) rfl m2 ?h0)) (fun hk H4 e4 en4 => ?_) (fun hk H4 e4 en4 => wb_nil ?_))
          case h0 =>
            rw [List.map_map, List.map_map]
            have hcut : cutD (rs.map Dt.tup) none (some (i : Int)) = (rs.take i).map Dt.tup := by
              unfold cutD
              rw [HT.sIx_none, HT.sIx_nat, List.drop_zero, List.length_map, Nat.sub_zero, Nat.min_eq_left (by omega), List.map_take]
            have hmap : (rs.take i).map (Dt.bl ∘ ((fun q => (pcOf r).over q) ∘ pcOf)) = ((rs.take i).map Dt.tup).map (fun d => match d with | .tup l => Dt.bl ((pcOf r).over (pcOf l)) | _ => .non) := by
              rw [List.map_map]; rfl
            refine jl_is (jl_map (j := 7) (fun d => match d with | .tup l => Dt.bl ((pcOf r).over (pcOf l)) | _ => .non) (ds := (rs.take i).map Dt.tup) sc_Drawing_init.nd (fun _ _ => rfl) (blkOk_by (by kernel_rfl)) rfl rfl (ji_tup (je_is (je_sl (h := some (i : Int)) (by walk_at "je") jo_none (jo_some (by walk_at "je")) ?_) (by rw [hcut]))) ?_ fun d hd H5 e5 => ?_) hmap.symm
            · rintro ⟨_, z⟩
              rw [HT.sIx_nat, List.length_map] at z
              omega
            · rw [List.length_map, List.length_take]; have := hraw.len; omega
            · obtain ⟨l, hl, rfl⟩ := List.mem_map.mp hd
              obtain ⟨el, hinl, _⟩ := isPc_pc (hok l hl)
              refine' je_call G2 (Nat.le_of_ble_eq_true rfl) rfl (by decide +kernel) (fun _ => rfl) (fun _ _ => rfl) ?h1 ?h2
              case h1 => walk_at "ja"
              case h2 =>
                refine ⟨pcOf r, pcOf l, ?_, hin, hinl, rfl⟩
                show [Dt.tup r, Dt.tup l] = _
                rw [show Dt.tup r = (pcOf r).d from congrArg Dt.tup er, show Dt.tup l = (pcOf l).d from congrArg Dt.tup el]
          · refine' wb_one (ws_raiseI (n := (i : Int)) o en4 tk TI (Nat.le_of_ble_eq_true rfl) rfl (by decide +kernel) (fun _ => rfl) ?h0 (small_log (by have := hraw.len; omega)) fun dd H5 e5 hd5 h5 => qE i ?_ dd H5 (((((e1.trans ex).trans e2).trans e3).trans e4).trans e5) (fresh_back ((((e1.trans ex).trans e2).trans e3).trans e4) hd5) h5)
            case h0 => walk_at "je"
            rw [hsc]
            show scanGo i _ (r :: rs.drop (i + 1)) = _
            unfold scanGo
            rw [if_neg (by rw [hk']; exact Bool.false_ne_true), if_pos hk]
          · refine ⟨_, _, en4, (((ex.trans e2).trans e3).trans e4), hil, ?_, ?_⟩
            · rw [hsc, take_succ_get hr, List.map_append]
              show scanGo i _ (r :: rs.drop (i + 1)) = _
              conv => lhs; unfold scanGo
              rw [if_neg (by rw [hk']; exact Bool.false_ne_true), if_neg (by rw [hk]; exact Bool.false_ne_true)] <;> rfl
            · rw [take_succ_get hr]
              intro l hl
              rcases List.mem_append.mp hl with z | z
              · exact hok l z
              · rw [List.mem_singleton.mp z]; exact hpc
    · rintro σ' H' ⟨z2, z3, en, ex, hle, hsc, hok⟩
      rw [enumD_len, List.length_map] at hsc hok
      rw [List.take_length] at hsc hok
      rw [List.drop_length] at hsc
      have hsc' : scan rs = .ok (rs.map pcOf) := hsc
      have hps : rs.map Dt.tup = (rs.map pcOf).map Pc.d := by
        rw [List.map_map]
        refine List.map_congr_left fun r hr => ?_
        exact congrArg Dt.tup (isPc_pc (hok r hr)).1
      have hin : ∀ p ∈ rs.map pcOf, p.In ∧ 0 < p.len := fun p hp => by
        obtain ⟨r, hr, rfl⟩ := List.mem_map.mp hp
        exact (isPc_pc (hok r hr)).2
      have hlen : (rs.map pcOf).length ≤ 300 := by rw [List.length_map]; exact hraw.len
      generalize hpsE : rs.map pcOf = ps at *
      rw [hps] at en
      have exH : Ex H H' := e1.trans ex
      have hx' : H' x = some (.ins CD dx []) := exH _ _ hx
      have hdx' : ∃ od, H' dx = some od ∧ NoT (some od) := by
        cases q : H dx with
        | none => rw [q] at hdx; cases hdx
        | some od => exact ⟨od, exH _ _ q, by rw [q] at tdx; exact tdx⟩
      obtain ⟨od, hod, nod⟩ := hdx'
      -- self.lines = pieces
      refine' wb_cons (ws_slot (d := .tup (ps.map Pc.d)) o en (fun _ => rfl) ?h0 ?h1 (.inl ⟨hx', rfl⟩) T.cls T.sl fun vl H2 e2 hvl => ?_)
      case h0 => walk_at "je"
      case h1 => walk_at "je"
      have tx2 : Tx K H2 (SlX.slH H2 x CD dx (SlX.putS T.il vl [])) := exb_slH.tx (by
        simp only [List.mem_cons, List.not_mem_nil, or_false]
        rintro m (rfl | rfl)
        · rw [e2 _ _ hx']; trivial
        · rw [e2 _ _ hod]; exact nod)
      have xb2 : ExB [x, dx] H (SlX.slH H2 x CD dx (SlX.putS T.il vl [])) := (ExB.of (exH.trans e2)).trans exb_slH
      have st2 : SlX.Slt (SlX.slH H2 x CD dx (SlX.putS T.il vl [])) x CD dx (SlX.putS T.il vl []) := SlX.slH_slt ndx
      have en2 := en.mono ((ex_tx e2).trans tx2)
      have hvl2 := hvl.mono tx2
      generalize hH3 : SlX.slH H2 x CD dx (SlX.putS T.il vl []) = H3 at *
      have nx3 : NoT (H3 x) ∧ NoT (H3 dx) := by
        rcases st2 with ⟨q1, q2⟩ | ⟨q1, q2⟩
        · have : (SlX.putS T.il vl [])[T.il]? = some (some vl) := SlX.putS_get _ _ _
          rw [q2] at this
          simp at this
        · rw [q1, q2]; exact ⟨trivial, trivial⟩
      -- self.points = {}
      refine' wb_cons (ws_slotD o en2 (fun _ => rfl) ?h0 st2 T.cls T.sp fun l H4 hl4 e4 h4 => ?_)
      case h0 => walk_at "je"
      have tx4 : Tx K H4 (SlX.slH H4 x CD dx (SlX.putS T.ip (.ref l) (SlX.putS T.il vl []))) := exb_slH.tx (by
        simp only [List.mem_cons, List.not_mem_nil, or_false]
        have st4 := slt_ex e4 st2
        rintro m (rfl | rfl)
        · rcases st4 with ⟨q1, _⟩ | ⟨q1, _⟩ <;> rw [q1] <;> trivial
        · rcases st2 with ⟨q1, q2⟩ | ⟨q1, q2⟩
          · have : (SlX.putS T.il vl [])[T.il]? = some (some vl) := SlX.putS_get _ _ _
            rw [q2] at this
            simp at this
          · rw [e4 _ _ q2]; trivial)
      have nlx : l ≠ x := fun z => by
        rcases st2 with ⟨q1, _⟩ | ⟨q1, _⟩ <;> (rw [z, q1] at hl4; cases hl4)
      have nldx : l ≠ dx := fun z => by
        rcases st2 with ⟨q1, q2⟩ | ⟨q1, q2⟩
        · have : (SlX.putS T.il vl [])[T.il]? = some (some vl) := SlX.putS_get _ _ _
          rw [q2] at this
          simp at this
        · rw [z, q2] at hl4; cases hl4
      have xb4 : ExB [x, dx] H (SlX.slH H4 x CD dx (SlX.putS T.ip (.ref l) (SlX.putS T.il vl []))) := xb2.trans ((ExB.of e4).trans exb_slH)
      have st4 : SlX.Slt (SlX.slH H4 x CD dx (SlX.putS T.ip (.ref l) (SlX.putS T.il vl []))) x CD dx (SlX.putS T.ip (.ref l) (SlX.putS T.il vl [])) := SlX.slH_slt ndx
      have hl5 : SlX.slH H4 x CD dx (SlX.putS T.ip (.ref l) (SlX.putS T.il vl [])) l = some (.dT []) := by rw [SlX.slH_ne nlx nldx]; exact h4
      have en4 := en2.mono ((ex_tx e4).trans tx4)
      have hvl4 := hvl2.mono ((ex_tx e4).trans tx4)
      have gl : (SlX.putS T.ip (V.ref l) (SlX.putS T.il vl []))[T.il]? = some (some vl) := (SlX.putS_ne T.ne).mpr (SlX.putS_get _ _ _)
      have gp : (SlX.putS T.ip (V.ref l) (SlX.putS T.il vl []))[T.ip]? = some (some (.ref l)) := SlX.putS_get _ _ _
      have hlx : H l = none := by
        cases q : H l with
        | none => rfl
        | some u =>
          have z := xb2 l u q (by simp [nlx, nldx])
          rw [hl4] at z; cases z
      generalize hH5 : SlX.slH H4 x CD dx (SlX.putS T.ip (.ref l) (SlX.putS T.il vl [])) = H5 at *
      generalize hvsE : SlX.putS T.ip (V.ref l) (SlX.putS T.il vl []) = vs5 at *
      -- for other in range(len(pieces))
      refine' wb_one (ws_for o pn (fun _ _ => rfl) en4 (ji_r1 (n := (ps.length : Int)) (fun _ => rfl) rfl m3 ?h0 (by omega)) [l] (by simp [hl5, NoT]) fun H6 e6 en6 => ?_)
      case h0 =>
        refine je_is (je_lenT (fun _ => rfl) rfl m4 (by walk_at "je")) ?_
        rw [List.length_map]
      refine ⟨fun j σ' H' => ∃ z2 z3 z4 z5 z6 kvs, EnvD K H' σ' [some (.ref x), some (.tup (ps.map Pc.d)), z2, z3, z4, z5, z6, none] ∧ ExB [l] H6 H' ∧ H' l = some (.dT kvs) ∧ PtsOk K H' kvs (allP ps j), ⟨_, _, _, _, _, [], en6, .of (Ex.refl _), e6 _ _ hl5, .nil⟩, fun i σ' H' ⟨_, _, _, _, _, _, _, h, _⟩ => h, ?_, ?_⟩
      · rintro j d σ7 H7 H8 hd ⟨y2, y3, y4, y5, y6, kvs, en7, xb7, hl7, pts7⟩ e8
        obtain ⟨hj, rfl⟩ := rngD_get hd
        rw [Int.toNat_natCast] at hj
        rw [show (0 : Int) + (j : Int) = (j : Int) by omega]
        refine ⟨_, _, _, en7.mono (ex_tx e8), jg_name (i := 4) sc_Drawing_init.nd rfl rfl, fun σ8 en8 _ => ?_⟩
        replace en8 : EnvD K H8 σ8 [some (.ref x), some (.tup (ps.map Pc.d)), y2, y3, some (.int (j : Int)), y5, y6, none] := en8
        have hl8 : H8 l = some (.dT kvs) := e8 _ _ hl7
        -- for one in range(other)
        refine' wb_one (ws_for o pn (fun _ _ => rfl) en8 (ji_r1 (n := (j : Int)) (fun _ => rfl) rfl m3 (by walk_at "je") (by omega)) [l] (by simp [hl8, NoT]) fun H9 e9 en9 => ?_)
        refine ⟨fun k σ' H' => ∃ z5 z6 kvs, EnvD K H' σ' [some (.ref x), some (.tup (ps.map Pc.d)), y2, y3, some (.int (j : Int)), z5, z6, none] ∧ ExB [l] H9 H' ∧ H' l = some (.dT kvs) ∧ PtsOk K H' kvs (allP ps j ++ rowP ps j k), ⟨_, _, kvs, en9, .of (Ex.refl _), e9 _ _ hl8, by simpa [rowP] using pts_mono (ex_tx (e8.trans e9)) pts7⟩, fun i σ' H' ⟨_, _, _, _, h, _⟩ => h, ?_, ?_⟩
        · rintro k d σa Ha Hb hd ⟨w5, w6, kvsa, ena, xba, hla, ptsa⟩ eb
          obtain ⟨hk, rfl⟩ := rngD_get hd
          rw [Int.toNat_natCast] at hk
          rw [show (0 : Int) + (k : Int) = (k : Int) by omega]
          refine ⟨_, _, _, ena.mono (ex_tx eb), jg_name (i := 5) sc_Drawing_init.nd rfl rfl, fun σb enb _ => ?_⟩
          replace enb : EnvD K Hb σb [some (.ref x), some (.tup (ps.map Pc.d)), y2, y3, some (.int (j : Int)), some (.int (k : Int)), w6, none] := enb
          have gk : ps[k]? = some (ps.getD k ⟨0, 0, 0, 0⟩) := by rw [List.getD_eq_getElem?_getD, List.getElem?_eq_getElem (by omega)]; rfl
          have gj : ps[j]? = some (ps.getD j ⟨0, 0, 0, 0⟩) := by rw [List.getD_eq_getElem?_getD, List.getElem?_eq_getElem (by omega)]; rfl
          have ik := hin _ (List.mem_of_getElem? gk)
          have ij := hin _ (List.mem_of_getElem? gj)
          have ak : atI (ps.map Pc.d) (k : Int) = some (ps.getD k ⟨0, 0, 0, 0⟩).d := atI_nat (by rw [List.getElem?_map, gk]; rfl)
          have aj : atI (ps.map Pc.d) (j : Int) = some (ps.getD j ⟨0, 0, 0, 0⟩).d := atI_nat (by rw [List.getElem?_map, gj]; rfl)
          have hent : entP ps k j = if ((ps.getD k ⟨0, 0, 0, 0⟩).meet (ps.getD j ⟨0, 0, 0, 0⟩)).isN = true then none else some ([.inl (k : Int), .inl (j : Int)], (ps.getD k ⟨0, 0, 0, 0⟩).meet (ps.getD j ⟨0, 0, 0, 0⟩)) := rfl
          generalize ps.getD k ⟨0, 0, 0, 0⟩ = pk at *
          generalize ps.getD j ⟨0, 0, 0, 0⟩ = pj at *
          refine' wb_cons (ws_set (i := 6) (d := pk.meet pj) o enb sc_Drawing_init.nd rfl rfl (fun _ => rfl) ?h0 fun vp σc Hc ec hvp enc => ?_)
          case h0 =>
            refine' je_call G3 (Nat.le_of_ble_eq_true rfl) rfl (by decide +kernel) (fun _ => rfl) (fun _ _ => rfl) ?h4 ?h5
            case h4 => exact ja_cons (fun _ => rfl) (je_ixT (fun _ _ => rfl) (by walk_at "je") (by walk_at "je") ak) (ja_cons (fun _ => rfl) (je_ixT (fun _ _ => rfl) (by walk_at "je") (by walk_at "je") aj) ja_nil)
            case h5 => exact ⟨pk, pj, rfl, ik.1, ij.1, ik.2, rfl⟩
          replace enc : EnvD K Hc σc [some (.ref x), some (.tup (ps.map Pc.d)), y2, y3, some (.int (j : Int)), some (.int (k : Int)), some (pk.meet pj), none] := enc
          have hlc : Hc l = some (.dT kvsa) := ec _ _ (eb _ _ hla)
          have ptsc := pts_mono (ex_tx (eb.trans ec)) ptsa
          refine' wb_one (ws_if (k := !(pk.meet pj).isN) o enc (jt_notN (by walk_at "je")) (fun hn Hd ed end_ => ?_) (fun hn Hd ed end_ => wb_nil ?_))
          · have hn' : (pk.meet pj).isN = false := notT hn
            have sx : SlX.Slt Hd x CD dx vs5 := by
              have s6 := slt_ex e6 st4
              have s7 := slt_exb xb7 (by simp [Ne.symm nlx]) (by simp [Ne.symm nldx]) s6
              have s9 := slt_ex (e8.trans e9) s7
              have sa := slt_exb xba (by simp [Ne.symm nlx]) (by simp [Ne.symm nldx]) s9
              exact slt_ex ((eb.trans ec).trans ed) sa
            have ptl : kvsa.length < 100000 := by
              rw [paired_len ptsa, List.length_append]
              have h1 := allP_len ps j
              have h2 := rowP_len ps j k
              have h3 : j * j ≤ 299 * 299 := Nat.mul_le_mul (by omega) (by omega)
              omega
            refine' wb_one (ws_dput2 (i := (k : Int)) (j := (j : Int)) (d := pk.meet pj) o end_ (fun _ => rfl) (je_slot (fun _ => rfl) ?h0 sx T.cls T.sp gp (.ref l)) ?h1 ?h2 (ed _ _ hlc) ptl fun v He ee hv hle => ?_)
            case h0 => walk_at "je"
            case h1 => walk_at "ja"
            case h2 => walk_at "je"
            have txe : Tx K He (upd He l (.dT (putK kvsa [.inl (k : Int), .inl (j : Int)] v))) := tx_upd (by rw [hle]; trivial)
            have ptse := pts_mono (ex_tx (ed.trans ee)) ptsc
            have hput : putK kvsa [.inl (k : Int), .inl (j : Int)] v = kvsa ++ [([.inl (k : Int), .inl (j : Int)], v)] := putK_new v (pts_new ptse new_key)
            refine ⟨_, _, _, end_.mono ((ex_tx ee).trans txe), exb_upd (xba.trans (.of (((eb.trans ec).trans ed).trans ee))) (by simp), upd_same, ?_⟩
            rw [hput, rowP_succ, hent, if_neg (by rw [hn']; exact Bool.false_ne_true), ← List.append_assoc]
            exact paired_append (pts_mono (hput ▸ txe) ptse) (.cons ⟨rfl, hv.mono (hput ▸ txe)⟩ .nil)
          · have hn' : (pk.meet pj).isN = true := notF hn
            refine ⟨_, _, _, end_, xba.trans (.of ((eb.trans ec).trans ed)), ed _ _ hlc, ?_⟩
            rw [rowP_succ, hent, if_pos hn', Option.toList_none, List.append_nil]
            exact pts_mono (ex_tx ed) ptsc
        · rintro σa Ha ⟨w5, w6, kvsa, ena, xba, hla, ptsa⟩
          rw [rngD_len, Int.toNat_natCast] at ptsa
          refine ⟨_, _, _, _, _, kvsa, ena, xb7.trans ((ExB.of (e8.trans e9)).trans xba), hla, ?_⟩
          rw [allP_succ]
          exact ptsa
      · rintro σ7 H7 ⟨y2, y3, y4, y5, y6, kvs, en7, xb7, hl7, pts7⟩
        rw [rngD_len, Int.toNat_natCast] at pts7
        refine qQ ps hsc' H7 ?_ ?_
        · intro b u hb nb
          refine xb7 b u (e6 _ _ (xb4 b u hb nb)) ?_
          simp only [List.mem_singleton]
          intro z
          rw [z, hlx] at hb
          cases hb
        · have tx7 : Tx K H6 H7 := xb7.tx (by simp only [List.mem_singleton]; rintro m rfl; rw [e6 _ _ hl5]; trivial)
          exact ⟨dx, vs5, vl, l, kvs, slt_exb xb7 (by simp [Ne.symm nlx]) (by simp [Ne.symm nldx]) (slt_ex e6 st4), gl, gp, hvl4.mono ((ex_tx e6).trans tx7), hl7, pts7⟩
end
end Led

set_option maxRecDepth 100000
set_option maxHeartbeats 4000000
namespace Led
open PySem L2 Evl
local macro_rules | `(tactic| walk_at "at") => `(tactic| first
  | with_reducible exact At.here
  | (with_reducible refine' At.there ?h0; (case h0 => walk_at "at")))
local macro_rules | `(tactic| walk_at "vis") => `(tactic| first
  | exact Or.inl rfl
  | exact Or.inr (Or.inl rfl)
  | exact Or.inr (Or.inr rfl))
local macro_rules | `(tactic| walk_at "kit") => `(tactic| first
  | with_reducible exact kit_ii
  | with_reducible exact kit_ib
  | with_reducible exact kit_it
  | with_reducible exact kit_is
  | with_reducible exact kit_bi
  | with_reducible exact kit_bb
  | with_reducible exact kit_bt
  | with_reducible exact kit_bs
  | with_reducible exact kit_si
  | with_reducible exact kit_sb
  | with_reducible exact kit_st
  | with_reducible exact kit_ss
  | with_reducible exact kit_ni
  | with_reducible exact kit_nb
  | with_reducible exact kit_nt
  | with_reducible exact kit_ns
  | with_reducible exact kit_ti
  | with_reducible exact kit_tb
  | with_reducible exact kit_tt
  | with_reducible exact kit_ts)
local macro_rules | `(tactic| walk_at "je") => `(tactic| first
  | exact je_int
  | exact je_bl
  | exact je_non
  | exact je_str
  | (refine' je_var ?h0 ?h1 ?h2 ?h3; (case h0 => walk_at "at"); (case h1 => walk_at "vis"); (case h2 => decide +kernel); (case h3 => decide +kernel))
  | (refine' je_var2 ?h0 ?h1 ?h2 ?h3; (case h0 => rfl); (case h1 => walk_at "vis"); (case h2 => decide +kernel); (case h3 => decide +kernel))
  | (refine' je_globI ?h0 ?h1 ?h2; (case h0 => rfl); (case h1 => with_reducible assumption); (case h2 => decide +kernel))
  | (refine' je_globS ?h0 ?h1 ?h2; (case h0 => rfl); (case h1 => with_reducible assumption); (case h2 => decide +kernel))
  | (refine' je_add ?h0 ?h1; (case h0 => walk_at "je"); (case h1 => walk_at "je"))
  | (refine' je_sub ?h0 ?h1; (case h0 => walk_at "je"); (case h1 => walk_at "je"))
  | (refine' je_lt ?h0 ?h1; (case h0 => walk_at "je"); (case h1 => walk_at "je"))
  | (refine' je_le ?h0 ?h1; (case h0 => walk_at "je"); (case h1 => walk_at "je"))
  | (refine' je_gt ?h0 ?h1; (case h0 => walk_at "je"); (case h1 => walk_at "je"))
  | (refine' je_ge ?h0 ?h1; (case h0 => walk_at "je"); (case h1 => walk_at "je"))
  | (refine' je_eqI ?h0 ?h1; (case h0 => walk_at "je"); (case h1 => walk_at "je"))
  | (refine' je_neI ?h0 ?h1; (case h0 => walk_at "je"); (case h1 => walk_at "je"))
  | (refine' je_mul ?h0 ?h1 ?h2; (case h0 => walk_at "je"); (case h1 => walk_at "je"); (case h2 => walk_at "side"))
  | (refine' je_div ?h0 ?h1 ?h2; (case h0 => walk_at "je"); (case h1 => walk_at "je"); (case h2 => walk_at "side"))
  | (refine' je_mod ?h0 ?h1 ?h2; (case h0 => walk_at "je"); (case h1 => walk_at "je"); (case h2 => walk_at "side"))
  | (refine' je_lele ?h0 ?h1 ?h2 ?h3; (case h0 => walk_at "je"); (case h1 => walk_at "je"); (case h2 => walk_at "je"); (case h3 => with_unfolding_all rfl))
  | (refine' je_isN ?h0; (case h0 => walk_at "je"))
  | (refine' je_notN ?h0; (case h0 => walk_at "je"))
  | (refine' je_not ?h0; (case h0 => walk_at "je"))
  | (refine' je_one ?h0; (case h0 => walk_at "je"))
  | (refine' je_un ?h0; (case h0 => walk_at "je"))
  | (refine' je_andB ?h0 (fun _ => ?h1); (case h0 => walk_at "je"); (case h1 => walk_at "je"))
  | (refine' je_orB ?h0 (fun _ => ?h1); (case h0 => walk_at "je"); (case h1 => walk_at "je"))
  | (refine' je_notT ?h0; (case h0 => walk_at "je"))
  | (refine' je_notF ?h0; (case h0 => walk_at "je"))
  | (refine' je_andF ?h0; (case h0 => walk_at "je"))
  | (refine' je_orT ?h0; (case h0 => walk_at "je"))
  | (refine' je_if ?h0 (fun _ => ?h1) (fun _ => ?h2); (case h0 => walk_at "jt"); (case h1 => walk_at "je"); (case h2 => walk_at "je"))
  | (refine' je_tup ?h0 ?h1; (case h0 => walk_at "ja"); (case h1 => walk_at "side"))
  | (refine' je_ixT ?h0 ?h1 ?h2 ?h3; (case h0 => exact fun _ _ => rfl); (case h1 => walk_at "je"); (case h2 => walk_at "je"); (case h3 => walk_at "ix"))
  | (refine' je_ixN ?h0 ?h1 ?h2 ?h3; (case h0 => exact fun _ _ => rfl); (case h1 => walk_at "jl"); (case h2 => walk_at "je"); (case h3 => walk_at "ix"))
  | (refine' je_sl ?h0 ?h1 ?h2 ?h3; (case h0 => walk_at "je"); (case h1 => walk_at "jo"); (case h2 => walk_at "jo"); (case h3 => walk_at "side"))
  | (refine' je_abs ?h0 ?h1 ?h2 ?h3; (case h0 => exact fun _ => rfl); (case h1 => rfl); (case h2 => with_reducible assumption); (case h3 => walk_at "je"))
  | (refine' je_int1 ?h0 ?h1 ?h2 ?h3; (case h0 => exact fun _ => rfl); (case h1 => rfl); (case h2 => with_reducible assumption); (case h3 => walk_at "je"))
  | (refine' je_max2 ?h0 ?h1 ?h2 ?h3 ?h4; (case h0 => exact fun _ => rfl); (case h1 => exact fun _ _ => rfl); (case h2 => rfl); (case h3 => with_reducible assumption); (case h4 => walk_at "ja"))
  | (refine' je_min2 ?h0 ?h1 ?h2 ?h3 ?h4; (case h0 => exact fun _ => rfl); (case h1 => exact fun _ _ => rfl); (case h2 => rfl); (case h3 => with_reducible assumption); (case h4 => walk_at "ja"))
  | (refine' je_lenT ?h0 ?h1 ?h2 ?h3; (case h0 => exact fun _ => rfl); (case h1 => rfl); (case h2 => with_reducible assumption); (case h3 => walk_at "je"))
  | (refine' je_tupN ?h0 ?h1 ?h2 ?h3; (case h0 => exact fun _ => rfl); (case h1 => rfl); (case h2 => with_reducible assumption); (case h3 => walk_at "jl"))
  | (refine' je_all ?h0 ?h1 ?h2 ?h3; (case h0 => exact fun _ => rfl); (case h1 => rfl); (case h2 => with_reducible assumption); (case h3 => walk_at "jl"))
  | (refine' je_any ?h0 ?h1 ?h2 ?h3; (case h0 => exact fun _ => rfl); (case h1 => rfl); (case h2 => with_reducible assumption); (case h3 => walk_at "jl"))
  | (refine' je_isiI ?h0 ?h1 ?h2 ?h3 ?h4 ?h5 ?h6 ?h7; (case h0 => exact fun _ => rfl); (case h1 => rfl); (case h2 => with_reducible assumption); (case h3 => rfl); (case h4 => with_reducible assumption); (case h5 => walk_at "je"); (case h6 => rfl); (case h7 => walk_at "kit"))
  | (refine' je_isiB ?h0 ?h1 ?h2 ?h3 ?h4 ?h5 ?h6 ?h7; (case h0 => exact fun _ => rfl); (case h1 => rfl); (case h2 => with_reducible assumption); (case h3 => rfl); (case h4 => with_reducible assumption); (case h5 => walk_at "je"); (case h6 => rfl); (case h7 => walk_at "kit"))
  | (refine' je_isiT ?h0 ?h1 ?h2 ?h3 ?h4 ?h5 ?h6 ?h7; (case h0 => exact fun _ => rfl); (case h1 => rfl); (case h2 => with_reducible assumption); (case h3 => rfl); (case h4 => with_reducible assumption); (case h5 => walk_at "je"); (case h6 => rfl); (case h7 => walk_at "kit"))
  | (refine' je_isiS ?h0 ?h1 ?h2 ?h3 ?h4 ?h5 ?h6 ?h7; (case h0 => exact fun _ => rfl); (case h1 => rfl); (case h2 => with_reducible assumption); (case h3 => rfl); (case h4 => with_reducible assumption); (case h5 => walk_at "je"); (case h6 => rfl); (case h7 => walk_at "kit"))
  | (refine' je_call ?h0 ?h1 ?h2 ?h3 ?h4 ?h5 ?h6 ?h7; (case h0 => with_reducible assumption); (case h1 => exact Nat.le_of_ble_eq_true rfl); (case h2 => rfl); (case h3 => decide +kernel); (case h4 => exact fun _ => rfl); (case h5 => exact fun _ _ => rfl); (case h6 => walk_at "ja"); (case h7 => walk_at "rel"))
  | (refine' je_cat ?h0 ?h1 ?h2 ?h3; (case h0 => walk_at "je"); (case h1 => walk_at "je"); (case h2 => walk_at "side"); (case h3 => walk_at "side")))
local macro_rules | `(tactic| walk_at "jt") => `(tactic| first
  | (refine' jt_lt ?h0 ?h1; (case h0 => walk_at "je"); (case h1 => walk_at "je"))
  | (refine' jt_le ?h0 ?h1; (case h0 => walk_at "je"); (case h1 => walk_at "je"))
  | (refine' jt_gt ?h0 ?h1; (case h0 => walk_at "je"); (case h1 => walk_at "je"))
  | (refine' jt_ge ?h0 ?h1; (case h0 => walk_at "je"); (case h1 => walk_at "je"))
  | (refine' jt_eqI ?h0 ?h1; (case h0 => walk_at "je"); (case h1 => walk_at "je"))
  | (refine' jt_neI ?h0 ?h1; (case h0 => walk_at "je"); (case h1 => walk_at "je"))
  | (refine' jt_lele ?h0 ?h1 ?h2 ?h3; (case h0 => walk_at "je"); (case h1 => walk_at "je"); (case h2 => walk_at "je"); (case h3 => with_unfolding_all rfl))
  | (refine' jt_isN ?h0; (case h0 => walk_at "je"))
  | (refine' jt_notN ?h0; (case h0 => walk_at "je"))
  | (refine' jt_not ?h0; (case h0 => walk_at "jt"))
  | (refine' jt_w ?h0; (case h0 => walk_at "jw"))
  | (refine' jt_val ?h0 ?h1; (case h0 => exact fun _ _ => rfl); (case h1 => walk_at "je")))
local macro_rules | `(tactic| walk_at "jw") => `(tactic| first
  | (refine' jw_and1 ?h0; (case h0 => walk_at "jt"))
  | (refine' jw_or1 ?h0; (case h0 => walk_at "jt"))
  | (refine' jw_and ?h0 (fun _ => ?h1); (case h0 => walk_at "jt"); (case h1 => walk_at "jw"))
  | (refine' jw_or ?h0 (fun _ => ?h1); (case h0 => walk_at "jt"); (case h1 => walk_at "jw"))
  | (refine' jw_andF ?h0; (case h0 => walk_at "jt"))
  | (refine' jw_orT ?h0; (case h0 => walk_at "jt")))
local macro_rules | `(tactic| walk_at "ja") => `(tactic| first
  | exact ja_nil
  | (refine' ja_cons ?h0 ?h1 ?h2; (case h0 => exact fun _ => rfl); (case h1 => walk_at "je"); (case h2 => walk_at "ja")))
local macro_rules | `(tactic| walk_at "jo") => `(tactic| first
  | exact jo_none
  | (refine' jo_some ?h0; (case h0 => walk_at "je")))
local macro_rules | `(tactic| walk_at "jl") => `(tactic| first
  | (refine' jl_lst ?h0 ?h1; (case h0 => walk_at "ja"); (case h1 => walk_at "side"))
  | (refine' jl_list ?h0 ?h1 ?h2 ?h3; (case h0 => exact fun _ => rfl); (case h1 => rfl); (case h2 => with_reducible assumption); (case h3 => walk_at "je")))
local macro_rules | `(tactic| walk_at "ix") => `(tactic| first
  | rfl
  | assumption)
local macro_rules | `(tactic| walk_at "side") => `(tactic| first
  | exact Nat.le_of_ble_eq_true rfl
  | omega
  | exact ⟨by omega, by omega⟩
  | exact Or.inl ⟨by omega, by omega⟩
  | exact Or.inr ⟨by omega, by omega⟩
  | exact fun z => absurd z.1 (Nat.ne_of_beq_eq_false rfl)
  | exact fun z => absurd z.2 (Nat.ne_of_beq_eq_false rfl)
  | exact List.cons_ne_nil _ _
  | assumption)
local macro_rules | `(tactic| walk_at "rel") => `(tactic| first
  | assumption)
section
variable {P : Program} {w : World} {K : PySem.W.Frag} {mg : Str → Option Value} {base : Heap}
/-! ### Drawing(..) -/
structure DrC (P : Program) (w : World) (K : PySem.W.Frag) (mg : Str → Option Value) (base : Heap) (CD CI : Addr) (T : DrT K CD) : Prop where
  gm : mg "Drawing" = some (.ref CD)
  ini : ∃ fI fd ps, Mk K CD fI ∧ FnOk P w K mg base (L2.CX P w) 6 fI fd ps (spDI K CD CI T) ∧ Binds K fd ps []
theorem we_drawing {X : Cx} {N : List Str} {sc : Scope} {lv : Nat} {bf : Bool} {ρ : Rh} {σ : St} {H : Hp} {e : Expr} {p pos : Pos} {W : WX} {Q : VK} {CD CI : Addr} {T : DrT K CD} {rs : List (List Dt)} (o : (Ct.mk P w K mg base N sc lv bf).Of X) (env : EnvD K H σ ρ) (M : DrC P w K mg base CD CI T) (tk : Takes X W) (hlv : 7 ≤ lv) (hg : GlN (Ct.mk P w K mg base N sc lv bf) "Drawing") (hs : NoStar e [])
    (he : JE (Ct.mk P w K mg base N sc lv bf) ρ H e (.tup (rs.map Dt.tup))) (hraw : RawOk rs)
    (hE : ∀ i, scan rs = .error i → ∀ dd H' σ', Ex H H' → H dd = none → H' dd = some (.xd [("index", .int (i : Int))]) → W (.ref CI) (some dd) σ' H')
    (hQ : ∀ ps x H', scan rs = .ok ps → Ex H H' → H x = none → DrAt K CD T H' x ps → Q (.ref x) H') : WE X (.Call (Nm "Drawing" p) [e] [] pos) σ H Q := by
  obtain ⟨fI, fd, ps, mk, G, b⟩ := M.ini
  obtain ⟨o1, o2, o3, o4, o5, o6, o7, o8, o9, o10⟩ := id o
  dsimp only at o1 o2 o3 o4 o5
  subst o1 o2 o3 o4 o5
  refine PEw (pe_make (E := fun cls d H => ∀ σ, W cls d σ H) mk G (o9.mono hlv) (o.gl hg) M.gm b .nil (passes_call tk fun cls d σ H h => h σ) (pa_cons pe_w pa_nil (hs _)) (by decide +kernel) (hs _)) ?_
  refine he.run X o o6 σ H (Ex.refl H) env _ fun v H1 e1 hv x dx hx hdx hne => ?_
  have ex2 : Ex H1 (upd (upd H1 dx (.own x)) x (.ins CD dx [])) := fun c u hc => by
    rw [upd_ne (ne_of_none hc hx), upd_ne (ne_of_none hc hdx)]; exact hc
  refine ⟨x, dx, v, rs, rfl, upd_same, by rw [upd_ne hne, upd_same]; rfl, hne, by rw [upd_ne hne, upd_same]; trivial, hv.mono (ex_tx ex2), hraw, fun i hi dd H' e' hd h' σ' => hE i hi dd H' σ' ((e1.trans ex2).trans e') (fresh_back (e1.trans ex2) hd) h', fun ps hp H' xb hD => ⟨rfl, hQ ps x H' hp ?_ (fresh_back e1 hx) hD⟩⟩
  exact ExB.back (e1.trans ex2) xb (by simp [fresh_back e1 hx, fresh_back e1 hdx])
/-! _law_is_good -/
theorem sc_law_is_good : FnScope ["_law_pieces"] ["_law_pieces"] (defScope s__law_is_good) := ⟨rfl, rfl, rfl, by decide +kernel, rfl, by decide +kernel, by decide +kernel⟩
def isOk {α β : Type} : Except α β → Bool
  | .ok _ => true
  | .error _ => false
/-- a list of tuples that is made on the spot -/
def spGood (K : PySem.W.Frag) : Sp := fun vs H Q _ => ∃ (l : Addr) (ws : List V) (rs : List (List Dt)), vs = [.ref l] ∧ H l = some (.lst ws) ∧ Dis K H ws (rs.map Dt.tup) ∧ RawOk rs ∧ ∀ H', Ex H H' → Q (.bl (isOk (scan rs))) H'
theorem ok_law_is_good {f CD CI : Addr} {fd : FuncData} {T : DrT K CD} (F : Fun K "_law_is_good" "_law_is_good" s__law_is_good f fd) (m1 : mg "tuple" = none) (M : DrC P w K mg base CD CI T) (gI : mg "InvalidDrawing" = some (.ref CI)) (hex : PySem.W.exmOne K (.ref CI) (.ref CI) = some true) : FnOk P w K mg base CX0 9 f fd ["_law_pieces"] (spGood K) := by
  refine fn_sp F sc_law_is_good (fun vs H Q E h => ?_) (fun X vs H Q E o pn hst hfr tk h => ?_)
  · obtain ⟨l, ws, rs, rfl, _⟩ := h
    rfl
  · obtain ⟨l, ws, rs, rfl, hl, hws, hraw, q⟩ := h
    have env : EnvD K H (L2.start ["_law_pieces"] [.ref l]) [some (.ref l)] := env_start (.cons (.ref l) .nil)
    refine wb_cons (PSw (ps_try_only (x := "InvalidDrawing") (c := .ref CI) (tb := fun W D σ H => ∀ pn xe, Takes (X.tr pn xe) W → PassesOwn (model X.prog X.w) X.A X.env xe → WB (X.tr pn xe) _ D σ H) (ts := fun a cls d D σ H => D.rt (.bl false) H) hst hfr ⟨o.gl rfl, by decide +kernel, .inl (o.fr gI)⟩ tk (fun W pn xe tk' po => ⟨fun pins s σ H D I h => h pn xe tk' po pins s I⟩) (fun a oe cls d pn hz hf => pss_one (ps_ret pe_bl))) ?_)
    intro pn' xe' tk' po'
    refine wb_one (PSw (ps_expr pe_w rfl) ?_)
    refine we_drawing (of_tr o) env M tk' (Nat.le_of_ble_eq_true rfl) rfl (fun _ => rfl) (je_tupL (fun _ => rfl) rfl m1 (by walk_at "je") (sq_of hl) hws) hraw (fun i hi dd H' σ' e' hd h' => ?_) (fun ps x H' hp e' hx hD => ?_)
    · refine ⟨true, by rw [o.K]; exact hex, fun _ a ha => ?_, fun z => nomatch z⟩
      have := q H' e'
      rw [hi] at this
      exact this
    · refine wb_one (ws_ret o (env.mono (ex_tx e')) je_bl fun v H2 e2 hv => ?_)
      have := q H2 (e'.trans e2)
      rw [hp] at this
      rw [hv.bl_inv]
      exact this
end
end Led

set_option maxRecDepth 100000
set_option maxHeartbeats 4000000
namespace Led
open PySem L2 Evl
local macro_rules | `(tactic| walk_at "at") => `(tactic| first
  | with_reducible exact At.here
  | (with_reducible refine' At.there ?h0; (case h0 => walk_at "at")))
local macro_rules | `(tactic| walk_at "vis") => `(tactic| first
  | exact Or.inl rfl
  | exact Or.inr (Or.inl rfl)
  | exact Or.inr (Or.inr rfl))
local macro_rules | `(tactic| walk_at "kit") => `(tactic| first
  | with_reducible exact kit_ii
  | with_reducible exact kit_ib
  | with_reducible exact kit_it
  | with_reducible exact kit_is
  | with_reducible exact kit_bi
  | with_reducible exact kit_bb
  | with_reducible exact kit_bt
  | with_reducible exact kit_bs
  | with_reducible exact kit_si
  | with_reducible exact kit_sb
  | with_reducible exact kit_st
  | with_reducible exact kit_ss
  | with_reducible exact kit_ni
  | with_reducible exact kit_nb
  | with_reducible exact kit_nt
  | with_reducible exact kit_ns
  | with_reducible exact kit_ti
  | with_reducible exact kit_tb
  | with_reducible exact kit_tt
  | with_reducible exact kit_ts)
local macro_rules | `(tactic| walk_at "je") => `(tactic| first
  | exact je_int
  | exact je_bl
  | exact je_non
  | exact je_str
  | (refine' je_var ?h0 ?h1 ?h2 ?h3; (case h0 => walk_at "at"); (case h1 => walk_at "vis"); (case h2 => decide +kernel); (case h3 => decide +kernel))
  | (refine' je_var2 ?h0 ?h1 ?h2 ?h3; (case h0 => rfl); (case h1 => walk_at "vis"); (case h2 => decide +kernel); (case h3 => decide +kernel))
  | (refine' je_globI ?h0 ?h1 ?h2; (case h0 => rfl); (case h1 => with_reducible assumption); (case h2 => decide +kernel))
  | (refine' je_globS ?h0 ?h1 ?h2; (case h0 => rfl); (case h1 => with_reducible assumption); (case h2 => decide +kernel))
  | (refine' je_add ?h0 ?h1; (case h0 => walk_at "je"); (case h1 => walk_at "je"))
  | (refine' je_sub ?h0 ?h1; (case h0 => walk_at "je"); (case h1 => walk_at "je"))
  | (refine' je_lt ?h0 ?h1; (case h0 => walk_at "je"); (case h1 => walk_at "je"))
  | (refine' je_le ?h0 ?h1; (case h0 => walk_at "je"); (case h1 => walk_at "je"))
  | (refine' je_gt ?h0 ?h1; (case h0 => walk_at "je"); (case h1 => walk_at "je"))
  | (refine' je_ge ?h0 ?h1; (case h0 => walk_at "je"); (case h1 => walk_at "je"))
  | (refine' je_eqI ?h0 ?h1; (case h0 => walk_at "je"); (case h1 => walk_at "je"))
  | (refine' je_neI ?h0 ?h1; (case h0 => walk_at "je"); (case h1 => walk_at "je"))
  | (refine' je_mul ?h0 ?h1 ?h2; (case h0 => walk_at "je"); (case h1 => walk_at "je"); (case h2 => walk_at "side"))
  | (refine' je_div ?h0 ?h1 ?h2; (case h0 => walk_at "je"); (case h1 => walk_at "je"); (case h2 => walk_at "side"))
  | (refine' je_mod ?h0 ?h1 ?h2; (case h0 => walk_at "je"); (case h1 => walk_at "je"); (case h2 => walk_at "side"))
  | (refine' je_lele ?h0 ?h1 ?h2 ?h3; (case h0 => walk_at "je"); (case h1 => walk_at "je"); (case h2 => walk_at "je"); (case h3 => with_unfolding_all rfl))
  | (refine' je_isN ?h0; (case h0 => walk_at "je"))
  | (refine' je_notN ?h0; (case h0 => walk_at "je"))
  | (refine' je_not ?h0; (case h0 => walk_at "je"))
  | (refine' je_one ?h0; (case h0 => walk_at "je"))
  | (refine' je_un ?h0; (case h0 => walk_at "je"))
  | (refine' je_andB ?h0 (fun _ => ?h1); (case h0 => walk_at "je"); (case h1 => walk_at "je"))
  | (refine' je_orB ?h0 (fun _ => ?h1); (case h0 => walk_at "je"); (case h1 => walk_at "je"))
  | (refine' je_notT ?h0; (case h0 => walk_at "je"))
  | (refine' je_notF ?h0; (case h0 => walk_at "je"))
  | (refine' je_andF ?h0; (case h0 => walk_at "je"))
  | (refine' je_orT ?h0; (case h0 => walk_at "je"))
  | (refine' je_if ?h0 (fun _ => ?h1) (fun _ => ?h2); (case h0 => walk_at "jt"); (case h1 => walk_at "je"); (case h2 => walk_at "je"))
  | (refine' je_tup ?h0 ?h1; (case h0 => walk_at "ja"); (case h1 => walk_at "side"))
  | (refine' je_ixT ?h0 ?h1 ?h2 ?h3; (case h0 => exact fun _ _ => rfl); (case h1 => walk_at "je"); (case h2 => walk_at "je"); (case h3 => walk_at "ix"))
  | (refine' je_ixN ?h0 ?h1 ?h2 ?h3; (case h0 => exact fun _ _ => rfl); (case h1 => walk_at "jl"); (case h2 => walk_at "je"); (case h3 => walk_at "ix"))
  | (refine' je_sl ?h0 ?h1 ?h2 ?h3; (case h0 => walk_at "je"); (case h1 => walk_at "jo"); (case h2 => walk_at "jo"); (case h3 => walk_at "side"))
  | (refine' je_abs ?h0 ?h1 ?h2 ?h3; (case h0 => exact fun _ => rfl); (case h1 => rfl); (case h2 => with_reducible assumption); (case h3 => walk_at "je"))
  | (refine' je_int1 ?h0 ?h1 ?h2 ?h3; (case h0 => exact fun _ => rfl); (case h1 => rfl); (case h2 => with_reducible assumption); (case h3 => walk_at "je"))
  | (refine' je_max2 ?h0 ?h1 ?h2 ?h3 ?h4; (case h0 => exact fun _ => rfl); (case h1 => exact fun _ _ => rfl); (case h2 => rfl); (case h3 => with_reducible assumption); (case h4 => walk_at "ja"))
  | (refine' je_min2 ?h0 ?h1 ?h2 ?h3 ?h4; (case h0 => exact fun _ => rfl); (case h1 => exact fun _ _ => rfl); (case h2 => rfl); (case h3 => with_reducible assumption); (case h4 => walk_at "ja"))
  | (refine' je_lenT ?h0 ?h1 ?h2 ?h3; (case h0 => exact fun _ => rfl); (case h1 => rfl); (case h2 => with_reducible assumption); (case h3 => walk_at "je"))
  | (refine' je_tupN ?h0 ?h1 ?h2 ?h3; (case h0 => exact fun _ => rfl); (case h1 => rfl); (case h2 => with_reducible assumption); (case h3 => walk_at "jl"))
  | (refine' je_all ?h0 ?h1 ?h2 ?h3; (case h0 => exact fun _ => rfl); (case h1 => rfl); (case h2 => with_reducible assumption); (case h3 => walk_at "jl"))
  | (refine' je_any ?h0 ?h1 ?h2 ?h3; (case h0 => exact fun _ => rfl); (case h1 => rfl); (case h2 => with_reducible assumption); (case h3 => walk_at "jl"))
  | (refine' je_isiI ?h0 ?h1 ?h2 ?h3 ?h4 ?h5 ?h6 ?h7; (case h0 => exact fun _ => rfl); (case h1 => rfl); (case h2 => with_reducible assumption); (case h3 => rfl); (case h4 => with_reducible assumption); (case h5 => walk_at "je"); (case h6 => rfl); (case h7 => walk_at "kit"))
  | (refine' je_isiB ?h0 ?h1 ?h2 ?h3 ?h4 ?h5 ?h6 ?h7; (case h0 => exact fun _ => rfl); (case h1 => rfl); (case h2 => with_reducible assumption); (case h3 => rfl); (case h4 => with_reducible assumption); (case h5 => walk_at "je"); (case h6 => rfl); (case h7 => walk_at "kit"))
  | (refine' je_isiT ?h0 ?h1 ?h2 ?h3 ?h4 ?h5 ?h6 ?h7; (case h0 => exact fun _ => rfl); (case h1 => rfl); (case h2 => with_reducible assumption); (case h3 => rfl); (case h4 => with_reducible assumption); (case h5 => walk_at "je"); (case h6 => rfl); (case h7 => walk_at "kit"))
  | (refine' je_isiS ?h0 ?h1 ?h2 ?h3 ?h4 ?h5 ?h6 ?h7; (case h0 => exact fun _ => rfl); (case h1 => rfl); (case h2 => with_reducible assumption); (case h3 => rfl); (case h4 => with_reducible assumption); (case h5 => walk_at "je"); (case h6 => rfl); (case h7 => walk_at "kit"))
  | (refine' je_call ?h0 ?h1 ?h2 ?h3 ?h4 ?h5 ?h6 ?h7; (case h0 => with_reducible assumption); (case h1 => exact Nat.le_of_ble_eq_true rfl); (case h2 => rfl); (case h3 => decide +kernel); (case h4 => exact fun _ => rfl); (case h5 => exact fun _ _ => rfl); (case h6 => walk_at "ja"); (case h7 => walk_at "rel"))
  | (refine' je_cat ?h0 ?h1 ?h2 ?h3; (case h0 => walk_at "je"); (case h1 => walk_at "je"); (case h2 => walk_at "side"); (case h3 => walk_at "side")))
local macro_rules | `(tactic| walk_at "jt") => `(tactic| first
  | (refine' jt_lt ?h0 ?h1; (case h0 => walk_at "je"); (case h1 => walk_at "je"))
  | (refine' jt_le ?h0 ?h1; (case h0 => walk_at "je"); (case h1 => walk_at "je"))
  | (refine' jt_gt ?h0 ?h1; (case h0 => walk_at "je"); (case h1 => walk_at "je"))
  | (refine' jt_ge ?h0 ?h1; (case h0 => walk_at "je"); (case h1 => walk_at "je"))
  | (refine' jt_eqI ?h0 ?h1; (case h0 => walk_at "je"); (case h1 => walk_at "je"))
  | (refine' jt_neI ?h0 ?h1; (case h0 => walk_at "je"); (case h1 => walk_at "je"))
  | (refine' jt_lele ?h0 ?h1 ?h2 ?h3; (case h0 => walk_at "je"); (case h1 => walk_at "je"); (case h2 => walk_at "je"); (case h3 => with_unfolding_all rfl))
  | (refine' jt_isN ?h0; (case h0 => walk_at "je"))
  | (refine' jt_notN ?h0; (case h0 => walk_at "je"))
  | (refine' jt_not ?h0; (case h0 => walk_at "jt"))
  | (refine' jt_w ?h0; (case h0 => walk_at "jw"))
  | (refine' jt_val ?h0 ?h1; (case h0 => exact fun _ _ => rfl); (case h1 => walk_at "je")))
local macro_rules | `(tactic| walk_at "jw") => `(tactic| first
  | (refine' jw_and1 ?h0; (case h0 => walk_at "jt"))
  | (refine' jw_or1 ?h0; (case h0 => walk_at "jt"))
  | (refine' jw_and ?h0 (fun _ => ?h1); (case h0 => walk_at "jt"); (case h1 => walk_at "jw"))
  | (refine' jw_or ?h0 (fun _ => ?h1); (case h0 => walk_at "jt"); (case h1 => walk_at "jw"))
  | (refine' jw_andF ?h0; (case h0 => walk_at "jt"))
  | (refine' jw_orT ?h0; (case h0 => walk_at "jt")))
local macro_rules | `(tactic| walk_at "ja") => `(tactic| first
  | exact ja_nil
  | (refine' ja_cons ?h0 ?h1 ?h2; (case h0 => exact fun _ => rfl); (case h1 => walk_at "je"); (case h2 => walk_at "ja")))
local macro_rules | `(tactic| walk_at "jo") => `(tactic| first
  | exact jo_none
  | (refine' jo_some ?h0; (case h0 => walk_at "je")))
local macro_rules | `(tactic| walk_at "jl") => `(tactic| first
  | (refine' jl_lst ?h0 ?h1; (case h0 => walk_at "ja"); (case h1 => walk_at "side"))
  | (refine' jl_list ?h0 ?h1 ?h2 ?h3; (case h0 => exact fun _ => rfl); (case h1 => rfl); (case h2 => with_reducible assumption); (case h3 => walk_at "je")))
local macro_rules | `(tactic| walk_at "ix") => `(tactic| first
  | rfl
  | assumption)
local macro_rules | `(tactic| walk_at "side") => `(tactic| first
  | exact Nat.le_of_ble_eq_true rfl
  | omega
  | exact ⟨by omega, by omega⟩
  | exact Or.inl ⟨by omega, by omega⟩
  | exact Or.inr ⟨by omega, by omega⟩
  | exact fun z => absurd z.1 (Nat.ne_of_beq_eq_false rfl)
  | exact fun z => absurd z.2 (Nat.ne_of_beq_eq_false rfl)
  | exact List.cons_ne_nil _ _
  | assumption)
local macro_rules | `(tactic| walk_at "rel") => `(tactic| first
  | assumption)
section
variable {P : Program} {w : World} {K : PySem.W.Frag} {mg : Str → Option Value} {base : Heap}
/-! ### the script's row: _law_taken -/
/-- the script: locked, or of the written part -/
def Scr (K : PySem.W.Frag) (sc : Addr) (ns : List Int) (H : Hp) : Prop := (∃ o, H sc = some (.frz o (.lst (ns.map V.int)))) ∨ ∃ (o : Obj) (its : Array Value) (n : Nat), K.lookup sc = some o ∧ o.cls = .type "list" ∧ o.dict = none ∧ o.data = .seq its n ∧ its.size ≤ sizeLine ∧ Vals (ns.map V.int) its.toList
def NoF : Option HO → Prop
  | some (.frz _ _) => False
  | _ => True
theorem Scr.sq {sc : Addr} {ns : List Int} {H : Hp} (h : Scr K sc ns H) : SqL K H sc (ns.map V.int) := h.elim (fun ⟨o, h⟩ => .inl (.inr ⟨o, h⟩)) .inr
theorem Scr.exb {sc : Addr} {ns : List Int} {H H' : Hp} {ms : List Addr} (h : Scr K sc ns H) (e : ExB ms H H') (hm : ∀ m ∈ ms, NoF (H m)) : Scr K sc ns H' := by
  rcases h with ⟨o, h⟩ | h
  · exact .inl ⟨o, e _ _ h fun z => by have := hm sc z; rw [h] at this; exact this⟩
  · exact .inr h
theorem Scr.ex {sc : Addr} {ns : List Int} {H H' : Hp} (h : Scr K sc ns H) (e : Ex H H') : Scr K sc ns H' := h.exb (ms := []) (.of e) (by simp)
/-- the row: the script, the place, the mix, the digits left -/
def RowL (H : Hp) (l sc : Addr) : Prop := ∃ (p m g : Int), H l = some (.lst [.ref sc, .int p, .int m, .int g]) ∧ 0 ≤ p ∧ (0 ≤ m ∧ m < 2147483647) ∧ 0 ≤ g
theorem RowL.noF {H : Hp} {l sc : Addr} (h : RowL H l sc) : NoF (H l) := by
  obtain ⟨p, m, g, h1, _⟩ := h
  rw [h1]; trivial
theorem RowL.noT {H : Hp} {l sc : Addr} (h : RowL H l sc) : NoT (H l) := by
  obtain ⟨p, m, g, h1, _⟩ := h
  rw [h1]; trivial
theorem RowL.some {H : Hp} {l sc : Addr} (h : RowL H l sc) : (H l).isSome = true := by
  obtain ⟨p, m, g, h1, _⟩ := h
  rw [h1]; rfl
theorem RowL.exb {H H' : Hp} {l sc : Addr} {ms : List Addr} (h : RowL H l sc) (e : ExB ms H H') (hl : l ∉ ms) : RowL H' l sc := by
  obtain ⟨p, m, g, h1, h2⟩ := h
  exact ⟨p, m, g, e _ _ h1 hl, h2⟩
structure RowAt (K : PySem.W.Frag) (sc : Addr) (ns : List Int) (H : Hp) (l : Addr) : Prop where
  row : RowL H l sc
  scr : Scr K sc ns H
theorem RowAt.ex {sc : Addr} {ns : List Int} {H H' : Hp} {l : Addr} (h : RowAt K sc ns H l) (e : Ex H H') : RowAt K sc ns H' l := ⟨h.row.exb (ms := []) (.of e) (by simp), h.scr.ex e⟩
def spTaken (K : PySem.W.Frag) : Sp := fun vs H Q _ => ∃ (l sc : Addr) (ns : List Int) (n : Int), vs = [.ref l, .int n] ∧ RowAt K sc ns H l ∧ 0 < n ∧ n < 1073741824 ∧ ∀ r H', 0 ≤ r → r < n → RowAt K sc ns H' l → ExB [l] H H' → Q (.int r) H'
theorem sc_law_taken : FnScope ["_law_row", "_law_many", "_law_found", "_law_cell"] ["_law_row", "_law_many"] (defScope s__law_taken) := ⟨rfl, rfl, rfl, by decide +kernel, rfl, by decide +kernel, by decide +kernel⟩
theorem ok_law_taken {f : Addr} {fd : FuncData} (F : Fun K "_law_taken" "_law_taken" s__law_taken f fd) (m1 : mg "int" = none) (m2 : mg "len" = none) : FnOk P w K mg base CX0 1 f fd ["_law_row", "_law_many"] (spTaken K) := by
  refine fn_sp F sc_law_taken (fun vs H Q E h => ?_) (fun X vs H Q E o pn hst hfr tk h => ?_)
  · obtain ⟨l, sc, ns, n, rfl, _⟩ := h
    rfl
  · obtain ⟨l, sc, ns, n, rfl, hrow, hn1, hn2, q⟩ := h
    obtain ⟨⟨p, m, g, hl, hp, ⟨hm1, hm2⟩, hg⟩, hsc⟩ := hrow
    have nf0 : ∀ m ∈ [l], NoF (H m) := by simp [hl, NoF]
    have env : EnvD K H (L2.start ["_law_row", "_law_many", "_law_found", "_law_cell"] [.ref l, .int n]) [some (.ref l), some (.int n), none, none] := env_start (.cons (.ref l) (.cons (.int n) .nil))
    have rd : ∀ {ρ : Rh} {H1 : Hp} {e b : Expr} {pos : Pos} {i : Int} {p m g : Int} {d : Dt}, H1 l = some (.lst [.ref sc, .int p, .int m, .int g]) → JE ⟨P, w, K, mg, base, ["_law_row", "_law_many", "_law_found", "_law_cell"], defScope s__law_taken, 0, true⟩ ρ H1 e (.ref l) → JE ⟨P, w, K, mg, base, ["_law_row", "_law_many", "_law_found", "_law_cell"], defScope s__law_taken, 0, true⟩ ρ H1 b (.int i) → PlainIx b → atI [Dt.ref sc, .int p, .int m, .int g] i = some d →
        JE ⟨P, w, K, mg, base, ["_law_row", "_law_many", "_law_found", "_law_cell"], defScope s__law_taken, 0, true⟩ ρ H1 (.Subscript e b pos) d := fun h1 he hb hpl hi => je_ixL hpl he hb (sq_of h1) (.cons (.ref _) (.cons (.int _) (.cons (.int _) (.cons (.int _) .nil)))) hi
    refine' wb_cons (ws_if (k := decide (0 < g)) o env (jt_gt ?h0 ?h1) (fun hk H1 e1 en1 => ?_) (fun hk H1 e1 en1 => wb_nil ?_))
    case h0 => exact rd hl (by walk_at "je") (by walk_at "je") (fun _ _ => rfl) rfl
    case h1 => walk_at "je"
    · have hg0 : 0 < g := of_decide_eq_true hk
      have hl1 := e1 _ _ hl
      refine' wb_cons (ws_set (i := 2) (d := .int (g % n)) o en1 sc_law_taken.nd rfl rfl (fun _ => rfl) ?h0 fun v σ2 H2 e2 hv en2 => ?_)
      case h0 => exact je_mod (je_int1 (fun _ => rfl) rfl m1 (rd hl1 (by walk_at "je") (by walk_at "je") (fun _ _ => rfl) rfl)) (by walk_at "je") hn1
      have hl2 := e2 _ _ hl1
      refine' wb_cons (ws_setIt (i := 3) (j := 3) (d := .int (g / n)) o en2 ?h0 ?h1 ?h2 hl2 rfl (fun _ => rfl) (fun _ => rfl) (fun _ => rfl) (fun _ _ => rfl) fun v H3 e3 hv3 hl3 => ?_)
      case h0 => walk_at "je"
      case h1 => walk_at "je"
      case h2 => exact je_div (rd hl2 (by walk_at "je") (by walk_at "je") (fun _ _ => rfl) rfl) (by walk_at "je") ⟨hn1, hn2⟩
      rw [hv3.int_inv]
      have tx : Tx K H3 (upd H3 l (.lst [.ref sc, .int p, .int m, .int (g / n)])) := tx_upd (by rw [hl3]; trivial)
      refine' wb_one (ws_ret o (en2.mono ((ex_tx e3).trans tx)) (d := .int (g % n)) ?h0 fun v H4 e4 hv4 => ?_)
      case h0 => walk_at "je"
      rw [hv4.int_inv]
      refine q _ H4 (Int.emod_nonneg _ (by omega)) (Int.emod_lt_of_pos _ hn1) ⟨⟨p, m, g / n, e4 _ _ upd_same, hp, ⟨hm1, hm2⟩, Int.ediv_nonneg hg (by omega)⟩, ?_⟩ ?_
      · exact (hsc.exb (ms := [l]) (exb_upd (.of (e1.trans (e2.trans e3))) (by simp)) nf0).ex e4
      · exact (exb_upd (.of (e1.trans (e2.trans e3))) (by simp)).trans (.of e4)
    · have hl1 := e1 _ _ hl
      refine' wb_cons (ws_setIt (i := 1) (j := 1) (d := .int (p + 1)) o en1 ?h0 ?h1 ?h2 hl1 rfl (fun _ => rfl) (fun _ => rfl) (fun _ => rfl) (fun _ _ => rfl) fun v H2 e2 hv2 hl2 => ?_)
      case h0 => walk_at "je"
      case h1 => walk_at "je"
      case h2 => exact je_add (rd hl1 (by walk_at "je") (by walk_at "je") (fun _ _ => rfl) rfl) (by walk_at "je")
      rw [hv2.int_inv]
      have tx3 : Tx K H2 (upd H2 l (.lst [.ref sc, .int (p + 1), .int m, .int g])) := tx_upd (by rw [hl2]; trivial)
      have en3 := en1.mono ((ex_tx e2).trans tx3)
      have xb3 : ExB [l] H (upd H2 l (.lst [.ref sc, .int (p + 1), .int m, .int g])) := exb_upd (.of (e1.trans e2)) (by simp)
      have sc3 : Scr K sc ns (upd H2 l (.lst [.ref sc, .int (p + 1), .int m, .int g])) := hsc.exb xb3 nf0
      have hl3 : (upd H2 l (.lst [.ref sc, .int (p + 1), .int m, .int g])) l = some (.lst [.ref sc, .int (p + 1), .int m, .int g]) := upd_same
      show WB X _ _ _ (upd H2 l (.lst [.ref sc, .int (p + 1), .int m, .int g]))
      generalize upd H2 l (.lst [.ref sc, .int (p + 1), .int m, .int g]) = H3 at *
      refine' wb_cons (ws_if (k := decide ((ns.length : Int) < p + 1)) o en3 (jt_gt ?h0 ?h1) (fun hk H4 e4 en4 => ?_) (fun hk H4 e4 en4 => wb_nil ?_))
      case h0 => exact rd hl3 (by walk_at "je") (by walk_at "je") (fun _ _ => rfl) rfl
      case h1 =>
        refine je_is (je_lenL (xs := ns.map V.int) (fun _ => rfl) rfl m2 (rd hl3 (by walk_at "je") (by walk_at "je") (fun _ _ => rfl) rfl) sc3.sq) ?_
        rw [List.length_map]
      · have hl4 := e4 _ _ hl3
        refine' wb_cons (ws_setIt (i := 2) (j := 2) (d := .int ((m * 48271 + 11) % 2147483647)) o en4 ?h0 ?h1 ?h2 hl4 rfl (fun _ => rfl) (fun _ => rfl) (fun _ => rfl) (fun _ _ => rfl) fun v H5 e5 hv5 hl5 => ?_)
        case h0 => walk_at "je"
        case h1 => walk_at "je"
        case h2 => exact je_mod (je_int1 (fun _ => rfl) rfl m1 (je_add (je_mul (rd hl4 (by walk_at "je") (by walk_at "je") (fun _ _ => rfl) rfl) (by walk_at "je") (.inl ⟨by omega, by omega⟩)) (by walk_at "je"))) (by walk_at "je") (by decide)
        rw [hv5.int_inv]
        have hm' : 0 ≤ (m * 48271 + 11) % 2147483647 ∧ (m * 48271 + 11) % 2147483647 < 2147483647 := ⟨Int.emod_nonneg _ (by decide), Int.emod_lt_of_pos _ (by decide)⟩
        generalize (m * 48271 + 11) % 2147483647 = m' at *
        have tx5 : Tx K H5 (upd H5 l (.lst [.ref sc, .int (p + 1), .int m', .int g])) := tx_upd (by rw [hl5]; trivial)
        have xb5 : ExB [l] H3 (upd H5 l (.lst [.ref sc, .int (p + 1), .int m', .int g])) := exb_upd (.of (e4.trans e5)) (by simp)
        refine' wb_one (ws_ret o (en4.mono ((ex_tx e5).trans tx5)) (d := .int (m' / 7 % n)) ?h0 fun v H6 e6 hv6 => ?_)
        case h0 => exact je_mod (je_int1 (fun _ => rfl) rfl m1 (je_div (rd (p := p + 1) (m := m') (g := g) upd_same (by walk_at "je") (by walk_at "je") (fun _ _ => rfl) rfl) (by walk_at "je") ⟨by decide, by decide⟩)) (by walk_at "je") hn1
        rw [hv6.int_inv]
        exact q _ H6 (Int.emod_nonneg _ (by omega)) (Int.emod_lt_of_pos _ hn1) ⟨⟨p + 1, m', g, e6 _ _ upd_same, by omega, hm', hg⟩, (sc3.exb xb5 (by simp [hl3, NoF])).ex e6⟩ ((xb3.trans xb5).trans (.of e6))
      · have hlt : ¬ (ns.length : Int) < p + 1 := of_decide_eq_false hk
        have hl4 := e4 _ _ hl3
        have sc4 := sc3.ex e4
        obtain ⟨z, hz⟩ : ∃ z, ns[p.toNat]? = some z := ⟨_, List.getElem?_eq_getElem (by omega)⟩
        refine' wb_cons (ws_set (i := 3) (d := .int z) o en4 sc_law_taken.nd rfl rfl (fun _ => rfl) ?h0 fun v σ5 H5 e5 hv en5 => ?_)
        case h0 =>
          refine je_ixL (i := (p.toNat : Int)) (ds := ns.map Dt.int) (fun _ _ => rfl) (rd hl4 (by walk_at "je") (by walk_at "je") (fun _ _ => rfl) rfl) (je_is (je_sub (rd hl4 (by walk_at "je") (by walk_at "je") (fun _ _ => rfl) rfl) (by walk_at "je")) ?_) sc4.sq (ints_dis ns) (atI_nat (by rw [List.getElem?_map, hz]; rfl))
          congr 1
          omega
        have hl5 := e5 _ _ hl4
        refine' wb_cons (ws_setIt (i := 2) (j := 2) (d := .int ((m * 48271 + z + 11) % 2147483647)) o en5 ?h0 ?h1 ?h2 hl5 rfl (fun _ => rfl) (fun _ => rfl) (fun _ => rfl) (fun _ _ => rfl) fun v H6 e6 hv6 hl6 => ?_)
        case h0 => walk_at "je"
        case h1 => walk_at "je"
        case h2 => exact je_mod (je_int1 (fun _ => rfl) rfl m1 (je_add (je_add (je_mul (rd hl5 (by walk_at "je") (by walk_at "je") (fun _ _ => rfl) rfl) (by walk_at "je") (.inl ⟨by omega, by omega⟩)) (by walk_at "je")) (by walk_at "je"))) (by walk_at "je") (by decide)
        rw [hv6.int_inv]
        have hm' : 0 ≤ (m * 48271 + z + 11) % 2147483647 ∧ (m * 48271 + z + 11) % 2147483647 < 2147483647 := ⟨Int.emod_nonneg _ (by decide), Int.emod_lt_of_pos _ (by decide)⟩
        generalize (m * 48271 + z + 11) % 2147483647 = m' at *
        have tx6 : Tx K H6 (upd H6 l (.lst [.ref sc, .int (p + 1), .int m', .int g])) := tx_upd (by rw [hl6]; trivial)
        have xb6 : ExB [l] H3 (upd H6 l (.lst [.ref sc, .int (p + 1), .int m', .int g])) := exb_upd (.of ((e4.trans e5).trans e6)) (by simp)
        have en6 := en5.mono ((ex_tx e6).trans tx6)
        have hl7 : (upd H6 l (.lst [.ref sc, .int (p + 1), .int m', .int g])) l = some (.lst [.ref sc, .int (p + 1), .int m', .int g]) := upd_same
        have sc7 := sc3.exb xb6 (by simp [hl3, NoF])
        show WB X _ _ _ (upd H6 l (.lst [.ref sc, .int (p + 1), .int m', .int g]))
        generalize upd H6 l (.lst [.ref sc, .int (p + 1), .int m', .int g]) = H7 at *
        refine' wb_cut (fun σ8 H8 => ∃ g' : Int, 0 ≤ g' ∧ ExB [l] H7 H8 ∧ H8 l = some (.lst [.ref sc, .int (p + 1), .int m', .int g']) ∧ EnvD K H8 σ8 [some (.ref l), some (.int n), none, some (.int z)]) (ws_if (k := decide ((10 : Int) ^ (18 : Int).toNat ≤ z)) o en6 (jt_ge ?h0 ?h1) (fun hk H8 e8 en8 => ?_) (fun hk H8 e8 en8 => wb_nil ⟨g, hg, .of e8, e8 _ _ hl7, en8⟩)) ?_
        case h0 => walk_at "je"
        case h1 => exact je_pow (by walk_at "je") (by walk_at "je") ⟨by decide, by decide, by decide⟩
        · have hz0 : 0 ≤ z := by
            have := of_decide_eq_true hk
            have h10 : (0 : Int) ≤ (10 : Int) ^ (18 : Int).toNat := by decide
            omega
          refine' wb_one (ws_setIt (i := 3) (j := 3) (d := .int (z / n)) o en8 ?h0 ?h1 ?h2 (e8 _ _ hl7) rfl (fun _ => rfl) (fun _ => rfl) (fun _ => rfl) (fun _ _ => rfl) fun v H9 e9 hv9 hl9 => ?_)
          case h0 => walk_at "je"
          case h1 => walk_at "je"
          case h2 => exact je_div (by walk_at "je") (by walk_at "je") ⟨hn1, hn2⟩
          rw [hv9.int_inv]
          have tx9 : Tx K H9 (upd H9 l (.lst [.ref sc, .int (p + 1), .int m', .int (z / n)])) := tx_upd (by rw [hl9]; trivial)
          exact ⟨z / n, Int.ediv_nonneg hz0 (by omega), exb_upd (.of (e8.trans e9)) (by simp), upd_same, en8.mono ((ex_tx e9).trans tx9)⟩
        · rintro σ8 H8 ⟨g', hg', xb8, hl8, en8⟩
          refine' wb_one (ws_ret o en8 (d := .int (z % n)) ?h0 fun v H9 e9 hv9 => ?_)
          case h0 => exact je_mod (je_int1 (fun _ => rfl) rfl m1 (by walk_at "je")) (by walk_at "je") hn1
          rw [hv9.int_inv]
          exact q _ H9 (Int.emod_nonneg _ (by omega)) (Int.emod_lt_of_pos _ hn1) ⟨⟨p + 1, m', g', e9 _ _ hl8, by omega, hm', hg'⟩, (sc7.exb xb8 (by simp [hl7, NoF])).ex e9⟩ (((xb3.trans xb6).trans xb8).trans (.of e9))
/-- _law_taken(row, n) -/
theorem we_taken {X : Cx} {N : List Str} {sc : Scope} {lv : Nat} {bf : Bool} {ρ : Rh} {σ : St} {H : Hp} {a b : Expr} {p pos : Pos} {Q : VK} {l s : Addr} {ns : List Int} {n : Int} (o : (Ct.mk P w K mg base N sc lv bf).Of X) (env : EnvD K H σ ρ) (G : Fn0 P w K mg base CX0 1 "_law_taken" (spTaken K)) (hlv : 1 ≤ lv) (hg : GlN (Ct.mk P w K mg base N sc lv bf) "_law_taken") (hs : NoStar a [b]) (hpl : NoStars [b])
    (ha : JA (Ct.mk P w K mg base N sc lv bf) ρ H [a, b] [.ref l, .int n]) (hrow : RowAt K s ns H l) (hn1 : 0 < n) (hn2 : n < 1073741824) (q : ∀ r H', 0 ≤ r → r < n → RowAt K s ns H' l → ExB [l] H H' → Q (.int r) H') : WE X (.Call (Nm "_law_taken" p) [a, b] [] pos) σ H Q := by
  obtain ⟨f, fd, ps, G, hm, kp, bb⟩ := (G.to o).ex
  refine PEw (pe_call G (o.room.mono hlv) (o.gl hg) hm kp bb .nil pass0 pa_w (by decide +kernel) (hs _) (hpl _ _)) (ha.run X o o.N σ H (Ex.refl H) (by rw [o.K]; exact env) _ fun vs H2 e2 q1 => ?_)
  obtain ⟨v, w', rfl, h1, h2⟩ := dis2 q1
  rw [h1.ref_inv, h2.int_inv]
  exact ⟨l, s, ns, n, rfl, hrow.ex e2, hn1, hn2, fun r H' h1 h2 h3 h4 => q r H' h1 h2 h3 ((ExB.of e2).trans h4)⟩
end
end Led

set_option maxRecDepth 100000
set_option maxHeartbeats 4000000
namespace Led
open PySem L2 Evl
local macro_rules | `(tactic| walk_at "at") => `(tactic| first
  | with_reducible exact At.here
  | (with_reducible refine' At.there ?h0; (case h0 => walk_at "at")))
local macro_rules | `(tactic| walk_at "vis") => `(tactic| first
  | exact Or.inl rfl
  | exact Or.inr (Or.inl rfl)
  | exact Or.inr (Or.inr rfl))
local macro_rules | `(tactic| walk_at "kit") => `(tactic| first
  | with_reducible exact kit_ii
  | with_reducible exact kit_ib
  | with_reducible exact kit_it
  | with_reducible exact kit_is
  | with_reducible exact kit_bi
  | with_reducible exact kit_bb
  | with_reducible exact kit_bt
  | with_reducible exact kit_bs
  | with_reducible exact kit_si
  | with_reducible exact kit_sb
  | with_reducible exact kit_st
  | with_reducible exact kit_ss
  | with_reducible exact kit_ni
  | with_reducible exact kit_nb
  | with_reducible exact kit_nt
  | with_reducible exact kit_ns
  | with_reducible exact kit_ti
  | with_reducible exact kit_tb
  | with_reducible exact kit_tt
  | with_reducible exact kit_ts)
local macro_rules | `(tactic| walk_at "je") => `(tactic| first
  | exact je_int
  | exact je_bl
  | exact je_non
  | exact je_str
  | (refine' je_var ?h0 ?h1 ?h2 ?h3; (case h0 => walk_at "at"); (case h1 => walk_at "vis"); (case h2 => decide +kernel); (case h3 => decide +kernel))
  | (refine' je_var2 ?h0 ?h1 ?h2 ?h3; (case h0 => rfl); (case h1 => walk_at "vis"); (case h2 => decide +kernel); (case h3 => decide +kernel))
  | (refine' je_globI ?h0 ?h1 ?h2; (case h0 => rfl); (case h1 => with_reducible assumption); (case h2 => decide +kernel))
  | (refine' je_globS ?h0 ?h1 ?h2; (case h0 => rfl); (case h1 => with_reducible assumption); (case h2 => decide +kernel))
  | (refine' je_add ?h0 ?h1; (case h0 => walk_at "je"); (case h1 => walk_at "je"))
  | (refine' je_sub ?h0 ?h1; (case h0 => walk_at "je"); (case h1 => walk_at "je"))
  | (refine' je_lt ?h0 ?h1; (case h0 => walk_at "je"); (case h1 => walk_at "je"))
  | (refine' je_le ?h0 ?h1; (case h0 => walk_at "je"); (case h1 => walk_at "je"))
  | (refine' je_gt ?h0 ?h1; (case h0 => walk_at "je"); (case h1 => walk_at "je"))
  | (refine' je_ge ?h0 ?h1; (case h0 => walk_at "je"); (case h1 => walk_at "je"))
  | (refine' je_eqI ?h0 ?h1; (case h0 => walk_at "je"); (case h1 => walk_at "je"))
  | (refine' je_neI ?h0 ?h1; (case h0 => walk_at "je"); (case h1 => walk_at "je"))
  | (refine' je_mul ?h0 ?h1 ?h2; (case h0 => walk_at "je"); (case h1 => walk_at "je"); (case h2 => walk_at "side"))
  | (refine' je_div ?h0 ?h1 ?h2; (case h0 => walk_at "je"); (case h1 => walk_at "je"); (case h2 => walk_at "side"))
  | (refine' je_mod ?h0 ?h1 ?h2; (case h0 => walk_at "je"); (case h1 => walk_at "je"); (case h2 => walk_at "side"))
  | (refine' je_lele ?h0 ?h1 ?h2 ?h3; (case h0 => walk_at "je"); (case h1 => walk_at "je"); (case h2 => walk_at "je"); (case h3 => with_unfolding_all rfl))
  | (refine' je_isN ?h0; (case h0 => walk_at "je"))
  | (refine' je_notN ?h0; (case h0 => walk_at "je"))
  | (refine' je_not ?h0; (case h0 => walk_at "je"))
  | (refine' je_one ?h0; (case h0 => walk_at "je"))
  | (refine' je_un ?h0; (case h0 => walk_at "je"))
  | (refine' je_andB ?h0 (fun _ => ?h1); (case h0 => walk_at "je"); (case h1 => walk_at "je"))
  | (refine' je_orB ?h0 (fun _ => ?h1); (case h0 => walk_at "je"); (case h1 => walk_at "je"))
  | (refine' je_notT ?h0; (case h0 => walk_at "je"))
  | (refine' je_notF ?h0; (case h0 => walk_at "je"))
  | (refine' je_andF ?h0; (case h0 => walk_at "je"))
  | (refine' je_orT ?h0; (case h0 => walk_at "je"))
  | (refine' je_if ?h0 (fun _ => ?h1) (fun _ => ?h2); (case h0 => walk_at "jt"); (case h1 => walk_at "je"); (case h2 => walk_at "je"))
  | (refine' je_tup ?h0 ?h1; (case h0 => walk_at "ja"); (case h1 => walk_at "side"))
  | (refine' je_ixT ?h0 ?h1 ?h2 ?h3; (case h0 => exact fun _ _ => rfl); (case h1 => walk_at "je"); (case h2 => walk_at "je"); (case h3 => walk_at "ix"))
  | (refine' je_ixN ?h0 ?h1 ?h2 ?h3; (case h0 => exact fun _ _ => rfl); (case h1 => walk_at "jl"); (case h2 => walk_at "je"); (case h3 => walk_at "ix"))
  | (refine' je_sl ?h0 ?h1 ?h2 ?h3; (case h0 => walk_at "je"); (case h1 => walk_at "jo"); (case h2 => walk_at "jo"); (case h3 => walk_at "side"))
  | (refine' je_abs ?h0 ?h1 ?h2 ?h3; (case h0 => exact fun _ => rfl); (case h1 => rfl); (case h2 => with_reducible assumption); (case h3 => walk_at "je"))
  | (refine' je_int1 ?h0 ?h1 ?h2 ?h3; (case h0 => exact fun _ => rfl); (case h1 => rfl); (case h2 => with_reducible assumption); (case h3 => walk_at "je"))
  | (refine' je_max2 ?h0 ?h1 ?h2 ?h3 ?h4; (case h0 => exact fun _ => rfl); (case h1 => exact fun _ _ => rfl); (case h2 => rfl); (case h3 => with_reducible assumption); (case h4 => walk_at "ja"))
  | (refine' je_min2 ?h0 ?h1 ?h2 ?h3 ?h4; (case h0 => exact fun _ => rfl); (case h1 => exact fun _ _ => rfl); (case h2 => rfl); (case h3 => with_reducible assumption); (case h4 => walk_at "ja"))
  | (refine' je_lenT ?h0 ?h1 ?h2 ?h3; (case h0 => exact fun _ => rfl); (case h1 => rfl); (case h2 => with_reducible assumption); (case h3 => walk_at "je"))
  | (refine' je_tupN ?h0 ?h1 ?h2 ?h3; (case h0 => exact fun _ => rfl); (case h1 => rfl); (case h2 => with_reducible assumption); (case h3 => walk_at "jl"))
  | (refine' je_all ?h0 ?h1 ?h2 ?h3; (case h0 => exact fun _ => rfl); (case h1 => rfl); (case h2 => with_reducible assumption); (case h3 => walk_at "jl"))
  | (refine' je_any ?h0 ?h1 ?h2 ?h3; (case h0 => exact fun _ => rfl); (case h1 => rfl); (case h2 => with_reducible assumption); (case h3 => walk_at "jl"))
  | (refine' je_isiI ?h0 ?h1 ?h2 ?h3 ?h4 ?h5 ?h6 ?h7; (case h0 => exact fun _ => rfl); (case h1 => rfl); (case h2 => with_reducible assumption); (case h3 => rfl); (case h4 => with_reducible assumption); (case h5 => walk_at "je"); (case h6 => rfl); (case h7 => walk_at "kit"))
  | (refine' je_isiB ?h0 ?h1 ?h2 ?h3 ?h4 ?h5 ?h6 ?h7; (case h0 => exact fun _ => rfl); (case h1 => rfl); (case h2 => with_reducible assumption); (case h3 => rfl); (case h4 => with_reducible assumption); (case h5 => walk_at "je"); (case h6 => rfl); (case h7 => walk_at "kit"))
  | (refine' je_isiT ?h0 ?h1 ?h2 ?h3 ?h4 ?h5 ?h6 ?h7; (case h0 => exact fun _ => rfl); (case h1 => rfl); (case h2 => with_reducible assumption); (case h3 => rfl); (case h4 => with_reducible assumption); (case h5 => walk_at "je"); (case h6 => rfl); (case h7 => walk_at "kit"))
  | (refine' je_isiS ?h0 ?h1 ?h2 ?h3 ?h4 ?h5 ?h6 ?h7; (case h0 => exact fun _ => rfl); (case h1 => rfl); (case h2 => with_reducible assumption); (case h3 => rfl); (case h4 => with_reducible assumption); (case h5 => walk_at "je"); (case h6 => rfl); (case h7 => walk_at "kit"))
  | (refine' je_call ?h0 ?h1 ?h2 ?h3 ?h4 ?h5 ?h6 ?h7; (case h0 => with_reducible assumption); (case h1 => exact Nat.le_of_ble_eq_true rfl); (case h2 => rfl); (case h3 => decide +kernel); (case h4 => exact fun _ => rfl); (case h5 => exact fun _ _ => rfl); (case h6 => walk_at "ja"); (case h7 => walk_at "rel"))
  | (refine' je_cat ?h0 ?h1 ?h2 ?h3; (case h0 => walk_at "je"); (case h1 => walk_at "je"); (case h2 => walk_at "side"); (case h3 => walk_at "side")))
local macro_rules | `(tactic| walk_at "jt") => `(tactic| first
  | (refine' jt_lt ?h0 ?h1; (case h0 => walk_at "je"); (case h1 => walk_at "je"))
  | (refine' jt_le ?h0 ?h1; (case h0 => walk_at "je"); (case h1 => walk_at "je"))
  | (refine' jt_gt ?h0 ?h1; (case h0 => walk_at "je"); (case h1 => walk_at "je"))
  | (refine' jt_ge ?h0 ?h1; (case h0 => walk_at "je"); (case h1 => walk_at "je"))
  | (refine' jt_eqI ?h0 ?h1; (case h0 => walk_at "je"); (case h1 => walk_at "je"))
  | (refine' jt_neI ?h0 ?h1; (case h0 => walk_at "je"); (case h1 => walk_at "je"))
  | (refine' jt_lele ?h0 ?h1 ?h2 ?h3; (case h0 => walk_at "je"); (case h1 => walk_at "je"); (case h2 => walk_at "je"); (case h3 => with_unfolding_all rfl))
  | (refine' jt_isN ?h0; (case h0 => walk_at "je"))
  | (refine' jt_notN ?h0; (case h0 => walk_at "je"))
  | (refine' jt_not ?h0; (case h0 => walk_at "jt"))
  | (refine' jt_w ?h0; (case h0 => walk_at "jw"))
  | (refine' jt_val ?h0 ?h1; (case h0 => exact fun _ _ => rfl); (case h1 => walk_at "je")))
local macro_rules | `(tactic| walk_at "jw") => `(tactic| first
  | (refine' jw_and1 ?h0; (case h0 => walk_at "jt"))
  | (refine' jw_or1 ?h0; (case h0 => walk_at "jt"))
  | (refine' jw_and ?h0 (fun _ => ?h1); (case h0 => walk_at "jt"); (case h1 => walk_at "jw"))
  | (refine' jw_or ?h0 (fun _ => ?h1); (case h0 => walk_at "jt"); (case h1 => walk_at "jw"))
  | (refine' jw_andF ?h0; (case h0 => walk_at "jt"))
  | (refine' jw_orT ?h0; (case h0 => walk_at "jt")))
local macro_rules | `(tactic| walk_at "ja") => `(tactic| first
  | exact ja_nil
  | (refine' ja_cons ?h0 ?h1 ?h2; (case h0 => exact fun _ => rfl); (case h1 => walk_at "je"); (case h2 => walk_at "ja")))
local macro_rules | `(tactic| walk_at "jo") => `(tactic| first
  | exact jo_none
  | (refine' jo_some ?h0; (case h0 => walk_at "je")))
local macro_rules | `(tactic| walk_at "jl") => `(tactic| first
  | (refine' jl_lst ?h0 ?h1; (case h0 => walk_at "ja"); (case h1 => walk_at "side"))
  | (refine' jl_list ?h0 ?h1 ?h2 ?h3; (case h0 => exact fun _ => rfl); (case h1 => rfl); (case h2 => with_reducible assumption); (case h3 => walk_at "je")))
local macro_rules | `(tactic| walk_at "ix") => `(tactic| first
  | rfl
  | assumption)
local macro_rules | `(tactic| walk_at "side") => `(tactic| first
  | exact Nat.le_of_ble_eq_true rfl
  | omega
  | exact ⟨by omega, by omega⟩
  | exact Or.inl ⟨by omega, by omega⟩
  | exact Or.inr ⟨by omega, by omega⟩
  | exact fun z => absurd z.1 (Nat.ne_of_beq_eq_false rfl)
  | exact fun z => absurd z.2 (Nat.ne_of_beq_eq_false rfl)
  | exact List.cons_ne_nil _ _
  | assumption)
local macro_rules | `(tactic| walk_at "rel") => `(tactic| first
  | assumption)
section
variable {P : Program} {w : World} {K : PySem.W.Frag} {mg : Str → Option Value} {base : Heap}
/-! _law_drawing -/
def rawOf (ps : List Pc) : List (List Dt) := ps.map fun p => [.int p.x, .int p.y, .int p.u, .int p.v]
theorem scanGo_ok : ∀ {rs : List (List Dt)} {i : Nat} {acc ps : List Pc}, scanGo i acc rs = .ok ps → ps = acc ++ rs.map pcOf ∧ ∀ r ∈ rs, isPc r = true
  | [], i, acc, ps, h => by
    have : Except.ok acc = (Except.ok ps : Except Nat (List Pc)) := h
    cases this
    simp
  | r :: rs, i, acc, ps, h => by
    unfold scanGo at h
    by_cases c1 : (decide (i = 6) || !isPc r) = true
    · rw [if_pos c1] at h; cases h
    · rw [if_neg c1] at h
      by_cases c2 : (acc.map fun q => (pcOf r).over q).any id = true
      · rw [if_pos c2] at h; cases h
      · rw [if_neg c2] at h
        obtain ⟨h1, h2⟩ := scanGo_ok h
        refine ⟨by rw [h1]; simp, fun l hl => ?_⟩
        rcases List.mem_cons.mp hl with rfl | z
        · have : (decide (i = 6) || !isPc l) = false := by simpa using c1
          rw [Bool.or_eq_false_iff] at this
          exact notF this.2
        · exact h2 l z
theorem scan_ok {rs : List (List Dt)} {ps : List Pc} (h : scan rs = .ok ps) : ps = rs.map pcOf ∧ ∀ r ∈ rs, isPc r = true := by
  obtain ⟨h1, h2⟩ := scanGo_ok h
  exact ⟨by simpa using h1, h2⟩
theorem rawOf_pc {rs : List (List Dt)} (h : ∀ r ∈ rs, isPc r = true) : rawOf (rs.map pcOf) = rs := by
  unfold rawOf
  rw [List.map_map]
  conv => rhs; rw [← List.map_id rs]
  exact List.map_congr_left fun r hr => (isPc_pc (h r hr)).1.symm
/-- a drawing that is possible -/
def Good (ps : List Pc) : Prop := scan (rawOf ps) = .ok ps
theorem Good.nil : Good [] := rfl
theorem good_of {rs : List (List Dt)} {ps : List Pc} (h : scan rs = .ok ps) : Good ps ∧ rawOf ps = rs := by
  obtain ⟨h1, h2⟩ := scan_ok h
  have h3 : rawOf ps = rs := by rw [h1]; exact rawOf_pc h2
  exact ⟨by unfold Good; rw [h3]; exact h, h3⟩
theorem rawOf_map (ps : List Pc) : (rawOf ps).map Dt.tup = ps.map Pc.d := by
  unfold rawOf
  rw [List.map_map]
  rfl
theorem raw_ok {ps : List Pc} (h : ps.length ≤ 100) : RawOk (rawOf ps) := ⟨by unfold rawOf; rw [List.length_map]; omega, fun r hr => by
  unfold rawOf at hr
  obtain ⟨p, _, rfl⟩ := List.mem_map.mp hr
  refine ⟨Nat.le_of_ble_eq_true rfl, fun e he => ?_⟩
  simp only [List.mem_cons, List.not_mem_nil, or_false] at he
  rcases he with rfl | rfl | rfl | rfl <;> rfl⟩
def spDrawing (K : PySem.W.Frag) (CD : Addr) (T : DrT K CD) : Sp := fun vs H Q _ => ∃ (l sc : Addr) (ns : List Int) (n : Nat), vs = [.ref l, .int (n : Int)] ∧ n ≤ 50 ∧ RowAt K sc ns H l ∧ ∀ ps x H', ps.length ≤ n → Good ps → RowAt K sc ns H' l → ExB [l] H H' → H x = none → DrAt K CD T H' x ps → Q (.ref x) H'
theorem je_good {N : List Str} {sc : Scope} {lv : Nat} {bf : Bool} {ρ : Rh} {H : Hp} {e : Expr} {p pos : Pos} {rs : List (List Dt)} (G : Fn0 P w K mg base CX0 9 "_law_is_good" (spGood K)) (hlv : 9 ≤ lv) (hg : GlN (Ct.mk P w K mg base N sc lv bf) "_law_is_good") (hs : NoStar e [])
    (ha : JL (Ct.mk P w K mg base N sc lv bf) ρ H e (rs.map Dt.tup)) (hr : RawOk rs) : JE (Ct.mk P w K mg base N sc lv bf) ρ H (.Call (Nm "_law_is_good" p) [e] [] pos) (.bl (isOk (scan rs))) := ⟨fun X o hN σ H1 e1 env Q q => by
  obtain ⟨f, fd, ps, G, hm, kp, bb⟩ := (G.to o).ex
  refine PEw (pe_call G (o.room.mono hlv) (o.gl hg) hm kp bb .nil pass0 (pa_cons pe_w pa_nil (hs _)) (by decide +kernel) (hs _) rfl) (ha.run X o hN σ H1 e1 env _ fun l vs H2 hl e2 h2 hd => ?_)
  rw [o.K] at hd
  exact ⟨l, vs, rs, rfl, h2, hd, hr, fun H' e' => q _ _ (e2.trans e') (.bl _)⟩⟩
theorem sc_law_drawing : FnScope ["_law_row", "_law_most", "_law_found", "_law_wide", "_law_k", "_law_piece", "_law_j"] ["_law_row", "_law_most"] (defScope s__law_drawing) := ⟨rfl, rfl, rfl, by decide +kernel, rfl, by decide +kernel, by decide +kernel⟩
theorem ok_law_drawing {f CD CI : Addr} {fd : FuncData} {T : DrT K CD} (F : Fun K "_law_drawing" "_law_drawing" s__law_drawing f fd) (m1 : mg "range" = none) (m2 : mg "tuple" = none) (M : DrC P w K mg base CD CI T) (G1 : Fn0 P w K mg base CX0 1 "_law_taken" (spTaken K)) (G2 : Fn0 P w K mg base CX0 9 "_law_is_good" (spGood K)) : FnOk P w K mg base CX0 11 f fd ["_law_row", "_law_most"] (spDrawing K CD T) := by
  refine fn_sp F sc_law_drawing (fun vs H Q E h => ?_) (fun X vs H Q E o pn hst hfr tk h => ?_)
  · obtain ⟨l, sc, ns, n, rfl, _⟩ := h
    rfl
  · obtain ⟨l, sc, ns, n, rfl, hn, hrow, q⟩ := h
    have env : EnvD K H (L2.start ["_law_row", "_law_most", "_law_found", "_law_wide", "_law_k", "_law_piece", "_law_j"] [.ref l, .int (n : Int)]) [some (.ref l), some (.int (n : Int)), none, none, none, none, none] := env_start (.cons (.ref l) (.cons (.int _) .nil))
    have hlsome : (H l).isSome = true := hrow.row.some
    -- found, wide = [], [6, 20, 61][taken(row, 3)]
    refine wb_cons (PSw (ps_asg (pe_tup (pa_cons (pe_lst pa_nil) (pa_cons (pe_ix ix_list (pe_lst (pa_cons pe_int (pa_cons pe_int (pa_cons pe_int pa_nil)))) pe_w (fun _ _ => rfl)) pa_nil))) (pg_w (X := X)) rfl ?hw rfl) ?_)
    case hw =>
      have hsc := o.sc
      generalize X.env = env at hsc ⊢
      cases env; cases hsc; rfl
    refine ⟨by decide, fun lf hlf => ⟨by decide, fun l3 hl3 => ?_⟩⟩
    have ex1 : Ex H (upd (upd H lf (.lst [])) l3 (.lst [.int 6, .int 20, .int 61])) := (Ex.new hlf).trans (Ex.new hl3)
    have nlf3 : lf ≠ l3 := fun z => by rw [z, upd_same] at hl3; cases hl3
    refine we_taken o (env.mono (ex_tx ex1)) G1 (Nat.le_of_ble_eq_true rfl) rfl (fun _ => rfl) (fun _ _ => rfl) (n := 3) (by walk_at "ja") (hrow.ex ex1) (by decide) (by decide) fun r H2 hr0 hr3 hrow2 xb2 => ?_
    have nl_lf : lf ≠ l := fun z => by rw [z] at hlf; rw [hlf] at hlsome; cases hlsome
    have nl_l3 : l3 ≠ l := fun z => by
      have h0 : H l3 = none := fresh_back (Ex.new hlf) hl3
      rw [z] at h0; rw [h0] at hlsome; cases hlsome
    have hlf2 : H2 lf = some (.lst []) := xb2 _ _ (by rw [upd_ne nlf3, upd_same]) (by simp [nl_lf])
    have hl32 : H2 l3 = some (.lst [.int 6, .int 20, .int 61]) := xb2 _ _ upd_same (by simp [nl_l3])
    obtain ⟨wide, hat, hw1, hw2⟩ : ∃ wide : Int, atI [V.int 6, .int 20, .int 61] r = some (.int wide) ∧ 0 < wide ∧ wide ≤ 61 := by
      have : r = 0 ∨ r = 1 ∨ r = 2 := by omega
      rcases this with rfl | rfl | rfl
      · exact ⟨6, rfl, by decide, by decide⟩
      · exact ⟨20, rfl, by decide, by decide⟩
      · exact ⟨61, rfl, by decide, by decide⟩
    refine ⟨l3, _, r, .int wide, rfl, rfl, sq_of hl32, hat, ?_⟩
    refine ⟨Nat.le_of_ble_eq_true rfl, fun t ht => ?_⟩
    have noL : ∀ m ∈ [l], NoT ((upd (upd H lf (.lst [])) l3 (.lst [.int 6, .int 20, .int 61])) m) := by
      simp only [List.mem_singleton]
      rintro m rfl
      exact (hrow.ex ex1).row.noT
    have env2 := ((env.mono (ex_tx ex1)).mono (xb2.tx noL)).mono (ex_tx (Ex.new (o := .tup [V.ref lf, .int wide]) ht))
    refine (jg_pair (C := ⟨P, w, K, mg, base, ["_law_row", "_law_most", "_law_found", "_law_wide", "_law_k", "_law_piece", "_law_j"], defScope s__law_drawing, 10, true⟩) (d1 := .ref lf) (d2 := .int wide) (fun _ => rfl) (fun _ => rfl) (fun _ => rfl) (fun _ => rfl) (jg_name (i := 2) sc_law_drawing.nd rfl rfl) (jg_nameC (i := 3) sc_law_drawing.nd rfl rfl rfl)).run X o _ _ _ _ env2 (.tup upd_same (.cons (.ref lf) (.cons (.int wide) .nil))) fun σ3 en3 _ _ => ?_
    replace en3 : EnvD K (upd H2 t (.tup [V.ref lf, .int wide])) σ3 [some (.ref l), some (.int (n : Int)), some (.ref lf), some (.int wide), none, none, none] := en3
    have hrow3 : RowAt K sc ns (upd H2 t (.tup [V.ref lf, .int wide])) l := hrow2.ex (Ex.new ht)
    have hlf3 : (upd H2 t (.tup [V.ref lf, .int wide])) lf = some (.lst []) := (Ex.new ht) _ _ hlf2
    have xb3 : ExB [l] H (upd H2 t (.tup [V.ref lf, .int wide])) := ((ExB.of ex1).trans xb2).trans (.of (Ex.new ht))
    clear env2 noL hat hl32 hlf2 hrow2 xb2 ex1
    show WB X _ _ σ3 (upd H2 t (.tup [V.ref lf, .int wide]))
    generalize upd H2 t (.tup [V.ref lf, .int wide]) = H3 at *
    -- for k in range(taken(row, most + 1))
    refine wb_cons (ws_forRM o pn (fun _ => rfl) rfl m1 (we_taken o en3 G1 (Nat.le_of_ble_eq_true rfl) rfl (fun _ => rfl) (fun _ _ => rfl) (n := (n : Int) + 1) (by walk_at "ja") hrow3 (by omega) (by omega) fun c H4 hc0 hcn hrow4 xb4 => ?_))
    have hlf4 : H4 lf = some (.lst []) := xb4 _ _ hlf3 (by simp [nl_lf])
    have en4 : EnvD K H4 σ3 [some (.ref l), some (.int (n : Int)), some (.ref lf), some (.int wide), none, none, none] := en3.mono (xb4.tx (by
      simp only [List.mem_singleton]
      rintro m rfl
      exact hrow3.row.noT))
    refine ⟨c, rfl, ⟨by omega, by omega⟩, [l, lf], fun k σ' H' => ∃ z4 z5 ps vs, EnvD K H' σ' [some (.ref l), some (.int (n : Int)), some (.ref lf), some (.int wide), z4, z5, none] ∧ ExB [l, lf] H4 H' ∧ RowAt K sc ns H' l ∧ H' lf = some (.lst vs) ∧ Dis K H' vs ((rawOf ps).map Dt.tup) ∧ Good ps ∧ ps.length ≤ k, ?_, ⟨_, _, [], [], en4, .of (Ex.refl _), hrow4, hlf4, .nil, Good.nil, Nat.le_refl _⟩, fun i σ' H' ⟨_, _, _, _, _, h, _⟩ => h, ?_, ?_⟩
    · simp only [List.mem_cons, List.not_mem_nil, or_false]
      rintro m (rfl | rfl)
      · exact hrow4.row.noT
      · rw [hlf4]; trivial
    · rintro k d σ5 H5 H6 hd ⟨z4, z5, ps, vs, en5, xb5, hrow5, hlf5, hdis5, hgood, hlen⟩ e6
      obtain ⟨hk, rfl⟩ := rngD_get hd
      refine ⟨_, _, _, en5.mono (ex_tx e6), jg_name (i := 4) sc_law_drawing.nd rfl rfl, fun σ6 en6 _ => ?_⟩
      replace en6 : EnvD K H6 σ6 [some (.ref l), some (.int (n : Int)), some (.ref lf), some (.int wide), some (.int (0 + (k : Int))), z5, none] := en6
      have hrow6 := hrow5.ex e6
      have hlf6 := e6 _ _ hlf5
      have hdis6 := hdis5.mono (ex_tx e6)
      have hno6 : NoT (H6 l) := hrow6.row.noT
      -- piece = tuple([taken(row, wide) for j in range(4)])
      have hl6s : (H6 l).isSome = true := hrow6.row.some
      refine wb_cons (PSw (ps_set (i := 5) (by rw [o.N]; exact sc_law_drawing.nd) (by rw [o.N]; rfl) (.inl (by rw [o.sc]; rfl)) (pe_callTy call_tuple_of (o.gl (x := "tuple") rfl) (o.fr m2) boot_tuple' (pa_cons pe_w pa_nil rfl) (by decide +kernel) (by decide +kernel) rfl) rfl (.inr (by rw [o.sc]; rfl))) ?_)
      refine we_lcM (j := 6) (n := 4) o en6 sc_law_drawing.nd (blkOk_by rfl) rfl rfl (fun _ => rfl) rfl m1 (by walk_at "je") (by decide) [l] (by simpa using hl6s) (fun i vs H1 => ExB [l] H6 H1 ∧ RowL H1 l sc ∧ vs.length = i ∧ ∃ is : List Int, vs = is.map V.int) (fun H1 e1 => ⟨.of e1, hrow6.row.exb (ms := []) (.of e1) (by simp), rfl, [], rfl⟩) (fun i vs H1 h => by simpa using h.2.1.noT) (fun i vs H1 D u hD h => ?_) (fun i vs H1 h => Nat.le_of_eq h.2.2.1) (fun X' o' i vs σ' H1 hi h en1 Q' q' => ?_) (fun l7 vs7 H7 hl7 xb7 hl7' h7 => ?_)
      · obtain ⟨h1, h2, h3⟩ := h
        have hlD : l ≠ D := fun z => by rw [z, hD] at hl6s; cases hl6s
        refine ⟨fun c u' hc nc => ?_, ?_, h3⟩
        · rw [upd_ne (ne_of_none hc hD)]; exact h1 _ _ hc nc
        · obtain ⟨p, m, g, r1, r2⟩ := h2
          exact ⟨p, m, g, by rw [upd_ne hlD]; exact r1, r2⟩
      · obtain ⟨h1, h2, h3, is, h4⟩ := h
        have hr1 : RowAt K sc ns H1 l := ⟨h2, hrow6.scr.exb h1 (by simpa using hrow6.row.noF)⟩
        refine we_taken o' en1 G1 (Nat.le_of_ble_eq_true rfl) rfl (fun _ => rfl) (fun _ _ => rfl) (n := wide) (by walk_at "ja") hr1 hw1 (by omega) fun r H2 hr0 hrn hrow2 xb2 => ?_
        exact q' _ _ xb2 ⟨h1.trans xb2, hrow2.row, by rw [List.length_append, h3]; rfl, is ++ [r], by rw [h4]; simp⟩
      · obtain ⟨_, hrL7, hlen7, is, rfl⟩ := h7
        have hrow7 : RowAt K sc ns H7 l := ⟨hrL7, hrow6.scr.exb xb7 (by simpa using hrow6.row.noF)⟩
        obtain ⟨i1, i2, i3, i4, rfl⟩ : ∃ i1 i2 i3 i4, is = [i1, i2, i3, i4] := by
          rcases is with _ | ⟨i1, _ | ⟨i2, _ | ⟨i3, _ | ⟨i4, _ | ⟨i5, is⟩⟩⟩⟩⟩ <;> simp at hlen7
          exact ⟨_, _, _, _, rfl⟩
        refine ⟨l7, _, rfl, .inl ⟨sq_of hl7', fun t8 ht8 => ?_⟩⟩
        have noL : ∀ m ∈ [l], NoT (H6 m) := by simpa using hno6
        have hlf7 : H7 lf = some (.lst vs) := xb7 _ _ hlf6 (by simp [nl_lf])
        have tx8 : Tx K H6 (upd H7 t8 (.tup ([i1, i2, i3, i4].map V.int))) := (xb7.tx noL).trans (ex_tx (Ex.new ht8))
        have di8 : Di K (upd H7 t8 (.tup ([i1, i2, i3, i4].map V.int))) (.ref t8) (.tup [.int i1, .int i2, .int i3, .int i4]) := .tup upd_same (.cons (.int _) (.cons (.int _) (.cons (.int _) (.cons (.int _) .nil))))
        have en8 := (en6.mono tx8).set (i := 5) di8
        have hdis8 := hdis6.mono tx8
        have hlf8 := (Ex.new (o := .tup ([i1, i2, i3, i4].map V.int)) ht8) _ _ hlf7
        have hrow8 := hrow7.ex (Ex.new (o := .tup ([i1, i2, i3, i4].map V.int)) ht8)
        have xb8 : ExB [l] H6 (upd H7 t8 (.tup ([i1, i2, i3, i4].map V.int))) := xb7.trans (.of (Ex.new ht8))
        show WB X _ _ _ (upd H7 t8 (.tup ([i1, i2, i3, i4].map V.int)))
        generalize upd H7 t8 (.tup ([i1, i2, i3, i4].map V.int)) = H8 at *
        have xb58 : ExB [l, lf] H4 H8 := (xb5.trans (.of e6)).trans fun c u hc nc => xb8 c u hc (by simp at nc ⊢; exact nc.1)
        have rk : RawOk (rawOf ps ++ [[.int i1, .int i2, .int i3, .int i4]]) := ⟨by simp [rawOf]; omega, fun r hr => by
          rcases List.mem_append.mp hr with h | h
          · exact (raw_ok (ps := ps) (by omega)).all r h
          · simp only [List.mem_singleton] at h
            subst h
            refine ⟨Nat.le_of_ble_eq_true rfl, fun e he => ?_⟩
            simp only [List.mem_cons, List.not_mem_nil, or_false] at he
            rcases he with rfl | rfl | rfl | rfl <;> rfl⟩
        refine wb_one (ws_if o en8 (jt_val (fun _ _ => rfl) (je_good (rs := rawOf ps ++ [[.int i1, .int i2, .int i3, .int i4]]) G2 (Nat.le_of_ble_eq_true rfl) rfl (fun _ => rfl) (jl_is (jl_catN (ds := (rawOf ps).map Dt.tup) (by walk_at "je") hlf8 hdis8 (jl_lst (ds := [.tup [.int i1, .int i2, .int i3, .int i4]]) (by walk_at "ja") (Nat.le_of_ble_eq_true rfl)) (by simp [rawOf]; omega)) (by simp)) rk)) (fun hk H9 e9 en9 => ?_) (fun hk H9 e9 en9 => wb_nil ⟨_, _, ps, vs, en9, xb58.trans (.of e9), hrow8.ex e9, e9 _ _ hlf8, hdis8.mono (ex_tx e9), hgood, by omega⟩))
        obtain ⟨ps', hps'⟩ : ∃ ps', scan (rawOf ps ++ [[.int i1, .int i2, .int i3, .int i4]]) = .ok ps' := by
          revert hk
          cases scan (rawOf ps ++ [[.int i1, .int i2, .int i3, .int i4]]) with
          | error i => intro hk; cases hk
          | ok ps' => intro _; exact ⟨ps', rfl⟩
        obtain ⟨hg', hr'⟩ := good_of hps'
        have hl' : ps'.length = ps.length + 1 := by
          have := congrArg List.length hr'
          simpa [rawOf] using this
        refine wb_one (ws_append o en9 (fun _ => rfl) (fun _ => rfl) (fun _ => rfl) (by walk_at "je") (e9 _ _ hlf8) (by rw [hdis8.length]; simp [rawOf]; omega) (d := .tup [.int i1, .int i2, .int i3, .int i4]) (by walk_at "je") (fun _ => rfl) rfl fun v H10 e10 hv en10 tx10 => ?_)
        have hlf10 : H10 lf = some (.lst vs) := e10 _ _ (e9 _ _ hlf8)
        refine ⟨_, _, ps', vs ++ [v], en10, ?_, ?_, upd_same, ?_, hg', by omega⟩
        · exact exb_upd (xb58.trans (.of (e9.trans e10))) (by simp)
        · have r10 := hrow8.ex (e9.trans e10)
          have xbu : ExB [lf] H10 (upd H10 lf (.lst (vs ++ [v]))) := exb_upd (.of (Ex.refl _)) (by simp)
          exact ⟨r10.row.exb xbu (by simpa using Ne.symm nl_lf), r10.scr.exb xbu (by simp [hlf10, NoF])⟩
        · rw [hr', List.map_append]
          exact ((hdis8.mono (ex_tx (e9.trans e10))).append (.cons hv .nil)).mono tx10
    · rintro σ5 H5 ⟨z4, z5, ps, vs, en5, xb5, hrow5, hlf5, hdis5, hgood, hlen⟩
      refine wb_one (PSw (ps_ret pe_w) ?_)
      refine we_drawing o en5 M tk (Nat.le_of_ble_eq_true rfl) rfl (fun _ => rfl) (je_tupL (fun _ => rfl) rfl m2 (by walk_at "je") (sq_of hlf5) hdis5) (raw_ok (by omega)) (fun i hi dd H' σ' e' hd h' => ?_) (fun ps' x H' hp e' hx hD => ?_)
      · rw [show scan (rawOf ps) = .ok ps from hgood] at hi
        cases hi
      · rw [show scan (rawOf ps) = .ok ps from hgood] at hp
        cases hp
        refine q ps x H' (by omega) hgood (hrow5.ex e') ?_ ?_ hD
        · intro c u hc nc
          have nclf : c ≠ lf := fun z => by rw [z, hlf] at hc; cases hc
          have ncl : c ≠ l := by simpa using nc
          exact e' _ _ (xb5 _ _ (xb4 _ _ (xb3 _ _ hc nc) nc) (by simp [ncl, nclf]))
        · cases hH : H x with
          | none => rfl
          | some u =>
            exfalso
            have nclf : x ≠ lf := fun z => by rw [z, hlf] at hH; cases hH
            by_cases ncl : x = l
            · rw [ncl] at hx
              have := hrow5.row.some
              rw [hx] at this; cases this
            · have := xb5 _ _ (xb4 _ _ (xb3 _ _ hH (by simpa using ncl)) (by simpa using ncl)) (by simp [ncl, nclf])
              rw [hx] at this; cases this
end
end Led

set_option maxRecDepth 100000
set_option maxHeartbeats 4000000
namespace Led
open PySem L2 Evl
local macro_rules | `(tactic| walk_at "at") => `(tactic| first
  | with_reducible exact At.here
  | (with_reducible refine' At.there ?h0; (case h0 => walk_at "at")))
local macro_rules | `(tactic| walk_at "vis") => `(tactic| first
  | exact Or.inl rfl
  | exact Or.inr (Or.inl rfl)
  | exact Or.inr (Or.inr rfl))
local macro_rules | `(tactic| walk_at "kit") => `(tactic| first
  | with_reducible exact kit_ii
  | with_reducible exact kit_ib
  | with_reducible exact kit_it
  | with_reducible exact kit_is
  | with_reducible exact kit_bi
  | with_reducible exact kit_bb
  | with_reducible exact kit_bt
  | with_reducible exact kit_bs
  | with_reducible exact kit_si
  | with_reducible exact kit_sb
  | with_reducible exact kit_st
  | with_reducible exact kit_ss
  | with_reducible exact kit_ni
  | with_reducible exact kit_nb
  | with_reducible exact kit_nt
  | with_reducible exact kit_ns
  | with_reducible exact kit_ti
  | with_reducible exact kit_tb
  | with_reducible exact kit_tt
  | with_reducible exact kit_ts)
local macro_rules | `(tactic| walk_at "je") => `(tactic| first
  | exact je_int
  | exact je_bl
  | exact je_non
  | exact je_str
  | (refine' je_var ?h0 ?h1 ?h2 ?h3; (case h0 => walk_at "at"); (case h1 => walk_at "vis"); (case h2 => decide +kernel); (case h3 => decide +kernel))
  | (refine' je_var2 ?h0 ?h1 ?h2 ?h3; (case h0 => rfl); (case h1 => walk_at "vis"); (case h2 => decide +kernel); (case h3 => decide +kernel))
  | (refine' je_globI ?h0 ?h1 ?h2; (case h0 => rfl); (case h1 => with_reducible assumption); (case h2 => decide +kernel))
  | (refine' je_globS ?h0 ?h1 ?h2; (case h0 => rfl); (case h1 => with_reducible assumption); (case h2 => decide +kernel))
  | (refine' je_add ?h0 ?h1; (case h0 => walk_at "je"); (case h1 => walk_at "je"))
  | (refine' je_sub ?h0 ?h1; (case h0 => walk_at "je"); (case h1 => walk_at "je"))
  | (refine' je_lt ?h0 ?h1; (case h0 => walk_at "je"); (case h1 => walk_at "je"))
  | (refine' je_le ?h0 ?h1; (case h0 => walk_at "je"); (case h1 => walk_at "je"))
  | (refine' je_gt ?h0 ?h1; (case h0 => walk_at "je"); (case h1 => walk_at "je"))
  | (refine' je_ge ?h0 ?h1; (case h0 => walk_at "je"); (case h1 => walk_at "je"))
  | (refine' je_eqI ?h0 ?h1; (case h0 => walk_at "je"); (case h1 => walk_at "je"))
  | (refine' je_neI ?h0 ?h1; (case h0 => walk_at "je"); (case h1 => walk_at "je"))
  | (refine' je_mul ?h0 ?h1 ?h2; (case h0 => walk_at "je"); (case h1 => walk_at "je"); (case h2 => walk_at "side"))
  | (refine' je_div ?h0 ?h1 ?h2; (case h0 => walk_at "je"); (case h1 => walk_at "je"); (case h2 => walk_at "side"))
  | (refine' je_mod ?h0 ?h1 ?h2; (case h0 => walk_at "je"); (case h1 => walk_at "je"); (case h2 => walk_at "side"))
  | (refine' je_lele ?h0 ?h1 ?h2 ?h3; (case h0 => walk_at "je"); (case h1 => walk_at "je"); (case h2 => walk_at "je"); (case h3 => with_unfolding_all rfl))
  | (refine' je_isN ?h0; (case h0 => walk_at "je"))
  | (refine' je_notN ?h0; (case h0 => walk_at "je"))
  | (refine' je_not ?h0; (case h0 => walk_at "je"))
  | (refine' je_one ?h0; (case h0 => walk_at "je"))
  | (refine' je_un ?h0; (case h0 => walk_at "je"))
  | (refine' je_andB ?h0 (fun _ => ?h1); (case h0 => walk_at "je"); (case h1 => walk_at "je"))
  | (refine' je_orB ?h0 (fun _ => ?h1); (case h0 => walk_at "je"); (case h1 => walk_at "je"))
  | (refine' je_notT ?h0; (case h0 => walk_at "je"))
  | (refine' je_notF ?h0; (case h0 => walk_at "je"))
  | (refine' je_andF ?h0; (case h0 => walk_at "je"))
  | (refine' je_orT ?h0; (case h0 => walk_at "je"))
  | (refine' je_if ?h0 (fun _ => ?h1) (fun _ => ?h2); (case h0 => walk_at "jt"); (case h1 => walk_at "je"); (case h2 => walk_at "je"))
  | (refine' je_tup ?h0 ?h1; (case h0 => walk_at "ja"); (case h1 => walk_at "side"))
  | (refine' je_ixT ?h0 ?h1 ?h2 ?h3; (case h0 => exact fun _ _ => rfl); (case h1 => walk_at "je"); (case h2 => walk_at "je"); (case h3 => walk_at "ix"))
  | (refine' je_ixN ?h0 ?h1 ?h2 ?h3; (case h0 => exact fun _ _ => rfl); (case h1 => walk_at "jl"); (case h2 => walk_at "je"); (case h3 => walk_at "ix"))
  | (refine' je_sl ?h0 ?h1 ?h2 ?h3; (case h0 => walk_at "je"); (case h1 => walk_at "jo"); (case h2 => walk_at "jo"); (case h3 => walk_at "side"))
  | (refine' je_abs ?h0 ?h1 ?h2 ?h3; (case h0 => exact fun _ => rfl); (case h1 => rfl); (case h2 => with_reducible assumption); (case h3 => walk_at "je"))
  | (refine' je_int1 ?h0 ?h1 ?h2 ?h3; (case h0 => exact fun _ => rfl); (case h1 => rfl); (case h2 => with_reducible assumption); (case h3 => walk_at "je"))
  | (refine' je_max2 ?h0 ?h1 ?h2 ?h3 ?h4; (case h0 => exact fun _ => rfl); (case h1 => exact fun _ _ => rfl); (case h2 => rfl); (case h3 => with_reducible assumption); (case h4 => walk_at "ja"))
  | (refine' je_min2 ?h0 ?h1 ?h2 ?h3 ?h4; (case h0 => exact fun _ => rfl); (case h1 => exact fun _ _ => rfl); (case h2 => rfl); (case h3 => with_reducible assumption); (case h4 => walk_at "ja"))
  | (refine' je_lenT ?h0 ?h1 ?h2 ?h3; (case h0 => exact fun _ => rfl); (case h1 => rfl); (case h2 => with_reducible assumption); (case h3 => walk_at "je"))
  | (refine' je_tupN ?h0 ?h1 ?h2 ?h3; (case h0 => exact fun _ => rfl); (case h1 => rfl); (case h2 => with_reducible assumption); (case h3 => walk_at "jl"))
  | (refine' je_all ?h0 ?h1 ?h2 ?h3; (case h0 => exact fun _ => rfl); (case h1 => rfl); (case h2 => with_reducible assumption); (case h3 => walk_at "jl"))
  | (refine' je_any ?h0 ?h1 ?h2 ?h3; (case h0 => exact fun _ => rfl); (case h1 => rfl); (case h2 => with_reducible assumption); (case h3 => walk_at "jl"))
  | (refine' je_isiI ?h0 ?h1 ?h2 ?h3 ?h4 ?h5 ?h6 ?h7; (case h0 => exact fun _ => rfl); (case h1 => rfl); (case h2 => with_reducible assumption); (case h3 => rfl); (case h4 => with_reducible assumption); (case h5 => walk_at "je"); (case h6 => rfl); (case h7 => walk_at "kit"))
  | (refine' je_isiB ?h0 ?h1 ?h2 ?h3 ?h4 ?h5 ?h6 ?h7; (case h0 => exact fun _ => rfl); (case h1 => rfl); (case h2 => with_reducible assumption); (case h3 => rfl); (case h4 => with_reducible assumption); (case h5 => walk_at "je"); (case h6 => rfl); (case h7 => walk_at "kit"))
  | (refine' je_isiT ?h0 ?h1 ?h2 ?h3 ?h4 ?h5 ?h6 ?h7; (case h0 => exact fun _ => rfl); (case h1 => rfl); (case h2 => with_reducible assumption); (case h3 => rfl); (case h4 => with_reducible assumption); (case h5 => walk_at "je"); (case h6 => rfl); (case h7 => walk_at "kit"))
  | (refine' je_isiS ?h0 ?h1 ?h2 ?h3 ?h4 ?h5 ?h6 ?h7; (case h0 => exact fun _ => rfl); (case h1 => rfl); (case h2 => with_reducible assumption); (case h3 => rfl); (case h4 => with_reducible assumption); (case h5 => walk_at "je"); (case h6 => rfl); (case h7 => walk_at "kit"))
  | (refine' je_call ?h0 ?h1 ?h2 ?h3 ?h4 ?h5 ?h6 ?h7; (case h0 => with_reducible assumption); (case h1 => exact Nat.le_of_ble_eq_true rfl); (case h2 => rfl); (case h3 => decide +kernel); (case h4 => exact fun _ => rfl); (case h5 => exact fun _ _ => rfl); (case h6 => walk_at "ja"); (case h7 => walk_at "rel"))
  | (refine' je_cat ?h0 ?h1 ?h2 ?h3; (case h0 => walk_at "je"); (case h1 => walk_at "je"); (case h2 => walk_at "side"); (case h3 => walk_at "side")))
local macro_rules | `(tactic| walk_at "jt") => `(tactic| first
  | (refine' jt_lt ?h0 ?h1; (case h0 => walk_at "je"); (case h1 => walk_at "je"))
  | (refine' jt_le ?h0 ?h1; (case h0 => walk_at "je"); (case h1 => walk_at "je"))
  | (refine' jt_gt ?h0 ?h1; (case h0 => walk_at "je"); (case h1 => walk_at "je"))
  | (refine' jt_ge ?h0 ?h1; (case h0 => walk_at "je"); (case h1 => walk_at "je"))
  | (refine' jt_eqI ?h0 ?h1; (case h0 => walk_at "je"); (case h1 => walk_at "je"))
  | (refine' jt_neI ?h0 ?h1; (case h0 => walk_at "je"); (case h1 => walk_at "je"))
  | (refine' jt_lele ?h0 ?h1 ?h2 ?h3; (case h0 => walk_at "je"); (case h1 => walk_at "je"); (case h2 => walk_at "je"); (case h3 => with_unfolding_all rfl))
  | (refine' jt_isN ?h0; (case h0 => walk_at "je"))
  | (refine' jt_notN ?h0; (case h0 => walk_at "je"))
  | (refine' jt_not ?h0; (case h0 => walk_at "jt"))
  | (refine' jt_w ?h0; (case h0 => walk_at "jw"))
  | (refine' jt_val ?h0 ?h1; (case h0 => exact fun _ _ => rfl); (case h1 => walk_at "je")))
local macro_rules | `(tactic| walk_at "jw") => `(tactic| first
  | (refine' jw_and1 ?h0; (case h0 => walk_at "jt"))
  | (refine' jw_or1 ?h0; (case h0 => walk_at "jt"))
  | (refine' jw_and ?h0 (fun _ => ?h1); (case h0 => walk_at "jt"); (case h1 => walk_at "jw"))
  | (refine' jw_or ?h0 (fun _ => ?h1); (case h0 => walk_at "jt"); (case h1 => walk_at "jw"))
  | (refine' jw_andF ?h0; (case h0 => walk_at "jt"))
  | (refine' jw_orT ?h0; (case h0 => walk_at "jt")))
local macro_rules | `(tactic| walk_at "ja") => `(tactic| first
  | exact ja_nil
  | (refine' ja_cons ?h0 ?h1 ?h2; (case h0 => exact fun _ => rfl); (case h1 => walk_at "je"); (case h2 => walk_at "ja")))
local macro_rules | `(tactic| walk_at "jo") => `(tactic| first
  | exact jo_none
  | (refine' jo_some ?h0; (case h0 => walk_at "je")))
local macro_rules | `(tactic| walk_at "jl") => `(tactic| first
  | (refine' jl_lst ?h0 ?h1; (case h0 => walk_at "ja"); (case h1 => walk_at "side"))
  | (refine' jl_list ?h0 ?h1 ?h2 ?h3; (case h0 => exact fun _ => rfl); (case h1 => rfl); (case h2 => with_reducible assumption); (case h3 => walk_at "je")))
local macro_rules | `(tactic| walk_at "ix") => `(tactic| first
  | rfl
  | assumption)
local macro_rules | `(tactic| walk_at "side") => `(tactic| first
  | exact Nat.le_of_ble_eq_true rfl
  | omega
  | exact ⟨by omega, by omega⟩
  | exact Or.inl ⟨by omega, by omega⟩
  | exact Or.inr ⟨by omega, by omega⟩
  | exact fun z => absurd z.1 (Nat.ne_of_beq_eq_false rfl)
  | exact fun z => absurd z.2 (Nat.ne_of_beq_eq_false rfl)
  | exact List.cons_ne_nil _ _
  | assumption)
local macro_rules | `(tactic| walk_at "rel") => `(tactic| first
  | assumption)
section
variable {P : Program} {w : World} {K : PySem.W.Frag} {mg : Str → Option Value} {base : Heap}
/-! ### methods of Drawing -/
def spDr (K : PySem.W.Frag) (CD : Addr) (T : DrT K CD) (g : List Pc → Dt) : Sp := fun vs H Q _ => ∃ (a : Addr) (ps : List Pc), vs = [.ref a] ∧ DrAt K CD T H a ps ∧ ∀ v H', Ex H H' → Di K H' v (g ps) → Q v H'
def spDrEq (K : PySem.W.Frag) (CD : Addr) (T : DrT K CD) : Sp := fun vs H Q _ => ∃ (a b : Addr) (ps qs : List Pc), vs = [.ref a, .ref b] ∧ DrAt K CD T H a ps ∧ DrAt K CD T H b qs ∧ ∀ H', Ex H H' → Q (.bl ((Dt.tup (ps.map Pc.d)).eq (.tup (qs.map Pc.d)))) H'
theorem je_lines {C : Ct} {ρ : Rh} {H : Hp} {a : Expr} {pos : Pos} {CD x : Addr} {T : DrT C.K CD} {ps : List Pc} (hb : ∀ env, attributeBase a "lines" env (eval a env) = eval a env) (ha : JE C ρ H a (.ref x)) (hD : DrAt C.K CD T H x ps) : JE C ρ H (.Attribute a "lines" pos) (.tup (ps.map Pc.d)) := by
  obtain ⟨dx, vs, vl, d, kvs, h1, h2, h3, h4, h5, h6⟩ := hD
  exact je_slot hb ha h1 T.cls T.sl h2 h4
theorem okD_ps (ps : List Pc) : okD 2 (.tup (ps.map Pc.d)) = true := by
  show (ps.map Pc.d).all (okD 1) = true
  rw [List.all_map, List.all_eq_true]
  intro p _
  rfl
theorem sc_Drawing_pieces : FnScope ["self"] ["self"] (defScope s_Drawing_pieces) := ⟨rfl, rfl, rfl, by decide +kernel, rfl, by decide +kernel, by decide +kernel⟩
theorem sc_Drawing_len : FnScope ["self"] ["self"] (defScope s_Drawing___len__) := ⟨rfl, rfl, rfl, by decide +kernel, rfl, by decide +kernel, by decide +kernel⟩
theorem sc_Drawing_eq : FnScope ["self", "other"] ["self", "other"] (defScope s_Drawing___eq__) := ⟨rfl, rfl, rfl, by decide +kernel, rfl, by decide +kernel, by decide +kernel⟩
theorem ok_Drawing_pieces {f CD : Addr} {fd : FuncData} {T : DrT K CD} (F : Fun K "pieces" "Drawing.pieces" s_Drawing_pieces f fd) : FnOk P w K mg base CX0 1 f fd ["self"] (spDr K CD T fun ps => .tup (ps.map Pc.d)) := by
  refine fn_sp F sc_Drawing_pieces (fun vs H Q E h => ?_) (fun X vs H Q E o pn hst hfr tk h => ?_)
  · obtain ⟨a, ps, rfl, _⟩ := h
    rfl
  · obtain ⟨a, ps, rfl, hD, q⟩ := h
    have env : EnvD K H (L2.start ["self"] [.ref a]) [some (.ref a)] := env_start (.cons (.ref a) .nil)
    exact wb_one (ws_ret o env (je_lines (C := ⟨P, w, K, mg, base, _, _, _, _⟩) (fun _ => rfl) (by walk_at "je") hD) fun v H2 e2 hv => q v H2 e2 hv)
theorem ok_Drawing_len {f CD : Addr} {fd : FuncData} {T : DrT K CD} (F : Fun K "__len__" "Drawing.__len__" s_Drawing___len__ f fd) (m1 : mg "len" = none) : FnOk P w K mg base CX0 1 f fd ["self"] (spDr K CD T fun ps => .int (ps.length : Int)) := by
  refine fn_sp F sc_Drawing_len (fun vs H Q E h => ?_) (fun X vs H Q E o pn hst hfr tk h => ?_)
  · obtain ⟨a, ps, rfl, _⟩ := h
    rfl
  · obtain ⟨a, ps, rfl, hD, q⟩ := h
    have env : EnvD K H (L2.start ["self"] [.ref a]) [some (.ref a)] := env_start (.cons (.ref a) .nil)
    refine wb_one (ws_ret o env (je_is (je_lenT (fun _ => rfl) rfl m1 (je_lines (C := ⟨P, w, K, mg, base, _, _, _, _⟩) (fun _ => rfl) (by walk_at "je") hD)) (by rw [List.length_map])) fun v H2 e2 hv => q v H2 e2 hv)
theorem je_isiSl {C : Ct} {ρ : Rh} {H : Hp} {a : Expr} {p p' pos : Pos} {CD x : Addr} {T : DrT C.K CD} {ps : List Pc} {nm : Str} (hs : NoStar a [.Name nm p']) (hg : GlN C "isinstance") (hm : C.mg "isinstance" = none) (hgC : GlN C nm) (hmC : C.mg nm = some (.ref CD)) (hd : (nm == ("__debug__" : Str)) = false) (ha : JE C ρ H a (.ref x)) (hD : DrAt C.K CD T H x ps) (si : SlX.SIsi C.K CD) (ki : PySem.W.kitOne C.K (.ref CD) (.ref CD) = some true) : JE C ρ H (.Call (Nm "isinstance" p) [a, .Name nm p'] [] pos) (.bl true) := ⟨fun X o hN σ H1 e1 env Q q => by
  refine PEw (pe_callB (SlX.call_isiSl (.ref CD)) (o.gl hg) (o.fr hm) boot_isi' (pa_cons pe_w (pa_cons (pe_glob (v := .ref CD) (o.gl hgC) (o.fr hmC) rfl hd) pa_nil rfl) (hs _)) (by decide +kernel) (by decide +kernel) (hs _) rfl) ?_
  refine ha.run X o hN σ H1 e1 env _ fun v H2 e2 qv => ?_
  rw [qv.ref_inv]
  obtain ⟨dx, vs, vl, d, kvs, h1, _⟩ := hD.mono (e1.trans e2)
  exact ⟨x, CD, dx, vs, .ref CD, true, rfl, rfl, fun w h => h, h1, by rw [o.K]; exact T.cls, by rw [o.K]; exact si, by rw [o.K]; exact ki, q _ H2 e2 (.bl true)⟩⟩
theorem ok_Drawing_eq {f CD : Addr} {fd : FuncData} {T : DrT K CD} (F : Fun K "__eq__" "Drawing.__eq__" s_Drawing___eq__ f fd) (m1 : mg "isinstance" = none) (gm : mg "Drawing" = some (.ref CD)) (si : SlX.SIsi K CD) (ki : PySem.W.kitOne K (.ref CD) (.ref CD) = some true) : FnOk P w K mg base CX0 1 f fd ["self", "other"] (spDrEq K CD T) := by
  refine fn_sp F sc_Drawing_eq (fun vs H Q E h => ?_) (fun X vs H Q E o pn hst hfr tk h => ?_)
  · obtain ⟨a, b, ps, qs, rfl, _⟩ := h
    rfl
  · obtain ⟨a, b, ps, qs, rfl, hD, hD', q⟩ := h
    have env : EnvD K H (L2.start ["self", "other"] [.ref a, .ref b]) [some (.ref a), some (.ref b)] := env_start (.cons (.ref a) (.cons (.ref b) .nil))
    refine wb_one (ws_ret (d := .bl (true && (Dt.tup (ps.map Pc.d)).eq (.tup (qs.map Pc.d)))) o env (je_andB (je_isiSl (C := ⟨P, w, K, mg, base, _, _, _, _⟩) (CD := CD) (T := T) (fun _ => rfl) rfl m1 rfl gm (by decide +kernel) (by walk_at "je") hD' si ki) fun _ => je_one (je_eqD 2 (by decide) (je_lines (C := ⟨P, w, K, mg, base, _, _, _, _⟩) (fun _ => rfl) (by walk_at "je") hD) (je_lines (C := ⟨P, w, K, mg, base, _, _, _, _⟩) (fun _ => rfl) (by walk_at "je") hD') (okD_ps ps) (okD_ps qs))) fun v H2 e2 hv => ?_)
    rw [hv.bl_inv]
    exact q H2 e2
structure DrM (P : Program) (w : World) (K : PySem.W.Frag) (mg : Str → Option Value) (base : Heap) (CD : Addr) (T : DrT K CD) : Prop where
  len : ∃ f, PySem.W.findIn K (.ref CD) "__len__" = some (some (.ref f)) ∧ PySem.W.isFn K (.ref f) = true ∧ FnR P w K mg base CX0 1 f (spDr K CD T fun ps => .int (ps.length : Int))
  prop : ∃ p g, PySem.W.findIn K (.ref CD) "pieces" = some (some (.ref p)) ∧ PySem.W.specialIn K (.ref p) "__get__" = some (some (.builtin "property.__get__")) ∧ PySem.W.takesIn K (.ref p) = some true ∧ (∃ rest, PySem.W.recIn K p "property" = some (.ref g :: rest)) ∧ FnR P w K mg base CX0 1 g (spDr K CD T fun ps => .tup (ps.map Pc.d))
  eq : ∃ f, PySem.W.mroIn K CD (.type "object") = some true ∧ PySem.W.findIn K (.ref CD) "__ne__" = some (some (.builtin "object.__ne__")) ∧ PySem.W.findIn K (.ref CD) "__eq__" = some (some (.ref f)) ∧ PySem.W.isFn K (.ref f) = true ∧ FnR P w K mg base CX0 1 f (spDrEq K CD T)
theorem DrAt.slt {CD : Addr} {T : DrT K CD} {H : Hp} {a : Addr} {ps : List Pc} (h : DrAt K CD T H a ps) : ∃ dx vs, SlX.Slt H a CD dx vs := by
  obtain ⟨dx, vs, vl, d, kvs, h1, _⟩ := h
  exact ⟨dx, vs, h1⟩
theorem je_drLen {N : List Str} {sc : Scope} {lv : Nat} {bf : Bool} {ρ : Rh} {H : Hp} {e : Expr} {p pos : Pos} {CD x : Addr} {T : DrT K CD} {ps : List Pc} (M : DrM P w K mg base CD T) (hlv : 2 ≤ lv) (hs : NoStar e []) (hg : GlN (Ct.mk P w K mg base N sc lv bf) "len") (hm : mg "len" = none) (he : JE (Ct.mk P w K mg base N sc lv bf) ρ H e (.ref x)) (hD : DrAt K CD T H x ps) (hz : ps.length ≤ 1000) : JE (Ct.mk P w K mg base N sc lv bf) ρ H (.Call (Nm "len" p) [e] [] pos) (.int (ps.length : Int)) := ⟨fun X o hN σ H1 e1 env Q q => by
  obtain ⟨f, h1, h2, F⟩ := M.len
  obtain ⟨o1, o2, o3, o4, o5, o6, o7, o8, o9, o10⟩ := id o
  dsimp only at o1 o2 o3 o4 o5
  subst o1 o2 o3 o4 o5
  refine PEw (pe_callB (call_lenSl F (o9.mono hlv) pass0 (E := fun _ _ _ => False) h1 h2) (o.gl hg) hm boot_len' (pa_cons pe_w pa_nil (hs _)) (by decide +kernel) (by decide +kernel) (hs _)) ?_
  refine he.run X o o6 σ H1 e1 env _ fun v H2 e2 qv => ?_
  rw [qv.ref_inv]
  have hD2 := hD.mono (e1.trans e2)
  obtain ⟨dx, vs, hsl⟩ := hD2.slt
  refine ⟨x, dx, vs, rfl, hsl, x, ps, rfl, hD2, fun v H' e' hv => ⟨_, hv.int_inv, ⟨by omega, by omega⟩, q _ H' (e2.trans e') (.int _)⟩⟩⟩
theorem je_drPieces {N : List Str} {sc : Scope} {lv : Nat} {bf : Bool} {ρ : Rh} {H : Hp} {e : Expr} {pos : Pos} {CD x : Addr} {T : DrT K CD} {ps : List Pc} (M : DrM P w K mg base CD T) (hlv : 2 ≤ lv) (hb : ∀ env, attributeBase e "pieces" env (eval e env) = eval e env) (he : JE (Ct.mk P w K mg base N sc lv bf) ρ H e (.ref x)) (hD : DrAt K CD T H x ps) : JE (Ct.mk P w K mg base N sc lv bf) ρ H (.Attribute e "pieces" pos) (.tup (ps.map Pc.d)) := ⟨fun X o hN σ H1 e1 env Q q => by
  obtain ⟨p, g, h1, h2, h3, h4, F⟩ := M.prop
  obtain ⟨o1, o2, o3, o4, o5, o6, o7, o8, o9, o10⟩ := id o
  dsimp only at o1 o2 o3 o4 o5
  subst o1 o2 o3 o4 o5
  refine PEw (SlX.pe_propSl (E := fun _ _ _ => False) pe_w T.cls h1 h2 h3 h4 F (o9.mono hlv) (fun _ _ _ _ h => h) (hb _)) ?_
  refine he.run X o o6 σ H1 e1 env _ fun v H2 e2 qv => ?_
  rw [qv.ref_inv]
  have hD2 := hD.mono (e1.trans e2)
  obtain ⟨dx, vs, hsl⟩ := hD2.slt
  exact ⟨x, dx, vs, rfl, hsl, x, ps, rfl, hD2, fun v H' e' hv => q v H' (e2.trans e') hv⟩⟩
end
end Led

set_option maxRecDepth 100000
set_option maxHeartbeats 4000000
namespace Led
open PySem L2 Evl
local macro_rules | `(tactic| walk_at "at") => `(tactic| first
  | with_reducible exact At.here
  | (with_reducible refine' At.there ?h0; (case h0 => walk_at "at")))
local macro_rules | `(tactic| walk_at "vis") => `(tactic| first
  | exact Or.inl rfl
  | exact Or.inr (Or.inl rfl)
  | exact Or.inr (Or.inr rfl))
local macro_rules | `(tactic| walk_at "kit") => `(tactic| first
  | with_reducible exact kit_ii
  | with_reducible exact kit_ib
  | with_reducible exact kit_it
  | with_reducible exact kit_is
  | with_reducible exact kit_bi
  | with_reducible exact kit_bb
  | with_reducible exact kit_bt
  | with_reducible exact kit_bs
  | with_reducible exact kit_si
  | with_reducible exact kit_sb
  | with_reducible exact kit_st
  | with_reducible exact kit_ss
  | with_reducible exact kit_ni
  | with_reducible exact kit_nb
  | with_reducible exact kit_nt
  | with_reducible exact kit_ns
  | with_reducible exact kit_ti
  | with_reducible exact kit_tb
  | with_reducible exact kit_tt
  | with_reducible exact kit_ts)
local macro_rules | `(tactic| walk_at "je") => `(tactic| first
  | exact je_int
  | exact je_bl
  | exact je_non
  | exact je_str
  | (refine' je_var ?h0 ?h1 ?h2 ?h3; (case h0 => walk_at "at"); (case h1 => walk_at "vis"); (case h2 => decide +kernel); (case h3 => decide +kernel))
  | (refine' je_var2 ?h0 ?h1 ?h2 ?h3; (case h0 => rfl); (case h1 => walk_at "vis"); (case h2 => decide +kernel); (case h3 => decide +kernel))
  | (refine' je_globI ?h0 ?h1 ?h2; (case h0 => rfl); (case h1 => with_reducible assumption); (case h2 => decide +kernel))
  | (refine' je_globS ?h0 ?h1 ?h2; (case h0 => rfl); (case h1 => with_reducible assumption); (case h2 => decide +kernel))
  | (refine' je_add ?h0 ?h1; (case h0 => walk_at "je"); (case h1 => walk_at "je"))
  | (refine' je_sub ?h0 ?h1; (case h0 => walk_at "je"); (case h1 => walk_at "je"))
  | (refine' je_lt ?h0 ?h1; (case h0 => walk_at "je"); (case h1 => walk_at "je"))
  | (refine' je_le ?h0 ?h1; (case h0 => walk_at "je"); (case h1 => walk_at "je"))
  | (refine' je_gt ?h0 ?h1; (case h0 => walk_at "je"); (case h1 => walk_at "je"))
  | (refine' je_ge ?h0 ?h1; (case h0 => walk_at "je"); (case h1 => walk_at "je"))
  | (refine' je_eqI ?h0 ?h1; (case h0 => walk_at "je"); (case h1 => walk_at "je"))
  | (refine' je_neI ?h0 ?h1; (case h0 => walk_at "je"); (case h1 => walk_at "je"))
  | (refine' je_mul ?h0 ?h1 ?h2; (case h0 => walk_at "je"); (case h1 => walk_at "je"); (case h2 => walk_at "side"))
  | (refine' je_div ?h0 ?h1 ?h2; (case h0 => walk_at "je"); (case h1 => walk_at "je"); (case h2 => walk_at "side"))
  | (refine' je_mod ?h0 ?h1 ?h2; (case h0 => walk_at "je"); (case h1 => walk_at "je"); (case h2 => walk_at "side"))
  | (refine' je_lele ?h0 ?h1 ?h2 ?h3; (case h0 => walk_at "je"); (case h1 => walk_at "je"); (case h2 => walk_at "je"); (case h3 => with_unfolding_all rfl))
  | (refine' je_isN ?h0; (case h0 => walk_at "je"))
  | (refine' je_notN ?h0; (case h0 => walk_at "je"))
  | (refine' je_not ?h0; (case h0 => walk_at "je"))
  | (refine' je_one ?h0; (case h0 => walk_at "je"))
  | (refine' je_un ?h0; (case h0 => walk_at "je"))
  | (refine' je_andB ?h0 (fun _ => ?h1); (case h0 => walk_at "je"); (case h1 => walk_at "je"))
  | (refine' je_orB ?h0 (fun _ => ?h1); (case h0 => walk_at "je"); (case h1 => walk_at "je"))
  | (refine' je_notT ?h0; (case h0 => walk_at "je"))
  | (refine' je_notF ?h0; (case h0 => walk_at "je"))
  | (refine' je_andF ?h0; (case h0 => walk_at "je"))
  | (refine' je_orT ?h0; (case h0 => walk_at "je"))
  | (refine' je_if ?h0 (fun _ => ?h1) (fun _ => ?h2); (case h0 => walk_at "jt"); (case h1 => walk_at "je"); (case h2 => walk_at "je"))
  | (refine' je_tup ?h0 ?h1; (case h0 => walk_at "ja"); (case h1 => walk_at "side"))
  | (refine' je_ixT ?h0 ?h1 ?h2 ?h3; (case h0 => exact fun _ _ => rfl); (case h1 => walk_at "je"); (case h2 => walk_at "je"); (case h3 => walk_at "ix"))
  | (refine' je_ixN ?h0 ?h1 ?h2 ?h3; (case h0 => exact fun _ _ => rfl); (case h1 => walk_at "jl"); (case h2 => walk_at "je"); (case h3 => walk_at "ix"))
  | (refine' je_sl ?h0 ?h1 ?h2 ?h3; (case h0 => walk_at "je"); (case h1 => walk_at "jo"); (case h2 => walk_at "jo"); (case h3 => walk_at "side"))
  | (refine' je_abs ?h0 ?h1 ?h2 ?h3; (case h0 => exact fun _ => rfl); (case h1 => rfl); (case h2 => with_reducible assumption); (case h3 => walk_at "je"))
  | (refine' je_int1 ?h0 ?h1 ?h2 ?h3; (case h0 => exact fun _ => rfl); (case h1 => rfl); (case h2 => with_reducible assumption); (case h3 => walk_at "je"))
  | (refine' je_max2 ?h0 ?h1 ?h2 ?h3 ?h4; (case h0 => exact fun _ => rfl); (case h1 => exact fun _ _ => rfl); (case h2 => rfl); (case h3 => with_reducible assumption); (case h4 => walk_at "ja"))
  | (refine' je_min2 ?h0 ?h1 ?h2 ?h3 ?h4; (case h0 => exact fun _ => rfl); (case h1 => exact fun _ _ => rfl); (case h2 => rfl); (case h3 => with_reducible assumption); (case h4 => walk_at "ja"))
  | (refine' je_lenT ?h0 ?h1 ?h2 ?h3; (case h0 => exact fun _ => rfl); (case h1 => rfl); (case h2 => with_reducible assumption); (case h3 => walk_at "je"))
  | (refine' je_tupN ?h0 ?h1 ?h2 ?h3; (case h0 => exact fun _ => rfl); (case h1 => rfl); (case h2 => with_reducible assumption); (case h3 => walk_at "jl"))
  | (refine' je_all ?h0 ?h1 ?h2 ?h3; (case h0 => exact fun _ => rfl); (case h1 => rfl); (case h2 => with_reducible assumption); (case h3 => walk_at "jl"))
  | (refine' je_any ?h0 ?h1 ?h2 ?h3; (case h0 => exact fun _ => rfl); (case h1 => rfl); (case h2 => with_reducible assumption); (case h3 => walk_at "jl"))
  | (refine' je_isiI ?h0 ?h1 ?h2 ?h3 ?h4 ?h5 ?h6 ?h7; (case h0 => exact fun _ => rfl); (case h1 => rfl); (case h2 => with_reducible assumption); (case h3 => rfl); (case h4 => with_reducible assumption); (case h5 => walk_at "je"); (case h6 => rfl); (case h7 => walk_at "kit"))
  | (refine' je_isiB ?h0 ?h1 ?h2 ?h3 ?h4 ?h5 ?h6 ?h7; (case h0 => exact fun _ => rfl); (case h1 => rfl); (case h2 => with_reducible assumption); (case h3 => rfl); (case h4 => with_reducible assumption); (case h5 => walk_at "je"); (case h6 => rfl); (case h7 => walk_at "kit"))
  | (refine' je_isiT ?h0 ?h1 ?h2 ?h3 ?h4 ?h5 ?h6 ?h7; (case h0 => exact fun _ => rfl); (case h1 => rfl); (case h2 => with_reducible assumption); (case h3 => rfl); (case h4 => with_reducible assumption); (case h5 => walk_at "je"); (case h6 => rfl); (case h7 => walk_at "kit"))
  | (refine' je_isiS ?h0 ?h1 ?h2 ?h3 ?h4 ?h5 ?h6 ?h7; (case h0 => exact fun _ => rfl); (case h1 => rfl); (case h2 => with_reducible assumption); (case h3 => rfl); (case h4 => with_reducible assumption); (case h5 => walk_at "je"); (case h6 => rfl); (case h7 => walk_at "kit"))
  | (refine' je_call ?h0 ?h1 ?h2 ?h3 ?h4 ?h5 ?h6 ?h7; (case h0 => with_reducible assumption); (case h1 => exact Nat.le_of_ble_eq_true rfl); (case h2 => rfl); (case h3 => decide +kernel); (case h4 => exact fun _ => rfl); (case h5 => exact fun _ _ => rfl); (case h6 => walk_at "ja"); (case h7 => walk_at "rel"))
  | (refine' je_cat ?h0 ?h1 ?h2 ?h3; (case h0 => walk_at "je"); (case h1 => walk_at "je"); (case h2 => walk_at "side"); (case h3 => walk_at "side")))
local macro_rules | `(tactic| walk_at "jt") => `(tactic| first
  | (refine' jt_lt ?h0 ?h1; (case h0 => walk_at "je"); (case h1 => walk_at "je"))
  | (refine' jt_le ?h0 ?h1; (case h0 => walk_at "je"); (case h1 => walk_at "je"))
  | (refine' jt_gt ?h0 ?h1; (case h0 => walk_at "je"); (case h1 => walk_at "je"))
  | (refine' jt_ge ?h0 ?h1; (case h0 => walk_at "je"); (case h1 => walk_at "je"))
  | (refine' jt_eqI ?h0 ?h1; (case h0 => walk_at "je"); (case h1 => walk_at "je"))
  | (refine' jt_neI ?h0 ?h1; (case h0 => walk_at "je"); (case h1 => walk_at "je"))
  | (refine' jt_lele ?h0 ?h1 ?h2 ?h3; (case h0 => walk_at "je"); (case h1 => walk_at "je"); (case h2 => walk_at "je"); (case h3 => with_unfolding_all rfl))
  | (refine' jt_isN ?h0; (case h0 => walk_at "je"))
  | (refine' jt_notN ?h0; (case h0 => walk_at "je"))
  | (refine' jt_not ?h0; (case h0 => walk_at "jt"))
  | (refine' jt_w ?h0; (case h0 => walk_at "jw"))
  | (refine' jt_val ?h0 ?h1; (case h0 => exact fun _ _ => rfl); (case h1 => walk_at "je")))
local macro_rules | `(tactic| walk_at "jw") => `(tactic| first
  | (refine' jw_and1 ?h0; (case h0 => walk_at "jt"))
  | (refine' jw_or1 ?h0; (case h0 => walk_at "jt"))
  | (refine' jw_and ?h0 (fun _ => ?h1); (case h0 => walk_at "jt"); (case h1 => walk_at "jw"))
  | (refine' jw_or ?h0 (fun _ => ?h1); (case h0 => walk_at "jt"); (case h1 => walk_at "jw"))
  | (refine' jw_andF ?h0; (case h0 => walk_at "jt"))
  | (refine' jw_orT ?h0; (case h0 => walk_at "jt")))
local macro_rules | `(tactic| walk_at "ja") => `(tactic| first
  | exact ja_nil
  | (refine' ja_cons ?h0 ?h1 ?h2; (case h0 => exact fun _ => rfl); (case h1 => walk_at "je"); (case h2 => walk_at "ja")))
local macro_rules | `(tactic| walk_at "jo") => `(tactic| first
  | exact jo_none
  | (refine' jo_some ?h0; (case h0 => walk_at "je")))
local macro_rules | `(tactic| walk_at "jl") => `(tactic| first
  | (refine' jl_lst ?h0 ?h1; (case h0 => walk_at "ja"); (case h1 => walk_at "side"))
  | (refine' jl_list ?h0 ?h1 ?h2 ?h3; (case h0 => exact fun _ => rfl); (case h1 => rfl); (case h2 => with_reducible assumption); (case h3 => walk_at "je")))
local macro_rules | `(tactic| walk_at "ix") => `(tactic| first
  | rfl
  | assumption)
local macro_rules | `(tactic| walk_at "side") => `(tactic| first
  | exact Nat.le_of_ble_eq_true rfl
  | omega
  | exact ⟨by omega, by omega⟩
  | exact Or.inl ⟨by omega, by omega⟩
  | exact Or.inr ⟨by omega, by omega⟩
  | exact fun z => absurd z.1 (Nat.ne_of_beq_eq_false rfl)
  | exact fun z => absurd z.2 (Nat.ne_of_beq_eq_false rfl)
  | exact List.cons_ne_nil _ _
  | assumption)
local macro_rules | `(tactic| walk_at "rel") => `(tactic| first
  | assumption)
section
variable {P : Program} {w : World} {K : PySem.W.Frag} {mg : Str → Option Value} {base : Heap}
/-! ### checksum, encode_drawing, the law's own items -/
def chk (is : List Int) : Int := is.foldl (fun c v => (23 * c + v) % 211) 13
theorem chk_go (is : List Int) : ∀ c : Int, 0 ≤ c → c < 211 → 0 ≤ is.foldl (fun c v => (23 * c + v) % 211) c ∧ is.foldl (fun c v => (23 * c + v) % 211) c < 211 := by
  induction is with
  | nil => intro c h1 h2; exact ⟨h1, h2⟩
  | cons i is ih => intro c h1 h2; exact ih _ (Int.emod_nonneg _ (by decide)) (Int.emod_lt_of_pos _ (by decide))
theorem chk_bd (is : List Int) : 0 ≤ chk is ∧ chk is < 211 := chk_go is 13 (by decide) (by decide)
theorem chk_snoc (is : List Int) (i : Int) : chk (is ++ [i]) = (23 * chk is + i) % 211 := by
  unfold chk
  rw [List.foldl_append]
  rfl
theorem take_snoc {is : List Int} {i : Nat} {v : Int} (h : is[i]? = some v) : is.take (i + 1) = is.take i ++ [v] := by
  rw [List.take_add_one, h]
  rfl
def spChk (K : PySem.W.Frag) : Sp := fun vs H Q _ => ∃ (l : Addr) (is : List Int), vs = [.ref l] ∧ SqL K H l (is.map V.int) ∧ ∀ H', Ex H H' → Q (.int (chk is)) H'
theorem sc_checksum : FnScope ["values", "found", "value"] ["values"] (defScope s_checksum) := ⟨rfl, rfl, rfl, by decide +kernel, rfl, by decide +kernel, by decide +kernel⟩
theorem exb_nil {H H' : Hp} (h : ExB [] H H') : Ex H H' := fun a o e => h a o e (by simp)
theorem ok_checksum {f : Addr} {fd : FuncData} {t1 t2 t3 : Tok} (F : Fun K "checksum" "checksum" s_checksum f fd) (m1 : mg "int" = none) (g1 : mg "CHECK_START" = some (.int 13 t1)) (g2 : mg "CHECK_TIMES" = some (.int 23 t2)) (g3 : mg "CHECK_REST" = some (.int 211 t3)) : FnOk P w K mg base CX0 1 f fd ["values"] (spChk K) := by
  refine fn_sp F sc_checksum (fun vs H Q E h => ?_) (fun X vs H Q E o pn hst hfr tk h => ?_)
  · obtain ⟨l, is, rfl, _⟩ := h
    rfl
  · obtain ⟨l, is, rfl, hl, q⟩ := h
    have env : EnvD K H (L2.start ["values", "found", "value"] [.ref l]) [some (.ref l), none, none] := env_start (.cons (.ref l) .nil)
    refine' wb_cons (ws_set (i := 1) (d := .int 13) o env sc_checksum.nd rfl rfl (fun _ => rfl) ?h0 fun v σ2 H2 e2 hv en2 => ?_)
    case h0 => walk_at "je"
    refine' wb_cons (ws_for o pn (fun _ _ => rfl) en2 (ji_list (ds := is.map Dt.int) ?h0 (ex_l e2 hl) (ints_dis is)) [] (by simp) fun H3 e3 en3 => ?_)
    case h0 => walk_at "je"
    refine ⟨fun i σ' H' => ∃ z, EnvD K H' σ' [some (.ref l), some (.int (chk (is.take i))), z] ∧ Ex H3 H', ⟨_, en3, Ex.refl _⟩, fun i σ' H' ⟨_, _, h⟩ => .of h, ?_, ?_⟩
    · rintro i d σ' H' H5 hd ⟨z, en, xb⟩ e5
      rw [List.getElem?_map] at hd
      obtain ⟨v, hv, rfl⟩ := Option.map_eq_some_iff.mp hd
      refine ⟨_, _, _, en.mono (ex_tx e5), jg_name (i := 2) sc_checksum.nd rfl rfl, fun σ2 en2 _ => ?_⟩
      replace en2 : EnvD K H5 σ2 [some (.ref l), some (.int (chk (is.take i))), some (.int v)] := en2
      have hb := chk_bd (is.take i)
      have hs := chk_snoc (is.take i) v
      rw [← take_snoc hv] at hs
      generalize chk (is.take i) = c at *
      refine' wb_one (ws_set (i := 1) (d := .int ((23 * c + v) % 211)) o en2 sc_checksum.nd rfl rfl (fun _ => rfl) ?h0 fun v' σ3 H6 e6 hv6 en6 => ?_)
      case h0 =>
        refine' je_mod (je_int1 (fun _ => rfl) rfl m1 (je_add (je_mul ?h1 ?h2 (.inl ⟨by omega, by omega⟩)) ?h3)) ?h4 (by decide)
        case h1 => walk_at "je"
        case h2 => walk_at "je"
        case h3 => walk_at "je"
        case h4 => walk_at "je"
      rw [← hs] at en6
      exact ⟨_, en6, xb.trans (e5.trans e6)⟩
    · rintro σ' H' ⟨z, en, xb⟩
      rw [List.length_map, List.take_length] at en
      refine' wb_one (ws_ret o en (d := .int (chk is)) ?h0 fun v H4 e4 hv4 => ?_)
      case h0 => walk_at "je"
      rw [hv4.int_inv]
      exact q _ ((e2.trans e3).trans (xb.trans e4))
/-! _law_checked -/
def spChecked (K : PySem.W.Frag) : Sp := fun vs H Q _ => ∃ (l : Addr) (is : List Int), vs = [.ref l] ∧ H l = some (.lst (is.map V.int)) ∧ is.length ≤ 1000 ∧ ∀ p H', H p = none → Ex H H' → H' p = some (.lst ((is ++ [chk is]).map V.int)) → Q (.ref p) H'
theorem sc_law_checked : FnScope ["_law_items", "_law_check", "_law_item"] ["_law_items"] (defScope s__law_checked) := ⟨rfl, rfl, rfl, by decide +kernel, rfl, by decide +kernel, by decide +kernel⟩
theorem ok_law_checked {f : Addr} {fd : FuncData} (F : Fun K "_law_checked" "_law_checked" s__law_checked f fd) (m1 : mg "int" = none) : FnOk P w K mg base CX0 1 f fd ["_law_items"] (spChecked K) := by
  refine fn_sp F sc_law_checked (fun vs H Q E h => ?_) (fun X vs H Q E o pn hst hfr tk h => ?_)
  · obtain ⟨l, is, rfl, _⟩ := h
    rfl
  · obtain ⟨l, is, rfl, hl, hn, q⟩ := h
    have env : EnvD K H (L2.start ["_law_items", "_law_check", "_law_item"] [.ref l]) [some (.ref l), none, none] := env_start (.cons (.ref l) .nil)
    refine' wb_cons (ws_set (i := 1) (d := .int 13) o env sc_law_checked.nd rfl rfl (fun _ => rfl) ?h0 fun v σ2 H2 e2 hv en2 => ?_)
    case h0 => walk_at "je"
    refine' wb_cons (ws_for o pn (fun _ _ => rfl) en2 (ji_list (ds := is.map Dt.int) ?h0 (sq_of (e2 _ _ hl)) (ints_dis is)) [] (by simp) fun H3 e3 en3 => ?_)
    case h0 => walk_at "je"
    refine ⟨fun i σ' H' => ∃ z, EnvD K H' σ' [some (.ref l), some (.int (chk (is.take i))), z] ∧ Ex H3 H', ⟨_, en3, Ex.refl _⟩, fun i σ' H' ⟨_, _, h⟩ => .of h, ?_, ?_⟩
    · rintro i d σ' H' H5 hd ⟨z, en, xb⟩ e5
      rw [List.getElem?_map] at hd
      obtain ⟨v, hv, rfl⟩ := Option.map_eq_some_iff.mp hd
      refine ⟨_, _, _, en.mono (ex_tx e5), jg_name (i := 2) sc_law_checked.nd rfl rfl, fun σ2 en2 _ => ?_⟩
      replace en2 : EnvD K H5 σ2 [some (.ref l), some (.int (chk (is.take i))), some (.int v)] := en2
      have hb := chk_bd (is.take i)
      have hs := chk_snoc (is.take i) v
      rw [← take_snoc hv] at hs
      generalize chk (is.take i) = c at *
      refine' wb_one (ws_set (i := 1) (d := .int ((23 * c + v) % 211)) o en2 sc_law_checked.nd rfl rfl (fun _ => rfl) ?h0 fun v' σ3 H6 e6 hv6 en6 => ?_)
      case h0 =>
        refine' je_mod (je_int1 (fun _ => rfl) rfl m1 (je_add (je_mul ?h1 ?h2 (.inl ⟨by omega, by omega⟩)) ?h3)) ?h4 (by decide)
        case h1 => walk_at "je"
        case h2 => walk_at "je"
        case h3 => walk_at "je"
        case h4 => walk_at "je"
      rw [← hs] at en6
      exact ⟨_, en6, xb.trans (e5.trans e6)⟩
    · rintro σ' H' ⟨z, en, xb⟩
      rw [List.length_map, List.take_length] at en
      refine' wb_one (ws_retL o en (ds := is.map Dt.int ++ [.int (chk is)]) (jl_catN ?h0 (((e2.trans e3).trans xb) _ _ hl) (ints_dis is) (jl_lst ?h1 (Nat.le_of_ble_eq_true rfl)) (by simp; omega)) fun p vs H4 hp e4 h4 hv4 => ?_)
      case h0 => walk_at "je"
      case h1 => walk_at "ja"
      have e5 := (e2.trans e3).trans xb
      have hv5 : Dis K H4 vs ((is ++ [chk is]).map Dt.int) := by simpa using hv4
      rw [dis_ints hv5] at h4
      exact q p _ (fresh_back e5 hp) (e5.trans e4) h4
/-! encode_drawing -/
def itemsP (ps : List Pc) : List Int := ps.flatMap fun p => [p.x, p.y, p.u, p.v]
def items (ps : List Pc) : List Int := 109 :: (ps.length : Int) :: itemsP ps
theorem itemsP_len (ps : List Pc) : (itemsP ps).length = 4 * ps.length := by
  unfold itemsP
  induction ps with
  | nil => rfl
  | cons p ps ih => rw [List.flatMap_cons, List.length_append, ih, List.length_cons]; simp; omega
theorem itemsP_snoc {ps : List Pc} {i : Nat} {p : Pc} (h : ps[i]? = some p) : itemsP (ps.take (i + 1)) = itemsP (ps.take i) ++ [p.x, p.y, p.u, p.v] := by
  rw [List.take_add_one, h]
  unfold itemsP
  rw [List.flatMap_append]
  rfl
def spEnc (K : PySem.W.Frag) (CD : Addr) (T : DrT K CD) : Sp := fun vs H Q _ => ∃ (a : Addr) (ps : List Pc), vs = [.ref a] ∧ DrAt K CD T H a ps ∧ ps.length ≤ 100 ∧ ∀ p H', H p = none → Ex H H' → H' p = some (.lst ((items ps ++ [chk (items ps)]).map V.int)) → Q (.ref p) H'
theorem sc_encode_drawing : FnScope ["drawing", "found", "piece"] ["drawing"] (defScope s_encode_drawing) := ⟨rfl, rfl, rfl, by decide +kernel, rfl, by decide +kernel, by decide +kernel⟩
theorem je_chk {N : List Str} {sc : Scope} {lv : Nat} {bf : Bool} {ρ : Rh} {H : Hp} {e : Expr} {p pos : Pos} {l : Addr} {is : List Int} (G : Fn0 P w K mg base CX0 1 "checksum" (spChk K)) (hlv : 1 ≤ lv) (hg : GlN (Ct.mk P w K mg base N sc lv bf) "checksum") (hs : NoStar e [])
    (ha : JE (Ct.mk P w K mg base N sc lv bf) ρ H e (.ref l)) (hl : SqL K H l (is.map V.int)) : JE (Ct.mk P w K mg base N sc lv bf) ρ H (.Call (Nm "checksum" p) [e] [] pos) (.int (chk is)) := ⟨fun X o hN σ H1 e1 env Q q => by
  obtain ⟨f, fd, ps, G, hm, kp, bb⟩ := (G.to o).ex
  refine PEw (pe_call G (o.room.mono hlv) (o.gl hg) hm kp bb .nil pass0 (pa_cons pe_w pa_nil (hs _)) (by decide +kernel) (hs _) rfl) (ha.run X o hN σ H1 e1 env _ fun v H2 e2 hv => ?_)
  rw [hv.ref_inv]
  exact ⟨l, is, rfl, ex_l (e1.trans e2) hl, fun H' e' => q _ _ (e2.trans e') (.int _)⟩⟩
theorem ok_encode_drawing {f CD : Addr} {fd : FuncData} {T : DrT K CD} {t1 : Tok} (F : Fun K "encode_drawing" "encode_drawing" s_encode_drawing f fd) (m1 : mg "len" = none) (g1 : mg "FIRST" = some (.int 109 t1)) (M : DrM P w K mg base CD T) (G : Fn0 P w K mg base CX0 1 "checksum" (spChk K)) : FnOk P w K mg base CX0 3 f fd ["drawing"] (spEnc K CD T) := by
  refine fn_sp F sc_encode_drawing (fun vs H Q E h => ?_) (fun X vs H Q E o pn hst hfr tk h => ?_)
  · obtain ⟨a, ps, rfl, _⟩ := h
    rfl
  · obtain ⟨a, ps, rfl, hD, hn, q⟩ := h
    have env : EnvD K H (L2.start ["drawing", "found", "piece"] [.ref a]) [some (.ref a), none, none] := env_start (.cons (.ref a) .nil)
    refine' wb_cons (ws_setL (i := 1) (ds := [.int 109, .int (ps.length : Int)]) o env sc_encode_drawing.nd rfl rfl (fun _ => rfl) (jl_lst (ja_cons (fun _ => rfl) ?h0 (ja_cons (fun _ => rfl) ?h1 ja_nil)) (Nat.le_of_ble_eq_true rfl)) fun l vs σ2 H2 hl0 e2 h2 hd2 en2 => ?_)
    case h0 => walk_at "je"
    case h1 => exact je_drLen M (Nat.le_of_ble_eq_true rfl) (fun _ => rfl) rfl m1 (by walk_at "je") hD (by omega)
    replace en2 : EnvD K H2 σ2 [some (.ref a), some (.ref l), none] := en2
    have hvs : vs = [V.int 109, .int (ps.length : Int)] := dis_ints (ns := [109, (ps.length : Int)]) hd2
    subst hvs
    have hD2 := hD.mono e2
    refine' wb_cons (ws_for o pn (fun _ _ => rfl) en2 (ji_tup (ds := ps.map Pc.d) (je_drPieces M (Nat.le_of_ble_eq_true rfl) (fun _ => rfl) (by walk_at "je") hD2)) [l] (by simp [h2, NoT]) fun H3 e3 en3 => ?_)
    refine ⟨fun i σ' H' => ∃ z, EnvD K H' σ' [some (.ref a), some (.ref l), z] ∧ ExB [l] H3 H' ∧ H' l = some (.lst ((109 :: (ps.length : Int) :: itemsP (ps.take i)).map V.int)), ⟨_, en3, .of (Ex.refl _), e3 _ _ h2⟩, fun i σ' H' ⟨_, _, h, _⟩ => h, ?_, ?_⟩
    · rintro i d σ' H' H5 hd ⟨z, en, xb, hl⟩ e5
      rw [List.getElem?_map] at hd
      obtain ⟨p, hp, rfl⟩ := Option.map_eq_some_iff.mp hd
      refine ⟨_, _, _, en.mono (ex_tx e5), jg_name (i := 2) sc_encode_drawing.nd rfl rfl, fun σ2 en2 _ => ?_⟩
      replace en2 : EnvD K H5 σ2 [some (.ref a), some (.ref l), some p.d] := en2
      have hle : (itemsP (ps.take i)).length ≤ 400 := by
        rw [itemsP_len, List.length_take]; omega
      refine' wb_one (ws_extendT (ds := [.int p.x, .int p.y, .int p.u, .int p.v]) o en2 (fun _ => rfl) (fun _ => rfl) (fun _ => rfl) ?h0 (e5 _ _ hl) ?h1 ?h2 (fun _ => rfl) rfl fun ws H6 e6 hv en6 tx => ?_)
      case h0 => walk_at "je"
      case h1 => simp; omega
      case h2 =>
        show JE _ [some (.ref a), some (.ref l), some (.tup [.int p.x, .int p.y, .int p.u, .int p.v])] _ _ _
        walk_at "je"
      refine ⟨_, en6, exb_upd (xb.trans (.of (e5.trans e6))) (by simp), ?_⟩
      have hw : ws = [V.int p.x, .int p.y, .int p.u, .int p.v] := dis_ints (ns := [p.x, p.y, p.u, p.v]) hv
      rw [upd_same, hw, itemsP_snoc hp]
      simp
    · rintro σ' H' ⟨z, en, xb, hl⟩
      have hl' : H' l = some (.lst ((items ps).map V.int)) := by
        rw [hl, List.length_map, List.take_length]; rfl
      have e4 : Ex H H' := ExB.back (e2.trans e3) xb (by simp [hl0])
      refine' wb_one (ws_retL o en (ds := (items ps).map Dt.int ++ [.int (chk (items ps))]) (jl_lst (ja_starL (fun _ => rfl) ?h0 (sq_of hl') (ints_dis _) (ja_cons (fun _ => rfl) (je_chk G (Nat.le_of_ble_eq_true rfl) rfl (fun _ => rfl) ?h1 (sq_of hl')) ja_nil)) ?h2) fun p vs H4 hp e5 h4 hv4 => ?_)
      case h0 => walk_at "je"
      case h1 => walk_at "je"
      case h2 =>
        have := itemsP_len ps
        simp [items]; omega
      have hv5 : Dis K H4 vs ((items ps ++ [chk (items ps)]).map Dt.int) := by simpa using hv4
      rw [dis_ints hv5] at h4
      exact q p _ (fresh_back e4 hp) (e4.trans e5) h4
end
end Led

set_option maxRecDepth 100000
set_option maxHeartbeats 4000000
namespace Led
open PySem L2 Evl
local macro_rules | `(tactic| walk_at "at") => `(tactic| first
  | with_reducible exact At.here
  | (with_reducible refine' At.there ?h0; (case h0 => walk_at "at")))
local macro_rules | `(tactic| walk_at "vis") => `(tactic| first
  | exact Or.inl rfl
  | exact Or.inr (Or.inl rfl)
  | exact Or.inr (Or.inr rfl))
local macro_rules | `(tactic| walk_at "kit") => `(tactic| first
  | with_reducible exact kit_ii
  | with_reducible exact kit_ib
  | with_reducible exact kit_it
  | with_reducible exact kit_is
  | with_reducible exact kit_bi
  | with_reducible exact kit_bb
  | with_reducible exact kit_bt
  | with_reducible exact kit_bs
  | with_reducible exact kit_si
  | with_reducible exact kit_sb
  | with_reducible exact kit_st
  | with_reducible exact kit_ss
  | with_reducible exact kit_ni
  | with_reducible exact kit_nb
  | with_reducible exact kit_nt
  | with_reducible exact kit_ns
  | with_reducible exact kit_ti
  | with_reducible exact kit_tb
  | with_reducible exact kit_tt
  | with_reducible exact kit_ts)
local macro_rules | `(tactic| walk_at "je") => `(tactic| first
  | exact je_int
  | exact je_bl
  | exact je_non
  | exact je_str
  | (refine' je_var ?h0 ?h1 ?h2 ?h3; (case h0 => walk_at "at"); (case h1 => walk_at "vis"); (case h2 => decide +kernel); (case h3 => decide +kernel))
  | (refine' je_var2 ?h0 ?h1 ?h2 ?h3; (case h0 => rfl); (case h1 => walk_at "vis"); (case h2 => decide +kernel); (case h3 => decide +kernel))
  | (refine' je_globI ?h0 ?h1 ?h2; (case h0 => rfl); (case h1 => with_reducible assumption); (case h2 => decide +kernel))
  | (refine' je_globS ?h0 ?h1 ?h2; (case h0 => rfl); (case h1 => with_reducible assumption); (case h2 => decide +kernel))
  | (refine' je_add ?h0 ?h1; (case h0 => walk_at "je"); (case h1 => walk_at "je"))
  | (refine' je_sub ?h0 ?h1; (case h0 => walk_at "je"); (case h1 => walk_at "je"))
  | (refine' je_lt ?h0 ?h1; (case h0 => walk_at "je"); (case h1 => walk_at "je"))
  | (refine' je_le ?h0 ?h1; (case h0 => walk_at "je"); (case h1 => walk_at "je"))
  | (refine' je_gt ?h0 ?h1; (case h0 => walk_at "je"); (case h1 => walk_at "je"))
  | (refine' je_ge ?h0 ?h1; (case h0 => walk_at "je"); (case h1 => walk_at "je"))
  | (refine' je_eqI ?h0 ?h1; (case h0 => walk_at "je"); (case h1 => walk_at "je"))
  | (refine' je_neI ?h0 ?h1; (case h0 => walk_at "je"); (case h1 => walk_at "je"))
  | (refine' je_mul ?h0 ?h1 ?h2; (case h0 => walk_at "je"); (case h1 => walk_at "je"); (case h2 => walk_at "side"))
  | (refine' je_div ?h0 ?h1 ?h2; (case h0 => walk_at "je"); (case h1 => walk_at "je"); (case h2 => walk_at "side"))
  | (refine' je_mod ?h0 ?h1 ?h2; (case h0 => walk_at "je"); (case h1 => walk_at "je"); (case h2 => walk_at "side"))
  | (refine' je_lele ?h0 ?h1 ?h2 ?h3; (case h0 => walk_at "je"); (case h1 => walk_at "je"); (case h2 => walk_at "je"); (case h3 => with_unfolding_all rfl))
  | (refine' je_isN ?h0; (case h0 => walk_at "je"))
  | (refine' je_notN ?h0; (case h0 => walk_at "je"))
  | (refine' je_not ?h0; (case h0 => walk_at "je"))
  | (refine' je_one ?h0; (case h0 => walk_at "je"))
  | (refine' je_un ?h0; (case h0 => walk_at "je"))
  | (refine' je_andB ?h0 (fun _ => ?h1); (case h0 => walk_at "je"); (case h1 => walk_at "je"))
  | (refine' je_orB ?h0 (fun _ => ?h1); (case h0 => walk_at "je"); (case h1 => walk_at "je"))
  | (refine' je_notT ?h0; (case h0 => walk_at "je"))
  | (refine' je_notF ?h0; (case h0 => walk_at "je"))
  | (refine' je_andF ?h0; (case h0 => walk_at "je"))
  | (refine' je_orT ?h0; (case h0 => walk_at "je"))
  | (refine' je_if ?h0 (fun _ => ?h1) (fun _ => ?h2); (case h0 => walk_at "jt"); (case h1 => walk_at "je"); (case h2 => walk_at "je"))
  | (refine' je_tup ?h0 ?h1; (case h0 => walk_at "ja"); (case h1 => walk_at "side"))
  | (refine' je_ixT ?h0 ?h1 ?h2 ?h3; (case h0 => exact fun _ _ => rfl); (case h1 => walk_at "je"); (case h2 => walk_at "je"); (case h3 => walk_at "ix"))
  | (refine' je_ixN ?h0 ?h1 ?h2 ?h3; (case h0 => exact fun _ _ => rfl); (case h1 => walk_at "jl"); (case h2 => walk_at "je"); (case h3 => walk_at "ix"))
  | (refine' je_sl ?h0 ?h1 ?h2 ?h3; (case h0 => walk_at "je"); (case h1 => walk_at "jo"); (case h2 => walk_at "jo"); (case h3 => walk_at "side"))
  | (refine' je_abs ?h0 ?h1 ?h2 ?h3; (case h0 => exact fun _ => rfl); (case h1 => rfl); (case h2 => with_reducible assumption); (case h3 => walk_at "je"))
  | (refine' je_int1 ?h0 ?h1 ?h2 ?h3; (case h0 => exact fun _ => rfl); (case h1 => rfl); (case h2 => with_reducible assumption); (case h3 => walk_at "je"))
  | (refine' je_max2 ?h0 ?h1 ?h2 ?h3 ?h4; (case h0 => exact fun _ => rfl); (case h1 => exact fun _ _ => rfl); (case h2 => rfl); (case h3 => with_reducible assumption); (case h4 => walk_at "ja"))
  | (refine' je_min2 ?h0 ?h1 ?h2 ?h3 ?h4; (case h0 => exact fun _ => rfl); (case h1 => exact fun _ _ => rfl); (case h2 => rfl); (case h3 => with_reducible assumption); (case h4 => walk_at "ja"))
  | (refine' je_lenT ?h0 ?h1 ?h2 ?h3; (case h0 => exact fun _ => rfl); (case h1 => rfl); (case h2 => with_reducible assumption); (case h3 => walk_at "je"))
  | (refine' je_tupN ?h0 ?h1 ?h2 ?h3; (case h0 => exact fun _ => rfl); (case h1 => rfl); (case h2 => with_reducible assumption); (case h3 => walk_at "jl"))
  | (refine' je_all ?h0 ?h1 ?h2 ?h3; (case h0 => exact fun _ => rfl); (case h1 => rfl); (case h2 => with_reducible assumption); (case h3 => walk_at "jl"))
  | (refine' je_any ?h0 ?h1 ?h2 ?h3; (case h0 => exact fun _ => rfl); (case h1 => rfl); (case h2 => with_reducible assumption); (case h3 => walk_at "jl"))
  | (refine' je_isiI ?h0 ?h1 ?h2 ?h3 ?h4 ?h5 ?h6 ?h7; (case h0 => exact fun _ => rfl); (case h1 => rfl); (case h2 => with_reducible assumption); (case h3 => rfl); (case h4 => with_reducible assumption); (case h5 => walk_at "je"); (case h6 => rfl); (case h7 => walk_at "kit"))
  | (refine' je_isiB ?h0 ?h1 ?h2 ?h3 ?h4 ?h5 ?h6 ?h7; (case h0 => exact fun _ => rfl); (case h1 => rfl); (case h2 => with_reducible assumption); (case h3 => rfl); (case h4 => with_reducible assumption); (case h5 => walk_at "je"); (case h6 => rfl); (case h7 => walk_at "kit"))
  | (refine' je_isiT ?h0 ?h1 ?h2 ?h3 ?h4 ?h5 ?h6 ?h7; (case h0 => exact fun _ => rfl); (case h1 => rfl); (case h2 => with_reducible assumption); (case h3 => rfl); (case h4 => with_reducible assumption); (case h5 => walk_at "je"); (case h6 => rfl); (case h7 => walk_at "kit"))
  | (refine' je_isiS ?h0 ?h1 ?h2 ?h3 ?h4 ?h5 ?h6 ?h7; (case h0 => exact fun _ => rfl); (case h1 => rfl); (case h2 => with_reducible assumption); (case h3 => rfl); (case h4 => with_reducible assumption); (case h5 => walk_at "je"); (case h6 => rfl); (case h7 => walk_at "kit"))
  | (refine' je_call ?h0 ?h1 ?h2 ?h3 ?h4 ?h5 ?h6 ?h7; (case h0 => with_reducible assumption); (case h1 => exact Nat.le_of_ble_eq_true rfl); (case h2 => rfl); (case h3 => decide +kernel); (case h4 => exact fun _ => rfl); (case h5 => exact fun _ _ => rfl); (case h6 => walk_at "ja"); (case h7 => walk_at "rel"))
  | (refine' je_cat ?h0 ?h1 ?h2 ?h3; (case h0 => walk_at "je"); (case h1 => walk_at "je"); (case h2 => walk_at "side"); (case h3 => walk_at "side")))
local macro_rules | `(tactic| walk_at "jt") => `(tactic| first
  | (refine' jt_lt ?h0 ?h1; (case h0 => walk_at "je"); (case h1 => walk_at "je"))
  | (refine' jt_le ?h0 ?h1; (case h0 => walk_at "je"); (case h1 => walk_at "je"))
  | (refine' jt_gt ?h0 ?h1; (case h0 => walk_at "je"); (case h1 => walk_at "je"))
  | (refine' jt_ge ?h0 ?h1; (case h0 => walk_at "je"); (case h1 => walk_at "je"))
  | (refine' jt_eqI ?h0 ?h1; (case h0 => walk_at "je"); (case h1 => walk_at "je"))
  | (refine' jt_neI ?h0 ?h1; (case h0 => walk_at "je"); (case h1 => walk_at "je"))
  | (refine' jt_lele ?h0 ?h1 ?h2 ?h3; (case h0 => walk_at "je"); (case h1 => walk_at "je"); (case h2 => walk_at "je"); (case h3 => with_unfolding_all rfl))
  | (refine' jt_isN ?h0; (case h0 => walk_at "je"))
  | (refine' jt_notN ?h0; (case h0 => walk_at "je"))
  | (refine' jt_not ?h0; (case h0 => walk_at "jt"))
  | (refine' jt_w ?h0; (case h0 => walk_at "jw"))
  | (refine' jt_val ?h0 ?h1; (case h0 => exact fun _ _ => rfl); (case h1 => walk_at "je")))
local macro_rules | `(tactic| walk_at "jw") => `(tactic| first
  | (refine' jw_and1 ?h0; (case h0 => walk_at "jt"))
  | (refine' jw_or1 ?h0; (case h0 => walk_at "jt"))
  | (refine' jw_and ?h0 (fun _ => ?h1); (case h0 => walk_at "jt"); (case h1 => walk_at "jw"))
  | (refine' jw_or ?h0 (fun _ => ?h1); (case h0 => walk_at "jt"); (case h1 => walk_at "jw"))
  | (refine' jw_andF ?h0; (case h0 => walk_at "jt"))
  | (refine' jw_orT ?h0; (case h0 => walk_at "jt")))
local macro_rules | `(tactic| walk_at "ja") => `(tactic| first
  | exact ja_nil
  | (refine' ja_cons ?h0 ?h1 ?h2; (case h0 => exact fun _ => rfl); (case h1 => walk_at "je"); (case h2 => walk_at "ja")))
local macro_rules | `(tactic| walk_at "jo") => `(tactic| first
  | exact jo_none
  | (refine' jo_some ?h0; (case h0 => walk_at "je")))
local macro_rules | `(tactic| walk_at "jl") => `(tactic| first
  | (refine' jl_lst ?h0 ?h1; (case h0 => walk_at "ja"); (case h1 => walk_at "side"))
  | (refine' jl_list ?h0 ?h1 ?h2 ?h3; (case h0 => exact fun _ => rfl); (case h1 => rfl); (case h2 => with_reducible assumption); (case h3 => walk_at "je")))
local macro_rules | `(tactic| walk_at "ix") => `(tactic| first
  | rfl
  | assumption)
local macro_rules | `(tactic| walk_at "side") => `(tactic| first
  | exact Nat.le_of_ble_eq_true rfl
  | omega
  | exact ⟨by omega, by omega⟩
  | exact Or.inl ⟨by omega, by omega⟩
  | exact Or.inr ⟨by omega, by omega⟩
  | exact fun z => absurd z.1 (Nat.ne_of_beq_eq_false rfl)
  | exact fun z => absurd z.2 (Nat.ne_of_beq_eq_false rfl)
  | exact List.cons_ne_nil _ _
  | assumption)
local macro_rules | `(tactic| walk_at "rel") => `(tactic| first
  | assumption)
section
variable {P : Program} {w : World} {K : PySem.W.Frag} {mg : Str → Option Value} {base : Heap}
/-! ### Reader, decode_drawing (where nothing is wrong) -/
structure RdT (K : PySem.W.Frag) (CR : Addr) : Prop where
  cls : Cls K CR
  nd : NoAttr K CR "data"
  ns : NoAttr K CR "spot"
/-- a reader of the list at l, which goes on at k -/
def RdAt (CR : Addr) (H : Hp) (x l : Addr) (is : List Int) (k : Nat) : Prop := (∃ dx, H x = some (.ins CR dx [("data", .ref l), ("spot", .int (k : Int))])) ∧ H l = some (.lst (is.map V.int))
theorem RdAt.ex {CR : Addr} {H H' : Hp} {x l : Addr} {is : List Int} {k : Nat} (h : RdAt CR H x l is k) (e : Ex H H') : RdAt CR H' x l is k := by
  obtain ⟨⟨dx, h1⟩, h2⟩ := h
  exact ⟨⟨dx, e _ _ h1⟩, e _ _ h2⟩
theorem RdAt.ne {CR : Addr} {H : Hp} {x l : Addr} {is : List Int} {k : Nat} (h : RdAt CR H x l is k) : l ≠ x := fun z => by
  obtain ⟨⟨dx, h1⟩, h2⟩ := h
  rw [z, h1] at h2; cases h2
theorem RdAt.noT {CR : Addr} {H : Hp} {x l : Addr} {is : List Int} {k : Nat} (h : RdAt CR H x l is k) : NoT (H x) := by
  obtain ⟨⟨dx, h1⟩, h2⟩ := h
  rw [h1]; trivial
theorem RdAt.some {CR : Addr} {H : Hp} {x l : Addr} {is : List Int} {k : Nat} (h : RdAt CR H x l is k) : (H x).isSome = true := by
  obtain ⟨⟨dx, h1⟩, h2⟩ := h
  rw [h1]; rfl
theorem RdAt.upd {CR : Addr} {H : Hp} {x l D : Addr} {is : List Int} {k : Nat} {u : HO} (h : RdAt CR H x l is k) (h1 : x ≠ D) (h2 : l ≠ D) : RdAt CR (upd H D u) x l is k := by
  obtain ⟨⟨dx, q1⟩, q2⟩ := h
  exact ⟨⟨dx, by rw [upd_ne h1]; exact q1⟩, by rw [upd_ne h2]; exact q2⟩
theorem lookup2 {a b m : Str} {v w : V} (h1 : (m == a) = false) (h2 : (m == b) = false) : [(a, v), (b, w)].lookup m = none := by simp [List.lookup, h1, h2]
theorem lookup2b {a b : Str} {v w : V} (h : (b == a) = false) : [(a, v), (b, w)].lookup b = some w := by simp [List.lookup, h]
theorem lookup2a {a b : Str} {v w : V} : [(a, v), (b, w)].lookup a = some v := by simp [List.lookup]
theorem putF2 {f g : Str} {v x y : V} (h : g ≠ f) : putF f v [(g, x), (f, y)] = [(g, x), (f, v)] := by simp [putF, h]
theorem putF1 {f g : Str} {v x : V} (h : g ≠ f) : putF f v [(g, x)] = [(g, x), (f, v)] := by simp [putF, h]
def RdM (P : Program) (w : World) (K : PySem.W.Frag) (mg : Str → Option Value) (base : Heap) (k : Nat) (CR : Addr) (m : Str) (sp : Sp) : Prop := ∃ f fd ps, Meth K CR m f ∧ FnOk P w K mg base CX0 k f fd ps sp ∧ Binds K fd ps []
def spRI (CR : Addr) : Sp := fun vs H Q _ => ∃ (x dx l : Addr), vs = [.ref x, .ref l] ∧ H x = some (.ins CR dx []) ∧ ∀ H', ExB [x] H H' → H' x = some (.ins CR dx [("data", .ref l), ("spot", .int 0)]) → Q .non H'
theorem sc_Reader_init : FnScope ["self", "values"] ["self", "values"] (defScope s_Reader___init__) := ⟨rfl, rfl, rfl, by decide +kernel, rfl, by decide +kernel, by decide +kernel⟩
theorem ok_Reader_init {f CR : Addr} {fd : FuncData} (F : Fun K "__init__" "Reader.__init__" s_Reader___init__ f fd) (T : RdT K CR) : FnOk P w K mg base CX0 1 f fd ["self", "values"] (spRI CR) := by
  refine fn_sp F sc_Reader_init (fun vs H Q E h => ?_) (fun X vs H Q E o pn hst hfr tk h => ?_)
  · obtain ⟨x, dx, l, rfl, _⟩ := h
    rfl
  · obtain ⟨x, dx, l, rfl, hx, q⟩ := h
    have env : EnvD K H (L2.start ["self", "values"] [.ref x, .ref l]) [some (.ref x), some (.ref l)] := env_start (.cons (.ref x) (.cons (.ref l) .nil))
    refine' wb_cons (ws_fld (d := .ref l) o env (fun _ => rfl) ?h0 ?h1 hx T.cls T.nd (Nat.le_of_ble_eq_true rfl) fun v H1 e1 hv hx1 en1 => ?_)
    case h0 => walk_at "je"
    case h1 => walk_at "je"
    rw [hv.ref_inv] at en1 ⊢
    have hx2 : (upd H1 x (.ins CR dx [("data", V.ref l)])) x = some (.ins CR dx [("data", .ref l)]) := upd_same
    have xb2 : ExB [x] H (upd H1 x (.ins CR dx [("data", V.ref l)])) := exb_upd (.of e1) (by simp)
    show WB X _ _ _ (upd H1 x (.ins CR dx [("data", V.ref l)]))
    replace en1 : EnvD K (upd H1 x (.ins CR dx [("data", V.ref l)])) _ _ := en1
    generalize upd H1 x (.ins CR dx [("data", V.ref l)]) = H2 at *
    refine' wb_one (ws_fld (d := .int 0) o en1 (fun _ => rfl) ?h0 ?h1 hx2 T.cls T.ns (Nat.le_of_ble_eq_true rfl) fun v H3 e3 hv hx3 en3 => ?_)
    case h0 => walk_at "je"
    case h1 => walk_at "je"
    rw [hv.int_inv, putF1 (by decide +kernel)]
    exact q _ (xb2.trans (exb_upd (.of e3) (by simp))) upd_same
/-! item -/
def spItem (CR : Addr) : Sp := fun vs H Q _ => ∃ (x l : Addr) (is : List Int) (k : Nat) (v lo hi : Int), vs = [.ref x, .int lo, .int hi] ∧ RdAt CR H x l is k ∧ is[k]? = some v ∧ lo ≤ v ∧ v ≤ hi ∧ ∀ H', ExB [x] H H' → RdAt CR H' x l is (k + 1) → Q (.int v) H'
theorem sc_Reader_item : FnScope ["self", "low", "high"] ["self", "low", "high"] (defScope s_Reader_item) := ⟨rfl, rfl, rfl, by decide +kernel, rfl, by decide +kernel, by decide +kernel⟩
theorem je_data {C : Ct} {ρ : Rh} {H : Hp} {a : Expr} {pos : Pos} {CR x l : Addr} {is : List Int} {k : Nat} (T : RdT C.K CR) (hb : ∀ env, attributeBase a "data" env (eval a env) = eval a env) (ha : JE C ρ H a (.ref x)) (h : RdAt CR H x l is k) : JE C ρ H (.Attribute a "data" pos) (.ref l) := by
  obtain ⟨⟨dx, h1⟩, h2⟩ := h
  exact je_fld hb ha h1 T.cls T.nd lookup2a (.ref l)
theorem je_spot {C : Ct} {ρ : Rh} {H : Hp} {a : Expr} {pos : Pos} {CR x l : Addr} {is : List Int} {k : Nat} (T : RdT C.K CR) (hb : ∀ env, attributeBase a "spot" env (eval a env) = eval a env) (ha : JE C ρ H a (.ref x)) (h : RdAt CR H x l is k) : JE C ρ H (.Attribute a "spot" pos) (.int (k : Int)) := by
  obtain ⟨⟨dx, h1⟩, h2⟩ := h
  exact je_fld hb ha h1 T.cls T.ns (lookup2b (by decide +kernel)) (.int _)
theorem ok_Reader_item {f CR : Addr} {fd : FuncData} (F : Fun K "item" "Reader.item" s_Reader_item f fd) (m1 : mg "len" = none) (T : RdT K CR) (G1 : Fn0 P w K mg base CX0 1 "is_number" (SpF K R_is_number)) : FnOk P w K mg base CX0 2 f fd ["self", "low", "high"] (spItem CR) := by
  refine fn_sp F sc_Reader_item (fun vs H Q E h => ?_) (fun X vs H Q E o pn hst hfr tk h => ?_)
  · obtain ⟨x, l, is, k, v, lo, hi, rfl, _⟩ := h
    rfl
  · obtain ⟨x, l, is, k, v, lo, hi, rfl, hR, hv, hlo, hhi, q⟩ := h
    have env : EnvD K H (L2.start ["self", "low", "high"] [.ref x, .int lo, .int hi]) [some (.ref x), some (.int lo), some (.int hi)] := env_start (.cons (.ref x) (.cons (.int lo) (.cons (.int hi) .nil)))
    have hk : k < is.length := by
      rcases Nat.lt_or_ge k is.length with h | h
      · exact h
      · rw [List.getElem?_eq_none h] at hv; cases hv
    have hat : ∀ {i : Int}, i = (k : Int) → atI (is.map Dt.int) i = some (.int v) := fun hi => by
      rw [hi]
      exact atI_nat (by rw [List.getElem?_map, hv]; rfl)
    refine' wb_cons (ws_if (k := false) o env (jt_is (jt_w (jw_or (jt_ge ?h0 ?h1) fun _ => jw_or1 (jt_not (jt_val (fun _ _ => rfl) ?h2)))) ?h3) (fun z => nomatch z) (fun _ H1 e1 en1 => wb_nil ?_))
    case h0 => exact je_spot (C := ⟨P, w, K, mg, base, _, _, _, _⟩) T (fun _ => rfl) (by walk_at "je") hR
    case h1 => exact je_lenL (fun _ => rfl) rfl m1 (je_data (C := ⟨P, w, K, mg, base, _, _, _, _⟩) T (fun _ => rfl) (by walk_at "je") hR) (sq_of hR.2)
    case h2 =>
      refine je_call (ds := [.int v, .int lo, .int hi]) (d := .bl (isNum (.int v) lo hi)) G1 (Nat.le_of_ble_eq_true rfl) rfl (by decide +kernel) (fun _ => rfl) (fun _ _ => rfl) (ja_cons (fun _ => rfl) (je_ixL (fun _ _ => rfl) (je_data (C := ⟨P, w, K, mg, base, _, _, _, _⟩) T (fun _ => rfl) (by walk_at "je") hR) (je_spot (C := ⟨P, w, K, mg, base, _, _, _, _⟩) T (fun _ => rfl) (by walk_at "je") hR) (sq_of hR.2) (ints_dis is) (hat rfl)) (by walk_at "ja")) ⟨.int v, lo, hi, rfl, rfl, rfl⟩
    case h3 =>
      rw [List.length_map]
      show (decide _ || !(decide (lo ≤ v) && decide (v ≤ hi))) = false
      rw [decide_eq_false (by omega), decide_eq_true hlo, decide_eq_true hhi]
      rfl
    have hR1 := hR.ex e1
    obtain ⟨⟨dx, hx1⟩, hl1⟩ := id hR1
    refine' wb_cons (ws_fldaug (i := (k : Int)) (j := 1) o en1 ?h0 ?h1 hx1 T.cls T.ns (lookup2b (by decide +kernel)) (Nat.le_of_ble_eq_true rfl) fun H2 e2 hx2 en2 => ?_)
    case h0 => walk_at "je"
    case h1 => walk_at "je"
    rw [putF2 (by decide +kernel)] at en2 ⊢
    have xb3 : ExB [x] H (upd H2 x (.ins CR dx [("data", V.ref l), ("spot", .int ((k : Int) + 1))])) := exb_upd (.of (e1.trans e2)) (by simp)
    have hR3 : RdAt CR (upd H2 x (.ins CR dx [("data", V.ref l), ("spot", .int ((k : Int) + 1))])) x l is (k + 1) := ⟨⟨dx, by rw [upd_same]; rfl⟩, by rw [upd_ne hR.ne]; exact e2 _ _ hl1⟩
    show WB X _ _ _ (upd H2 x (.ins CR dx [("data", V.ref l), ("spot", .int ((k : Int) + 1))]))
    generalize upd H2 x (.ins CR dx [("data", V.ref l), ("spot", .int ((k : Int) + 1))]) = H3 at *
    refine' wb_one (ws_ret o en2 (d := .int v) (je_ixL (fun _ _ => rfl) (je_data (C := ⟨P, w, K, mg, base, _, _, _, _⟩) T (fun _ => rfl) (by walk_at "je") hR3) (je_sub (je_spot (C := ⟨P, w, K, mg, base, _, _, _, _⟩) T (fun _ => rfl) (by walk_at "je") hR3) (by walk_at "je")) (sq_of hR3.2) (ints_dis is) (hat (by omega))) fun v' H4 e4 hv4 => ?_)
    rw [hv4.int_inv]
    exact q _ (xb3.trans (.of e4)) (hR3.ex e4)
/-- o.item(lo, hi) -/
theorem we_item {X : Cx} {N : List Str} {sc : Scope} {lv : Nat} {bf : Bool} {ρ : Rh} {σ : St} {H : Hp} {a e1 e2 : Expr} {p pos : Pos} {Q : VK} {CR x l : Addr} {is : List Int} {k : Nat} {v lo hi : Int} (o : (Ct.mk P w K mg base N sc lv bf).Of X) (env : EnvD K H σ ρ) (T : RdT K CR) (M : RdM P w K mg base 2 CR "item" (spItem CR)) (hlv : 2 ≤ lv) (hs : NoStar e1 [e2]) (hpl : NoStars [e2])
    {pl : Env → Sem Bool} (hc : ∀ env, eval (.Call (.Attribute a "item" p) [e1, e2] [] pos) env = (do
      let ov ← eval a env
      standAt p.atName
      let (f, first) ← holding [ov] (getMethod ov "item" (pl env))
      callWith pos f first (backTo pos (starEach [e1, e2] env)) (backToKw pos (keywordEach [] env))))
    (ha : JE (Ct.mk P w K mg base N sc lv bf) ρ H a (.ref x)) (hb : JA (Ct.mk P w K mg base N sc lv bf) ρ H [e1, e2] [.int lo, .int hi]) (hR : RdAt CR H x l is k) (hv : is[k]? = some v) (h1 : lo ≤ v) (h2 : v ≤ hi)
    (q : ∀ H', ExB [x] H H' → RdAt CR H' x l is (k + 1) → Q (.int v) H') : WE X (.Call (.Attribute a "item" p) [e1, e2] [] pos) σ H Q := by
  obtain ⟨f, fd, ps, me, G, bb⟩ := M
  obtain ⟨o1, o2, o3, o4, o5, o6, o7, o8, o9, o10⟩ := id o
  dsimp only at o1 o2 o3 o4 o5
  subst o1 o2 o3 o4 o5
  refine PEw (pe_meth (E := fun _ _ _ => False) pe_w T.cls me G (o9.mono hlv) bb .nil pass0 pa_w (hs _) (hpl _ _) (hc _)) ?_
  refine ha.run X o o6 σ H (Ex.refl H) env _ fun u H1 e1 qu => ?_
  rw [qu.ref_inv]
  obtain ⟨⟨dx, hx1⟩, hl1⟩ := hR.ex e1
  refine ⟨x, dx, _, rfl, hx1, lookup2 (by decide +kernel) (by decide +kernel), hb.run X o o6 σ H1 e1 (env.mono (ex_tx e1)) _ fun vs H2 e2 q2 => ?_⟩
  obtain ⟨w1, w2, rfl, z1, z2⟩ := dis2 q2
  rw [z1.int_inv, z2.int_inv]
  exact ⟨x, l, is, k, v, lo, hi, rfl, hR.ex (e1.trans e2), hv, h1, h2, fun H' xb hR' => q H' ((ExB.of (e1.trans e2)).trans xb) hR'⟩
end
end Led

set_option maxRecDepth 100000
set_option maxHeartbeats 4000000
namespace Led
open PySem L2 Evl
local macro_rules | `(tactic| walk_at "at") => `(tactic| first
  | with_reducible exact At.here
  | (with_reducible refine' At.there ?h0; (case h0 => walk_at "at")))
local macro_rules | `(tactic| walk_at "vis") => `(tactic| first
  | exact Or.inl rfl
  | exact Or.inr (Or.inl rfl)
  | exact Or.inr (Or.inr rfl))
local macro_rules | `(tactic| walk_at "kit") => `(tactic| first
  | with_reducible exact kit_ii
  | with_reducible exact kit_ib
  | with_reducible exact kit_it
  | with_reducible exact kit_is
  | with_reducible exact kit_bi
  | with_reducible exact kit_bb
  | with_reducible exact kit_bt
  | with_reducible exact kit_bs
  | with_reducible exact kit_si
  | with_reducible exact kit_sb
  | with_reducible exact kit_st
  | with_reducible exact kit_ss
  | with_reducible exact kit_ni
  | with_reducible exact kit_nb
  | with_reducible exact kit_nt
  | with_reducible exact kit_ns
  | with_reducible exact kit_ti
  | with_reducible exact kit_tb
  | with_reducible exact kit_tt
  | with_reducible exact kit_ts)
local macro_rules | `(tactic| walk_at "je") => `(tactic| first
  | exact je_int
  | exact je_bl
  | exact je_non
  | exact je_str
  | (refine' je_var ?h0 ?h1 ?h2 ?h3; (case h0 => walk_at "at"); (case h1 => walk_at "vis"); (case h2 => decide +kernel); (case h3 => decide +kernel))
  | (refine' je_var2 ?h0 ?h1 ?h2 ?h3; (case h0 => rfl); (case h1 => walk_at "vis"); (case h2 => decide +kernel); (case h3 => decide +kernel))
  | (refine' je_globI ?h0 ?h1 ?h2; (case h0 => rfl); (case h1 => with_reducible assumption); (case h2 => decide +kernel))
  | (refine' je_globS ?h0 ?h1 ?h2; (case h0 => rfl); (case h1 => with_reducible assumption); (case h2 => decide +kernel))
  | (refine' je_add ?h0 ?h1; (case h0 => walk_at "je"); (case h1 => walk_at "je"))
  | (refine' je_sub ?h0 ?h1; (case h0 => walk_at "je"); (case h1 => walk_at "je"))
  | (refine' je_lt ?h0 ?h1; (case h0 => walk_at "je"); (case h1 => walk_at "je"))
  | (refine' je_le ?h0 ?h1; (case h0 => walk_at "je"); (case h1 => walk_at "je"))
  | (refine' je_gt ?h0 ?h1; (case h0 => walk_at "je"); (case h1 => walk_at "je"))
  | (refine' je_ge ?h0 ?h1; (case h0 => walk_at "je"); (case h1 => walk_at "je"))
  | (refine' je_eqI ?h0 ?h1; (case h0 => walk_at "je"); (case h1 => walk_at "je"))
  | (refine' je_neI ?h0 ?h1; (case h0 => walk_at "je"); (case h1 => walk_at "je"))
  | (refine' je_mul ?h0 ?h1 ?h2; (case h0 => walk_at "je"); (case h1 => walk_at "je"); (case h2 => walk_at "side"))
  | (refine' je_div ?h0 ?h1 ?h2; (case h0 => walk_at "je"); (case h1 => walk_at "je"); (case h2 => walk_at "side"))
  | (refine' je_mod ?h0 ?h1 ?h2; (case h0 => walk_at "je"); (case h1 => walk_at "je"); (case h2 => walk_at "side"))
  | (refine' je_lele ?h0 ?h1 ?h2 ?h3; (case h0 => walk_at "je"); (case h1 => walk_at "je"); (case h2 => walk_at "je"); (case h3 => with_unfolding_all rfl))
  | (refine' je_isN ?h0; (case h0 => walk_at "je"))
  | (refine' je_notN ?h0; (case h0 => walk_at "je"))
  | (refine' je_not ?h0; (case h0 => walk_at "je"))
  | (refine' je_one ?h0; (case h0 => walk_at "je"))
  | (refine' je_un ?h0; (case h0 => walk_at "je"))
  | (refine' je_andB ?h0 (fun _ => ?h1); (case h0 => walk_at "je"); (case h1 => walk_at "je"))
  | (refine' je_orB ?h0 (fun _ => ?h1); (case h0 => walk_at "je"); (case h1 => walk_at "je"))
  | (refine' je_notT ?h0; (case h0 => walk_at "je"))
  | (refine' je_notF ?h0; (case h0 => walk_at "je"))
  | (refine' je_andF ?h0; (case h0 => walk_at "je"))
  | (refine' je_orT ?h0; (case h0 => walk_at "je"))
  | (refine' je_if ?h0 (fun _ => ?h1) (fun _ => ?h2); (case h0 => walk_at "jt"); (case h1 => walk_at "je"); (case h2 => walk_at "je"))
  | (refine' je_tup ?h0 ?h1; (case h0 => walk_at "ja"); (case h1 => walk_at "side"))
  | (refine' je_ixT ?h0 ?h1 ?h2 ?h3; (case h0 => exact fun _ _ => rfl); (case h1 => walk_at "je"); (case h2 => walk_at "je"); (case h3 => walk_at "ix"))
  | (refine' je_ixN ?h0 ?h1 ?h2 ?h3; (case h0 => exact fun _ _ => rfl); (case h1 => walk_at "jl"); (case h2 => walk_at "je"); (case h3 => walk_at "ix"))
  | (refine' je_sl ?h0 ?h1 ?h2 ?h3; (case h0 => walk_at "je"); (case h1 => walk_at "jo"); (case h2 => walk_at "jo"); (case h3 => walk_at "side"))
  | (refine' je_abs ?h0 ?h1 ?h2 ?h3; (case h0 => exact fun _ => rfl); (case h1 => rfl); (case h2 => with_reducible assumption); (case h3 => walk_at "je"))
  | (refine' je_int1 ?h0 ?h1 ?h2 ?h3; (case h0 => exact fun _ => rfl); (case h1 => rfl); (case h2 => with_reducible assumption); (case h3 => walk_at "je"))
  | (refine' je_max2 ?h0 ?h1 ?h2 ?h3 ?h4; (case h0 => exact fun _ => rfl); (case h1 => exact fun _ _ => rfl); (case h2 => rfl); (case h3 => with_reducible assumption); (case h4 => walk_at "ja"))
  | (refine' je_min2 ?h0 ?h1 ?h2 ?h3 ?h4; (case h0 => exact fun _ => rfl); (case h1 => exact fun _ _ => rfl); (case h2 => rfl); (case h3 => with_reducible assumption); (case h4 => walk_at "ja"))
  | (refine' je_lenT ?h0 ?h1 ?h2 ?h3; (case h0 => exact fun _ => rfl); (case h1 => rfl); (case h2 => with_reducible assumption); (case h3 => walk_at "je"))
  | (refine' je_tupN ?h0 ?h1 ?h2 ?h3; (case h0 => exact fun _ => rfl); (case h1 => rfl); (case h2 => with_reducible assumption); (case h3 => walk_at "jl"))
  | (refine' je_all ?h0 ?h1 ?h2 ?h3; (case h0 => exact fun _ => rfl); (case h1 => rfl); (case h2 => with_reducible assumption); (case h3 => walk_at "jl"))
  | (refine' je_any ?h0 ?h1 ?h2 ?h3; (case h0 => exact fun _ => rfl); (case h1 => rfl); (case h2 => with_reducible assumption); (case h3 => walk_at "jl"))
  | (refine' je_isiI ?h0 ?h1 ?h2 ?h3 ?h4 ?h5 ?h6 ?h7; (case h0 => exact fun _ => rfl); (case h1 => rfl); (case h2 => with_reducible assumption); (case h3 => rfl); (case h4 => with_reducible assumption); (case h5 => walk_at "je"); (case h6 => rfl); (case h7 => walk_at "kit"))
  | (refine' je_isiB ?h0 ?h1 ?h2 ?h3 ?h4 ?h5 ?h6 ?h7; (case h0 => exact fun _ => rfl); (case h1 => rfl); (case h2 => with_reducible assumption); (case h3 => rfl); (case h4 => with_reducible assumption); (case h5 => walk_at "je"); (case h6 => rfl); (case h7 => walk_at "kit"))
  | (refine' je_isiT ?h0 ?h1 ?h2 ?h3 ?h4 ?h5 ?h6 ?h7; (case h0 => exact fun _ => rfl); (case h1 => rfl); (case h2 => with_reducible assumption); (case h3 => rfl); (case h4 => with_reducible assumption); (case h5 => walk_at "je"); (case h6 => rfl); (case h7 => walk_at "kit"))
  | (refine' je_isiS ?h0 ?h1 ?h2 ?h3 ?h4 ?h5 ?h6 ?h7; (case h0 => exact fun _ => rfl); (case h1 => rfl); (case h2 => with_reducible assumption); (case h3 => rfl); (case h4 => with_reducible assumption); (case h5 => walk_at "je"); (case h6 => rfl); (case h7 => walk_at "kit"))
  | (refine' je_call ?h0 ?h1 ?h2 ?h3 ?h4 ?h5 ?h6 ?h7; (case h0 => with_reducible assumption); (case h1 => exact Nat.le_of_ble_eq_true rfl); (case h2 => rfl); (case h3 => decide +kernel); (case h4 => exact fun _ => rfl); (case h5 => exact fun _ _ => rfl); (case h6 => walk_at "ja"); (case h7 => walk_at "rel"))
  | (refine' je_cat ?h0 ?h1 ?h2 ?h3; (case h0 => walk_at "je"); (case h1 => walk_at "je"); (case h2 => walk_at "side"); (case h3 => walk_at "side")))
local macro_rules | `(tactic| walk_at "jt") => `(tactic| first
  | (refine' jt_lt ?h0 ?h1; (case h0 => walk_at "je"); (case h1 => walk_at "je"))
  | (refine' jt_le ?h0 ?h1; (case h0 => walk_at "je"); (case h1 => walk_at "je"))
  | (refine' jt_gt ?h0 ?h1; (case h0 => walk_at "je"); (case h1 => walk_at "je"))
  | (refine' jt_ge ?h0 ?h1; (case h0 => walk_at "je"); (case h1 => walk_at "je"))
  | (refine' jt_eqI ?h0 ?h1; (case h0 => walk_at "je"); (case h1 => walk_at "je"))
  | (refine' jt_neI ?h0 ?h1; (case h0 => walk_at "je"); (case h1 => walk_at "je"))
  | (refine' jt_lele ?h0 ?h1 ?h2 ?h3; (case h0 => walk_at "je"); (case h1 => walk_at "je"); (case h2 => walk_at "je"); (case h3 => with_unfolding_all rfl))
  | (refine' jt_isN ?h0; (case h0 => walk_at "je"))
  | (refine' jt_notN ?h0; (case h0 => walk_at "je"))
  | (refine' jt_not ?h0; (case h0 => walk_at "jt"))
  | (refine' jt_w ?h0; (case h0 => walk_at "jw"))
  | (refine' jt_val ?h0 ?h1; (case h0 => exact fun _ _ => rfl); (case h1 => walk_at "je")))
local macro_rules | `(tactic| walk_at "jw") => `(tactic| first
  | (refine' jw_and1 ?h0; (case h0 => walk_at "jt"))
  | (refine' jw_or1 ?h0; (case h0 => walk_at "jt"))
  | (refine' jw_and ?h0 (fun _ => ?h1); (case h0 => walk_at "jt"); (case h1 => walk_at "jw"))
  | (refine' jw_or ?h0 (fun _ => ?h1); (case h0 => walk_at "jt"); (case h1 => walk_at "jw"))
  | (refine' jw_andF ?h0; (case h0 => walk_at "jt"))
  | (refine' jw_orT ?h0; (case h0 => walk_at "jt")))
local macro_rules | `(tactic| walk_at "ja") => `(tactic| first
  | exact ja_nil
  | (refine' ja_cons ?h0 ?h1 ?h2; (case h0 => exact fun _ => rfl); (case h1 => walk_at "je"); (case h2 => walk_at "ja")))
local macro_rules | `(tactic| walk_at "jo") => `(tactic| first
  | exact jo_none
  | (refine' jo_some ?h0; (case h0 => walk_at "je")))
local macro_rules | `(tactic| walk_at "jl") => `(tactic| first
  | (refine' jl_lst ?h0 ?h1; (case h0 => walk_at "ja"); (case h1 => walk_at "side"))
  | (refine' jl_list ?h0 ?h1 ?h2 ?h3; (case h0 => exact fun _ => rfl); (case h1 => rfl); (case h2 => with_reducible assumption); (case h3 => walk_at "je")))
local macro_rules | `(tactic| walk_at "ix") => `(tactic| first
  | rfl
  | assumption)
local macro_rules | `(tactic| walk_at "side") => `(tactic| first
  | exact Nat.le_of_ble_eq_true rfl
  | omega
  | exact ⟨by omega, by omega⟩
  | exact Or.inl ⟨by omega, by omega⟩
  | exact Or.inr ⟨by omega, by omega⟩
  | exact fun z => absurd z.1 (Nat.ne_of_beq_eq_false rfl)
  | exact fun z => absurd z.2 (Nat.ne_of_beq_eq_false rfl)
  | exact List.cons_ne_nil _ _
  | assumption)
local macro_rules | `(tactic| walk_at "rel") => `(tactic| first
  | assumption)
section
variable {P : Program} {w : World} {K : PySem.W.Frag} {mg : Str → Option Value} {base : Heap}
/-! read_piece -/
def spRead (K : PySem.W.Frag) (CR : Addr) : Sp := fun vs H Q _ => ∃ (x l : Addr) (is : List Int) (k : Nat), vs = [.ref x] ∧ RdAt CR H x l is k ∧ (∀ j : Nat, j < 4 → ∃ v, is[k + j]? = some v ∧ 0 ≤ v ∧ v ≤ 60) ∧ ∀ v H', ExB [x] H H' → RdAt CR H' x l is (k + 4) → Di K H' v (.tup (((is.drop k).take 4).map Dt.int)) → Q v H'
theorem sc_Reader_read_piece : FnScope ["self", "turn"] ["self"] (defScope s_Reader_read_piece) := ⟨rfl, rfl, rfl, by decide +kernel, rfl, by decide +kernel, by decide +kernel⟩
theorem take_snoc' {is : List Int} {k i : Nat} {v : Int} (h : is[k + i]? = some v) : (is.drop k).take (i + 1) = (is.drop k).take i ++ [v] := by
  refine take_snoc ?_
  rw [List.getElem?_drop]
  exact h
theorem ok_Reader_read_piece {f CR : Addr} {fd : FuncData} {tF tP : Tok} (F : Fun K "read_piece" "Reader.read_piece" s_Reader_read_piece f fd) (m1 : mg "range" = none) (m2 : mg "tuple" = none) (c1 : mg "FAR" = some (.int 60 tF)) (c2 : mg "PARTS" = some (.int 4 tP)) (T : RdT K CR) (M : RdM P w K mg base 2 CR "item" (spItem CR)) : FnOk P w K mg base CX0 3 f fd ["self"] (spRead K CR) := by
  refine fn_sp F sc_Reader_read_piece (fun vs H Q E h => ?_) (fun X vs H Q E o pn hst hfr tk h => ?_)
  · obtain ⟨x, l, is, k, rfl, _⟩ := h
    rfl
  · obtain ⟨x, l, is, k, rfl, hR, hin, q⟩ := h
    have env : EnvD K H (L2.start ["self", "turn"] [.ref x]) [some (.ref x), none] := env_start (.cons (.ref x) .nil)
    refine wb_one (PSw (ps_ret (pe_callTy call_tuple_of (o.gl (x := "tuple") rfl) (o.fr m2) boot_tuple' (pa_cons pe_w pa_nil rfl) (by decide +kernel) (by decide +kernel) rfl)) ?_)
    refine we_lcM (j := 1) (n := 4) o env sc_Reader_read_piece.nd (blkOk_by rfl) rfl rfl (fun _ => rfl) rfl m1 (show JE _ _ _ _ (.int 4) from je_globI rfl c2 (by decide +kernel)) (by decide) [x] (by simpa using hR.some) (fun i vs H1 => ExB [x] H H1 ∧ RdAt CR H1 x l is (k + i) ∧ vs = ((is.drop k).take i).map V.int) (fun H1 e1 => ⟨.of e1, hR.ex e1, rfl⟩) (fun i vs H1 h => by simpa using h.2.1.noT) (fun i vs H1 D u hD h => ?_) (fun i vs H1 h => by rw [h.2.2, List.length_map, List.length_take]; exact Nat.min_le_left _ _) (fun X' o' i vs σ' H1 hi h en1 Q' q' => ?_) (fun l7 vs7 H7 hl7 xb7 hl7' h7 => ?_)
    · obtain ⟨h1, h2, h3⟩ := h
      have nx : x ≠ D := fun z => by have := hR.some; rw [z, hD] at this; cases this
      have nl : l ≠ D := fun z => by have := hR.2; rw [z, hD] at this; cases this
      refine ⟨fun c u' hc nc => ?_, h2.upd nx nl, h3⟩
      rw [upd_ne (ne_of_none hc hD)]; exact h1 _ _ hc nc
    · obtain ⟨h1, h2, h3⟩ := h
      obtain ⟨v, hv, v0, v6⟩ := hin i hi
      refine we_item o' en1 T M (Nat.le_of_ble_eq_true rfl) (fun _ => rfl) (fun _ _ => rfl) (fun _ => rfl) (by walk_at "je") (by walk_at "ja") h2 hv v0 v6 fun H2 xb2 hR2 => ?_
      exact q' _ _ xb2 ⟨h1.trans xb2, hR2, by rw [take_snoc' hv, h3, List.map_append]; rfl⟩
    · obtain ⟨h1, h2, rfl⟩ := h7
      refine ⟨l7, _, rfl, .inl ⟨sq_of hl7', fun t8 ht8 => ?_⟩⟩
      refine q (.ref t8) _ (h1.trans (.of (Ex.new ht8))) (h2.ex (Ex.new ht8)) (.tup upd_same (ints_dis _))
/-! finish -/
def spFinish (CR : Addr) : Sp := fun vs H Q _ => ∃ (x l : Addr) (is : List Int) (k : Nat), vs = [.ref x] ∧ RdAt CR H x l is k ∧ is[k]? = some (chk (is.take k)) ∧ is.length = k + 1 ∧ ∀ H', ExB [x] H H' → Q .non H'
theorem sc_Reader_finish : FnScope ["self", "check"] ["self"] (defScope s_Reader_finish) := ⟨rfl, rfl, rfl, by decide +kernel, rfl, by decide +kernel, by decide +kernel⟩
theorem je_chkN {N : List Str} {sc : Scope} {lv : Nat} {bf : Bool} {ρ : Rh} {H : Hp} {e : Expr} {p pos : Pos} {is : List Int} (G : Fn0 P w K mg base CX0 1 "checksum" (spChk K)) (hlv : 1 ≤ lv) (hg : GlN (Ct.mk P w K mg base N sc lv bf) "checksum") (hs : NoStar e [])
    (ha : JL (Ct.mk P w K mg base N sc lv bf) ρ H e (is.map Dt.int)) : JE (Ct.mk P w K mg base N sc lv bf) ρ H (.Call (Nm "checksum" p) [e] [] pos) (.int (chk is)) := ⟨fun X o hN σ H1 e1 env Q q => by
  obtain ⟨f, fd, ps, G, hm, kp, bb⟩ := (G.to o).ex
  refine PEw (pe_call G (o.room.mono hlv) (o.gl hg) hm kp bb .nil pass0 (pa_cons pe_w pa_nil (hs _)) (by decide +kernel) (hs _) rfl) (ha.run X o hN σ H1 e1 env _ fun l vs H2 hl e2 h2 hd => ?_)
  rw [dis_ints hd] at h2
  exact ⟨l, is, rfl, sq_of h2, fun H' e' => q _ _ (e2.trans e') (.int _)⟩⟩
theorem ok_Reader_finish {f CR : Addr} {fd : FuncData} (F : Fun K "finish" "Reader.finish" s_Reader_finish f fd) (m1 : mg "len" = none) (T : RdT K CR) (M : RdM P w K mg base 2 CR "item" (spItem CR)) (G : Fn0 P w K mg base CX0 1 "checksum" (spChk K)) : FnOk P w K mg base CX0 3 f fd ["self"] (spFinish CR) := by
  refine fn_sp F sc_Reader_finish (fun vs H Q E h => ?_) (fun X vs H Q E o pn hst hfr tk h => ?_)
  · obtain ⟨x, l, is, k, rfl, _⟩ := h
    rfl
  · obtain ⟨x, l, is, k, rfl, hR, hk, hlen, q⟩ := h
    have env : EnvD K H (L2.start ["self", "check"] [.ref x]) [some (.ref x), none] := env_start (.cons (.ref x) .nil)
    have hcut : cutD (is.map Dt.int) none (some (k : Int)) = (is.take k).map Dt.int := by
      unfold cutD
      rw [HT.sIx_none, HT.sIx_nat, List.length_map, List.drop_zero, Nat.sub_zero, List.map_take]
      congr 1
      omega
    refine' wb_cons (ws_set (i := 1) (d := .int (chk (is.take k))) o env sc_Reader_finish.nd rfl rfl (fun _ => rfl) (je_chkN G (Nat.le_of_ble_eq_true rfl) rfl (fun _ => rfl) (jl_is (jl_slL (h := some (k : Int)) (je_data (C := ⟨P, w, K, mg, base, _, _, _, _⟩) T (fun _ => rfl) (by walk_at "je") hR) (sq_of hR.2) (ints_dis is) jo_none (jo_some (je_spot (C := ⟨P, w, K, mg, base, _, _, _, _⟩) T (fun _ => rfl) (by walk_at "je") hR))) hcut)) fun v σ2 H2 e2 hv en2 => ?_)
    replace en2 : EnvD K H2 σ2 [some (.ref x), some (.int (chk (is.take k)))] := en2
    have hR2 := hR.ex e2
    refine wb_cons (PSw (ps_expr pe_w rfl) (we_item o en2 T M (Nat.le_of_ble_eq_true rfl) (fun _ => rfl) (fun _ _ => rfl) (fun _ => rfl) (by walk_at "je") (by walk_at "ja") hR2 hk (Int.le_refl _) (Int.le_refl _) fun H3 xb3 hR3 => ?_))
    have en3 := en2.mono (xb3.tx (by simpa using hR2.noT))
    refine wb_one (ws_if (k := false) o en3 (jt_is (jt_lt (je_spot (C := ⟨P, w, K, mg, base, _, _, _, _⟩) T (fun _ => rfl) (by walk_at "je") hR3) (je_lenL (fun _ => rfl) rfl m1 (je_data (C := ⟨P, w, K, mg, base, _, _, _, _⟩) T (fun _ => rfl) (by walk_at "je") hR3) (sq_of hR3.2))) ?h3) (fun z => nomatch z) (fun _ H4 e4 en4 => wb_nil (q _ (((ExB.of e2).trans xb3).trans (.of e4)))))
    rw [List.length_map]
    exact decide_eq_false (by omega)
end
end Led

set_option maxRecDepth 100000
set_option maxHeartbeats 4000000
namespace Led
open PySem L2 Evl
local macro_rules | `(tactic| walk_at "at") => `(tactic| first
  | with_reducible exact At.here
  | (with_reducible refine' At.there ?h0; (case h0 => walk_at "at")))
local macro_rules | `(tactic| walk_at "vis") => `(tactic| first
  | exact Or.inl rfl
  | exact Or.inr (Or.inl rfl)
  | exact Or.inr (Or.inr rfl))
local macro_rules | `(tactic| walk_at "kit") => `(tactic| first
  | with_reducible exact kit_ii
  | with_reducible exact kit_ib
  | with_reducible exact kit_it
  | with_reducible exact kit_is
  | with_reducible exact kit_bi
  | with_reducible exact kit_bb
  | with_reducible exact kit_bt
  | with_reducible exact kit_bs
  | with_reducible exact kit_si
  | with_reducible exact kit_sb
  | with_reducible exact kit_st
  | with_reducible exact kit_ss
  | with_reducible exact kit_ni
  | with_reducible exact kit_nb
  | with_reducible exact kit_nt
  | with_reducible exact kit_ns
  | with_reducible exact kit_ti
  | with_reducible exact kit_tb
  | with_reducible exact kit_tt
  | with_reducible exact kit_ts)
local macro_rules | `(tactic| walk_at "je") => `(tactic| first
  | exact je_int
  | exact je_bl
  | exact je_non
  | exact je_str
  | (refine' je_var ?h0 ?h1 ?h2 ?h3; (case h0 => walk_at "at"); (case h1 => walk_at "vis"); (case h2 => decide +kernel); (case h3 => decide +kernel))
  | (refine' je_var2 ?h0 ?h1 ?h2 ?h3; (case h0 => rfl); (case h1 => walk_at "vis"); (case h2 => decide +kernel); (case h3 => decide +kernel))
  | (refine' je_globI ?h0 ?h1 ?h2; (case h0 => rfl); (case h1 => with_reducible assumption); (case h2 => decide +kernel))
  | (refine' je_globS ?h0 ?h1 ?h2; (case h0 => rfl); (case h1 => with_reducible assumption); (case h2 => decide +kernel))
  | (refine' je_add ?h0 ?h1; (case h0 => walk_at "je"); (case h1 => walk_at "je"))
  | (refine' je_sub ?h0 ?h1; (case h0 => walk_at "je"); (case h1 => walk_at "je"))
  | (refine' je_lt ?h0 ?h1; (case h0 => walk_at "je"); (case h1 => walk_at "je"))
  | (refine' je_le ?h0 ?h1; (case h0 => walk_at "je"); (case h1 => walk_at "je"))
  | (refine' je_gt ?h0 ?h1; (case h0 => walk_at "je"); (case h1 => walk_at "je"))
  | (refine' je_ge ?h0 ?h1; (case h0 => walk_at "je"); (case h1 => walk_at "je"))
  | (refine' je_eqI ?h0 ?h1; (case h0 => walk_at "je"); (case h1 => walk_at "je"))
  | (refine' je_neI ?h0 ?h1; (case h0 => walk_at "je"); (case h1 => walk_at "je"))
  | (refine' je_mul ?h0 ?h1 ?h2; (case h0 => walk_at "je"); (case h1 => walk_at "je"); (case h2 => walk_at "side"))
  | (refine' je_div ?h0 ?h1 ?h2; (case h0 => walk_at "je"); (case h1 => walk_at "je"); (case h2 => walk_at "side"))
  | (refine' je_mod ?h0 ?h1 ?h2; (case h0 => walk_at "je"); (case h1 => walk_at "je"); (case h2 => walk_at "side"))
  | (refine' je_lele ?h0 ?h1 ?h2 ?h3; (case h0 => walk_at "je"); (case h1 => walk_at "je"); (case h2 => walk_at "je"); (case h3 => with_unfolding_all rfl))
  | (refine' je_isN ?h0; (case h0 => walk_at "je"))
  | (refine' je_notN ?h0; (case h0 => walk_at "je"))
  | (refine' je_not ?h0; (case h0 => walk_at "je"))
  | (refine' je_one ?h0; (case h0 => walk_at "je"))
  | (refine' je_un ?h0; (case h0 => walk_at "je"))
  | (refine' je_andB ?h0 (fun _ => ?h1); (case h0 => walk_at "je"); (case h1 => walk_at "je"))
  | (refine' je_orB ?h0 (fun _ => ?h1); (case h0 => walk_at "je"); (case h1 => walk_at "je"))
  | (refine' je_notT ?h0; (case h0 => walk_at "je"))
  | (refine' je_notF ?h0; (case h0 => walk_at "je"))
  | (refine' je_andF ?h0; (case h0 => walk_at "je"))
  | (refine' je_orT ?h0; (case h0 => walk_at "je"))
  | (refine' je_if ?h0 (fun _ => ?h1) (fun _ => ?h2); (case h0 => walk_at "jt"); (case h1 => walk_at "je"); (case h2 => walk_at "je"))
  | (refine' je_tup ?h0 ?h1; (case h0 => walk_at "ja"); (case h1 => walk_at "side"))
  | (refine' je_ixT ?h0 ?h1 ?h2 ?h3; (case h0 => exact fun _ _ => rfl); (case h1 => walk_at "je"); (case h2 => walk_at "je"); (case h3 => walk_at "ix"))
  | (refine' je_ixN ?h0 ?h1 ?h2 ?h3; (case h0 => exact fun _ _ => rfl); (case h1 => walk_at "jl"); (case h2 => walk_at "je"); (case h3 => walk_at "ix"))
  | (refine' je_sl ?h0 ?h1 ?h2 ?h3; (case h0 => walk_at "je"); (case h1 => walk_at "jo"); (case h2 => walk_at "jo"); (case h3 => walk_at "side"))
  | (refine' je_abs ?h0 ?h1 ?h2 ?h3; (case h0 => exact fun _ => rfl); (case h1 => rfl); (case h2 => with_reducible assumption); (case h3 => walk_at "je"))
  | (refine' je_int1 ?h0 ?h1 ?h2 ?h3; (case h0 => exact fun _ => rfl); (case h1 => rfl); (case h2 => with_reducible assumption); (case h3 => walk_at "je"))
  | (refine' je_max2 ?h0 ?h1 ?h2 ?h3 ?h4; (case h0 => exact fun _ => rfl); (case h1 => exact fun _ _ => rfl); (case h2 => rfl); (case h3 => with_reducible assumption); (case h4 => walk_at "ja"))
  | (refine' je_min2 ?h0 ?h1 ?h2 ?h3 ?h4; (case h0 => exact fun _ => rfl); (case h1 => exact fun _ _ => rfl); (case h2 => rfl); (case h3 => with_reducible assumption); (case h4 => walk_at "ja"))
  | (refine' je_lenT ?h0 ?h1 ?h2 ?h3; (case h0 => exact fun _ => rfl); (case h1 => rfl); (case h2 => with_reducible assumption); (case h3 => walk_at "je"))
  | (refine' je_tupN ?h0 ?h1 ?h2 ?h3; (case h0 => exact fun _ => rfl); (case h1 => rfl); (case h2 => with_reducible assumption); (case h3 => walk_at "jl"))
  | (refine' je_all ?h0 ?h1 ?h2 ?h3; (case h0 => exact fun _ => rfl); (case h1 => rfl); (case h2 => with_reducible assumption); (case h3 => walk_at "jl"))
  | (refine' je_any ?h0 ?h1 ?h2 ?h3; (case h0 => exact fun _ => rfl); (case h1 => rfl); (case h2 => with_reducible assumption); (case h3 => walk_at "jl"))
  | (refine' je_isiI ?h0 ?h1 ?h2 ?h3 ?h4 ?h5 ?h6 ?h7; (case h0 => exact fun _ => rfl); (case h1 => rfl); (case h2 => with_reducible assumption); (case h3 => rfl); (case h4 => with_reducible assumption); (case h5 => walk_at "je"); (case h6 => rfl); (case h7 => walk_at "kit"))
  | (refine' je_isiB ?h0 ?h1 ?h2 ?h3 ?h4 ?h5 ?h6 ?h7; (case h0 => exact fun _ => rfl); (case h1 => rfl); (case h2 => with_reducible assumption); (case h3 => rfl); (case h4 => with_reducible assumption); (case h5 => walk_at "je"); (case h6 => rfl); (case h7 => walk_at "kit"))
  | (refine' je_isiT ?h0 ?h1 ?h2 ?h3 ?h4 ?h5 ?h6 ?h7; (case h0 => exact fun _ => rfl); (case h1 => rfl); (case h2 => with_reducible assumption); (case h3 => rfl); (case h4 => with_reducible assumption); (case h5 => walk_at "je"); (case h6 => rfl); (case h7 => walk_at "kit"))
  | (refine' je_isiS ?h0 ?h1 ?h2 ?h3 ?h4 ?h5 ?h6 ?h7; (case h0 => exact fun _ => rfl); (case h1 => rfl); (case h2 => with_reducible assumption); (case h3 => rfl); (case h4 => with_reducible assumption); (case h5 => walk_at "je"); (case h6 => rfl); (case h7 => walk_at "kit"))
  | (refine' je_call ?h0 ?h1 ?h2 ?h3 ?h4 ?h5 ?h6 ?h7; (case h0 => with_reducible assumption); (case h1 => exact Nat.le_of_ble_eq_true rfl); (case h2 => rfl); (case h3 => decide +kernel); (case h4 => exact fun _ => rfl); (case h5 => exact fun _ _ => rfl); (case h6 => walk_at "ja"); (case h7 => walk_at "rel"))
  | (refine' je_cat ?h0 ?h1 ?h2 ?h3; (case h0 => walk_at "je"); (case h1 => walk_at "je"); (case h2 => walk_at "side"); (case h3 => walk_at "side")))
local macro_rules | `(tactic| walk_at "jt") => `(tactic| first
  | (refine' jt_lt ?h0 ?h1; (case h0 => walk_at "je"); (case h1 => walk_at "je"))
  | (refine' jt_le ?h0 ?h1; (case h0 => walk_at "je"); (case h1 => walk_at "je"))
  | (refine' jt_gt ?h0 ?h1; (case h0 => walk_at "je"); (case h1 => walk_at "je"))
  | (refine' jt_ge ?h0 ?h1; (case h0 => walk_at "je"); (case h1 => walk_at "je"))
  | (refine' jt_eqI ?h0 ?h1; (case h0 => walk_at "je"); (case h1 => walk_at "je"))
  | (refine' jt_neI ?h0 ?h1; (case h0 => walk_at "je"); (case h1 => walk_at "je"))
  | (refine' jt_lele ?h0 ?h1 ?h2 ?h3; (case h0 => walk_at "je"); (case h1 => walk_at "je"); (case h2 => walk_at "je"); (case h3 => with_unfolding_all rfl))
  | (refine' jt_isN ?h0; (case h0 => walk_at "je"))
  | (refine' jt_notN ?h0; (case h0 => walk_at "je"))
  | (refine' jt_not ?h0; (case h0 => walk_at "jt"))
  | (refine' jt_w ?h0; (case h0 => walk_at "jw"))
  | (refine' jt_val ?h0 ?h1; (case h0 => exact fun _ _ => rfl); (case h1 => walk_at "je")))
local macro_rules | `(tactic| walk_at "jw") => `(tactic| first
  | (refine' jw_and1 ?h0; (case h0 => walk_at "jt"))
  | (refine' jw_or1 ?h0; (case h0 => walk_at "jt"))
  | (refine' jw_and ?h0 (fun _ => ?h1); (case h0 => walk_at "jt"); (case h1 => walk_at "jw"))
  | (refine' jw_or ?h0 (fun _ => ?h1); (case h0 => walk_at "jt"); (case h1 => walk_at "jw"))
  | (refine' jw_andF ?h0; (case h0 => walk_at "jt"))
  | (refine' jw_orT ?h0; (case h0 => walk_at "jt")))
local macro_rules | `(tactic| walk_at "ja") => `(tactic| first
  | exact ja_nil
  | (refine' ja_cons ?h0 ?h1 ?h2; (case h0 => exact fun _ => rfl); (case h1 => walk_at "je"); (case h2 => walk_at "ja")))
local macro_rules | `(tactic| walk_at "jo") => `(tactic| first
  | exact jo_none
  | (refine' jo_some ?h0; (case h0 => walk_at "je")))
local macro_rules | `(tactic| walk_at "jl") => `(tactic| first
  | (refine' jl_lst ?h0 ?h1; (case h0 => walk_at "ja"); (case h1 => walk_at "side"))
  | (refine' jl_list ?h0 ?h1 ?h2 ?h3; (case h0 => exact fun _ => rfl); (case h1 => rfl); (case h2 => with_reducible assumption); (case h3 => walk_at "je")))
local macro_rules | `(tactic| walk_at "ix") => `(tactic| first
  | rfl
  | assumption)
local macro_rules | `(tactic| walk_at "side") => `(tactic| first
  | exact Nat.le_of_ble_eq_true rfl
  | omega
  | exact ⟨by omega, by omega⟩
  | exact Or.inl ⟨by omega, by omega⟩
  | exact Or.inr ⟨by omega, by omega⟩
  | exact fun z => absurd z.1 (Nat.ne_of_beq_eq_false rfl)
  | exact fun z => absurd z.2 (Nat.ne_of_beq_eq_false rfl)
  | exact List.cons_ne_nil _ _
  | assumption)
local macro_rules | `(tactic| walk_at "rel") => `(tactic| first
  | assumption)
section
variable {P : Program} {w : World} {K : PySem.W.Frag} {mg : Str → Option Value} {base : Heap}
/-! decode_drawing -/
theorem itemsP_drop : ∀ {ps : List Pc} {j : Nat} {p : Pc}, ps[j]? = some p → ∀ r : List Int, ∃ r', (itemsP ps ++ r).drop (4 * j) = p.x :: p.y :: p.u :: p.v :: r'
  | [], j, p, h, _ => by simp at h
  | q :: ps, 0, p, h, r => by
    cases h
    exact ⟨itemsP ps ++ r, rfl⟩
  | q :: ps, j + 1, p, h, r => itemsP_drop (ps := ps) (j := j) (by simpa using h) r
theorem is_drop {ps : List Pc} {j : Nat} {p : Pc} (h : ps[j]? = some p) (c : Int) : ∃ r', (items ps ++ [c]).drop (2 + 4 * j) = p.x :: p.y :: p.u :: p.v :: r' := by
  obtain ⟨r', hr⟩ := itemsP_drop h [c]
  refine ⟨r', ?_⟩
  rw [Nat.add_comm]
  exact hr
theorem is_len (ps : List Pc) (c : Int) : (items ps ++ [c]).length = 2 + 4 * ps.length + 1 := by
  have := itemsP_len ps
  simp [items]; omega
theorem is_take (ps : List Pc) (c : Int) : (items ps ++ [c]).take (2 + 4 * ps.length) = items ps := by
  have h : (items ps).length = 2 + 4 * ps.length := by
    have := itemsP_len ps
    simp [items]; omega
  rw [← h, List.take_left]
theorem is_last (ps : List Pc) (c : Int) : (items ps ++ [c])[2 + 4 * ps.length]? = some c := by
  have h : (items ps).length = 2 + 4 * ps.length := by
    have := itemsP_len ps
    simp [items]; omega
  rw [← h]
  simp
theorem Good.in {ps : List Pc} (h : Good ps) {p : Pc} (hp : p ∈ ps) : p.In := by
  obtain ⟨_, h2⟩ := scan_ok h
  have := (isPc_pc (h2 [.int p.x, .int p.y, .int p.u, .int p.v] (List.mem_map.mpr ⟨p, hp, rfl⟩))).2.1
  exact this
structure RdI (P : Program) (w : World) (K : PySem.W.Frag) (mg : Str → Option Value) (base : Heap) (CR : Addr) : Prop where
  gm : mg "Reader" = some (.ref CR)
  ini : ∃ fI fd ps, Mk K CR fI ∧ FnOk P w K mg base CX0 1 fI fd ps (spRI CR) ∧ Binds K fd ps []
  t : RdT K CR
  item : RdM P w K mg base 2 CR "item" (spItem CR)
  read : RdM P w K mg base 3 CR "read_piece" (spRead K CR)
  fin : RdM P w K mg base 3 CR "finish" (spFinish CR)
def spDec (K : PySem.W.Frag) (CD : Addr) (T : DrT K CD) : Sp := fun vs H Q _ => ∃ (l : Addr) (ps : List Pc), vs = [.ref l] ∧ H l = some (.lst ((items ps ++ [chk (items ps)]).map V.int)) ∧ Good ps ∧ ps.length ≤ 6 ∧ ∀ x H', Ex H H' → DrAt K CD T H' x ps → Q (.ref x) H'
theorem sc_decode_drawing : FnScope ["values", "reader", "pieces", "turn"] ["values"] (defScope s_decode_drawing) := ⟨rfl, rfl, rfl, by decide +kernel, rfl, by decide +kernel, by decide +kernel⟩
theorem we_read {X : Cx} {N : List Str} {sc : Scope} {lv : Nat} {bf : Bool} {ρ : Rh} {σ : St} {H : Hp} {a : Expr} {p pos : Pos} {m : Str} {sp : Sp} {Q : VK} {CR x l : Addr} {is : List Int} {k : Nat} (o : (Ct.mk P w K mg base N sc lv bf).Of X) (env : EnvD K H σ ρ) (T : RdT K CR) (M : RdM P w K mg base 3 CR m sp) (hlv : 3 ≤ lv)
    {pl : Env → Sem Bool} (hc : ∀ env, eval (.Call (.Attribute a m p) [] [] pos) env = (do
      let ov ← eval a env
      standAt p.atName
      let (f, first) ← holding [ov] (getMethod ov m (pl env))
      callWith pos f first (backTo pos (starEach [] env)) (backToKw pos (keywordEach [] env))))
    (ha : JE (Ct.mk P w K mg base N sc lv bf) ρ H a (.ref x)) (hR : RdAt CR H x l is k) (hm1 : (m == ("data" : Str)) = false) (hm2 : (m == ("spot" : Str)) = false)
    (q : ∀ H1, Ex H H1 → sp [.ref x] H1 Q (fun _ _ _ => False)) : WE X (.Call (.Attribute a m p) [] [] pos) σ H Q := by
  obtain ⟨f, fd, ps, me, G, bb⟩ := M
  obtain ⟨o1, o2, o3, o4, o5, o6, o7, o8, o9, o10⟩ := id o
  dsimp only at o1 o2 o3 o4 o5
  subst o1 o2 o3 o4 o5
  refine PEw (pe_meth0 (E := fun _ _ _ => False) pe_w T.cls me G (o9.mono hlv) bb .nil pass0 (hc _)) ?_
  refine ha.run X o o6 σ H (Ex.refl H) env _ fun u H1 e1 qu => ?_
  rw [qu.ref_inv]
  obtain ⟨⟨dx, hx1⟩, hl1⟩ := hR.ex e1
  exact ⟨x, dx, _, rfl, hx1, lookup2 hm1 hm2, q H1 e1⟩
theorem we_reader {X : Cx} {N : List Str} {sc : Scope} {lv : Nat} {bf : Bool} {ρ : Rh} {σ : St} {H : Hp} {e : Expr} {p pos : Pos} {Q : VK} {CR l : Addr} {is : List Int} (o : (Ct.mk P w K mg base N sc lv bf).Of X) (env : EnvD K H σ ρ) (R : RdI P w K mg base CR) (hlv : 2 ≤ lv) (hg : GlN (Ct.mk P w K mg base N sc lv bf) "Reader") (hs : NoStar e [])
    (he : JE (Ct.mk P w K mg base N sc lv bf) ρ H e (.ref l)) (hl : H l = some (.lst (is.map V.int))) (q : ∀ x H', H x = none → Ex H H' → RdAt CR H' x l is 0 → Q (.ref x) H') : WE X (.Call (Nm "Reader" p) [e] [] pos) σ H Q := by
  obtain ⟨fI, fd, ps, mk, G, b⟩ := R.ini
  obtain ⟨o1, o2, o3, o4, o5, o6, o7, o8, o9, o10⟩ := id o
  dsimp only at o1 o2 o3 o4 o5
  subst o1 o2 o3 o4 o5
  refine PEw (pe_make (E := fun _ _ _ => False) mk G (o9.mono hlv) (o.gl hg) R.gm b .nil pass0 (pa_cons pe_w pa_nil (hs _)) (by decide +kernel) (hs _)) ?_
  refine he.run X o o6 σ H (Ex.refl H) env _ fun v H1 e1 hv x dx hx hdx hne => ?_
  rw [hv.ref_inv]
  have ex2 : Ex H1 (upd (upd H1 dx (.own x)) x (.ins CR dx [])) := fun c u hc => by
    rw [upd_ne (ne_of_none hc hx), upd_ne (ne_of_none hc hdx)]; exact hc
  refine ⟨x, dx, l, rfl, upd_same, fun H' xb hx' => ⟨rfl, ?_⟩⟩
  have ex3 : Ex H H' := ExB.back (e1.trans ex2) xb (by simp [fresh_back e1 hx])
  exact q x H' (fresh_back e1 hx) ex3 ⟨⟨dx, hx'⟩, ex3 _ _ hl⟩
theorem ok_decode_drawing {f CR CD CI : Addr} {fd : FuncData} {T : DrT K CD} {t1 t2 : Tok} (F : Fun K "decode_drawing" "decode_drawing" s_decode_drawing f fd) (m1 : mg "range" = none) (m2 : mg "tuple" = none) (c1 : mg "FIRST" = some (.int 109 t1)) (c2 : mg "MAX_PIECES" = some (.int 6 t2)) (R : RdI P w K mg base CR) (M : DrC P w K mg base CD CI T) : FnOk P w K mg base CX0 9 f fd ["values"] (spDec K CD T) := by
  refine fn_sp F sc_decode_drawing (fun vs H Q E h => ?_) (fun X vs H Q E o pn hst hfr tk h => ?_)
  · obtain ⟨l, ps, rfl, _⟩ := h
    rfl
  · obtain ⟨l, ps, rfl, hl, hgood, hn, q⟩ := h
    have env : EnvD K H (L2.start ["values", "reader", "pieces", "turn"] [.ref l]) [some (.ref l), none, none, none] := env_start (.cons (.ref l) .nil)
    -- reader = Reader(values)
    refine wb_cons (PSw (ps_set (i := 1) (by rw [o.N]; exact sc_decode_drawing.nd) (by rw [o.N]; rfl) (.inr (by rw [o.sc]; rfl)) pe_w rfl (.inl (o.fns rfl _))) ?_)
    refine we_reader o env R (Nat.le_of_ble_eq_true rfl) rfl (fun _ => rfl) (by walk_at "je") hl fun x H1 hx0 e1 hR1 => ?_
    have en1 := (env.mono (ex_tx e1)).set (i := 1) (.ref x)
    replace en1 : EnvD K H1 _ [some (.ref l), some (.ref x), none, none] := en1
    -- reader.item(FIRST, FIRST)
    refine wb_cons (PSw (ps_expr pe_w rfl) (we_item o en1 R.t R.item (Nat.le_of_ble_eq_true rfl) (fun _ => rfl) (fun _ _ => rfl) (fun _ => rfl) (by walk_at "je") (by walk_at "ja") hR1 (v := 109) rfl (Int.le_refl _) (Int.le_refl _) fun H2 xb2 hR2 => ?_))
    have en2 := en1.mono (xb2.tx (by simpa using hR1.noT))
    -- pieces = [reader.read_piece() for turn in range(reader.item(0, MAX_PIECES))]
    refine wb_cons (ws_setLcM2 (i := 2) (j := 3) (n := ps.length) (ρ := [some (.ref l), some (.ref x), none, none]) o sc_decode_drawing.nd rfl rfl (fun env h => ?hsw) (blkOk_by rfl) rfl rfl (fun _ => rfl) rfl m1 (by omega) ?_)
    case hsw => exact sw_true (by rw [h]; rfl) (by rw [h]; rfl) rfl rfl
    refine we_item o en2 R.t R.item (Nat.le_of_ble_eq_true rfl) (fun _ => rfl) (fun _ _ => rfl) (fun _ => rfl) (by walk_at "je") (lo := 0) (hi := 6) (by walk_at "ja") hR2 (v := (ps.length : Int)) rfl (by omega) (by omega) fun H3 xb3 hR3 => ?_
    have en3 := en2.mono (xb3.tx (by simpa using hR2.noT))
    have nx : ∀ {D : Addr}, H3 D = none → x ≠ D := fun hD z => by have := hR3.some; rw [z, hD] at this; cases this
    have nl : ∀ {D : Addr}, H3 D = none → l ≠ D := fun hD z => by have := hR3.2; rw [z, hD] at this; cases this
    refine ⟨rfl, en3, [x], fun i vs H4 => ExB [x] H3 H4 ∧ RdAt CR H4 x l (items ps ++ [chk (items ps)]) (2 + 4 * i) ∧ Dis K H4 vs (((rawOf ps).take i).map Dt.tup), by simpa using hR3.some, fun H4 e4 => ⟨.of e4, hR3.ex e4, .nil⟩, fun i vs H4 h => by simpa using h.2.1.noT, fun i vs H4 D u hD hT h => ?_, fun i vs H4 h => by rw [h.2.2.length, List.length_map, List.length_take]; exact Nat.min_le_left _ _, fun X' o' i vs σ' H4 hi h en4 Q' q' => ?_, fun l5 vs5 σ5 H5 hl5 xb5 hl5' h5 en5 => ?_⟩
    · obtain ⟨h1, h2, h3⟩ := h
      refine ⟨fun c u' hc nc => ?_, h2.upd (nx hD) (nl hD), h3.mono (tx_upd hT)⟩
      rw [upd_ne (ne_of_none hc hD)]; exact h1 _ _ hc nc
    · obtain ⟨h1, h2, h3⟩ := h
      have hpi : ps[i]? = some ps[i] := List.getElem?_eq_getElem hi
      obtain ⟨r', hr'⟩ := is_drop hpi (chk (items ps))
      have hin := hgood.in (List.getElem_mem hi)
      generalize ps[i] = p at hpi hr' hin
      have hat : ∀ j : Nat, (items ps ++ [chk (items ps)])[2 + 4 * i + j]? = (p.x :: p.y :: p.u :: p.v :: r')[j]? := fun j => by
        rw [← hr', List.getElem?_drop]
      refine we_read o' en4 R.t R.read (Nat.le_of_ble_eq_true rfl) (fun _ => rfl) (by walk_at "je") h2 (by decide +kernel) (by decide +kernel) fun H6 e6 => ?_
      refine ⟨x, l, _, 2 + 4 * i, rfl, h2.ex e6, fun j hj => ?_, fun v H7 xb7 hR7 hd7 => ?_⟩
      · match j, hj with
        | 0, _ => exact ⟨_, hat 0, hin.x.1, hin.x.2⟩
        | 1, _ => exact ⟨_, hat 1, hin.y.1, hin.y.2⟩
        | 2, _ => exact ⟨_, hat 2, hin.u.1, hin.u.2⟩
        | 3, _ => exact ⟨_, hat 3, hin.v.1, hin.v.2⟩
      · have xb47 : ExB [x] H4 H7 := (ExB.of e6).trans xb7
        refine q' v H7 xb47 ⟨h1.trans xb47, hR7, ?_⟩
        have hraw : (rawOf ps)[i]? = some [.int p.x, .int p.y, .int p.u, .int p.v] := by
          unfold rawOf
          rw [List.getElem?_map, hpi]
          rfl
        rw [List.take_add_one, hraw, List.map_append]
        refine (h3.mono (xb47.tx (by simpa using h2.noT))).append (.cons ?_ .nil)
        rw [hr'] at hd7
        exact hd7
    · obtain ⟨_, hR5, hd5⟩ := h5
      have hrl : (rawOf ps).length = ps.length := by unfold rawOf; rw [List.length_map]
      rw [← hrl, List.take_length] at hd5
      replace en5 : EnvD K H5 σ5 [some (.ref l), some (.ref x), some (.ref l5), none] := en5
      -- reader.finish()
      refine wb_cons (PSw (ps_expr pe_w rfl) (we_read o en5 R.t R.fin (Nat.le_of_ble_eq_true rfl) (fun _ => rfl) (by walk_at "je") hR5 (by decide +kernel) (by decide +kernel) fun H6 e6 => ?_))
      refine ⟨x, l, _, 2 + 4 * ps.length, rfl, hR5.ex e6, ?_, is_len ps _, fun H7 xb7 => ?_⟩
      · rw [is_take, is_last]
      · have xb57 : ExB [x] H5 H7 := (ExB.of e6).trans xb7
        have tx57 := xb57.tx (K := K) (by simpa using hR5.noT)
        have en7 := en5.mono tx57
        have hl7 : H7 l5 = some (.lst vs5) := xb57 _ _ hl5' (by simpa using Ne.symm (nx hl5))
        have exH : Ex H H7 := ExB.back e1 (((xb2.trans xb3).trans xb5).trans xb57) (by simp [hx0])
        refine wb_one (PSw (ps_ret pe_w) ?_)
        refine we_drawing o en7 M tk (Nat.le_of_ble_eq_true rfl) rfl (fun _ => rfl) (je_tupL (fun _ => rfl) rfl m2 (by walk_at "je") (sq_of hl7) (hd5.mono tx57)) (raw_ok (by omega)) (fun i hi dd H' σ' e' hd h' => ?_) (fun ps' x' H' hp e' hx' hD => ?_)
        · rw [show scan (rawOf ps) = .ok ps from hgood] at hi
          cases hi
        · rw [show scan (rawOf ps) = .ok ps from hgood] at hp
          cases hp
          exact q x' H' (exH.trans e') hD
end
end Led

set_option maxRecDepth 100000
set_option maxHeartbeats 4000000
namespace Led
open PySem L2 Evl
local macro_rules | `(tactic| walk_at "at") => `(tactic| first
  | with_reducible exact At.here
  | (with_reducible refine' At.there ?h0; (case h0 => walk_at "at")))
local macro_rules | `(tactic| walk_at "vis") => `(tactic| first
  | exact Or.inl rfl
  | exact Or.inr (Or.inl rfl)
  | exact Or.inr (Or.inr rfl))
local macro_rules | `(tactic| walk_at "kit") => `(tactic| first
  | with_reducible exact kit_ii
  | with_reducible exact kit_ib
  | with_reducible exact kit_it
  | with_reducible exact kit_is
  | with_reducible exact kit_bi
  | with_reducible exact kit_bb
  | with_reducible exact kit_bt
  | with_reducible exact kit_bs
  | with_reducible exact kit_si
  | with_reducible exact kit_sb
  | with_reducible exact kit_st
  | with_reducible exact kit_ss
  | with_reducible exact kit_ni
  | with_reducible exact kit_nb
  | with_reducible exact kit_nt
  | with_reducible exact kit_ns
  | with_reducible exact kit_ti
  | with_reducible exact kit_tb
  | with_reducible exact kit_tt
  | with_reducible exact kit_ts)
local macro_rules | `(tactic| walk_at "je") => `(tactic| first
  | exact je_int
  | exact je_bl
  | exact je_non
  | exact je_str
  | (refine' je_var ?h0 ?h1 ?h2 ?h3; (case h0 => walk_at "at"); (case h1 => walk_at "vis"); (case h2 => decide +kernel); (case h3 => decide +kernel))
  | (refine' je_var2 ?h0 ?h1 ?h2 ?h3; (case h0 => rfl); (case h1 => walk_at "vis"); (case h2 => decide +kernel); (case h3 => decide +kernel))
  | (refine' je_globI ?h0 ?h1 ?h2; (case h0 => rfl); (case h1 => with_reducible assumption); (case h2 => decide +kernel))
  | (refine' je_globS ?h0 ?h1 ?h2; (case h0 => rfl); (case h1 => with_reducible assumption); (case h2 => decide +kernel))
  | (refine' je_add ?h0 ?h1; (case h0 => walk_at "je"); (case h1 => walk_at "je"))
  | (refine' je_sub ?h0 ?h1; (case h0 => walk_at "je"); (case h1 => walk_at "je"))
  | (refine' je_lt ?h0 ?h1; (case h0 => walk_at "je"); (case h1 => walk_at "je"))
  | (refine' je_le ?h0 ?h1; (case h0 => walk_at "je"); (case h1 => walk_at "je"))
  | (refine' je_gt ?h0 ?h1; (case h0 => walk_at "je"); (case h1 => walk_at "je"))
  | (refine' je_ge ?h0 ?h1; (case h0 => walk_at "je"); (case h1 => walk_at "je"))
  | (refine' je_eqI ?h0 ?h1; (case h0 => walk_at "je"); (case h1 => walk_at "je"))
  | (refine' je_neI ?h0 ?h1; (case h0 => walk_at "je"); (case h1 => walk_at "je"))
  | (refine' je_mul ?h0 ?h1 ?h2; (case h0 => walk_at "je"); (case h1 => walk_at "je"); (case h2 => walk_at "side"))
  | (refine' je_div ?h0 ?h1 ?h2; (case h0 => walk_at "je"); (case h1 => walk_at "je"); (case h2 => walk_at "side"))
  | (refine' je_mod ?h0 ?h1 ?h2; (case h0 => walk_at "je"); (case h1 => walk_at "je"); (case h2 => walk_at "side"))
  | (refine' je_lele ?h0 ?h1 ?h2 ?h3; (case h0 => walk_at "je"); (case h1 => walk_at "je"); (case h2 => walk_at "je"); (case h3 => with_unfolding_all rfl))
  | (refine' je_isN ?h0; (case h0 => walk_at "je"))
  | (refine' je_notN ?h0; (case h0 => walk_at "je"))
  | (refine' je_not ?h0; (case h0 => walk_at "je"))
  | (refine' je_one ?h0; (case h0 => walk_at "je"))
  | (refine' je_un ?h0; (case h0 => walk_at "je"))
  | (refine' je_andB ?h0 (fun _ => ?h1); (case h0 => walk_at "je"); (case h1 => walk_at "je"))
  | (refine' je_orB ?h0 (fun _ => ?h1); (case h0 => walk_at "je"); (case h1 => walk_at "je"))
  | (refine' je_notT ?h0; (case h0 => walk_at "je"))
  | (refine' je_notF ?h0; (case h0 => walk_at "je"))
  | (refine' je_andF ?h0; (case h0 => walk_at "je"))
  | (refine' je_orT ?h0; (case h0 => walk_at "je"))
  | (refine' je_if ?h0 (fun _ => ?h1) (fun _ => ?h2); (case h0 => walk_at "jt"); (case h1 => walk_at "je"); (case h2 => walk_at "je"))
  | (refine' je_tup ?h0 ?h1; (case h0 => walk_at "ja"); (case h1 => walk_at "side"))
  | (refine' je_ixT ?h0 ?h1 ?h2 ?h3; (case h0 => exact fun _ _ => rfl); (case h1 => walk_at "je"); (case h2 => walk_at "je"); (case h3 => walk_at "ix"))
  | (refine' je_ixN ?h0 ?h1 ?h2 ?h3; (case h0 => exact fun _ _ => rfl); (case h1 => walk_at "jl"); (case h2 => walk_at "je"); (case h3 => walk_at "ix"))
  | (refine' je_sl ?h0 ?h1 ?h2 ?h3; (case h0 => walk_at "je"); (case h1 => walk_at "jo"); (case h2 => walk_at "jo"); (case h3 => walk_at "side"))
  | (refine' je_abs ?h0 ?h1 ?h2 ?h3; (case h0 => exact fun _ => rfl); (case h1 => rfl); (case h2 => with_reducible assumption); (case h3 => walk_at "je"))
  | (refine' je_int1 ?h0 ?h1 ?h2 ?h3; (case h0 => exact fun _ => rfl); (case h1 => rfl); (case h2 => with_reducible assumption); (case h3 => walk_at "je"))
  | (refine' je_max2 ?h0 ?h1 ?h2 ?h3 ?h4; (case h0 => exact fun _ => rfl); (case h1 => exact fun _ _ => rfl); (case h2 => rfl); (case h3 => with_reducible assumption); (case h4 => walk_at "ja"))
  | (refine' je_min2 ?h0 ?h1 ?h2 ?h3 ?h4; (case h0 => exact fun _ => rfl); (case h1 => exact fun _ _ => rfl); (case h2 => rfl); (case h3 => with_reducible assumption); (case h4 => walk_at "ja"))
  | (refine' je_lenT ?h0 ?h1 ?h2 ?h3; (case h0 => exact fun _ => rfl); (case h1 => rfl); (case h2 => with_reducible assumption); (case h3 => walk_at "je"))
  | (refine' je_tupN ?h0 ?h1 ?h2 ?h3; (case h0 => exact fun _ => rfl); (case h1 => rfl); (case h2 => with_reducible assumption); (case h3 => walk_at "jl"))
  | (refine' je_all ?h0 ?h1 ?h2 ?h3; (case h0 => exact fun _ => rfl); (case h1 => rfl); (case h2 => with_reducible assumption); (case h3 => walk_at "jl"))
  | (refine' je_any ?h0 ?h1 ?h2 ?h3; (case h0 => exact fun _ => rfl); (case h1 => rfl); (case h2 => with_reducible assumption); (case h3 => walk_at "jl"))
  | (refine' je_isiI ?h0 ?h1 ?h2 ?h3 ?h4 ?h5 ?h6 ?h7; (case h0 => exact fun _ => rfl); (case h1 => rfl); (case h2 => with_reducible assumption); (case h3 => rfl); (case h4 => with_reducible assumption); (case h5 => walk_at "je"); (case h6 => rfl); (case h7 => walk_at "kit"))
  | (refine' je_isiB ?h0 ?h1 ?h2 ?h3 ?h4 ?h5 ?h6 ?h7; (case h0 => exact fun _ => rfl); (case h1 => rfl); (case h2 => with_reducible assumption); (case h3 => rfl); (case h4 => with_reducible assumption); (case h5 => walk_at "je"); (case h6 => rfl); (case h7 => walk_at "kit"))
  | (refine' je_isiT ?h0 ?h1 ?h2 ?h3 ?h4 ?h5 ?h6 ?h7; (case h0 => exact fun _ => rfl); (case h1 => rfl); (case h2 => with_reducible assumption); (case h3 => rfl); (case h4 => with_reducible assumption); (case h5 => walk_at "je"); (case h6 => rfl); (case h7 => walk_at "kit"))
  | (refine' je_isiS ?h0 ?h1 ?h2 ?h3 ?h4 ?h5 ?h6 ?h7; (case h0 => exact fun _ => rfl); (case h1 => rfl); (case h2 => with_reducible assumption); (case h3 => rfl); (case h4 => with_reducible assumption); (case h5 => walk_at "je"); (case h6 => rfl); (case h7 => walk_at "kit"))
  | (refine' je_call ?h0 ?h1 ?h2 ?h3 ?h4 ?h5 ?h6 ?h7; (case h0 => with_reducible assumption); (case h1 => exact Nat.le_of_ble_eq_true rfl); (case h2 => rfl); (case h3 => decide +kernel); (case h4 => exact fun _ => rfl); (case h5 => exact fun _ _ => rfl); (case h6 => walk_at "ja"); (case h7 => walk_at "rel"))
  | (refine' je_cat ?h0 ?h1 ?h2 ?h3; (case h0 => walk_at "je"); (case h1 => walk_at "je"); (case h2 => walk_at "side"); (case h3 => walk_at "side")))
local macro_rules | `(tactic| walk_at "jt") => `(tactic| first
  | (refine' jt_lt ?h0 ?h1; (case h0 => walk_at "je"); (case h1 => walk_at "je"))
  | (refine' jt_le ?h0 ?h1; (case h0 => walk_at "je"); (case h1 => walk_at "je"))
  | (refine' jt_gt ?h0 ?h1; (case h0 => walk_at "je"); (case h1 => walk_at "je"))
  | (refine' jt_ge ?h0 ?h1; (case h0 => walk_at "je"); (case h1 => walk_at "je"))
  | (refine' jt_eqI ?h0 ?h1; (case h0 => walk_at "je"); (case h1 => walk_at "je"))
  | (refine' jt_neI ?h0 ?h1; (case h0 => walk_at "je"); (case h1 => walk_at "je"))
  | (refine' jt_lele ?h0 ?h1 ?h2 ?h3; (case h0 => walk_at "je"); (case h1 => walk_at "je"); (case h2 => walk_at "je"); (case h3 => with_unfolding_all rfl))
  | (refine' jt_isN ?h0; (case h0 => walk_at "je"))
  | (refine' jt_notN ?h0; (case h0 => walk_at "je"))
  | (refine' jt_not ?h0; (case h0 => walk_at "jt"))
  | (refine' jt_w ?h0; (case h0 => walk_at "jw"))
  | (refine' jt_val ?h0 ?h1; (case h0 => exact fun _ _ => rfl); (case h1 => walk_at "je")))
local macro_rules | `(tactic| walk_at "jw") => `(tactic| first
  | (refine' jw_and1 ?h0; (case h0 => walk_at "jt"))
  | (refine' jw_or1 ?h0; (case h0 => walk_at "jt"))
  | (refine' jw_and ?h0 (fun _ => ?h1); (case h0 => walk_at "jt"); (case h1 => walk_at "jw"))
  | (refine' jw_or ?h0 (fun _ => ?h1); (case h0 => walk_at "jt"); (case h1 => walk_at "jw"))
  | (refine' jw_andF ?h0; (case h0 => walk_at "jt"))
  | (refine' jw_orT ?h0; (case h0 => walk_at "jt")))
local macro_rules | `(tactic| walk_at "ja") => `(tactic| first
  | exact ja_nil
  | (refine' ja_cons ?h0 ?h1 ?h2; (case h0 => exact fun _ => rfl); (case h1 => walk_at "je"); (case h2 => walk_at "ja")))
local macro_rules | `(tactic| walk_at "jo") => `(tactic| first
  | exact jo_none
  | (refine' jo_some ?h0; (case h0 => walk_at "je")))
local macro_rules | `(tactic| walk_at "jl") => `(tactic| first
  | (refine' jl_lst ?h0 ?h1; (case h0 => walk_at "ja"); (case h1 => walk_at "side"))
  | (refine' jl_list ?h0 ?h1 ?h2 ?h3; (case h0 => exact fun _ => rfl); (case h1 => rfl); (case h2 => with_reducible assumption); (case h3 => walk_at "je")))
local macro_rules | `(tactic| walk_at "ix") => `(tactic| first
  | rfl
  | assumption)
local macro_rules | `(tactic| walk_at "side") => `(tactic| first
  | exact Nat.le_of_ble_eq_true rfl
  | omega
  | exact ⟨by omega, by omega⟩
  | exact Or.inl ⟨by omega, by omega⟩
  | exact Or.inr ⟨by omega, by omega⟩
  | exact fun z => absurd z.1 (Nat.ne_of_beq_eq_false rfl)
  | exact fun z => absurd z.2 (Nat.ne_of_beq_eq_false rfl)
  | exact List.cons_ne_nil _ _
  | assumption)
local macro_rules | `(tactic| walk_at "rel") => `(tactic| first
  | assumption)
section
variable {P : Program} {w : World} {K : PySem.W.Frag} {mg : Str → Option Value} {base : Heap}
/-! ### the law -/
theorem we_drw {X : Cx} {N : List Str} {sc : Scope} {lv : Nat} {bf : Bool} {ρ : Rh} {σ : St} {H : Hp} {a b : Expr} {p pos : Pos} {Q : VK} {l s CD : Addr} {T : DrT K CD} {ns : List Int} {n : Nat} (o : (Ct.mk P w K mg base N sc lv bf).Of X) (env : EnvD K H σ ρ) (G : Fn0 P w K mg base CX0 11 "_law_drawing" (spDrawing K CD T)) (hlv : 11 ≤ lv) (hg : GlN (Ct.mk P w K mg base N sc lv bf) "_law_drawing") (hs : NoStar a [b]) (hpl : NoStars [b])
    (ha : JA (Ct.mk P w K mg base N sc lv bf) ρ H [a, b] [.ref l, .int (n : Int)]) (hn : n ≤ 50) (hrow : RowAt K s ns H l) (q : ∀ ps x H', ps.length ≤ n → Good ps → RowAt K s ns H' l → ExB [l] H H' → H x = none → DrAt K CD T H' x ps → Q (.ref x) H') : WE X (.Call (Nm "_law_drawing" p) [a, b] [] pos) σ H Q := by
  obtain ⟨f, fd, ps, G, hm, kp, bb⟩ := (G.to o).ex
  refine PEw (pe_call G (o.room.mono hlv) (o.gl hg) hm kp bb .nil pass0 pa_w (by decide +kernel) (hs _) (hpl _ _)) (ha.run X o o.N σ H (Ex.refl H) (by rw [o.K]; exact env) _ fun vs H2 e2 q1 => ?_)
  obtain ⟨v, w', rfl, h1, h2⟩ := dis2 q1
  rw [h1.ref_inv, h2.int_inv]
  exact ⟨l, s, ns, n, rfl, hn, hrow.ex e2, fun ps x H' h1 h2 h3 h4 h5 h6 => q ps x H' h1 h2 h3 ((ExB.of e2).trans h4) (fresh_back e2 h5) h6⟩
theorem jl_enc {N : List Str} {sc : Scope} {lv : Nat} {bf : Bool} {ρ : Rh} {H : Hp} {e : Expr} {p pos : Pos} {CD x : Addr} {T : DrT K CD} {ps : List Pc} (G : Fn0 P w K mg base CX0 3 "encode_drawing" (spEnc K CD T)) (hlv : 3 ≤ lv) (hg : GlN (Ct.mk P w K mg base N sc lv bf) "encode_drawing") (hs : NoStar e [])
    (ha : JE (Ct.mk P w K mg base N sc lv bf) ρ H e (.ref x)) (hD : DrAt K CD T H x ps) (hn : ps.length ≤ 100) : JL (Ct.mk P w K mg base N sc lv bf) ρ H (.Call (Nm "encode_drawing" p) [e] [] pos) ((items ps ++ [chk (items ps)]).map Dt.int) := ⟨fun X o hN σ H1 e1 env Q q => by
  obtain ⟨f, fd, pss, G, hm, kp, bb⟩ := (G.to o).ex
  refine PEw (pe_call G (o.room.mono hlv) (o.gl hg) hm kp bb .nil pass0 (pa_cons pe_w pa_nil (hs _)) (by decide +kernel) (hs _) rfl) (ha.run X o hN σ H1 e1 env _ fun v H2 e2 hv => ?_)
  rw [hv.ref_inv]
  exact ⟨x, ps, rfl, hD.mono (e1.trans e2), hn, fun p H' hp e' h' => q p _ H' (fresh_back e2 hp) (e2.trans e') h' (by rw [o.K]; exact ints_dis _)⟩⟩
theorem jl_checked {N : List Str} {sc : Scope} {lv : Nat} {bf : Bool} {ρ : Rh} {H : Hp} {e : Expr} {p pos : Pos} {l : Addr} {is : List Int} (G : Fn0 P w K mg base CX0 1 "_law_checked" (spChecked K)) (hlv : 1 ≤ lv) (hg : GlN (Ct.mk P w K mg base N sc lv bf) "_law_checked") (hs : NoStar e [])
    (ha : JE (Ct.mk P w K mg base N sc lv bf) ρ H e (.ref l)) (hl : H l = some (.lst (is.map V.int))) (hn : is.length ≤ 1000) : JL (Ct.mk P w K mg base N sc lv bf) ρ H (.Call (Nm "_law_checked" p) [e] [] pos) ((is ++ [chk is]).map Dt.int) := ⟨fun X o hN σ H1 e1 env Q q => by
  obtain ⟨f, fd, pss, G, hm, kp, bb⟩ := (G.to o).ex
  refine PEw (pe_call G (o.room.mono hlv) (o.gl hg) hm kp bb .nil pass0 (pa_cons pe_w pa_nil (hs _)) (by decide +kernel) (hs _) rfl) (ha.run X o hN σ H1 e1 env _ fun v H2 e2 hv => ?_)
  rw [hv.ref_inv]
  exact ⟨l, is, rfl, (e1.trans e2) _ _ hl, hn, fun p H' hp e' h' => q p _ H' (fresh_back e2 hp) (e2.trans e') h' (by rw [o.K]; exact ints_dis _)⟩⟩
theorem jt_dec {N : List Str} {sc : Scope} {lv : Nat} {bf : Bool} {ρ : Rh} {H : Hp} {e b : Expr} {p pos cp : Pos} {CD x : Addr} {T : DrT K CD} {ps : List Pc} (M : DrM P w K mg base CD T) (G : Fn0 P w K mg base CX0 9 "decode_drawing" (spDec K CD T)) (hlv : 9 ≤ lv) (hg : GlN (Ct.mk P w K mg base N sc lv bf) "decode_drawing") (hs : NoStar e [])
    (ha : JL (Ct.mk P w K mg base N sc lv bf) ρ H e ((items ps ++ [chk (items ps)]).map Dt.int)) (hb : JE (Ct.mk P w K mg base N sc lv bf) ρ H b (.ref x)) (hD : DrAt K CD T H x ps) (hgood : Good ps) (hn : ps.length ≤ 6) : JT (Ct.mk P w K mg base N sc lv bf) ρ H (.Compare (.Call (Nm "decode_drawing" p) [e] [] pos) [.NotEq] [b] cp) false := ⟨fun X o => by
  obtain ⟨fe, z1, z2, z3, z4, FE⟩ := M.eq
  obtain ⟨f, fd, pss, GG, hm, kp, bb⟩ := (G.to o).ex
  obtain ⟨o1, o2, o3, o4, o5, o6, o7, o8, o9, o10⟩ := id o
  dsimp only at o1 o2 o3 o4 o5
  subst o1 o2 o3 o4 o5
  refine dt_cmp (op_neSl (E := fun _ _ _ => False) FE (o9.mono (by show 2 ≤ lv; omega)) pass0 z1 z2 z3 z4) (nomark _) fun σ H1 Q hN e1 env k => ?_
  refine PEw (pe_call GG (o.room.mono hlv) (o.gl hg) hm kp bb .nil pass0 (pa_cons pe_w pa_nil (hs _)) (by decide +kernel) (hs _) rfl) (ha.run X o hN σ H1 e1 env _ fun l vs H2 hl e2 h2 hd => ?_)
  rw [dis_ints hd] at h2
  refine ⟨l, ps, rfl, h2, hgood, hn, fun y H3 e3 hD3 => ?_⟩
  refine hb.run X o hN σ H3 ((e1.trans e2).trans e3) (env.mono (ex_tx (e2.trans e3))) _ fun v2 H4 e4 q4 => ?_
  rw [q4.ref_inv]
  have hDx := hD.mono (((e1.trans e2).trans e3).trans e4)
  have hDy := hD3.mono e4
  obtain ⟨dx, vs1, s1⟩ := hDx.slt
  obtain ⟨dy, vs2, s2⟩ := hDy.slt
  refine ⟨y, x, dy, dx, vs2, vs1, rfl, rfl, s2, s1, y, x, ps, ps, rfl, hDy, hDx, fun H5 e5 => ⟨_, rfl, ?_⟩⟩
  rw [eqv_self (okD_ps ps)]
  exact k H5 ((e2.trans e3).trans (e4.trans e5))⟩
def spLaw (K : PySem.W.Frag) : Sp := fun vs H Q _ => ∃ (a : Addr) (ns : List Int), vs = [.ref a] ∧ Scr K a ns H ∧ ∀ H', Q (.bl true) H'
theorem sc_law : FnScope ["_law_script", "_law_row", "_law_turn", "_law_drawing_here", "_law_items", "_law_piece"] ["_law_script"] (defScope s_law) := ⟨rfl, rfl, rfl, by decide +kernel, rfl, by decide +kernel, by decide +kernel⟩
theorem ok_law {f CD : Addr} {fd : FuncData} {T : DrT K CD} (F : Fun K "law" "law" s_law f fd) (m1 : mg "range" = none) (m2 : mg "len" = none) (m3 : mg "list" = none) (M : DrM P w K mg base CD T) (G1 : Fn0 P w K mg base CX0 11 "_law_drawing" (spDrawing K CD T)) (G2 : Fn0 P w K mg base CX0 3 "encode_drawing" (spEnc K CD T)) (G3 : Fn0 P w K mg base CX0 1 "_law_checked" (spChecked K)) (G4 : Fn0 P w K mg base CX0 9 "decode_drawing" (spDec K CD T)) : FnOk P w K mg base CX0 12 f fd ["_law_script"] (spLaw K) := by
  refine fn_sp F sc_law (fun vs H Q E h => ?_) (fun X vs H Q E o pn hst hfr tk h => ?_)
  · obtain ⟨a, ns, rfl, _⟩ := h
    rfl
  · obtain ⟨sc, ns, rfl, hsc, q⟩ := h
    have env : EnvD K H (L2.start ["_law_script", "_law_row", "_law_turn", "_law_drawing_here", "_law_items", "_law_piece"] [.ref sc]) [some (.ref sc), none, none, none, none, none] := env_start (.cons (.ref sc) .nil)
    refine' wb_cons (ws_setL (i := 1) (ds := [.ref sc, .int 0, .int 0, .int 0]) o env sc_law.nd rfl rfl (fun _ => rfl) (jl_lst ?h0 (Nat.le_of_ble_eq_true rfl)) fun l vs σ1 H1 hl0 e1 h1 hd1 en1 => ?_)
    case h0 => walk_at "ja"
    replace en1 : EnvD K H1 σ1 [some (.ref sc), some (.ref l), none, none, none, none] := en1
    have hrow1 : RowAt K sc ns H1 l := by
      refine ⟨⟨0, 0, 0, ?_, by decide, ⟨by decide, by decide⟩, by decide⟩, hsc.ex e1⟩
      cases hd1 with
      | cons q1 r1 =>
        have := dis_ints (ns := [0, 0, 0]) r1
        rw [h1, q1.ref_inv, this]
        rfl
    refine' wb_cons (ws_for o pn (fun _ _ => rfl) en1 (ji_r1 (n := 6) (fun _ => rfl) rfl m1 ?h0 (by decide)) [l] (by simp only [List.mem_singleton]; rintro m rfl; exact ⟨hrow1.row.some, hrow1.row.noT, by simp⟩) fun H2 e2 en2 => ?_)
    case h0 => walk_at "je"
    refine ⟨fun i σ' H' => ∃ z2 z3 z4 z5, EnvD K H' σ' [some (.ref sc), some (.ref l), z2, z3, z4, z5] ∧ ExB [l] H2 H' ∧ RowAt K sc ns H' l, ⟨_, _, _, _, en2, .of (Ex.refl _), hrow1.ex e2⟩, fun i σ' H' ⟨_, _, _, _, _, h, _⟩ => h, ?_, ?_⟩
    · rintro i d σ3 H3 H4 hd ⟨z2, z3, z4, z5, en3, xb3, hrow3⟩ e4
      obtain ⟨hk, rfl⟩ := rngD_get hd
      refine ⟨_, _, _, en3.mono (ex_tx e4), jg_name (i := 2) sc_law.nd rfl rfl, fun σ4 en4 _ => ?_⟩
      replace en4 : EnvD K H4 σ4 [some (.ref sc), some (.ref l), some (.int (0 + (i : Int))), z3, z4, z5] := en4
      have hrow4 := hrow3.ex e4
      -- here = drawing(row, 6)
      refine wb_cons (PSw (ps_set (i := 3) (by rw [o.N]; exact sc_law.nd) (by rw [o.N]; rfl) (.inl (by rw [o.sc]; rfl)) pe_w rfl (.inr (by rw [o.sc]; rfl))) ?_)
      refine we_drw o en4 G1 (Nat.le_of_ble_eq_true rfl) rfl (fun _ => rfl) (fun _ _ => rfl) (n := 6) (show JA _ _ _ _ [.ref l, .int 6] from by walk_at "ja") (by decide) hrow4 fun ps x H5 hn hgood hrow5 xb5 hx0 hD => ?_
      have en5 := (en4.mono (xb5.tx (by simpa using hrow4.row.noT))).set (i := 3) (.ref x)
      replace en5 : EnvD K H5 _ [some (.ref sc), some (.ref l), some (.int (0 + (i : Int))), some (.ref x), z4, z5] := en5
      -- items = [109, len(here)]
      refine' wb_cons (ws_setL (i := 4) (ds := [.int 109, .int (ps.length : Int)]) o en5 sc_law.nd rfl rfl (fun _ => rfl) (jl_lst (ja_cons (fun _ => rfl) je_int (ja_cons (fun _ => rfl) ?h0 ja_nil)) (Nat.le_of_ble_eq_true rfl)) fun li vs6 σ6 H6 hli0 e6 h6 hd6 en6 => ?_)
      case h0 => exact je_drLen M (Nat.le_of_ble_eq_true rfl) (fun _ => rfl) rfl m2 (by walk_at "je") hD (by omega)
      replace en6 : EnvD K H6 σ6 [some (.ref sc), some (.ref l), some (.int (0 + (i : Int))), some (.ref x), some (.ref li), z5] := en6
      have hvs6 : vs6 = [V.int 109, .int (ps.length : Int)] := dis_ints (ns := [109, (ps.length : Int)]) hd6
      subst hvs6
      have hD6 := hD.mono e6
      -- for piece in here.pieces
      refine' wb_cons (ws_for o pn (fun _ _ => rfl) en6 (ji_tup (ds := ps.map Pc.d) (je_drPieces M (Nat.le_of_ble_eq_true rfl) (fun _ => rfl) (by walk_at "je") hD6)) [] (by simp) fun H7 e7 en7 => ?_)
      refine ⟨fun j σ' H' => ∃ lx z5, EnvD K H' σ' [some (.ref sc), some (.ref l), some (.int (0 + (i : Int))), some (.ref x), some (.ref lx), z5] ∧ Ex H7 H' ∧ H' lx = some (.lst ((109 :: (ps.length : Int) :: itemsP (ps.take j)).map V.int)), ⟨_, _, en7, Ex.refl _, e7 _ _ h6⟩, fun j σ' H' ⟨_, _, _, h, _⟩ => .of h, ?_, ?_⟩
      · rintro j d σ8 H8 H9 hd ⟨lx, z, en8, xb8, hlx⟩ e9
        rw [List.getElem?_map] at hd
        obtain ⟨p, hp, rfl⟩ := Option.map_eq_some_iff.mp hd
        refine ⟨_, _, _, en8.mono (ex_tx e9), jg_name (i := 5) sc_law.nd rfl rfl, fun σ9 en9 _ => ?_⟩
        replace en9 : EnvD K H9 σ9 [some (.ref sc), some (.ref l), some (.int (0 + (i : Int))), some (.ref x), some (.ref lx), some (.tup [.int p.x, .int p.y, .int p.u, .int p.v])] := en9
        have hle : (itemsP (ps.take j)).length ≤ 400 := by
          rw [itemsP_len, List.length_take]; omega
        refine' wb_one (ws_setL (i := 4) o en9 sc_law.nd rfl rfl (fun _ => rfl) (jl_catN (ds := (109 :: (ps.length : Int) :: itemsP (ps.take j)).map Dt.int) (es := [.int p.x, .int p.y, .int p.u, .int p.v]) ?h0 (e9 _ _ hlx) (ints_dis _) (jl_list (fun _ => rfl) rfl m3 ?h1) (by simp; omega)) fun lx2 vs10 σ10 H10 hl10 e10 h10 hd10 en10 => ?_)
        case h0 => walk_at "je"
        case h1 => walk_at "je"
        refine ⟨lx2, _, en10, xb8.trans (e9.trans e10), ?_⟩
        have hd11 : Dis K H10 vs10 ((109 :: (ps.length : Int) :: itemsP (ps.take (j + 1))).map Dt.int) := by
          rw [itemsP_snoc hp]
          simpa using hd10
        rw [h10, dis_ints hd11]
      · rintro σ8 H8 ⟨lx, z, en8, xb8, hlx⟩
        have hlx' : H8 lx = some (.lst ((items ps).map V.int)) := by
          rw [hlx, List.length_map, List.take_length]; rfl
        have hD8 := hD6.mono (e7.trans xb8)
        have hil : (items ps).length ≤ 1000 := by
          have := itemsP_len ps
          simp [items]; omega
        have hall : ((items ps ++ [chk (items ps)]).map Dt.int).all (okD 1) = true := by
          rw [List.all_map, List.all_eq_true]
          intro _ _
          rfl
        refine wb_one (ws_if (k := false) o en8 (jt_is (jt_w (jw_or (jt_neLL 1 (by decide) (jl_enc G2 (Nat.le_of_ble_eq_true rfl) rfl (fun _ => rfl) (by walk_at "je") hD8 (by omega)) (jl_checked G3 (Nat.le_of_ble_eq_true rfl) rfl (fun _ => rfl) (by walk_at "je") hlx' hil) hall hall) fun _ => jw_or1 (jt_dec M G4 (Nat.le_of_ble_eq_true rfl) rfl (fun _ => rfl) (jl_checked G3 (Nat.le_of_ble_eq_true rfl) rfl (fun _ => rfl) (by walk_at "je") hlx' hil) (by walk_at "je") hD8 hgood hn))) ?h3) (fun z => nomatch z) (fun _ H9 e9 en9 => wb_nil ?_))
        case h3 =>
          rw [eqvAll_self hall]
          rfl
        exact ⟨_, _, _, _, en9, (((xb3.trans (.of e4)).trans xb5).trans (.of (e6.trans (e7.trans xb8)))).trans (.of e9), hrow5.ex (((e6.trans (e7.trans xb8))).trans e9)⟩
    · rintro σ' H' ⟨z2, z3, z4, z5, en, xb, hrow⟩
      refine' wb_one (ws_ret o en (d := .bl true) je_bl fun v H4 e4 hv4 => ?_)
      rw [hv4.bl_inv]
      exact q _
end
end Led

set_option maxRecDepth 100000
set_option maxHeartbeats 4000000
namespace Led
open PySem L2 Evl
local macro_rules | `(tactic| walk_at "at") => `(tactic| first
  | with_reducible exact At.here
  | (with_reducible refine' At.there ?h0; (case h0 => walk_at "at")))
local macro_rules | `(tactic| walk_at "vis") => `(tactic| first
  | exact Or.inl rfl
  | exact Or.inr (Or.inl rfl)
  | exact Or.inr (Or.inr rfl))
local macro_rules | `(tactic| walk_at "kit") => `(tactic| first
  | with_reducible exact kit_ii
  | with_reducible exact kit_ib
  | with_reducible exact kit_it
  | with_reducible exact kit_is
  | with_reducible exact kit_bi
  | with_reducible exact kit_bb
  | with_reducible exact kit_bt
  | with_reducible exact kit_bs
  | with_reducible exact kit_si
  | with_reducible exact kit_sb
  | with_reducible exact kit_st
  | with_reducible exact kit_ss
  | with_reducible exact kit_ni
  | with_reducible exact kit_nb
  | with_reducible exact kit_nt
  | with_reducible exact kit_ns
  | with_reducible exact kit_ti
  | with_reducible exact kit_tb
  | with_reducible exact kit_tt
  | with_reducible exact kit_ts)
local macro_rules | `(tactic| walk_at "je") => `(tactic| first
  | exact je_int
  | exact je_bl
  | exact je_non
  | exact je_str
  | (refine' je_var ?h0 ?h1 ?h2 ?h3; (case h0 => walk_at "at"); (case h1 => walk_at "vis"); (case h2 => decide +kernel); (case h3 => decide +kernel))
  | (refine' je_var2 ?h0 ?h1 ?h2 ?h3; (case h0 => rfl); (case h1 => walk_at "vis"); (case h2 => decide +kernel); (case h3 => decide +kernel))
  | (refine' je_globI ?h0 ?h1 ?h2; (case h0 => rfl); (case h1 => with_reducible assumption); (case h2 => decide +kernel))
  | (refine' je_globS ?h0 ?h1 ?h2; (case h0 => rfl); (case h1 => with_reducible assumption); (case h2 => decide +kernel))
  | (refine' je_add ?h0 ?h1; (case h0 => walk_at "je"); (case h1 => walk_at "je"))
  | (refine' je_sub ?h0 ?h1; (case h0 => walk_at "je"); (case h1 => walk_at "je"))
  | (refine' je_lt ?h0 ?h1; (case h0 => walk_at "je"); (case h1 => walk_at "je"))
  | (refine' je_le ?h0 ?h1; (case h0 => walk_at "je"); (case h1 => walk_at "je"))
  | (refine' je_gt ?h0 ?h1; (case h0 => walk_at "je"); (case h1 => walk_at "je"))
  | (refine' je_ge ?h0 ?h1; (case h0 => walk_at "je"); (case h1 => walk_at "je"))
  | (refine' je_eqI ?h0 ?h1; (case h0 => walk_at "je"); (case h1 => walk_at "je"))
  | (refine' je_neI ?h0 ?h1; (case h0 => walk_at "je"); (case h1 => walk_at "je"))
  | (refine' je_mul ?h0 ?h1 ?h2; (case h0 => walk_at "je"); (case h1 => walk_at "je"); (case h2 => walk_at "side"))
  | (refine' je_div ?h0 ?h1 ?h2; (case h0 => walk_at "je"); (case h1 => walk_at "je"); (case h2 => walk_at "side"))
  | (refine' je_mod ?h0 ?h1 ?h2; (case h0 => walk_at "je"); (case h1 => walk_at "je"); (case h2 => walk_at "side"))
  | (refine' je_lele ?h0 ?h1 ?h2 ?h3; (case h0 => walk_at "je"); (case h1 => walk_at "je"); (case h2 => walk_at "je"); (case h3 => with_unfolding_all rfl))
  | (refine' je_isN ?h0; (case h0 => walk_at "je"))
  | (refine' je_notN ?h0; (case h0 => walk_at "je"))
  | (refine' je_not ?h0; (case h0 => walk_at "je"))
  | (refine' je_one ?h0; (case h0 => walk_at "je"))
  | (refine' je_un ?h0; (case h0 => walk_at "je"))
  | (refine' je_andB ?h0 (fun _ => ?h1); (case h0 => walk_at "je"); (case h1 => walk_at "je"))
  | (refine' je_orB ?h0 (fun _ => ?h1); (case h0 => walk_at "je"); (case h1 => walk_at "je"))
  | (refine' je_notT ?h0; (case h0 => walk_at "je"))
  | (refine' je_notF ?h0; (case h0 => walk_at "je"))
  | (refine' je_andF ?h0; (case h0 => walk_at "je"))
  | (refine' je_orT ?h0; (case h0 => walk_at "je"))
  | (refine' je_if ?h0 (fun _ => ?h1) (fun _ => ?h2); (case h0 => walk_at "jt"); (case h1 => walk_at "je"); (case h2 => walk_at "je"))
  | (refine' je_tup ?h0 ?h1; (case h0 => walk_at "ja"); (case h1 => walk_at "side"))
  | (refine' je_ixT ?h0 ?h1 ?h2 ?h3; (case h0 => exact fun _ _ => rfl); (case h1 => walk_at "je"); (case h2 => walk_at "je"); (case h3 => walk_at "ix"))
  | (refine' je_ixN ?h0 ?h1 ?h2 ?h3; (case h0 => exact fun _ _ => rfl); (case h1 => walk_at "jl"); (case h2 => walk_at "je"); (case h3 => walk_at "ix"))
  | (refine' je_sl ?h0 ?h1 ?h2 ?h3; (case h0 => walk_at "je"); (case h1 => walk_at "jo"); (case h2 => walk_at "jo"); (case h3 => walk_at "side"))
  | (refine' je_abs ?h0 ?h1 ?h2 ?h3; (case h0 => exact fun _ => rfl); (case h1 => rfl); (case h2 => with_reducible assumption); (case h3 => walk_at "je"))
  | (refine' je_int1 ?h0 ?h1 ?h2 ?h3; (case h0 => exact fun _ => rfl); (case h1 => rfl); (case h2 => with_reducible assumption); (case h3 => walk_at "je"))
  | (refine' je_max2 ?h0 ?h1 ?h2 ?h3 ?h4; (case h0 => exact fun _ => rfl); (case h1 => exact fun _ _ => rfl); (case h2 => rfl); (case h3 => with_reducible assumption); (case h4 => walk_at "ja"))
  | (refine' je_min2 ?h0 ?h1 ?h2 ?h3 ?h4; (case h0 => exact fun _ => rfl); (case h1 => exact fun _ _ => rfl); (case h2 => rfl); (case h3 => with_reducible assumption); (case h4 => walk_at "ja"))
  | (refine' je_lenT ?h0 ?h1 ?h2 ?h3; (case h0 => exact fun _ => rfl); (case h1 => rfl); (case h2 => with_reducible assumption); (case h3 => walk_at "je"))
  | (refine' je_tupN ?h0 ?h1 ?h2 ?h3; (case h0 => exact fun _ => rfl); (case h1 => rfl); (case h2 => with_reducible assumption); (case h3 => walk_at "jl"))
  | (refine' je_all ?h0 ?h1 ?h2 ?h3; (case h0 => exact fun _ => rfl); (case h1 => rfl); (case h2 => with_reducible assumption); (case h3 => walk_at "jl"))
  | (refine' je_any ?h0 ?h1 ?h2 ?h3; (case h0 => exact fun _ => rfl); (case h1 => rfl); (case h2 => with_reducible assumption); (case h3 => walk_at "jl"))
  | (refine' je_isiI ?h0 ?h1 ?h2 ?h3 ?h4 ?h5 ?h6 ?h7; (case h0 => exact fun _ => rfl); (case h1 => rfl); (case h2 => with_reducible assumption); (case h3 => rfl); (case h4 => with_reducible assumption); (case h5 => walk_at "je"); (case h6 => rfl); (case h7 => walk_at "kit"))
  | (refine' je_isiB ?h0 ?h1 ?h2 ?h3 ?h4 ?h5 ?h6 ?h7; (case h0 => exact fun _ => rfl); (case h1 => rfl); (case h2 => with_reducible assumption); (case h3 => rfl); (case h4 => with_reducible assumption); (case h5 => walk_at "je"); (case h6 => rfl); (case h7 => walk_at "kit"))
  | (refine' je_isiT ?h0 ?h1 ?h2 ?h3 ?h4 ?h5 ?h6 ?h7; (case h0 => exact fun _ => rfl); (case h1 => rfl); (case h2 => with_reducible assumption); (case h3 => rfl); (case h4 => with_reducible assumption); (case h5 => walk_at "je"); (case h6 => rfl); (case h7 => walk_at "kit"))
  | (refine' je_isiS ?h0 ?h1 ?h2 ?h3 ?h4 ?h5 ?h6 ?h7; (case h0 => exact fun _ => rfl); (case h1 => rfl); (case h2 => with_reducible assumption); (case h3 => rfl); (case h4 => with_reducible assumption); (case h5 => walk_at "je"); (case h6 => rfl); (case h7 => walk_at "kit"))
  | (refine' je_call ?h0 ?h1 ?h2 ?h3 ?h4 ?h5 ?h6 ?h7; (case h0 => with_reducible assumption); (case h1 => exact Nat.le_of_ble_eq_true rfl); (case h2 => rfl); (case h3 => decide +kernel); (case h4 => exact fun _ => rfl); (case h5 => exact fun _ _ => rfl); (case h6 => walk_at "ja"); (case h7 => walk_at "rel"))
  | (refine' je_cat ?h0 ?h1 ?h2 ?h3; (case h0 => walk_at "je"); (case h1 => walk_at "je"); (case h2 => walk_at "side"); (case h3 => walk_at "side")))
local macro_rules | `(tactic| walk_at "jt") => `(tactic| first
  | (refine' jt_lt ?h0 ?h1; (case h0 => walk_at "je"); (case h1 => walk_at "je"))
  | (refine' jt_le ?h0 ?h1; (case h0 => walk_at "je"); (case h1 => walk_at "je"))
  | (refine' jt_gt ?h0 ?h1; (case h0 => walk_at "je"); (case h1 => walk_at "je"))
  | (refine' jt_ge ?h0 ?h1; (case h0 => walk_at "je"); (case h1 => walk_at "je"))
  | (refine' jt_eqI ?h0 ?h1; (case h0 => walk_at "je"); (case h1 => walk_at "je"))
  | (refine' jt_neI ?h0 ?h1; (case h0 => walk_at "je"); (case h1 => walk_at "je"))
  | (refine' jt_lele ?h0 ?h1 ?h2 ?h3; (case h0 => walk_at "je"); (case h1 => walk_at "je"); (case h2 => walk_at "je"); (case h3 => with_unfolding_all rfl))
  | (refine' jt_isN ?h0; (case h0 => walk_at "je"))
  | (refine' jt_notN ?h0; (case h0 => walk_at "je"))
  | (refine' jt_not ?h0; (case h0 => walk_at "jt"))
  | (refine' jt_w ?h0; (case h0 => walk_at "jw"))
  | (refine' jt_val ?h0 ?h1; (case h0 => exact fun _ _ => rfl); (case h1 => walk_at "je")))
local macro_rules | `(tactic| walk_at "jw") => `(tactic| first
  | (refine' jw_and1 ?h0; (case h0 => walk_at "jt"))
  | (refine' jw_or1 ?h0; (case h0 => walk_at "jt"))
  | (refine' jw_and ?h0 (fun _ => ?h1); (case h0 => walk_at "jt"); (case h1 => walk_at "jw"))
  | (refine' jw_or ?h0 (fun _ => ?h1); (case h0 => walk_at "jt"); (case h1 => walk_at "jw"))
  | (refine' jw_andF ?h0; (case h0 => walk_at "jt"))
  | (refine' jw_orT ?h0; (case h0 => walk_at "jt")))
local macro_rules | `(tactic| walk_at "ja") => `(tactic| first
  | exact ja_nil
  | (refine' ja_cons ?h0 ?h1 ?h2; (case h0 => exact fun _ => rfl); (case h1 => walk_at "je"); (case h2 => walk_at "ja")))
local macro_rules | `(tactic| walk_at "jo") => `(tactic| first
  | exact jo_none
  | (refine' jo_some ?h0; (case h0 => walk_at "je")))
local macro_rules | `(tactic| walk_at "jl") => `(tactic| first
  | (refine' jl_lst ?h0 ?h1; (case h0 => walk_at "ja"); (case h1 => walk_at "side"))
  | (refine' jl_list ?h0 ?h1 ?h2 ?h3; (case h0 => exact fun _ => rfl); (case h1 => rfl); (case h2 => with_reducible assumption); (case h3 => walk_at "je")))
local macro_rules | `(tactic| walk_at "ix") => `(tactic| first
  | rfl
  | assumption)
local macro_rules | `(tactic| walk_at "side") => `(tactic| first
  | exact Nat.le_of_ble_eq_true rfl
  | omega
  | exact ⟨by omega, by omega⟩
  | exact Or.inl ⟨by omega, by omega⟩
  | exact Or.inr ⟨by omega, by omega⟩
  | exact fun z => absurd z.1 (Nat.ne_of_beq_eq_false rfl)
  | exact fun z => absurd z.2 (Nat.ne_of_beq_eq_false rfl)
  | exact List.cons_ne_nil _ _
  | assumption)
local macro_rules | `(tactic| walk_at "rel") => `(tactic| first
  | assumption)
section
variable {P : Program} {w : World} {K : PySem.W.Frag} {mg : Str → Option Value} {base : Heap}
/-! ### what the top has written -/
def LF (K : PySem.W.Frag) (x q : Str) (st : Stmt) (f : Addr) : Prop := ∃ (oc : Value) (od : Option Addr) (kV dc pm : Value) (an : Option Addr) (cd ct : Value) (sl : Array (Option Value)), K.lookup f = some ⟨oc, od, .func (PySem.W.fnOf x q (defArgs st) (defBody st) (defScope st) .none kV dc pm an cd ct), sl⟩ ∧ PySem.W.codeIn K cd q = true ∧ PySem.W.keepIn K (.ref f) = true
def GF (K : PySem.W.Frag) (x : Str) (st : Stmt) (f : Addr) : Prop := PySem.W.nsIn K mainGlobals x = some (some (.ref f)) ∧ LF K x x st f
def MF (K : PySem.W.Frag) (C : Addr) (m q : Str) (st : Stmt) (f : Addr) : Prop := PySem.W.findIn K (.ref C) m = some (some (.ref f)) ∧ PySem.W.isFn K (.ref f) = true ∧ LF K m q st f
theorem lf_mk {x q : Str} {st : Stmt} {f : Addr} {oc : Value} {od : Option Addr} {kV dc pm : Value} {an : Option Addr} {cd ct : Value} {sl : Array (Option Value)} (l : K.lookup f = some ⟨oc, od, .func (PySem.W.fnOf x q (defArgs st) (defBody st) (defScope st) .none kV dc pm an cd ct), sl⟩) (c : PySem.W.codeIn K cd q = true) (k : PySem.W.keepIn K (.ref f) = true) : LF K x q st f := ⟨oc, od, kV, dc, pm, an, cd, ct, sl, l, c, k⟩
theorem LF.fn {x q : Str} {st : Stmt} {f : Addr} (h : LF K x q st f) : ∃ fd, Fun K x q st f fd := by
  obtain ⟨oc, od, kV, dc, pm, an, cd, ct, sl, l, c, k⟩ := h
  exact ⟨_, fun_mk l c k⟩
theorem fnr {fd : FuncData} {f : Addr} {ps : List Str} {k : Nat} {sp : Sp} {CX : CXT} (G : FnOk P w K mg base CX k f fd ps sp) (b : Binds K fd ps []) : FnR P w K mg base CX k f sp := (G.raw b .nil).imp fun vs H Q E h => by rw [List.append_nil]; exact h
theorem all_mk {l : PySem.W.OpenLaw} {w : World} {K : PySem.W.Frag} {h : Heap} {mg : Str → Option Value} {fa : Addr} (X : K.In h) (G : h.Ns mainGlobals mg) (hfa : mg "law" = some (.ref fa))
    {f_is_number f_divisor f_fraction f_way f_across f_along f_overlap f_point_at f_common_point f_is_piece f__law_is_good f__law_taken f__law_drawing f_checksum f__law_checked f_encode_drawing f_decode_drawing f_law f_InvalidDrawing___init__ f_Drawing___init__ f_Drawing___len__ f_Drawing___eq__ f_Reader___init__ f_Reader_item f_Reader_read_piece f_Reader_finish f_pieces CL CI CD CR pl pp pr : Addr} {il ip : Nat} {t_FAR t_PARTS t_MAX_PIECES t_FIRST t_CHECK_START t_CHECK_TIMES t_CHECK_REST : Tok} {rest : List Value}
    {nm q : Str} {N : Addr} {bs bm : List Value} {sn : List Str} {sub : List Value} {ab : Bool} {col : Option Bool} {dd : Option Addr} {k0 k1 k2 k3 k5 : Option Value}
    (g_is_number : GF K "is_number" s_is_number f_is_number)
    (g_divisor : GF K "divisor" s_divisor f_divisor)
    (g_fraction : GF K "fraction" s_fraction f_fraction)
    (g_way : GF K "way" s_way f_way)
    (g_across : GF K "across" s_across f_across)
    (g_along : GF K "along" s_along f_along)
    (g_overlap : GF K "overlap" s_overlap f_overlap)
    (g_point_at : GF K "point_at" s_point_at f_point_at)
    (g_common_point : GF K "common_point" s_common_point f_common_point)
    (g_is_piece : GF K "is_piece" s_is_piece f_is_piece)
    (g__law_is_good : GF K "_law_is_good" s__law_is_good f__law_is_good)
    (g__law_taken : GF K "_law_taken" s__law_taken f__law_taken)
    (g__law_drawing : GF K "_law_drawing" s__law_drawing f__law_drawing)
    (g_checksum : GF K "checksum" s_checksum f_checksum)
    (g__law_checked : GF K "_law_checked" s__law_checked f__law_checked)
    (g_encode_drawing : GF K "encode_drawing" s_encode_drawing f_encode_drawing)
    (g_decode_drawing : GF K "decode_drawing" s_decode_drawing f_decode_drawing)
    (g_law : GF K "law" s_law f_law)
    (aL : PySem.W.nsIn K mainGlobals "LineError" = some (some (.ref CL)))
    (aI : PySem.W.nsIn K mainGlobals "InvalidDrawing" = some (some (.ref CI)))
    (aD : PySem.W.nsIn K mainGlobals "Drawing" = some (some (.ref CD)))
    (aR : PySem.W.nsIn K mainGlobals "Reader" = some (some (.ref CR)))
    (m_InvalidDrawing___init__ : MF K CI "__init__" "InvalidDrawing.__init__" s_InvalidDrawing___init__ f_InvalidDrawing___init__)
    (m_Drawing___init__ : MF K CD "__init__" "Drawing.__init__" s_Drawing___init__ f_Drawing___init__)
    (m_Drawing___len__ : MF K CD "__len__" "Drawing.__len__" s_Drawing___len__ f_Drawing___len__)
    (m_Drawing___eq__ : MF K CD "__eq__" "Drawing.__eq__" s_Drawing___eq__ f_Drawing___eq__)
    (m_Reader___init__ : MF K CR "__init__" "Reader.__init__" s_Reader___init__ f_Reader___init__)
    (m_Reader_item : MF K CR "item" "Reader.item" s_Reader_item f_Reader_item)
    (m_Reader_read_piece : MF K CR "read_piece" "Reader.read_piece" s_Reader_read_piece f_Reader_read_piece)
    (m_Reader_finish : MF K CR "finish" "Reader.finish" s_Reader_finish f_Reader_finish)
    (l1 : PySem.W.specialIn K (.ref CL) "__getattribute__" = some (some (.builtin "type.__getattribute__")))
    (l2 : PySem.W.readsIn K CL (.type "type") = true)
    (l3 : PySem.W.findCls K (.ref CL) (.type "type") "__init__" = some (.val (.builtin "ValueError.__init__")))
    (xI : K.lookup CI = some (excClassObj nm q CI N bs bm true sn sub ab col dd k0 k1 k2 k3 k5 "ValueError.__new__"))
    (xV : PySem.HandSPX.refsVE bm = true)
    (i1 : PySem.W.findIn K (.ref CI) "__setattr__" = some (some (.builtin "object.__setattr__")))
    (i2 : PySem.W.subIn K (.ref CI) (.type "BaseException") = some true)
    (i3 : PySem.W.typeIn K (.ref CI) = some (.type "type"))
    (i4 : PySem.W.keepIn K (.ref CI) = true)
    (i5 : PySem.W.findIn K (.ref CI) "index" = some none)
    (i6 : PySem.W.hasDictIn K CI = true)
    (i7 : PySem.W.subIn K (.ref CI) (.ref CI) = some true)
    (d1 : PySem.W.plainGet K CD Str.empty = true)
    (d2 : PySem.W.isClsIn K CD = true)
    (d3 : PySem.W.plainOver K CD = true)
    (d4 : PySem.W.findIn K (.ref CD) "__setattr__" = some (some (.builtin "object.__setattr__")))
    (s_lines1 : PySem.W.findIn K (.ref CD) "lines" = some (some (.ref pl)))
    (s_lines2 : PySem.W.specialIn K (.ref pl) "__get__" = some (some (.builtin "member_descriptor.__get__")))
    (s_lines3 : PySem.W.takesIn K (.ref pl) = some true)
    (s_lines4 : PySem.W.typeIn K (.ref pl) = some (.type "member_descriptor"))
    (s_lines5 : PySem.W.slotIn K pl CD = some il)
    (s_lines6 : il < 1000)
    (s_points1 : PySem.W.findIn K (.ref CD) "points" = some (some (.ref pp)))
    (s_points2 : PySem.W.specialIn K (.ref pp) "__get__" = some (some (.builtin "member_descriptor.__get__")))
    (s_points3 : PySem.W.takesIn K (.ref pp) = some true)
    (s_points4 : PySem.W.typeIn K (.ref pp) = some (.type "member_descriptor"))
    (s_points5 : PySem.W.slotIn K pp CD = some ip)
    (s_points6 : ip < 1000)
    (dne : il ≠ ip)
    (d5 : PySem.W.makesIn K CD = true)
    (d6 : PySem.W.keepIn K (.ref CD) = true)
    (p1 : PySem.W.findIn K (.ref CD) "pieces" = some (some (.ref pr)))
    (p2 : PySem.W.specialIn K (.ref pr) "__get__" = some (some (.builtin "property.__get__")))
    (p3 : PySem.W.takesIn K (.ref pr) = some true)
    (p4 : PySem.W.recIn K pr "property" = some (.ref f_pieces :: rest))
    (p5 : LF K "pieces" "Drawing.pieces" s_Drawing_pieces f_pieces)
    (e1 : PySem.W.mroIn K CD (.type "object") = some true)
    (e2 : PySem.W.findIn K (.ref CD) "__ne__" = some (some (.builtin "object.__ne__")))
    (e3 : PySem.W.findIn K (.ref CD) "__class__" = some (some (.builtin "object.__class__")))
    (e4 : PySem.W.specialIn K (.builtin "object.__class__") "__get__" = some (some (.builtin "getset_descriptor.__get__")))
    (e5 : PySem.W.takesIn K (.builtin "object.__class__") = some true)
    (r1 : PySem.W.plainGet K CR Str.empty = true)
    (r2 : PySem.W.hasDictIn K CR = true)
    (r3 : PySem.W.plainOver K CR = true)
    (r4 : PySem.W.findIn K (.ref CR) "__setattr__" = some (some (.builtin "object.__setattr__")))
    (r5 : PySem.W.findIn K (.ref CR) "data" = some none)
    (r6 : PySem.W.findIn K (.ref CR) "spot" = some none)
    (r7 : PySem.W.makesIn K CR = true)
    (r8 : PySem.W.keepIn K (.ref CR) = true)
    (z_isinstance : PySem.W.nsIn K mainGlobals "isinstance" = some none)
    (z_int : PySem.W.nsIn K mainGlobals "int" = some none)
    (z_bool : PySem.W.nsIn K mainGlobals "bool" = some none)
    (z_abs : PySem.W.nsIn K mainGlobals "abs" = some none)
    (z_min : PySem.W.nsIn K mainGlobals "min" = some none)
    (z_max : PySem.W.nsIn K mainGlobals "max" = some none)
    (z_tuple : PySem.W.nsIn K mainGlobals "tuple" = some none)
    (z_len : PySem.W.nsIn K mainGlobals "len" = some none)
    (z_all : PySem.W.nsIn K mainGlobals "all" = some none)
    (z_enumerate : PySem.W.nsIn K mainGlobals "enumerate" = some none)
    (z_any : PySem.W.nsIn K mainGlobals "any" = some none)
    (z_range : PySem.W.nsIn K mainGlobals "range" = some none)
    (z_list : PySem.W.nsIn K mainGlobals "list" = some none)
    (c_FAR : PySem.W.nsIn K mainGlobals "FAR" = some (some (.int 60 t_FAR)))
    (c_PARTS : PySem.W.nsIn K mainGlobals "PARTS" = some (some (.int 4 t_PARTS)))
    (c_MAX_PIECES : PySem.W.nsIn K mainGlobals "MAX_PIECES" = some (some (.int 6 t_MAX_PIECES)))
    (c_FIRST : PySem.W.nsIn K mainGlobals "FIRST" = some (some (.int 109 t_FIRST)))
    (c_CHECK_START : PySem.W.nsIn K mainGlobals "CHECK_START" = some (some (.int 13 t_CHECK_START)))
    (c_CHECK_TIMES : PySem.W.nsIn K mainGlobals "CHECK_TIMES" = some (some (.int 23 t_CHECK_TIMES)))
    (c_CHECK_REST : PySem.W.nsIn K mainGlobals "CHECK_REST" = some (some (.int 211 t_CHECK_REST))) :
    ∃ fd : FuncData, (∀ (s : Shared) (v : Value), BindsTo s fd ⟨[v], []⟩ [("_law_script", v)]) ∧ ∀ base : Heap, K.In base → base.Ns mainGlobals mg → FnOk l.prog w K mg base CX0 12 fa fd ["_law_script"] (spLaw K) := by
  have e := hfa.symm.trans (PySem.W.mg_of X G g_law.1)
  cases e
  have n_isinstance := PySem.W.mg_none_of X G z_isinstance
  have n_int := PySem.W.mg_none_of X G z_int
  have n_bool := PySem.W.mg_none_of X G z_bool
  have n_abs := PySem.W.mg_none_of X G z_abs
  have n_min := PySem.W.mg_none_of X G z_min
  have n_max := PySem.W.mg_none_of X G z_max
  have n_tuple := PySem.W.mg_none_of X G z_tuple
  have n_len := PySem.W.mg_none_of X G z_len
  have n_all := PySem.W.mg_none_of X G z_all
  have n_enumerate := PySem.W.mg_none_of X G z_enumerate
  have n_any := PySem.W.mg_none_of X G z_any
  have n_range := PySem.W.mg_none_of X G z_range
  have n_list := PySem.W.mg_none_of X G z_list
  have v_FAR := PySem.W.mg_of X G c_FAR
  have v_PARTS := PySem.W.mg_of X G c_PARTS
  have v_MAX_PIECES := PySem.W.mg_of X G c_MAX_PIECES
  have v_FIRST := PySem.W.mg_of X G c_FIRST
  have v_CHECK_START := PySem.W.mg_of X G c_CHECK_START
  have v_CHECK_TIMES := PySem.W.mg_of X G c_CHECK_TIMES
  have v_CHECK_REST := PySem.W.mg_of X G c_CHECK_REST
  obtain ⟨fd_is_number, F_is_number⟩ := g_is_number.2.fn
  have b_is_number := F_is_number.binds (ps := ["value", "smallest", "largest"]) fun _ _ _ _ _ _ us hl => match us, hl with | [_, _, _], _ => rfl
  have q_is_number := PySem.W.mg_of X G g_is_number.1
  obtain ⟨fd_divisor, F_divisor⟩ := g_divisor.2.fn
  have b_divisor := F_divisor.binds (ps := ["one", "other"]) fun _ _ _ _ _ _ us hl => match us, hl with | [_, _], _ => rfl
  have q_divisor := PySem.W.mg_of X G g_divisor.1
  obtain ⟨fd_fraction, F_fraction⟩ := g_fraction.2.fn
  have b_fraction := F_fraction.binds (ps := ["top", "bottom"]) fun _ _ _ _ _ _ us hl => match us, hl with | [_, _], _ => rfl
  have q_fraction := PySem.W.mg_of X G g_fraction.1
  obtain ⟨fd_way, F_way⟩ := g_way.2.fn
  have b_way := F_way.binds (ps := ["piece"]) fun _ _ _ _ _ _ us hl => match us, hl with | [_], _ => rfl
  have q_way := PySem.W.mg_of X G g_way.1
  obtain ⟨fd_across, F_across⟩ := g_across.2.fn
  have b_across := F_across.binds (ps := ["one", "other"]) fun _ _ _ _ _ _ us hl => match us, hl with | [_, _], _ => rfl
  have q_across := PySem.W.mg_of X G g_across.1
  obtain ⟨fd_along, F_along⟩ := g_along.2.fn
  have b_along := F_along.binds (ps := ["one", "other"]) fun _ _ _ _ _ _ us hl => match us, hl with | [_, _], _ => rfl
  have q_along := PySem.W.mg_of X G g_along.1
  obtain ⟨fd_overlap, F_overlap⟩ := g_overlap.2.fn
  have b_overlap := F_overlap.binds (ps := ["one", "other"]) fun _ _ _ _ _ _ us hl => match us, hl with | [_, _], _ => rfl
  have q_overlap := PySem.W.mg_of X G g_overlap.1
  obtain ⟨fd_point_at, F_point_at⟩ := g_point_at.2.fn
  have b_point_at := F_point_at.binds (ps := ["piece", "top", "bottom"]) fun _ _ _ _ _ _ us hl => match us, hl with | [_, _, _], _ => rfl
  have q_point_at := PySem.W.mg_of X G g_point_at.1
  obtain ⟨fd_common_point, F_common_point⟩ := g_common_point.2.fn
  have b_common_point := F_common_point.binds (ps := ["one", "other"]) fun _ _ _ _ _ _ us hl => match us, hl with | [_, _], _ => rfl
  have q_common_point := PySem.W.mg_of X G g_common_point.1
  obtain ⟨fd_is_piece, F_is_piece⟩ := g_is_piece.2.fn
  have b_is_piece := F_is_piece.binds (ps := ["value"]) fun _ _ _ _ _ _ us hl => match us, hl with | [_], _ => rfl
  have q_is_piece := PySem.W.mg_of X G g_is_piece.1
  obtain ⟨fd__law_is_good, F__law_is_good⟩ := g__law_is_good.2.fn
  have b__law_is_good := F__law_is_good.binds (ps := ["_law_pieces"]) fun _ _ _ _ _ _ us hl => match us, hl with | [_], _ => rfl
  have q__law_is_good := PySem.W.mg_of X G g__law_is_good.1
  obtain ⟨fd__law_taken, F__law_taken⟩ := g__law_taken.2.fn
  have b__law_taken := F__law_taken.binds (ps := ["_law_row", "_law_many"]) fun _ _ _ _ _ _ us hl => match us, hl with | [_, _], _ => rfl
  have q__law_taken := PySem.W.mg_of X G g__law_taken.1
  obtain ⟨fd__law_drawing, F__law_drawing⟩ := g__law_drawing.2.fn
  have b__law_drawing := F__law_drawing.binds (ps := ["_law_row", "_law_most"]) fun _ _ _ _ _ _ us hl => match us, hl with | [_, _], _ => rfl
  have q__law_drawing := PySem.W.mg_of X G g__law_drawing.1
  obtain ⟨fd_checksum, F_checksum⟩ := g_checksum.2.fn
  have b_checksum := F_checksum.binds (ps := ["values"]) fun _ _ _ _ _ _ us hl => match us, hl with | [_], _ => rfl
  have q_checksum := PySem.W.mg_of X G g_checksum.1
  obtain ⟨fd__law_checked, F__law_checked⟩ := g__law_checked.2.fn
  have b__law_checked := F__law_checked.binds (ps := ["_law_items"]) fun _ _ _ _ _ _ us hl => match us, hl with | [_], _ => rfl
  have q__law_checked := PySem.W.mg_of X G g__law_checked.1
  obtain ⟨fd_encode_drawing, F_encode_drawing⟩ := g_encode_drawing.2.fn
  have b_encode_drawing := F_encode_drawing.binds (ps := ["drawing"]) fun _ _ _ _ _ _ us hl => match us, hl with | [_], _ => rfl
  have q_encode_drawing := PySem.W.mg_of X G g_encode_drawing.1
  obtain ⟨fd_decode_drawing, F_decode_drawing⟩ := g_decode_drawing.2.fn
  have b_decode_drawing := F_decode_drawing.binds (ps := ["values"]) fun _ _ _ _ _ _ us hl => match us, hl with | [_], _ => rfl
  have q_decode_drawing := PySem.W.mg_of X G g_decode_drawing.1
  obtain ⟨fd_InvalidDrawing___init__, F_InvalidDrawing___init__⟩ := m_InvalidDrawing___init__.2.2.fn
  have b_InvalidDrawing___init__ := F_InvalidDrawing___init__.binds (ps := ["self", "index"]) fun _ _ _ _ _ _ us hl => match us, hl with | [_, _], _ => rfl
  obtain ⟨fd_Drawing___init__, F_Drawing___init__⟩ := m_Drawing___init__.2.2.fn
  have b_Drawing___init__ := F_Drawing___init__.binds (ps := ["self", "pieces"]) fun _ _ _ _ _ _ us hl => match us, hl with | [_, _], _ => rfl
  obtain ⟨fd_Drawing___len__, F_Drawing___len__⟩ := m_Drawing___len__.2.2.fn
  have b_Drawing___len__ := F_Drawing___len__.binds (ps := ["self"]) fun _ _ _ _ _ _ us hl => match us, hl with | [_], _ => rfl
  obtain ⟨fd_Drawing___eq__, F_Drawing___eq__⟩ := m_Drawing___eq__.2.2.fn
  have b_Drawing___eq__ := F_Drawing___eq__.binds (ps := ["self", "other"]) fun _ _ _ _ _ _ us hl => match us, hl with | [_, _], _ => rfl
  obtain ⟨fd_Reader___init__, F_Reader___init__⟩ := m_Reader___init__.2.2.fn
  have b_Reader___init__ := F_Reader___init__.binds (ps := ["self", "values"]) fun _ _ _ _ _ _ us hl => match us, hl with | [_, _], _ => rfl
  obtain ⟨fd_Reader_item, F_Reader_item⟩ := m_Reader_item.2.2.fn
  have b_Reader_item := F_Reader_item.binds (ps := ["self", "low", "high"]) fun _ _ _ _ _ _ us hl => match us, hl with | [_, _, _], _ => rfl
  obtain ⟨fd_Reader_read_piece, F_Reader_read_piece⟩ := m_Reader_read_piece.2.2.fn
  have b_Reader_read_piece := F_Reader_read_piece.binds (ps := ["self"]) fun _ _ _ _ _ _ us hl => match us, hl with | [_], _ => rfl
  obtain ⟨fd_Reader_finish, F_Reader_finish⟩ := m_Reader_finish.2.2.fn
  have b_Reader_finish := F_Reader_finish.binds (ps := ["self"]) fun _ _ _ _ _ _ us hl => match us, hl with | [_], _ => rfl
  obtain ⟨fd_p, F_p⟩ := p5.fn
  have b_p := F_p.binds (ps := ["self"]) fun _ _ _ _ _ _ us hl => match us, hl with | [_], _ => rfl
  obtain ⟨oc, od, kV, dc, pm, an, cd, ct, sl, la, lc, lk⟩ := g_law.2
  refine ⟨PySem.W.fnOf "law" "law" (defArgs s_law) (defBody s_law) (defScope s_law) .none kV dc pm an cd ct, fun s v => .of_eq rfl, fun base _ _ => ?_⟩
  have G1 := fn0_mk (P := l.prog) (w := w) (base := base) F_is_number b_is_number q_is_number (ok_is_number F_is_number n_isinstance n_int n_bool)
  have G2 := fn0_mk (P := l.prog) (w := w) (base := base) F_divisor b_divisor q_divisor (ok_divisor F_divisor n_int n_abs)
  have G3 := fn0_mk F_fraction b_fraction q_fraction (ok_fraction F_fraction G2)
  have G4 := fn0_mk (P := l.prog) (w := w) (base := base) F_way b_way q_way (ok_way F_way)
  have G5 := fn0_mk (P := l.prog) (w := w) (base := base) F_across b_across q_across (ok_across F_across)
  have G6 := fn0_mk F_along b_along q_along (ok_along F_along n_min n_max G4)
  have G7 := fn0_mk F_overlap b_overlap q_overlap (ok_overlap F_overlap G4 G5 G6)
  have G8 := fn0_mk F_point_at b_point_at q_point_at (ok_point_at F_point_at G4 G3)
  have G9 := fn0_mk F_common_point b_common_point q_common_point (ok_common_point F_common_point G4 G5 G6 G8)
  have G10 := fn0_mk F_is_piece b_is_piece q_is_piece (ok_is_piece F_is_piece n_isinstance n_tuple n_len n_all v_FAR v_PARTS G1)
  have i8 : PySem.W.exmOne K (.ref CI) (.ref CI) = some true := PySem.W.exm_ref i2 i6 i3 i7
  have e6 : PySem.W.kitOne K (.ref CD) (.ref CD) = some true := by unfold PySem.W.kitOne; rw [if_pos (beq_self_eq_true _)]
  have LE : LineE K mg CL := ⟨PySem.W.mg_of X G aL, l1, l2, l3⟩
  have OE : OexC K CI := ⟨⟨nm, q, N, bs, bm, sn, sub, ab, col, dd, k0, k1, k2, k3, k5, xI, xV⟩, i1, i2, i3, i4⟩
  have qI := PySem.W.mg_of X G aI
  have qD := PySem.W.mg_of X G aD
  have EI : ErrI l.prog w K mg base 1 "InvalidDrawing" "index" CI := ⟨OE, qI, i5, ⟨_, _, _, m_InvalidDrawing___init__.1, beq_iff_eq.mp m_InvalidDrawing___init__.2.1, ok_InvalidDrawing_init F_InvalidDrawing___init__ LE, b_InvalidDrawing___init__⟩⟩
  let T : DrT K CD := ⟨pl, il, pp, ip, ⟨d1, d2, d3, d4⟩, ⟨s_lines1, s_lines2, s_lines3, s_lines4, s_lines5, s_lines6⟩, ⟨s_points1, s_points2, s_points3, s_points4, s_points5, s_points6⟩, dne⟩
  have DC : DrC l.prog w K mg base CD CI T := ⟨qD, ⟨_, _, _, ⟨d5, m_Drawing___init__.1, m_Drawing___init__.2.1, d6⟩, ok_Drawing_init F_Drawing___init__ T EI n_enumerate n_any n_range n_len v_MAX_PIECES G10 G7 G9, b_Drawing___init__⟩⟩
  have DM : DrM l.prog w K mg base CD T := ⟨⟨_, m_Drawing___len__.1, m_Drawing___len__.2.1, fnr (ok_Drawing_len F_Drawing___len__ n_len) b_Drawing___len__⟩, ⟨_, _, p1, p2, p3, ⟨_, p4⟩, fnr (ok_Drawing_pieces F_p) b_p⟩, ⟨_, e1, e2, m_Drawing___eq__.1, m_Drawing___eq__.2.1, fnr (ok_Drawing_eq F_Drawing___eq__ n_isinstance qD ⟨e3, e4, e5, e1⟩ e6) b_Drawing___eq__⟩⟩
  have G11 := fn0_mk (P := l.prog) (w := w) (base := base) F__law_taken b__law_taken q__law_taken (ok_law_taken F__law_taken n_int n_len)
  have G12 := fn0_mk F__law_is_good b__law_is_good q__law_is_good (ok_law_is_good F__law_is_good n_tuple DC qI i8)
  have G13 := fn0_mk F__law_drawing b__law_drawing q__law_drawing (ok_law_drawing F__law_drawing n_range n_tuple DC G11 G12)
  have G14 := fn0_mk (P := l.prog) (w := w) (base := base) F_checksum b_checksum q_checksum (ok_checksum F_checksum n_int v_CHECK_START v_CHECK_TIMES v_CHECK_REST)
  have G15 := fn0_mk F_encode_drawing b_encode_drawing q_encode_drawing (ok_encode_drawing F_encode_drawing n_len v_FIRST DM G14)
  have G16 := fn0_mk (P := l.prog) (w := w) (base := base) F__law_checked b__law_checked q__law_checked (ok_law_checked F__law_checked n_int)
  have RT : RdT K CR := ⟨⟨r1, r2, r3, r4⟩, r5, r6⟩
  have RM1 : RdM l.prog w K mg base 2 CR "item" (spItem CR) := ⟨_, _, _, ⟨m_Reader_item.1, m_Reader_item.2.1, F_Reader_item.kp⟩, ok_Reader_item F_Reader_item n_len RT G1, b_Reader_item⟩
  have RI : RdI l.prog w K mg base CR := ⟨PySem.W.mg_of X G aR, ⟨_, _, _, ⟨r7, m_Reader___init__.1, m_Reader___init__.2.1, r8⟩, ok_Reader_init F_Reader___init__ RT, b_Reader___init__⟩, RT, RM1,
    ⟨_, _, _, ⟨m_Reader_read_piece.1, m_Reader_read_piece.2.1, F_Reader_read_piece.kp⟩, ok_Reader_read_piece F_Reader_read_piece n_range n_tuple v_FAR v_PARTS RT RM1, b_Reader_read_piece⟩,
    ⟨_, _, _, ⟨m_Reader_finish.1, m_Reader_finish.2.1, F_Reader_finish.kp⟩, ok_Reader_finish F_Reader_finish n_len RT RM1 G14, b_Reader_finish⟩⟩
  have G17 := fn0_mk F_decode_drawing b_decode_drawing q_decode_drawing (ok_decode_drawing F_decode_drawing n_range n_tuple v_FIRST v_MAX_PIECES RI DC)
  exact ok_law (fun_mk (st := s_law) la lc lk) n_range n_len n_list DM G13 G15 G16 G17
end
/-- the script, as the head hands it -/
theorem scr_of {K : PySem.W.Frag} {H : Hp} {a : Addr} {ns : List Int} (hO : Only H) (hS : SqL K H a (ns.map V.int)) : Scr K a ns H := by
  rcases hS with (h | ⟨o, h⟩) | h
  · rcases hO a with z | ⟨o, xs, z⟩
    · rw [z] at h; cases h
    · rw [z] at h; cases h
  · exact .inl ⟨o, h⟩
  · exact .inr h
end Led

open PySem PySem.W PyProof.Rows in
set_option maxRecDepth 100000 in
set_option maxHeartbeats 0 in
theorem PySem.Challenge.cw_ledlines_k44_codes_there_and_back_holds : PySem.Challenge.rw_ledlines_k44_codes_there_and_back.Holds := by
  w_on; o_law; k_head; (case hw => w_witness2)
  k_fill
  refine L2.walk_of (l := PySem.Challenge.rw_ledlines_k44_codes_there_and_back) (n := 63) (k := 12) (x := "_law_script") (CX := fun _ => L2.CX0) (sp := fun w => Led.spLaw _) rfl (by decide) rfl ⟨rfl, by decide, by decide⟩ (fun w h Y => PySem.W.kIn_of Y) ?F (fun _ _ a ns hl hO hS => ⟨a, ns, rfl, Led.scr_of hO hS, fun _ => rfl⟩) (fun _ _ _ _ _ h => h)
  case F =>
    intro w mg fa h KX G hmg
    refine' Led.all_mk KX G hmg ⟨?g_is_number_a, Led.lf_mk ?g_is_number_l ?g_is_number_c ?g_is_number_k⟩ ⟨?g_divisor_a, Led.lf_mk ?g_divisor_l ?g_divisor_c ?g_divisor_k⟩ ⟨?g_fraction_a, Led.lf_mk ?g_fraction_l ?g_fraction_c ?g_fraction_k⟩ ⟨?g_way_a, Led.lf_mk ?g_way_l ?g_way_c ?g_way_k⟩ ⟨?g_across_a, Led.lf_mk ?g_across_l ?g_across_c ?g_across_k⟩ ⟨?g_along_a, Led.lf_mk ?g_along_l ?g_along_c ?g_along_k⟩ ⟨?g_overlap_a, Led.lf_mk ?g_overlap_l ?g_overlap_c ?g_overlap_k⟩ ⟨?g_point_at_a, Led.lf_mk ?g_point_at_l ?g_point_at_c ?g_point_at_k⟩ ⟨?g_common_point_a, Led.lf_mk ?g_common_point_l ?g_common_point_c ?g_common_point_k⟩ ⟨?g_is_piece_a, Led.lf_mk ?g_is_piece_l ?g_is_piece_c ?g_is_piece_k⟩ ⟨?g__law_is_good_a, Led.lf_mk ?g__law_is_good_l ?g__law_is_good_c ?g__law_is_good_k⟩ ⟨?g__law_taken_a, Led.lf_mk ?g__law_taken_l ?g__law_taken_c ?g__law_taken_k⟩ ⟨?g__law_drawing_a, Led.lf_mk ?g__law_drawing_l ?g__law_drawing_c ?g__law_drawing_k⟩ ⟨?g_checksum_a, Led.lf_mk ?g_checksum_l ?g_checksum_c ?g_checksum_k⟩ ⟨?g__law_checked_a, Led.lf_mk ?g__law_checked_l ?g__law_checked_c ?g__law_checked_k⟩ ⟨?g_encode_drawing_a, Led.lf_mk ?g_encode_drawing_l ?g_encode_drawing_c ?g_encode_drawing_k⟩ ⟨?g_decode_drawing_a, Led.lf_mk ?g_decode_drawing_l ?g_decode_drawing_c ?g_decode_drawing_k⟩ ⟨?g_law_a, Led.lf_mk ?g_law_l ?g_law_c ?g_law_k⟩ ?aL ?aI ?aD ?aR ⟨?m_InvalidDrawing___init___a, ?m_InvalidDrawing___init___i, Led.lf_mk ?m_InvalidDrawing___init___l ?m_InvalidDrawing___init___c ?m_InvalidDrawing___init___k⟩ ⟨?m_Drawing___init___a, ?m_Drawing___init___i, Led.lf_mk ?m_Drawing___init___l ?m_Drawing___init___c ?m_Drawing___init___k⟩ ⟨?m_Drawing___len___a, ?m_Drawing___len___i, Led.lf_mk ?m_Drawing___len___l ?m_Drawing___len___c ?m_Drawing___len___k⟩ ⟨?m_Drawing___eq___a, ?m_Drawing___eq___i, Led.lf_mk ?m_Drawing___eq___l ?m_Drawing___eq___c ?m_Drawing___eq___k⟩ ⟨?m_Reader___init___a, ?m_Reader___init___i, Led.lf_mk ?m_Reader___init___l ?m_Reader___init___c ?m_Reader___init___k⟩ ⟨?m_Reader_item_a, ?m_Reader_item_i, Led.lf_mk ?m_Reader_item_l ?m_Reader_item_c ?m_Reader_item_k⟩ ⟨?m_Reader_read_piece_a, ?m_Reader_read_piece_i, Led.lf_mk ?m_Reader_read_piece_l ?m_Reader_read_piece_c ?m_Reader_read_piece_k⟩ ⟨?m_Reader_finish_a, ?m_Reader_finish_i, Led.lf_mk ?m_Reader_finish_l ?m_Reader_finish_c ?m_Reader_finish_k⟩ ?l1 ?l2 ?l3 ?xI ?xV ?i1 ?i2 ?i3 ?i4 ?i5 ?i6 ?i7 ?d1 ?d2 ?d3 ?d4 ?s_lines1 ?s_lines2 ?s_lines3 ?s_lines4 ?s_lines5 ?s_lines6 ?s_points1 ?s_points2 ?s_points3 ?s_points4 ?s_points5 ?s_points6 ?dne ?d5 ?d6 ?p1 ?p2 ?p3 ?p4 (Led.lf_mk ?p5_l ?p5_c ?p5_k) ?e1 ?e2 ?e3 ?e4 ?e5 ?r1 ?r2 ?r3 ?r4 ?r5 ?r6 ?r7 ?r8 ?z_isinstance ?z_int ?z_bool ?z_abs ?z_min ?z_max ?z_tuple ?z_len ?z_all ?z_enumerate ?z_any ?z_range ?z_list ?c_FAR ?c_PARTS ?c_MAX_PIECES ?c_FIRST ?c_CHECK_START ?c_CHECK_TIMES ?c_CHECK_REST
    (case g_is_number_a => k_is)
    (case g_is_number_l => k_is)
    (case g_is_number_c => k_is)
    (case g_is_number_k => k_is)
    (case g_divisor_a => k_is)
    (case g_divisor_l => k_is)
    (case g_divisor_c => k_is)
    (case g_divisor_k => k_is)
    (case g_fraction_a => k_is)
    (case g_fraction_l => k_is)
    (case g_fraction_c => k_is)
    (case g_fraction_k => k_is)
    (case g_way_a => k_is)
    (case g_way_l => k_is)
    (case g_way_c => k_is)
    (case g_way_k => k_is)
    (case g_across_a => k_is)
    (case g_across_l => k_is)
    (case g_across_c => k_is)
    (case g_across_k => k_is)
    (case g_along_a => k_is)
    (case g_along_l => k_is)
    (case g_along_c => k_is)
    (case g_along_k => k_is)
    (case g_overlap_a => k_is)
    (case g_overlap_l => k_is)
    (case g_overlap_c => k_is)
    (case g_overlap_k => k_is)
    (case g_point_at_a => k_is)
    (case g_point_at_l => k_is)
    (case g_point_at_c => k_is)
    (case g_point_at_k => k_is)
    (case g_common_point_a => k_is)
    (case g_common_point_l => k_is)
    (case g_common_point_c => k_is)
    (case g_common_point_k => k_is)
    (case g_is_piece_a => k_is)
    (case g_is_piece_l => k_is)
    (case g_is_piece_c => k_is)
    (case g_is_piece_k => k_is)
    (case g__law_is_good_a => k_is)
    (case g__law_is_good_l => k_is)
    (case g__law_is_good_c => k_is)
    (case g__law_is_good_k => k_is)
    (case g__law_taken_a => k_is)
    (case g__law_taken_l => k_is)
    (case g__law_taken_c => k_is)
    (case g__law_taken_k => k_is)
    (case g__law_drawing_a => k_is)
    (case g__law_drawing_l => k_is)
    (case g__law_drawing_c => k_is)
    (case g__law_drawing_k => k_is)
    (case g_checksum_a => k_is)
    (case g_checksum_l => k_is)
    (case g_checksum_c => k_is)
    (case g_checksum_k => k_is)
    (case g__law_checked_a => k_is)
    (case g__law_checked_l => k_is)
    (case g__law_checked_c => k_is)
    (case g__law_checked_k => k_is)
    (case g_encode_drawing_a => k_is)
    (case g_encode_drawing_l => k_is)
    (case g_encode_drawing_c => k_is)
    (case g_encode_drawing_k => k_is)
    (case g_decode_drawing_a => k_is)
    (case g_decode_drawing_l => k_is)
    (case g_decode_drawing_c => k_is)
    (case g_decode_drawing_k => k_is)
    (case g_law_a => k_is)
    (case g_law_l => k_is)
    (case g_law_c => k_is)
    (case g_law_k => k_is)
    (case aL => k_is)
    (case aI => k_is)
    (case aD => k_is)
    (case aR => k_is)
    (case m_InvalidDrawing___init___a => k_is)
    (case m_InvalidDrawing___init___i => k_is)
    (case m_InvalidDrawing___init___l => k_is)
    (case m_InvalidDrawing___init___c => k_is)
    (case m_InvalidDrawing___init___k => k_is)
    (case m_Drawing___init___a => k_is)
    (case m_Drawing___init___i => k_is)
    (case m_Drawing___init___l => k_is)
    (case m_Drawing___init___c => k_is)
    (case m_Drawing___init___k => k_is)
    (case m_Drawing___len___a => k_is)
    (case m_Drawing___len___i => k_is)
    (case m_Drawing___len___l => k_is)
    (case m_Drawing___len___c => k_is)
    (case m_Drawing___len___k => k_is)
    (case m_Drawing___eq___a => k_is)
    (case m_Drawing___eq___i => k_is)
    (case m_Drawing___eq___l => k_is)
    (case m_Drawing___eq___c => k_is)
    (case m_Drawing___eq___k => k_is)
    (case m_Reader___init___a => k_is)
    (case m_Reader___init___i => k_is)
    (case m_Reader___init___l => k_is)
    (case m_Reader___init___c => k_is)
    (case m_Reader___init___k => k_is)
    (case m_Reader_item_a => k_is)
    (case m_Reader_item_i => k_is)
    (case m_Reader_item_l => k_is)
    (case m_Reader_item_c => k_is)
    (case m_Reader_item_k => k_is)
    (case m_Reader_read_piece_a => k_is)
    (case m_Reader_read_piece_i => k_is)
    (case m_Reader_read_piece_l => k_is)
    (case m_Reader_read_piece_c => k_is)
    (case m_Reader_read_piece_k => k_is)
    (case m_Reader_finish_a => k_is)
    (case m_Reader_finish_i => k_is)
    (case m_Reader_finish_l => k_is)
    (case m_Reader_finish_c => k_is)
    (case m_Reader_finish_k => k_is)
    (case l1 => k_is)
    (case l2 => k_is)
    (case l3 => k_is)
    (case xI => k_is)
    (case xV => rfl)
    (case i1 => k_is)
    (case i2 => k_is)
    (case i3 => k_is)
    (case i4 => k_is)
    (case i5 => k_is)
    (case i6 => k_is)
    (case i7 => first | rfl | k_is)
    (case d1 => k_is)
    (case d2 => k_is)
    (case d3 => k_is)
    (case d4 => k_is)
    (case s_lines1 => k_is)
    (case s_lines2 => k_is)
    (case s_lines3 => k_is)
    (case s_lines4 => k_is)
    (case s_lines5 => k_is)
    (case s_lines6 => decide)
    (case s_points1 => k_is)
    (case s_points2 => k_is)
    (case s_points3 => k_is)
    (case s_points4 => k_is)
    (case s_points5 => k_is)
    (case s_points6 => decide)
    (case dne => decide)
    (case d5 => k_is)
    (case d6 => k_is)
    (case p1 => k_is)
    (case p2 => k_is)
    (case p3 => k_is)
    (case p4 => k_is)
    (case p5_l => k_is)
    (case p5_c => k_is)
    (case p5_k => k_is)
    (case e1 => k_is)
    (case e2 => k_is)
    (case e3 => k_is)
    (case e4 => k_is)
    (case e5 => k_is)
    (case r1 => k_is)
    (case r2 => k_is)
    (case r3 => k_is)
    (case r4 => k_is)
    (case r5 => k_is)
    (case r6 => k_is)
    (case r7 => k_is)
    (case r8 => k_is)
    (case z_isinstance => k_is)
    (case z_int => k_is)
    (case z_bool => k_is)
    (case z_abs => k_is)
    (case z_min => k_is)
    (case z_max => k_is)
    (case z_tuple => k_is)
    (case z_len => k_is)
    (case z_all => k_is)
    (case z_enumerate => k_is)
    (case z_any => k_is)
    (case z_range => k_is)
    (case z_list => k_is)
    (case c_FAR => k_is)
    (case c_PARTS => k_is)
    (case c_MAX_PIECES => k_is)
    (case c_FIRST => k_is)
    (case c_CHECK_START => k_is)
    (case c_CHECK_TIMES => k_is)
    (case c_CHECK_REST => k_is)
