import PyProof.Rows.All
import Wide.All
import OpenK.AllK
import Wide.FinOn
import HandS.ForMost
import HandS.ForExc
import HandS.CallSlots
import HandS.Lambda
import HandS.Deep
import HandS.Wide
import HandS.WideBits
import HandS.IsInst
import HandS.RaiseMore
import KE.DataCmp
import KE.SortData
import PyProof.Rows.RuleB_pow
import HandS.Style
import HandS.SortInts
import HandS.Text
import HandS.ExcOwn
import HandS.Words
import HandS.Ends
import KE.KSuper
import KE.KExcSuper
import HandS.ExcValue
import HandS.EndBits
import PySem.Challenge.RW_learntsurely_k86_whole_wrong_lines_of_fa
section
set_option Elab.async false
set_option linter.all false
set_option maxRecDepth 100000
set_option maxHeartbeats 4000000
namespace PX
open PySem PySem.Spec PyProof.Rows L2

abbrev St := L2.St
/-! ### model values, the store, results -/
inductive MV where
  | dat (d : PyData)
  | cell (n : Nat)
  | exc (c : Str) (d : MV)
  /-- a list (false), a tuple (true) of any values, not changed any more -/
  | seq (t : Bool) (xs : List MV)
  /-- an empty dict, not changed -/
  | dct
  /-- a fixed value: a class, a type, a def -/
  | cst (v : V)

inductive Ob where
  | lst (xs : List MV)
  | dead (d : PyData)

abbrev Sto := List Ob
abbrev Sl := List (Option MV)

inductive Res (α : Type) where
  | ok (a : α) (S : Sto)
  | exc (c : Str) (d : MV) (S : Sto)
  | bad

def Res.bind {α β : Type} (r : Res α) (k : α → Sto → Res β) : Res β :=
  match r with
  | .ok a S => k a S
  | .exc c d S => .exc c d S
  | .bad => .bad

abbrev EM := Sl → Sto → Res MV
abbrev AM := Sl → Sto → Res (List MV)
abbrev TM := Sl → Sto → Res Bool

def MV.toD : MV → Option PyData
  | .dat d => some d
  | _ => none
def allD : List MV → Option (List PyData)
  | [] => some []
  | x :: xs => match x.toD, allD xs with
    | some d, some ds => some (d :: ds)
    | _, _ => none
theorem allD_map (ds : List PyData) : allD (ds.map MV.dat) = some ds := by
  induction ds with
  | nil => rfl
  | cons d ds ih => simp [allD, MV.toD, ih]
theorem allD_eq : ∀ {xs : List MV} {ds : List PyData}, allD xs = some ds → xs = ds.map MV.dat
  | [], ds, h => by
    simp [allD] at h
    subst h
    rfl
  | x :: xs, ds, h => by
    unfold allD at h
    cases hx : x.toD with
    | none => simp [hx] at h
    | some d =>
      cases hr : allD xs with
      | none => simp [hx, hr] at h
      | some r =>
        simp [hx, hr] at h
        subst h
        have e := allD_eq hr
        subst e
        cases x with
        | dat d' =>
          simp [MV.toD] at hx
          subst hx
          rfl
        | cell n => simp [MV.toD] at hx
        | exc c d' => simp [MV.toD] at hx
        | seq _ _ => simp [MV.toD] at hx
        | dct => simp [MV.toD] at hx
        | cst _ => simp [MV.toD] at hx

def look (S : Sto) : MV → Option PyData
  | .dat d => some d
  | .cell i => match S[i]? with
    | some (.lst xs) => (allD xs).map .list
    | some (.dead d) => some d
    | none => none
  | _ => none
/-- to persistent data, freezing a cell -/
def fz (S : Sto) : MV → Option (PyData × Sto)
  | .dat d => some (d, S)
  | .cell i => match S[i]? with
    | some (.lst xs) => (allD xs).map fun ds => (.list ds, S.set i (.dead (.list ds)))
    | some (.dead d) => some (d, S)
    | none => none
  | _ => none
def fzAll (S : Sto) : List MV → Option (List PyData × Sto)
  | [] => some ([], S)
  | x :: xs => match fz S x with
    | none => none
    | some (d, S1) => match fzAll S1 xs with
      | none => none
      | some (ds, S2) => some (d :: ds, S2)
theorem fzAll_dat (S : Sto) (ds : List PyData) : fzAll S (ds.map MV.dat) = some (ds, S) := by
  induction ds with
  | nil => rfl
  | cons d ds ih => simp [fzAll, fz, ih]

/-! ### the relation -/
structure Wd where
  B : Hp
  r : Nat → Addr
  n : Nat
def Le (w w' : Wd) : Prop := (∀ a o, w.B a = some o → w'.B a = some o) ∧ w.n ≤ w'.n ∧ ∀ i, i < w.n → w'.r i = w.r i
theorem Le.refl (w : Wd) : Le w w := ⟨fun _ _ h => h, Nat.le_refl _, fun _ _ => rfl⟩
theorem Le.trans {a b c : Wd} (h : Le a b) (g : Le b c) : Le a c :=
  ⟨fun x o e => g.1 x o (h.1 x o e), Nat.le_trans h.2.1 g.2.1, fun i hi => (g.2.2 i (Nat.lt_of_lt_of_le hi h.2.1)).trans (h.2.2 i hi)⟩

section
variable {K : PySem.W.Frag} {mg : Str → Option Value}
theorem rd_ext {B B' : Hp} (e : ∀ a o, B a = some o → B' a = some o) {a : Addr} {u : HO} (h : Rd B a u) : Rd B' a u := by
  rcases h with h | ⟨o, h⟩
  · exact .inl (e _ _ h)
  · exact .inr ⟨o, e _ _ h⟩
theorem sql_ext {B B' : Hp} (e : ∀ a o, B a = some o → B' a = some o) {a : Addr} {xs : List V} (h : SqL K B a xs) : SqL K B' a xs := by
  rcases h with h | h
  · exact .inl (rd_ext e h)
  · exact .inr h
theorem sqt_ext {B B' : Hp} (e : ∀ a o, B a = some o → B' a = some o) {a : Addr} {xs : List V} (h : SqT K B a xs) : SqT K B' a xs := by
  rcases h with h | h
  · exact .inl (rd_ext e h)
  · exact .inr h
mutual
theorem dp_ext {B B' : Hp} (e : ∀ a o, B a = some o → B' a = some o) : ∀ (d : PyData) (v : V), Dp K B v d → Dp K B' v d
  | .none, _, h => by cases h; exact .non
  | .bool b, _, h => by cases h; exact .bl b
  | .int i, _, h => by cases h; exact .int i
  | .str x, _, h => by cases h; exact .str x
  | .list ds, _, h => by
    cases h with
    | lst h1 h2 => exact .lst (sql_ext e h1) (dpAll_ext e ds _ h2)
  | .tuple ds, _, h => by
    cases h with
    | tup h1 h2 => exact .tup (sqt_ext e h1) (dpAll_ext e ds _ h2)
  | .dict _, _, h => by cases h
theorem dpAll_ext {B B' : Hp} (e : ∀ a o, B a = some o → B' a = some o) : ∀ (ds : List PyData) (vs : List V), DpAll K B vs ds → DpAll K B' vs ds
  | [], _, h => by cases h; exact .nil
  | d :: ds, _, h => by
    cases h with
    | cons h1 h2 => exact .cons (dp_ext e d _ h1) (dpAll_ext e ds _ h2)
end
/-- an exception object, held, of the class at C, its dict at dd -/
def ExcO (C dd a : Addr) : HO := .ext fun h => ∃ (oe : Obj) (vs : Array Value), h.get? a = some oe ∧ Zc (.ref C) (some dd) oe ∧ oe.data = .fields vs

mutual
def RelM (K : PySem.W.Frag) (mg : Str → Option Value) (w : Wd) : V → MV → Prop
  | v, .dat d => Dp K w.B v d
  | v, .cell i => i < w.n ∧ v = .ref (w.r i)
  | v, .exc c d => ∃ (a C dd : Addr) (u : V), v = .ref a ∧ mg c = some (.ref C) ∧ w.B a = some (ExcO C dd a) ∧ w.B dd = some (.xd [("value", u)]) ∧ RelM K mg w u d
  | v, .seq t xs => ∃ (a : Addr) (vs : List V), v = .ref a ∧ (if t = true then SqT K w.B a vs else SqL K w.B a vs) ∧ AllR K mg w vs xs
  | v, .dct => ∃ a : Addr, v = .ref a ∧ w.B a = some (.dK [])
  | v, .cst u => v = u
def AllR (K : PySem.W.Frag) (mg : Str → Option Value) (w : Wd) : List V → List MV → Prop
  | [], [] => True
  | v :: vs, x :: xs => RelM K mg w v x ∧ AllR K mg w vs xs
  | _, _ => False
end
abbrev AllM (K : PySem.W.Frag) (mg : Str → Option Value) (w : Wd) : List V → List MV → Prop := Paired (RelM K mg w)
theorem AllR.all {w : Wd} : ∀ {vs : List V} {xs : List MV}, AllR K mg w vs xs → AllM K mg w vs xs
  | [], [], _ => .nil
  | _ :: _, _ :: _, h => .cons h.1 (AllR.all h.2)
  | [], _ :: _, h => h.elim
  | _ :: _, [], h => h.elim
theorem AllM.r {w : Wd} : ∀ {vs : List V} {xs : List MV}, AllM K mg w vs xs → AllR K mg w vs xs
  | _, _, .nil => trivial
  | _, _, .cons r t => ⟨r, AllM.r t⟩
mutual
theorem relM_mono {w w' : Wd} (l : Le w w') : ∀ (m : MV) (v : V), RelM K mg w v m → RelM K mg w' v m
  | .dat d, v, h => dp_ext l.1 d v h
  | .cell i, v, h => ⟨Nat.lt_of_lt_of_le h.1 l.2.1, h.2.trans (by rw [l.2.2 i h.1])⟩
  | .exc c d, v, h => by
    obtain ⟨a, C, dd, u, h1, h2, h3, h4, h5⟩ := h
    exact ⟨a, C, dd, u, h1, h2, l.1 _ _ h3, l.1 _ _ h4, relM_mono l d u h5⟩
  | .seq t xs, v, h => by
    obtain ⟨a, vs, h1, h2, h3⟩ := h
    refine ⟨a, vs, h1, ?_, allR_mono l xs vs h3⟩
    cases t with
    | true => exact sqt_ext l.1 h2
    | false => exact sql_ext l.1 h2
  | .dct, v, h => by
    obtain ⟨a, h1, h2⟩ := h
    exact ⟨a, h1, l.1 _ _ h2⟩
  | .cst u, v, h => h
theorem allR_mono {w w' : Wd} (l : Le w w') : ∀ (ms : List MV) (vs : List V), AllR K mg w vs ms → AllR K mg w' vs ms
  | [], [], _ => trivial
  | m :: ms, v :: vs, h => ⟨relM_mono l m v h.1, allR_mono l ms vs h.2⟩
  | [], _ :: _, h => h.elim
  | _ :: _, [], h => h.elim
end
theorem RelM.mono {w w' : Wd} (l : Le w w') {v : V} {m : MV} (h : RelM K mg w v m) : RelM K mg w' v m := relM_mono l m v h
theorem AllM.mono {w w' : Wd} (l : Le w w') {vs : List V} {ms : List MV} (h : AllM K mg w vs ms) : AllM K mg w' vs ms := Paired.mapP h fun _ _ r => r.mono l
def ObR (K : PySem.W.Frag) (mg : Str → Option Value) (w : Wd) (H : Hp) (i : Nat) : Ob → Prop
  | .lst xs => w.B (w.r i) = none ∧ ∃ vs, H (w.r i) = some (.lst vs) ∧ AllM K mg w vs xs
  | .dead d => (∃ o, w.B (w.r i) = some o) ∧ Dp K w.B (.ref (w.r i)) d
structure Sim (K : PySem.W.Frag) (mg : Str → Option Value) (w : Wd) (S : Sto) (H : Hp) : Prop where
  n : w.n = S.length
  le : ∀ a o, w.B a = some o → H a = some o
  inj : ∀ i j, i < w.n → j < w.n → w.r i = w.r j → i = j
  obj : ∀ (i : Nat) (o : Ob), S[i]? = some o → ObR K mg w H i o

def RelO' (K : PySem.W.Frag) (mg : Str → Option Value) (w : Wd) : Option V → Option MV → Prop
  | _, none => True
  | some v, some m => RelM K mg w v m
  | none, some _ => False
abbrev SlR (K : PySem.W.Frag) (mg : Str → Option Value) (w : Wd) : St → Sl → Prop := Paired (RelO' K mg w)
theorem RelO'.mono {w w' : Wd} (l : Le w w') {v : Option V} {m : Option MV} (h : RelO' K mg w v m) : RelO' K mg w' v m := by
  cases m with
  | none => cases v <;> trivial
  | some m =>
    cases v with
    | none => exact h
    | some v => exact RelM.mono l h
theorem SlR.mono {w w' : Wd} (l : Le w w') {σ : St} {m : Sl} (h : SlR K mg w σ m) : SlR K mg w' σ m := Paired.mapP h fun _ _ r => r.mono l
theorem SlR.get {w : Wd} : ∀ {σ : St} {m : Sl} {i : Nat} {x : MV}, SlR K mg w σ m → m[i]? = some (some x) → ∃ v, σ[i]? = some (some v) ∧ RelM K mg w v x
  | _, _, _, _, .nil, e => by simp at e
  | _, _, 0, x, .cons (a := a) (b := b) r _, e => by
    simp at e
    subst e
    cases a with
    | none => exact r.elim
    | some v => exact ⟨v, rfl, r⟩
  | _, _, i + 1, x, .cons _ t, e => by
    obtain ⟨v, h1, h2⟩ := SlR.get (i := i) t (by simpa using e)
    exact ⟨v, by simpa using h1, h2⟩
theorem SlR.set {w : Wd} {a : Option V} {b : Option MV} (r : RelO' K mg w a b) : ∀ {σ : St} {m : Sl} (i : Nat), SlR K mg w σ m → SlR K mg w (σ.set i a) (m.set i b)
  | _, _, _, .nil => .nil
  | _, _, 0, .cons _ t => .cons r t
  | _, _, i + 1, .cons q t => .cons q (SlR.set r i t)

/-- from (w, H) on: what is tracked and no cell stays -/
structure Lx (w : Wd) (H : Hp) (w' : Wd) (H' : Hp) : Prop where
  le : Le w w'
  new : ∀ i, w.n ≤ i → i < w'.n → H (w'.r i) = none
  keep : ∀ a o, H a = some o → (∀ i, i < w.n → w.r i ≠ a) → H' a = some o
  old : ∀ a o, H a = some o → (∀ i, i < w.n → w.r i ≠ a) → w.B a = none → w'.B a = none
theorem Lx.refl (w : Wd) (H : Hp) : Lx w H w H := ⟨Le.refl w, fun i h h' => absurd h' (Nat.not_lt.mpr h), fun _ _ e _ => e, fun _ _ _ _ e => e⟩
theorem Sim.there {w : Wd} {S : Sto} {H : Hp} (s : Sim K mg w S H) {i : Nat} (hi : i < w.n) : ∃ o, H (w.r i) = some o := by
  have hs : i < S.length := by rw [← s.n]; exact hi
  have q := s.obj i _ (List.getElem?_eq_getElem hs)
  cases ho : S[i] with
  | lst xs =>
    rw [ho] at q
    obtain ⟨_, vs, h1, _⟩ := q
    exact ⟨_, h1⟩
  | dead d =>
    rw [ho] at q
    obtain ⟨⟨o, q1⟩, _⟩ := q
    exact ⟨o, s.le _ _ q1⟩
theorem Lx.trans {a b c : Wd} {H H1 H2 : Hp} {S : Sto} (h : Lx a H b H1) (s : Sim K mg b S H1) (g : Lx b H1 c H2) : Lx a H c H2 := by
  have back : ∀ x, H1 x = none → H x = none := fun x e => by
    cases q : H x with
    | none => rfl
    | some o =>
      by_cases hc : ∀ i, i < a.n → a.r i ≠ x
      · rw [h.keep x o q hc] at e
        cases e
      · have hc' : ∃ i, i < a.n ∧ a.r i = x := by
          apply Classical.byContradiction
          intro hn
          exact hc fun i hi e => hn ⟨i, hi, e⟩
        obtain ⟨i, hi, rfl⟩ := hc'
        obtain ⟨u, hu⟩ := s.there (Nat.lt_of_lt_of_le hi h.le.2.1)
        rw [h.le.2.2 i hi, e] at hu
        cases hu
  have nc : ∀ x o, H x = some o → (∀ i, i < a.n → a.r i ≠ x) → ∀ i, i < b.n → b.r i ≠ x := fun x o e hc i hi ei => by
    by_cases ha : i < a.n
    · exact hc i ha (by rw [← h.le.2.2 i ha]; exact ei)
    · have := h.new i (Nat.not_lt.mp ha) hi
      rw [ei, e] at this
      cases this
  refine ⟨h.le.trans g.le, fun i h1 h2 => ?_, fun x o e hc => g.keep x o (h.keep x o e hc) (nc x o e hc), fun x o e hc q => g.old x o (h.keep x o e hc) (nc x o e hc) (h.old x o e hc q)⟩
  · by_cases hb : i < b.n
    · rw [g.le.2.2 i hb]
      exact h.new i h1 hb
    · exact back _ (g.new i (Nat.not_lt.mp hb) h2)
/-! ### what a result asks -/
def Pst {α : Type} (K : PySem.W.Frag) (mg : Str → Option Value) (w : Wd) (H : Hp) (σ : St) (W : WX) (φ : Wd → Sto → Hp → α → Prop) : Res α → Prop
  | .ok a S => ∀ w' H', Lx w H w' H' → Sim K mg w' S H' → φ w' S H' a
  | .exc c d S => ∀ w' H' (C dd : Addr) (u : V), Lx w H w' H' → Sim K mg w' S H' → mg c = some (.ref C) → w'.B dd = some (.xd [("value", u)]) → RelM K mg w' u d → W (.ref C) (some dd) σ H'
  | .bad => False
theorem Pst.mono {α : Type} {w w' : Wd} {H H1 : Hp} {S0 : Sto} {σ : St} {W : WX} {φ : Wd → Sto → Hp → α → Prop} (l : Lx w H w' H1) (s0 : Sim K mg w' S0 H1) {r : Res α} (h : Pst K mg w H σ W φ r) : Pst K mg w' H1 σ W φ r := by
  cases r with
  | ok a S => exact fun w2 H2 l2 s => h w2 H2 (l.trans s0 l2) s
  | exc c d S => exact fun w2 H2 C dd u l2 s => h w2 H2 C dd u (l.trans s0 l2) s
  | bad => exact h
theorem Pst.imp {α : Type} {w : Wd} {H : Hp} {σ : St} {W : WX} {φ ψ : Wd → Sto → Hp → α → Prop} {r : Res α} (h : Pst K mg w H σ W φ r)
    (k : ∀ w' S H' a, Lx w H w' H' → Sim K mg w' S H' → φ w' S H' a → ψ w' S H' a) : Pst K mg w H σ W ψ r := by
  cases r with
  | ok a S => exact fun w2 H2 l2 s => k w2 S H2 a l2 s (h w2 H2 l2 s)
  | exc c d S => exact h
  | bad => exact h
theorem Pst.bind {α β : Type} {w : Wd} {H : Hp} {σ : St} {W : WX} {φ : Wd → Sto → Hp → β → Prop} {r : Res α} {k : α → Sto → Res β} (h : Pst K mg w H σ W φ (r.bind k)) :
    Pst K mg w H σ W (fun w1 S1 H1 a => Pst K mg w1 H1 σ W φ (k a S1)) r := by
  cases r with
  | ok a S => exact fun w1 H1 l s => Pst.mono l s h
  | exc c d S => exact h
  | bad => exact h
abbrev Fv (K : PySem.W.Frag) (mg : Str → Option Value) (Q : VK) : Wd → Sto → Hp → MV → Prop := fun w _ H m => ∀ v, RelM K mg w v m → Q v H
abbrev Fa (K : PySem.W.Frag) (mg : Str → Option Value) (Q : List V → Hp → Prop) : Wd → Sto → Hp → List MV → Prop := fun w _ H m => ∀ v, AllM K mg w v m → Q v H
abbrev Ft (Q : Bool → Hp → Prop) : Wd → Sto → Hp → Bool → Prop := fun _ _ H b => Q b H
def wpG {α β : Type} (K : PySem.W.Frag) (mg : Str → Option Value) (W : WX) (F : β → Wd → Sto → Hp → α → Prop) (f : Sl → Sto → Res α) : St → Hp → β → Prop := fun σ H Q =>
  ∃ w S m, Sim K mg w S H ∧ SlR K mg w σ m ∧ Pst K mg w H σ W (F Q) (f m S)
abbrev wpE (K : PySem.W.Frag) (mg : Str → Option Value) (W : WX) (f : EM) : TE := wpG K mg W (Fv K mg) f
abbrev wpA (K : PySem.W.Frag) (mg : Str → Option Value) (W : WX) (f : AM) : TA := wpG K mg W (Fa K mg) f
abbrev wpT (K : PySem.W.Frag) (mg : Str → Option Value) (W : WX) (f : TM) : TT := wpG K mg W Ft f
end

abbrev GE (X : Cx) (W : WX) (e : Expr) (f : EM) : Prop := PE X e (wpE X.K X.mg W f)
abbrev GA (X : Cx) (W : WX) (es : List Expr) (f : AM) : Prop := PA X es (wpA X.K X.mg W f)
abbrev GT (X : Cx) (W : WX) (e : Expr) (f : TM) : Prop := PT X e (wpT X.K X.mg W f)
abbrev GW (X : Cx) (W : WX) (e : Expr) (f : TM) : Prop := PW X e (wpT X.K X.mg W f)
section
variable {X : Cx} {W : WX}
theorem PE.imp {e : Expr} {t t' : TE} (h : PE X e t) (k : ∀ σ H Q, t' σ H Q → t σ H Q) : PE X e t' := ⟨fun pins s σ H Q I q => h.run pins s σ H Q I (k σ H Q q)⟩
theorem PA.imp {e : List Expr} {t t' : TA} (h : PA X e t) (k : ∀ σ H Q, t' σ H Q → t σ H Q) : PA X e t' := ⟨fun pos pins s σ H Q I q => h.run pos pins s σ H Q I (k σ H Q q)⟩
theorem PT.imp {e : Expr} {t t' : TT} (h : PT X e t) (k : ∀ σ H Q, t' σ H Q → t σ H Q) : PT X e t' := ⟨fun pins s σ H Q I q => h.run pins s σ H Q I (k σ H Q q)⟩
theorem PW.imp {e : Expr} {t t' : TT} (h : PW X e t) (k : ∀ σ H Q, t' σ H Q → t σ H Q) : PW X e t' := ⟨fun wh pins s σ H Q I q => h.run wh pins s σ H Q I (k σ H Q q)⟩
theorem PS.imp {e : Stmt} {t t' : TS} (h : PS X e t) (k : ∀ D σ H, t' D σ H → t D σ H) : PS X e t' := ⟨fun pins s σ H D I q => h.run pins s σ H D I (k D σ H q)⟩
theorem PSs.imp {e : List Stmt} {t t' : TS} (h : PSs X e t) (k : ∀ D σ H, t' D σ H → t D σ H) : PSs X e t' := ⟨fun pins s σ H D I q => h.run pins s σ H D I (k D σ H q)⟩

/-! ### binding, once -/
theorem wp_bind {α β γ δ : Type} {K : PySem.W.Frag} {mg : Str → Option Value} {F : γ → Wd → Sto → Hp → α → Prop} {F2 : δ → Wd → Sto → Hp → β → Prop} {f : Sl → Sto → Res α} {k : Sl → α → Sto → Res β} {σ : St} {H : Hp} {Q : γ} {Q2 : δ}
    (h : wpG K mg W F2 (fun m S => (f m S).bind (k m)) σ H Q2)
    (q : ∀ w S H m a, Sim K mg w S H → SlR K mg w σ m → Pst K mg w H σ W (F2 Q2) (k m a S) → F Q w S H a) : wpG K mg W F f σ H Q := by
  obtain ⟨w, S, m, s, l, p⟩ := h
  exact ⟨w, S, m, s, l, p.bind.imp fun w' S' H' a le s' x => q w' S' H' m a s' (l.mono le.le) x⟩

/-! ### names, constants -/
def mvar (i : Nat) : EM := fun m S => match m[i]? with
  | some (some v) => .ok v S
  | _ => .bad
def mcst (d : PyData) : EM := fun _ S => .ok (.dat d) S
theorem pst_ok {α : Type} {K : PySem.W.Frag} {mg : Str → Option Value} {w : Wd} {S : Sto} {H : Hp} {σ : St} {φ : Wd → Sto → Hp → α → Prop} {a : α} (s : Sim K mg w S H) (p : Pst K mg w H σ W φ (.ok a S)) : φ w S H a := p w H (Lx.refl w H) s
theorem ge_name (i : Nat) {x : Str} {pos : Pos} (h : PE X (.Name x pos) (tVar i)) : GE X W (.Name x pos) (mvar i) := by
  refine PE.imp h fun σ H Q q => ?_
  obtain ⟨w, S, m, s, l, p⟩ := q
  unfold mvar at p
  cases e : m[i]? with
  | none => simp only [e] at p; exact p.elim
  | some o =>
    cases o with
    | none => simp only [e] at p; exact p.elim
    | some x =>
      simp only [e] at p
      obtain ⟨v, h1, h2⟩ := l.get e
      exact ⟨v, h1, pst_ok s p v h2⟩
theorem ge_cst {e : Expr} {v : V} {d : PyData} (h : PE X e (tC v)) (hd : ∀ B, Dp X.K B v d) : GE X W e (mcst d) := by
  refine PE.imp h fun σ H Q q => ?_
  obtain ⟨w, S, m, s, l, p⟩ := q
  exact pst_ok s p v (hd _)
theorem ge_int {i : Int} {j : Nat} {pos : Pos} : GE X W (.Constant (.int i) j pos) (mcst (.int i)) := ge_cst pe_int fun _ => .int i
theorem ge_bl {b : Bool} {j : Nat} {pos : Pos} : GE X W (.Constant (.bool b) j pos) (mcst (.bool b)) := ge_cst pe_bl fun _ => .bl b
theorem ge_non {j : Nat} {pos : Pos} : GE X W (.Constant .none j pos) (mcst .none) := ge_cst pe_non fun _ => .non
theorem ge_str {x : Str} {j : Nat} {pos : Pos} : GE X W (.Constant (.str x) j pos) (mcst (.str x)) := ge_cst pe_str fun _ => .str x
theorem ge_globInt {x : Str} {i : Int} {t : Tok} {pos : Pos} (hg : Gl X x) (hm : X.mg x = some (.int i t)) (hd : (x == ("__debug__" : Str)) = false := by decide) : GE X W (.Name x pos) (mcst (.int i)) :=
  ge_cst (pe_glob (v := .int i) hg hm ⟨_, rfl⟩ hd) fun _ => .int i
theorem ge_globStr {x : Str} {i : Str} {t : Tok} {pos : Pos} (hg : Gl X x) (hm : X.mg x = some (.str i t)) (hd : (x == ("__debug__" : Str)) = false := by decide) : GE X W (.Name x pos) (mcst (.str i)) :=
  ge_cst (pe_glob (v := .str i) hg hm ⟨_, rfl⟩ hd) fun _ => .str i

/-! ### two-place operations by values -/
def mop (g : MV → MV → Sto → Res MV) (fa fb : EM) : EM := fun m S => (fa m S).bind fun x S1 => (fb m S1).bind fun y S2 => g x y S2
def OpS (X : Cx) (r : R2) (g : MV → MV → Sto → Res MV) : Prop := ∀ (W : WX) (w : Wd) (S : Sto) (H : Hp) (σ : St) (x y : MV) (v u : V) (Q : VK),
  Sim X.K X.mg w S H → RelM X.K X.mg w v x → RelM X.K X.mg w u y → Pst X.K X.mg w H σ W (Fv X.K X.mg Q) (g x y S) → r v u H Q
theorem wp_two {r : R2} {g : MV → MV → Sto → Res MV} {fa fb : EM} (hr : OpS X r g) {σ : St} {H : Hp} {Q : VK} (h : wpE X.K X.mg W (mop g fa fb) σ H Q) :
    wpE X.K X.mg W fa σ H fun v H1 => wpE X.K X.mg W fb σ H1 fun u H2 => r v u H2 Q := by
  obtain ⟨w, S, m, s, l, p⟩ := h
  refine ⟨w, S, m, s, l, (Pst.bind p).imp fun w1 S1 H1 x l1 s1 p1 v rv => ?_⟩
  refine ⟨w1, S1, m, s1, l.mono l1.le, (Pst.bind p1).imp fun w2 S2 H2 y l2 s2 p2 u ru => ?_⟩
  exact hr W w2 S2 H2 σ x y v u Q s2 (rv.mono l2.le) ru p2
theorem ge_op {a b : Expr} {op : Operator} {pos : Pos} {r : R2} {g : MV → MV → Sto → Res MV} {fa fb : EM} (ho : OpR X (binaryOp op) r) (hr : OpS X r g) (ha : GE X W a fa) (hb : GE X W b fb) : GE X W (.BinOp a op b pos) (mop g fa fb) :=
  PE.imp (pe_op ho ha hb) fun σ H Q h => wp_two hr h
theorem ge_cmp {a b : Expr} {op : CmpOp} {pos : Pos} {r : R2} {g : MV → MV → Sto → Res MV} {fa fb : EM} (ho : OpR X (compareOp op) r) (hr : OpS X r g) (ha : GE X W a fa) (hb : GE X W b fb) (hm : behindInMarks op b = false) : GE X W (.Compare a [op] [b] pos) (mop g fa fb) :=
  PE.imp (pe_cmpR ho ha hb hm) fun σ H Q h => wp_two hr h
theorem ge_ix {a b : Expr} {pos : Pos} {r : R2} {g : MV → MV → Sto → Res MV} {fa fb : EM} (ho : IxR X r) (hr : OpS X r g) (ha : GE X W a fa) (hb : GE X W b fb) (hs : PlainIx b) : GE X W (.Subscript a b pos) (mop g fa fb) :=
  PE.imp (pe_ix ho ha hb hs) fun σ H Q h => wp_two hr h
/-- a value that must be a bool, as a test -/
def mtest (f : EM) : TM := fun m S => (f m S).bind fun x S1 => match x with
  | .dat (.bool b) => .ok b S1
  | _ => .bad
theorem rel_bool {K : PySem.W.Frag} {mg : Str → Option Value} {w : Wd} {v : V} {b : Bool} (h : RelM K mg w v (.dat (.bool b))) : v = .bl b := by
  have h' : Dp K w.B v (.bool b) := h
  cases h'
  rfl
theorem wp_test {f : EM} {σ : St} {H : Hp} {Q : Bool → Hp → Prop} (h : wpT X.K X.mg W (mtest f) σ H Q) : wpE X.K X.mg W f σ H fun v H1 => ∃ k, v = .bl k ∧ Q k H1 := by
  obtain ⟨w, S, m, s, l, p⟩ := h
  refine ⟨w, S, m, s, l, (Pst.bind p).imp fun w1 S1 H1 x l1 s1 p1 v rv => ?_⟩
  cases x with
  | dat d =>
    cases d with
    | bool b => exact ⟨b, rel_bool rv, pst_ok s1 p1⟩
    | none => exact p1.elim
    | int _ => exact p1.elim
    | str _ => exact p1.elim
    | list _ => exact p1.elim
    | tuple _ => exact p1.elim
    | dict _ => exact p1.elim
  | cell _ => exact p1.elim
  | exc _ _ => exact p1.elim
  | seq _ _ => exact p1.elim
  | dct => exact p1.elim
  | cst _ => exact p1.elim
theorem gt_cmp {a b : Expr} {op : CmpOp} {pos : Pos} {r : R2} {g : MV → MV → Sto → Res MV} {fa fb : EM} (ho : OpR X (compareOp op) r) (hr : OpS X r g) (ha : GE X W a fa) (hb : GE X W b fb) (hm : behindInMarks op b = false) : GT X W (.Compare a [op] [b] pos) (mtest (mop g fa fb)) :=
  PT.imp (pt_cmpR ho ha hb hm) fun σ H Q h => wp_two hr (wp_test h)
/-- any expression whose value is a bool -/
theorem gt_val {e : Expr} {f : EM} (ha : GE X W e f) (he : ∀ whole, isTrue e X.env whole = (do let v ← whole; standAt e.pos; holding [v] (truthy v)) := by intro _; rfl) : GT X W e (mtest f) :=
  PT.imp (pt_val ha he) fun σ H Q h => wp_test h
def mnot (f : TM) : TM := fun m S => (f m S).bind fun b S1 => .ok (!b) S1
def mand (f g : TM) : TM := fun m S => (f m S).bind fun b S1 => if b then g m S1 else .ok false S1
def mor (f g : TM) : TM := fun m S => (f m S).bind fun b S1 => if b then .ok true S1 else g m S1
theorem gt_not {a : Expr} {f : TM} {pos : Pos} (h : GT X W a f) : GT X W (.UnaryOp .Not a pos) (mnot f) := by
  refine PT.imp (pt_not h) fun σ H Q q => ?_
  obtain ⟨w, S, m, s, l, p⟩ := q
  exact ⟨w, S, m, s, l, (Pst.bind p).imp fun w1 S1 H1 b l1 s1 p1 => by
    have z := pst_ok (σ := σ) (W := W) s1 p1
    exact z⟩
theorem gw_and1 {a : Expr} {f : TM} {pos : Pos} (h : GT X W a f) : GW X W (.BoolOp .And [a] pos) f := pw_and1 h
theorem gw_or1 {a : Expr} {f : TM} {pos : Pos} (h : GT X W a f) : GW X W (.BoolOp .Or [a] pos) f := pw_or1 h
theorem gw_and {a b : Expr} {rest : List Expr} {f g : TM} {pos : Pos} (h : GT X W a f) (h2 : GW X W (.BoolOp .And (b :: rest) pos) g) : GW X W (.BoolOp .And (a :: b :: rest) pos) (mand f g) := by
  refine PW.imp (pw_and h h2) fun σ H Q q => ?_
  obtain ⟨w, S, m, s, l, p⟩ := q
  refine ⟨w, S, m, s, l, (Pst.bind p).imp fun w1 S1 H1 b l1 s1 p1 => ?_⟩
  cases b with
  | true => exact ⟨w1, S1, m, s1, l.mono l1.le, p1⟩
  | false =>
    have z := pst_ok (σ := σ) (W := W) s1 p1
    exact z
theorem gw_or {a b : Expr} {rest : List Expr} {f g : TM} {pos : Pos} (h : GT X W a f) (h2 : GW X W (.BoolOp .Or (b :: rest) pos) g) : GW X W (.BoolOp .Or (a :: b :: rest) pos) (mor f g) := by
  refine PW.imp (pw_or h h2) fun σ H Q q => ?_
  obtain ⟨w, S, m, s, l, p⟩ := q
  refine ⟨w, S, m, s, l, (Pst.bind p).imp fun w1 S1 H1 b l1 s1 p1 => ?_⟩
  cases b with
  | true =>
    have z := pst_ok (σ := σ) (W := W) s1 p1
    exact z
  | false => exact ⟨w1, S1, m, s1, l.mono l1.le, p1⟩
theorem GW.pt {e : Expr} {f : TM} (h : GW X W e f) : GT X W e f := PW.pt h
/-- not, and, or as values -/
def mnotV (f : EM) : EM := fun m S => (mtest f m S).bind fun b S1 => .ok (.dat (.bool (!b))) S1
def mandV (f g : EM) : EM := fun m S => (mtest f m S).bind fun b S1 => if b then g m S1 else .ok (.dat (.bool false)) S1
def morV (f g : EM) : EM := fun m S => (mtest f m S).bind fun b S1 => if b then .ok (.dat (.bool true)) S1 else g m S1
theorem wp_testB {α δ : Type} {K : PySem.W.Frag} {mg : Str → Option Value} {f : EM} {k : Sl → Bool → Sto → Res α} {F2 : δ → Wd → Sto → Hp → α → Prop} {Q2 : δ} {σ : St} {H : Hp} {R : V → Hp → Prop}
    (h : wpG K mg W F2 (fun m S => (mtest f m S).bind (k m)) σ H Q2)
    (q : ∀ w S H m b, Sim K mg w S H → SlR K mg w σ m → Pst K mg w H σ W (F2 Q2) (k m b S) → R (.bl b) H) : wpE K mg W f σ H R := by
  obtain ⟨w, S, m, s, l, p⟩ := h
  refine ⟨w, S, m, s, l, ?_⟩
  have p' := (Pst.bind (Pst.bind p))
  refine p'.imp fun w1 S1 H1 x l1 s1 p1 v rv => ?_
  cases x with
  | dat d =>
    cases d with
    | bool b =>
      have e := rel_bool rv
      subst e
      exact q w1 S1 H1 m b s1 (l.mono l1.le) (pst_ok s1 p1)
    | none => exact p1.elim
    | int _ => exact p1.elim
    | str _ => exact p1.elim
    | list _ => exact p1.elim
    | tuple _ => exact p1.elim
    | dict _ => exact p1.elim
  | cell _ => exact p1.elim
  | exc _ _ => exact p1.elim
  | seq _ _ => exact p1.elim
  | dct => exact p1.elim
  | cst _ => exact p1.elim
theorem ge_not {a : Expr} {f : EM} {pos : Pos} (h : GE X W a f) : GE X W (.UnaryOp .Not a pos) (mnotV f) := by
  refine PE.imp (pe_not h) fun σ H Q q => ?_
  exact wp_testB (R := fun x H1 => ∃ c, x = .bl c ∧ Q (.bl (!c)) H1) q fun w S H m b s l p => ⟨b, rfl, pst_ok s p _ (.bl _)⟩
theorem ge_one {op : BoolOp} {a : Expr} {f : EM} {pos : Pos} (h : GE X W a f) : GE X W (.BoolOp op [a] pos) f := pe_one h
theorem ge_and {a b : Expr} {rest : List Expr} {f g : EM} {pos : Pos} (h : GE X W a f) (h2 : GE X W (.BoolOp .And (b :: rest) pos) g) : GE X W (.BoolOp .And (a :: b :: rest) pos) (mandV f g) := by
  refine PE.imp (pe_and h h2) fun σ H Q q => ?_
  refine wp_testB (R := fun x H1 => ∃ c, x = .bl c ∧ if c = true then wpE X.K X.mg W g σ H1 Q else Q (.bl false) H1) q fun w S H m b s l p => ⟨b, rfl, ?_⟩
  cases b with
  | true => exact ⟨w, S, m, s, l, p⟩
  | false => exact pst_ok s p _ (.bl _)
theorem ge_or {a b : Expr} {rest : List Expr} {f g : EM} {pos : Pos} (h : GE X W a f) (h2 : GE X W (.BoolOp .Or (b :: rest) pos) g) : GE X W (.BoolOp .Or (a :: b :: rest) pos) (morV f g) := by
  refine PE.imp (pe_or h h2) fun σ H Q q => ?_
  refine wp_testB (R := fun x H1 => ∃ c, x = .bl c ∧ if c = true then Q (.bl true) H1 else wpE X.K X.mg W g σ H1 Q) q fun w S H m b s l p => ⟨b, rfl, ?_⟩
  cases b with
  | true => exact pst_ok s p _ (.bl _)
  | false => exact ⟨w, S, m, s, l, p⟩
/-- a if t else b -/
def mif {α : Type} (t : TM) (f g : Sl → Sto → Res α) : Sl → Sto → Res α := fun m S => (t m S).bind fun b S1 => if b then f m S1 else g m S1
theorem ge_if {c a b : Expr} {t : TM} {f g : EM} {pos : Pos} (h : GT X W c t) (ha : GE X W a f) (hb : GE X W b g) : GE X W (.IfExp c a b pos) (mif t f g) := by
  refine PE.imp (pe_ifExp h ha hb) fun σ H Q q => ?_
  obtain ⟨w, S, m, s, l, p⟩ := q
  refine ⟨w, S, m, s, l, (Pst.bind p).imp fun w1 S1 H1 b l1 s1 p1 => ?_⟩
  cases b with
  | true => exact ⟨w1, S1, m, s1, l.mono l1.le, p1⟩
  | false => exact ⟨w1, S1, m, s1, l.mono l1.le, p1⟩
/-- a < b < c -/
def mchain (g g' : MV → MV → Sto → Res MV) (fa fb fc : EM) : EM := fun m S => (fa m S).bind fun x S1 => (fb m S1).bind fun y S2 => (g x y S2).bind fun z S3 => match z with
  | .dat (.bool true) => (fc m S3).bind fun u S4 => g' y u S4
  | .dat (.bool false) => .ok (.dat (.bool false)) S3
  | _ => .bad
theorem wp_chain {r r' : R2} {g g' : MV → MV → Sto → Res MV} {fa fb fc : EM} (hr : OpS X r g) (hr' : OpS X r' g') {σ : St} {H : Hp} {Q : VK} (h : wpE X.K X.mg W (mchain g g' fa fb fc) σ H Q) :
    tChain r r' (wpE X.K X.mg W fa) (wpE X.K X.mg W fb) (wpE X.K X.mg W fc) σ H Q := by
  obtain ⟨w, S, m, s, l, p⟩ := h
  refine ⟨w, S, m, s, l, (Pst.bind p).imp fun w1 S1 H1 x l1 s1 p1 v rv => ?_⟩
  refine ⟨w1, S1, m, s1, l.mono l1.le, (Pst.bind p1).imp fun w2 S2 H2 y l2 s2 p2 u ru => ?_⟩
  refine hr W w2 S2 H2 σ x y v u _ s2 (rv.mono l2.le) ru ((Pst.bind p2).imp fun w3 S3 H3 z l3 s3 p3 z' rz => ?_)
  cases z with
  | dat d =>
    cases d with
    | bool b =>
      refine ⟨b, rel_bool rz, ?_⟩
      cases b with
      | true => exact ⟨w3, S3, m, s3, l.mono (l1.le.trans (l2.le.trans l3.le)), (Pst.bind p3).imp fun w4 S4 H4 c l4 s4 p4 c' rc => hr' W w4 S4 H4 σ y c u c' Q s4 (ru.mono (l3.le.trans l4.le)) rc p4⟩
      | false => exact pst_ok s3 p3 _ (.bl _)
    | none => exact p3.elim
    | int _ => exact p3.elim
    | str _ => exact p3.elim
    | list _ => exact p3.elim
    | tuple _ => exact p3.elim
    | dict _ => exact p3.elim
  | cell _ => exact p3.elim
  | exc _ _ => exact p3.elim
  | seq _ _ => exact p3.elim
  | dct => exact p3.elim
  | cst _ => exact p3.elim
theorem ge_chain {a b c : Expr} {op op' : CmpOp} {pos : Pos} {r r' : R2} {g g' : MV → MV → Sto → Res MV} {fa fb fc : EM} (ho : OpR X (compareOp op) r) (ho' : OpR X (compareOp op') r') (hr : OpS X r g) (hr' : OpS X r' g')
    (ha : GE X W a fa) (hb : GE X W b fb) (hc : GE X W c fc) (hm : lastMarks [op, op'] [b, c] = false := by with_unfolding_all rfl) : GE X W (.Compare a [op, op'] [b, c] pos) (mchain g g' fa fb fc) :=
  PE.imp (pe_chain ho ho' ha hb hc hm) fun σ H Q h => wp_chain hr hr' h
theorem gt_chain {a b c : Expr} {op op' : CmpOp} {pos : Pos} {r r' : R2} {g g' : MV → MV → Sto → Res MV} {fa fb fc : EM} (ho : OpR X (compareOp op) r) (ho' : OpR X (compareOp op') r') (hr : OpS X r g) (hr' : OpS X r' g')
    (ha : GE X W a fa) (hb : GE X W b fb) (hc : GE X W c fc) (hm : lastMarks [op, op'] [b, c] = false := by with_unfolding_all rfl) : GT X W (.Compare a [op, op'] [b, c] pos) (mtest (mchain g g' fa fb fc)) :=
  PT.imp (pt_chain ho ho' ha hb hc hm) fun σ H Q h => wp_chain hr hr' (wp_test h)

/-! ### argument lists -/
def mnil : AM := fun _ S => .ok [] S
def mcons (f : EM) (g : AM) : AM := fun m S => (f m S).bind fun x S1 => (g m S1).bind fun xs S2 => .ok (x :: xs) S2
theorem ga_nil : GA X W [] mnil := by
  refine PA.imp pa_nil fun σ H Q q => ?_
  obtain ⟨w, S, m, s, l, p⟩ := q
  exact pst_ok s p [] .nil
theorem wp_cons {f : EM} {g : AM} {σ : St} {H : Hp} {Q : List V → Hp → Prop} (h : wpA X.K X.mg W (mcons f g) σ H Q) : tCons (wpE X.K X.mg W f) (wpA X.K X.mg W g) σ H Q := by
  obtain ⟨w, S, m, s, l, p⟩ := h
  refine ⟨w, S, m, s, l, (Pst.bind p).imp fun w1 S1 H1 x l1 s1 p1 v rv => ?_⟩
  exact ⟨w1, S1, m, s1, l.mono l1.le, (Pst.bind p1).imp fun w2 S2 H2 xs l2 s2 p2 vs rs => pst_ok s2 p2 (v :: vs) (.cons (rv.mono l2.le) rs)⟩
theorem ga_cons {e : Expr} {es : List Expr} {f : EM} {g : AM} (ha : GE X W e f) (hr : GA X W es g) (hs : starEach (e :: es) X.env = (false, eval e X.env) :: starEach es X.env := by rfl) : GA X W (e :: es) (mcons f g) :=
  PA.imp (pa_cons ha hr hs) fun σ H Q h => wp_cons h
end
end PX
end

section
set_option Elab.async false
set_option linter.all false
set_option maxRecDepth 100000
set_option maxHeartbeats 4000000
namespace PX
open PySem PySem.Spec PyProof.Rows L2

/-! ### reading model values in the heap -/
section
variable {K : PySem.W.Frag} {mg : Str → Option Value} {w : Wd} {S : Sto} {H : Hp}
theorem all_dat : ∀ {vs : List V} {ds : List PyData}, AllM K mg w vs (ds.map MV.dat) → DpAll K w.B vs ds
  | _, [], h => by cases h; exact .nil
  | _, d :: ds, h => by
    cases h with
    | cons r t => exact .cons r (all_dat t)
theorem dat_all : ∀ {vs : List V} {ds : List PyData}, DpAll K w.B vs ds → AllM K mg w vs (ds.map MV.dat)
  | _, [], h => by cases h; exact .nil
  | _, d :: ds, h => by
    cases h with
    | cons r t => exact .cons r (dat_all t)
/-- a list that look tells -/
theorem look_list (s : Sim K mg w S H) {x : MV} {v : V} (r : RelM K mg w v x) {ds : List PyData} (e : look S x = some (.list ds)) : ∃ (a : Addr) (vs : List V), v = .ref a ∧ SqL K H a vs ∧ DpAll K w.B vs ds := by
  cases x with
  | dat d =>
    simp [look] at e
    subst e
    have r' : Dp K w.B v (.list ds) := r
    cases r' with
    | lst h1 h2 => exact ⟨_, _, rfl, sql_ext s.le h1, h2⟩
  | cell i =>
    obtain ⟨hi, rfl⟩ := r
    unfold look at e
    cases ho : S[i]? with
    | none => simp [ho] at e
    | some o =>
      have q := s.obj i o ho
      cases o with
      | lst xs =>
        simp [ho] at e
        obtain ⟨_, vs, h1, h2⟩ := q
        rw [allD_eq e] at h2
        exact ⟨_, vs, rfl, .inl (.inl h1), all_dat h2⟩
      | dead d =>
        simp [ho] at e
        subst e
        have q' : Dp K w.B (.ref (w.r i)) (.list ds) := q.2
        cases q' with
        | lst h1 h2 => exact ⟨_, _, rfl, sql_ext s.le h1, h2⟩
  | exc c d => simp [look] at e
  | seq _ _ => simp [look] at e
  | dct => simp [look] at e
  | cst _ => simp [look] at e
theorem look_ok (s : Sim K mg w S H) {x : MV} {v : V} (r : RelM K mg w v x) {d : PyData} (e : look S x = some d) : Dp K H v d := by
  cases x with
  | dat d' =>
    simp [look] at e
    subst e
    exact dp_ext s.le _ _ r
  | cell i =>
    cases d with
    | list ds =>
      obtain ⟨a, vs, rfl, h1, h2⟩ := look_list s r e
      exact .lst h1 (dpAll_ext s.le _ _ h2)
    | _ =>
      obtain ⟨hi, rfl⟩ := r
      unfold look at e
      cases ho : S[i]? with
      | none => simp [ho] at e
      | some o =>
        have q := s.obj i o ho
        cases o with
        | lst xs => simp [ho] at e
        | dead d' =>
          simp [ho] at e
          subst e
          exact dp_ext s.le _ _ q.2
  | exc c d' => simp [look] at e
  | seq _ _ => simp [look] at e
  | dct => simp [look] at e
  | cst _ => simp [look] at e
theorem look_tup (s : Sim K mg w S H) {x : MV} {v : V} (r : RelM K mg w v x) {ds : List PyData} (e : look S x = some (.tuple ds)) : ∃ (a : Addr) (vs : List V), v = .ref a ∧ SqT K H a vs ∧ DpAll K w.B vs ds := by
  cases x with
  | dat d =>
    simp [look] at e
    subst e
    have r' : Dp K w.B v (.tuple ds) := r
    cases r' with
    | tup h1 h2 => exact ⟨_, _, rfl, sqt_ext s.le h1, h2⟩
  | cell i =>
    obtain ⟨hi, rfl⟩ := r
    unfold look at e
    cases ho : S[i]? with
    | none => simp [ho] at e
    | some o =>
      have q := s.obj i o ho
      cases o with
      | lst xs => simp [ho] at e
      | dead d =>
        simp [ho] at e
        subst e
        have q' : Dp K w.B (.ref (w.r i)) (.tuple ds) := q.2
        cases q' with
        | tup h1 h2 => exact ⟨_, _, rfl, sqt_ext s.le h1, h2⟩
  | exc c d => simp [look] at e
  | seq _ _ => simp [look] at e
  | dct => simp [look] at e
  | cst _ => simp [look] at e
def scV : PyData → Option V
  | .none => some .non
  | .bool b => some (.bl b)
  | .int i => some (.int i)
  | .str x => some (.str x)
  | _ => none
theorem dp_sc {B : Hp} {z : PyData} {v : V} (e : scV z = some v) : Dp K B v z := by
  cases z <;> simp [scV] at e
  · subst e; exact .non
  · subst e; exact .bl _
  · subst e; exact .int _
  · subst e; exact .str _
theorem dp_inv_int {B : Hp} {i : Int} {v : V} (h : Dp K B v (.int i)) : v = .int i := by cases h; rfl
theorem dp_inv_str {B : Hp} {i : Str} {v : V} (h : Dp K B v (.str i)) : v = .str i := by cases h; rfl
theorem dp_inv_bool {B : Hp} {i : Bool} {v : V} (h : Dp K B v (.bool i)) : v = .bl i := by cases h; rfl
theorem dp_inv_none {B : Hp} {v : V} (h : Dp K B v .none) : v = .non := by cases h; rfl

/-- a list or tuple of any values -/
def items (S : Sto) : MV → Option (Bool × List MV)
  | .seq t xs => some (t, xs)
  | .cell c => match S[c]? with
    | some (.lst xs) => some (false, xs)
    | _ => none
  | _ => none
theorem items_ok (s : Sim K mg w S H) {x : MV} {v : V} (r : RelM K mg w v x) {t : Bool} {xs : List MV} (e : items S x = some (t, xs)) :
    ∃ (a : Addr) (vs : List V), v = .ref a ∧ (if t = true then SqT K H a vs else SqL K H a vs) ∧ AllM K mg w vs xs := by
  cases x with
  | seq t' xs' =>
    simp only [items, Option.some.injEq, Prod.mk.injEq] at e
    obtain ⟨rfl, rfl⟩ := e
    obtain ⟨a, vs, h1, h2, h3⟩ := r
    refine ⟨a, vs, h1, ?_, h3.all⟩
    cases t' with
    | true => exact sqt_ext s.le h2
    | false => exact sql_ext s.le h2
  | cell i =>
    obtain ⟨hi, rfl⟩ := r
    unfold items at e
    cases ho : S[i]? with
    | none => simp [ho] at e
    | some o =>
      have q := s.obj i o ho
      cases o with
      | dead d => simp [ho] at e
      | lst ys =>
        simp only [ho, Option.some.injEq, Prod.mk.injEq] at e
        obtain ⟨rfl, rfl⟩ := e
        obtain ⟨_, vs, h1, h2⟩ := q
        exact ⟨_, vs, rfl, .inl (.inl h1), h2⟩
  | dat _ => simp [items] at e
  | exc _ _ => simp [items] at e
  | dct => simp [items] at e
  | cst _ => simp [items] at e
theorem allM_get : ∀ {vs : List V} {xs : List MV} {i : Nat} {x : MV}, AllM K mg w vs xs → xs[i]? = some x → ∃ v, vs[i]? = some v ∧ RelM K mg w v x
  | _, _, _, _, .nil, e => by simp at e
  | _, _, 0, x, .cons (a := a) r _, e => by
    simp at e
    subst e
    exact ⟨a, rfl, r⟩
  | _, _, i + 1, x, .cons _ t, e => by
    obtain ⟨v, h1, h2⟩ := allM_get (i := i) t (by simpa using e)
    exact ⟨v, by simpa using h1, h2⟩
theorem allM_at {vs : List V} {xs : List MV} {i : Int} {x : MV} (h : AllM K mg w vs xs) (e : atI xs i = some x) : ∃ v, atI vs i = some v ∧ RelM K mg w v x := by
  unfold atI at e ⊢
  rw [Paired.length h]
  cases hj : ixN xs.length i with
  | none => rw [hj] at e; cases e
  | some j =>
    rw [hj] at e
    exact allM_get h e
/-! ### new objects -/
theorem sim_ne (s : Sim K mg w S H) {p : Addr} (hp : H p = none) : ∀ i, i < w.n → w.r i ≠ p := fun i hi e => by
  have hs : i < S.length := by rw [← s.n]; exact hi
  have q := s.obj i _ (List.getElem?_eq_getElem hs)
  cases ho : S[i] with
  | lst xs =>
    rw [ho] at q
    obtain ⟨_, vs, h1, _⟩ := q
    rw [e, hp] at h1
    cases h1
  | dead d =>
    rw [ho] at q
    obtain ⟨⟨o, q1⟩, _⟩ := q
    have := s.le _ _ q1
    rw [e, hp] at this
    cases this
def Wd.put (w : Wd) (p : Addr) (o : HO) : Wd := ⟨upd w.B p o, w.r, w.n⟩
def Wd.more (w : Wd) (p : Addr) : Wd := ⟨w.B, fun i => if i = w.n then p else w.r i, w.n + 1⟩
theorem le_put {p : Addr} {o : HO} (h : w.B p = none) : Le w (w.put p o) :=
  ⟨fun a u e => by
    show upd w.B p o a = some u
    rw [upd_ne (ne_of_none e h)]
    exact e, Nat.le_refl _, fun _ _ => rfl⟩
theorem free_B (s : Sim K mg w S H) {p : Addr} (hp : H p = none) : w.B p = none := by
  cases e : w.B p with
  | none => rfl
  | some o =>
    have := s.le _ _ e
    rw [hp] at this
    cases this
theorem obR_mono {w' : Wd} {H' : Hp} {i : Nat} (l : Le w w') (hi : i < w.n) (hB : w'.B (w.r i) = w.B (w.r i)) (hH : H' (w.r i) = H (w.r i)) {o : Ob} (q : ObR K mg w H i o) : ObR K mg w' H' i o := by
  cases o with
  | lst xs =>
    obtain ⟨h1, vs, h2, h3⟩ := q
    refine ⟨?_, vs, ?_, h3.mono l⟩
    · rw [l.2.2 i hi, hB]; exact h1
    · rw [l.2.2 i hi, hH]; exact h2
  | dead d =>
    obtain ⟨⟨o, h1⟩, h2⟩ := q
    refine ⟨⟨o, ?_⟩, ?_⟩
    · rw [l.2.2 i hi, hB]; exact h1
    · rw [l.2.2 i hi]; exact dp_ext l.1 _ _ h2
theorem sim_put (s : Sim K mg w S H) {p : Addr} {o : HO} (hp : H p = none) : Sim K mg (w.put p o) S (upd H p o) := by
  have hB := free_B s hp
  have l : Le w (w.put p o) := le_put hB
  refine ⟨s.n, fun a u e => ?_, s.inj, fun i ob e => ?_⟩
  · by_cases ha : a = p
    · subst ha
      have e' : upd w.B a o a = some u := e
      rw [upd_same] at e'
      rw [upd_same]
      exact e'
    · have e' : upd w.B p o a = some u := e
      rw [upd_ne ha] at e'
      rw [upd_ne ha]
      exact s.le _ _ e'
  · have hi : i < w.n := by
      rw [s.n]
      exact (List.getElem?_eq_some_iff.mp e).1
    have ne := sim_ne s hp i hi
    exact obR_mono l hi (upd_ne ne) (upd_ne ne) (s.obj i ob e)
theorem lx_put (s : Sim K mg w S H) {p : Addr} {o : HO} (hp : H p = none) : Lx w H (w.put p o) (upd H p o) :=
  ⟨le_put (free_B s hp), fun i h h' => absurd h' (Nat.not_lt.mpr h), fun a u e _ => by
    rw [upd_ne (ne_of_none e hp)]
    exact e, fun a u e _ q => by
    show upd w.B p o a = none
    rw [upd_ne (ne_of_none e hp)]
    exact q⟩
/-- a new persistent list, tuple -/
theorem new_list (s : Sim K mg w S H) {p : Addr} {vs : List V} {ds : List PyData} (hp : H p = none) (h : DpAll K w.B vs ds) :
    Lx w H (w.put p (.lst vs)) (upd H p (.lst vs)) ∧ Sim K mg (w.put p (.lst vs)) S (upd H p (.lst vs)) ∧ Dp K (w.put p (.lst vs)).B (.ref p) (.list ds) :=
  have l := lx_put s hp
  ⟨l, sim_put s hp, .lst (.inl (.inl upd_same)) (dpAll_ext l.le.1 _ _ h)⟩
theorem new_tup (s : Sim K mg w S H) {p : Addr} {vs : List V} {ds : List PyData} (hp : H p = none) (h : DpAll K w.B vs ds) :
    Lx w H (w.put p (.tup vs)) (upd H p (.tup vs)) ∧ Sim K mg (w.put p (.tup vs)) S (upd H p (.tup vs)) ∧ Dp K (w.put p (.tup vs)).B (.ref p) (.tuple ds) :=
  have l := lx_put s hp
  ⟨l, sim_put s hp, .tup (.inl (.inl upd_same)) (dpAll_ext l.le.1 _ _ h)⟩
/-- a new cell -/
theorem new_cell (s : Sim K mg w S H) {p : Addr} {vs : List V} {xs : List MV} (hp : H p = none) (h : AllM K mg w vs xs) :
    Lx w H (w.more p) (upd H p (.lst vs)) ∧ Sim K mg (w.more p) (S ++ [.lst xs]) (upd H p (.lst vs)) ∧ RelM K mg (w.more p) (.ref p) (.cell S.length) := by
  have hB := free_B s hp
  have l : Le w (w.more p) := ⟨fun _ _ e => e, Nat.le_succ _, fun i hi => if_neg (Nat.ne_of_lt hi)⟩
  have lx : Lx w H (w.more p) (upd H p (.lst vs)) := ⟨l, fun i h1 h2 => by
      have h2' : i < w.n + 1 := h2
      have e : i = w.n := by omega
      subst e
      show H (if w.n = w.n then p else w.r w.n) = none
      rw [if_pos rfl]
      exact hp, fun a u e _ => by
      rw [upd_ne (ne_of_none e hp)]
      exact e, fun a u e _ q => q⟩
  refine ⟨lx, ⟨?_, fun a u e => ?_, fun i j hi hj e => ?_, fun i o e => ?_⟩, ?_⟩
  · show w.n + 1 = (S ++ [Ob.lst xs]).length
    rw [List.length_append, s.n]
    rfl
  · have e' : w.B a = some u := e
    rw [upd_ne (ne_of_none e' hB)]
    exact s.le _ _ e'
  · have hi' : i < w.n + 1 := hi
    have hj' : j < w.n + 1 := hj
    have e' : (if i = w.n then p else w.r i) = (if j = w.n then p else w.r j) := e
    by_cases h1 : i = w.n
    · by_cases h2 : j = w.n
      · omega
      · rw [if_pos h1, if_neg h2] at e'
        exact absurd e'.symm (sim_ne s hp j (by omega))
    · by_cases h2 : j = w.n
      · rw [if_neg h1, if_pos h2] at e'
        exact absurd e' (sim_ne s hp i (by omega))
      · rw [if_neg h1, if_neg h2] at e'
        exact s.inj i j (by omega) (by omega) e'
  · by_cases h1 : i < S.length
    · rw [List.getElem?_append_left h1] at e
      have hi : i < w.n := by rw [s.n]; exact h1
      exact obR_mono l hi rfl (upd_ne (sim_ne s hp i hi)) (s.obj i o e)
    · have hlen := (List.getElem?_eq_some_iff.mp e).1
      rw [List.length_append] at hlen
      have h2 : i = S.length := by
        have : [Ob.lst xs].length = 1 := rfl
        omega
      subst h2
      rw [List.getElem?_append_right (Nat.le_refl _), Nat.sub_self] at e
      have e2 : Ob.lst xs = o := Option.some.inj e
      subst e2
      have er : (w.more p).r S.length = p := if_pos s.n.symm
      refine ⟨?_, vs, ?_, h.mono l⟩
      · rw [er]; exact hB
      · rw [er, upd_same]
  · refine ⟨?_, ?_⟩
    · show S.length < w.n + 1
      rw [s.n]
      exact Nat.lt_succ_self _
    · show V.ref p = V.ref (if S.length = w.n then p else w.r S.length)
      rw [if_pos s.n.symm]
/-- a cell is written -/
theorem set_cell (s : Sim K mg w S H) {i : Nat} {xs xs' : List MV} {vs' : List V} (e : S[i]? = some (.lst xs)) (h : AllM K mg w vs' xs') : Sim K mg w (S.set i (.lst xs')) (upd H (w.r i) (.lst vs')) := by
  have hi : i < w.n := by
    rw [s.n]
    exact (List.getElem?_eq_some_iff.mp e).1
  obtain ⟨hB, _⟩ := s.obj i _ e
  refine ⟨by rw [List.length_set]; exact s.n, fun a u ea => ?_, s.inj, fun j o ej => ?_⟩
  · rw [upd_ne (ne_of_none ea hB)]
    exact s.le _ _ ea
  · by_cases hj : j = i
    · subst hj
      rw [List.getElem?_set_self (by rw [← s.n]; exact hi)] at ej
      have e2 : Ob.lst xs' = o := Option.some.inj ej
      subst e2
      exact ⟨hB, vs', upd_same, h⟩
    · rw [List.getElem?_set_ne (Ne.symm hj)] at ej
      have hjn : j < w.n := by
        rw [s.n]
        exact (List.getElem?_eq_some_iff.mp ej).1
      exact obR_mono (Le.refl w) hjn rfl (upd_ne fun z => hj (s.inj j i hjn hi z)) (s.obj j o ej)
theorem set_lx {i : Nat} {o : HO} (hi : i < w.n) : Lx w H w (upd H (w.r i) o) :=
  ⟨Le.refl w, fun i h h' => absurd h' (Nat.not_lt.mpr h), fun a u e hc => by
    rw [upd_ne fun z => hc i hi z.symm]
    exact e, fun _ _ _ _ q => q⟩
theorem lx_frz {i : Nat} {o : HO} (hi : i < w.n) (l : Le w (w.put (w.r i) o)) : Lx w H (w.put (w.r i) o) H :=
  ⟨l, fun i h h' => absurd h' (Nat.not_lt.mpr h), fun _ _ e _ => e, fun a u e hc q => by
    show upd w.B (w.r i) o a = none
    rw [upd_ne fun z => hc i hi z.symm]
    exact q⟩
/-- to persistent data -/
theorem fz_ok (s : Sim K mg w S H) {x : MV} {v : V} (r : RelM K mg w v x) {d : PyData} {S' : Sto} (e : fz S x = some (d, S')) : ∃ w', Lx w H w' H ∧ Sim K mg w' S' H ∧ Dp K w'.B v d := by
  cases x with
  | dat d' =>
    simp [fz] at e
    obtain ⟨rfl, rfl⟩ := e
    exact ⟨w, Lx.refl w H, s, r⟩
  | exc c d' => simp [fz] at e
  | seq _ _ => simp [fz] at e
  | dct => simp [fz] at e
  | cst _ => simp [fz] at e
  | cell i =>
    obtain ⟨hi, rfl⟩ := r
    unfold fz at e
    cases ho : S[i]? with
    | none => simp [ho] at e
    | some o =>
      have q := s.obj i o ho
      cases o with
      | dead d' =>
        simp [ho] at e
        obtain ⟨rfl, rfl⟩ := e
        exact ⟨w, Lx.refl w H, s, q.2⟩
      | lst xs =>
        simp [ho] at e
        obtain ⟨ds, e1, rfl, rfl⟩ := e
        obtain ⟨hB, vs, h1, h2⟩ := q
        rw [allD_eq e1] at h2
        have l : Le w (w.put (w.r i) (.lst vs)) := le_put hB
        have hd : Dp K (w.put (w.r i) (.lst vs)).B (.ref (w.r i)) (.list ds) := .lst (.inl (.inl upd_same)) (dpAll_ext l.1 _ _ (all_dat h2))
        refine ⟨w.put (w.r i) (.lst vs), lx_frz hi l, ⟨by rw [List.length_set]; exact s.n, fun a u ea => ?_, s.inj, fun j o ej => ?_⟩, hd⟩
        · have ea' : upd w.B (w.r i) (.lst vs) a = some u := ea
          by_cases ha : a = w.r i
          · subst ha
            rw [upd_same] at ea'
            rw [h1]
            exact ea'
          · rw [upd_ne ha] at ea'
            exact s.le _ _ ea'
        · by_cases hj : j = i
          · subst hj
            rw [List.getElem?_set_self (by rw [← s.n]; exact hi)] at ej
            have e2 : Ob.dead (.list ds) = o := Option.some.inj ej
            subst e2
            exact ⟨⟨_, upd_same⟩, hd⟩
          · rw [List.getElem?_set_ne (Ne.symm hj)] at ej
            have hjn : j < w.n := by
              rw [s.n]
              exact (List.getElem?_eq_some_iff.mp ej).1
            have ne : w.r j ≠ w.r i := fun z => hj (s.inj j i hjn hi z)
            exact obR_mono l hjn (upd_ne ne) rfl (s.obj j o ej)
theorem fzAll_ok : ∀ {xs : List MV} {vs : List V} {w : Wd} {S : Sto} {H : Hp} {ds : List PyData} {S' : Sto}, Sim K mg w S H → AllM K mg w vs xs → fzAll S xs = some (ds, S') → ∃ w', Lx w H w' H ∧ Sim K mg w' S' H ∧ DpAll K w'.B vs ds
  | [], _, w, S, H, ds, S', s, r, e => by
    cases r
    simp [fzAll] at e
    obtain ⟨rfl, rfl⟩ := e
    exact ⟨w, Lx.refl w H, s, .nil⟩
  | x :: xs, _, w, S, H, ds, S', s, r, e => by
    cases r with
    | cons r t =>
      unfold fzAll at e
      cases h1 : fz S x with
      | none => simp [h1] at e
      | some q =>
        obtain ⟨d, S1⟩ := q
        simp [h1] at e
        cases h2 : fzAll S1 xs with
        | none => simp [h2] at e
        | some q2 =>
          obtain ⟨ds2, S2⟩ := q2
          simp [h2] at e
          obtain ⟨rfl, rfl⟩ := e
          obtain ⟨w1, l1, s1, d1⟩ := fz_ok s r h1
          obtain ⟨w2, l2, s2, d2⟩ := fzAll_ok s1 (AllM.mono l1.le t) h2
          exact ⟨w2, l1.trans s1 l2, s2, .cons (dp_ext l2.le.1 _ _ d1) d2⟩
end

/-! ### pure operations with a scalar result -/
def rD (K : PySem.W.Frag) (g : PyData → PyData → Option PyData) : R2 := fun x y H Q => ∃ d e z v, Dp K H x d ∧ Dp K H y e ∧ g d e = some z ∧ scV z = some v ∧ Q v H
def mD (g : PyData → PyData → Option PyData) : MV → MV → Sto → Res MV := fun x y S => match look S x, look S y with
  | some d, some e => match g d e with
    | some z => match scV z with
      | some _ => .ok (.dat z) S
      | none => .bad
    | none => .bad
  | _, _ => .bad
section
variable {X : Cx} {W : WX}
theorem ops_D (g : PyData → PyData → Option PyData) : OpS X (rD X.K g) (mD g) := by
  intro W w S H σ x y v u Q s rx ry p
  unfold mD at p
  cases e1 : look S x with
  | none => simp only [e1] at p; exact p.elim
  | some d =>
    cases e2 : look S y with
    | none => simp only [e1, e2] at p; exact p.elim
    | some e =>
      simp only [e1, e2] at p
      cases e3 : g d e with
      | none => simp only [e3] at p; exact p.elim
      | some z =>
        simp only [e3] at p
        cases e4 : scV z with
        | none => simp only [e4] at p; exact p.elim
        | some vz =>
          simp only [e4] at p
          exact ⟨d, e, z, vz, look_ok s rx e1, look_ok s ry e2, e3, e4, p w H (Lx.refl w H) s vz (dp_sc e4)⟩
/-- from the values: two ints -/
theorem opD_int {f : Value → Value → Sem Value} {C : Int → Int → Prop} {gi : Int → Int → V} {g : PyData → PyData → Option PyData} (ho : OpR X f (rI C gi))
    (hg : ∀ d e z v, g d e = some z → scV z = some v → ∃ i j, d = .int i ∧ e = .int j ∧ C i j ∧ v = gi i j) : OpR X f (rD X.K g) := by
  intro pins s σ H x y v u Q I rx ry h
  obtain ⟨d, e, z, vz, hd, he, hz, hs, q⟩ := h
  obtain ⟨i, j, rfl, rfl, c, rfl⟩ := hg d e z vz hz hs
  exact ho pins s σ H x y v u Q I rx ry ⟨i, j, dp_inv_int hd, dp_inv_int he, c, q⟩
def gSubD : PyData → PyData → Option PyData
  | .int i, .int j => some (.int (i - j))
  | _, _ => none
theorem op_gSub : OpR X (binaryOp .Sub) (rD X.K gSubD) := by
  intro pins s σ H x y v u Q I rx ry h
  obtain ⟨d, e, z, vz, hd, he, hz, hs, q⟩ := h
  unfold gSubD at hz
  split at hz
  · cases hz; cases hs
    exact op_sub pins s σ H x y v u Q I rx ry ⟨_, _, dp_inv_int hd, dp_inv_int he, q⟩
  · cases hz
def gMul : PyData → PyData → Option PyData
  | .int i, .int j => if i.natAbs.log2 + j.natAbs.log2 < 1000000 then some (.int (i * j)) else none
  | .str x, .int n => if 0 ≤ n ∧ n ≤ 1000 ∧ x.length ≤ 1000 then some (.str (Txt.mul x n)) else none
  | _, _ => none
theorem mulOk {x : Str} {n : Int} (h0 : 0 ≤ n) (h1 : n ≤ 1000) (h2 : x.length ≤ 1000) : MulOk x n := by
  refine ⟨?_, fun h3 _ => ?_, fun h3 _ => ?_⟩
  · rw [decide_eq_false (by omega), decide_eq_false (by omega)]
    rfl
  · have hn : (1 : Int) ≤ n := by omega
    have h4 : (1000 : Int) ≤ (2 ^ 63 - 1) / n := by
      rw [Int.le_ediv_iff_mul_le (by omega)]
      omega
    omega
  · have h4 : x.length * n.toNat ≤ 1000 * 1000 := Nat.mul_le_mul h2 (by omega)
    exact decide_eq_false (by
      show ¬ _
      have : (sizeLine : Nat) = 16777216 := sizeLine_eq
      omega)
theorem op_gMul : OpR X (binaryOp .Mult) (rD X.K gMul) := by
  intro pins s σ H x y v u Q I rx ry h
  obtain ⟨d, e, z, vz, hd, he, hz, hs, q⟩ := h
  unfold gMul at hz
  split at hz
  · split at hz
    · rename_i hc
      cases hz; cases hs
      exact op_mulW pins s σ H x y v u Q I rx ry ⟨_, _, dp_inv_int hd, dp_inv_int he, hc, q⟩
    · cases hz
  · split at hz
    · rename_i hc
      cases hz; cases hs
      obtain rfl := dp_inv_str hd
      obtain rfl := dp_inv_int he
      obtain ⟨t, rfl⟩ := rx
      obtain ⟨t', rfl⟩ := ry
      exact SB.mul (mulOk hc.1 hc.2.1 hc.2.2) fun t' k => ⟨.str _, H, I.tok _, ⟨_, rfl⟩, q⟩
    · cases hz
  · cases hz
def gFdiv : PyData → PyData → Option PyData
  | .int i, .int j => if 0 < j ∧ j < 1073741824 then some (.int (i / j)) else none
  | _, _ => none
theorem op_gFdiv : OpR X (binaryOp .FloorDiv) (rD X.K gFdiv) := by
  intro pins s σ H x y v u Q I rx ry h
  obtain ⟨d, e, z, vz, hd, he, hz, hs, q⟩ := h
  unfold gFdiv at hz
  split at hz
  · split at hz
    · rename_i hc
      cases hz; cases hs
      exact op_fdiv pins s σ H x y v u Q I rx ry ⟨_, _, dp_inv_int hd, dp_inv_int he, hc, q⟩
    · cases hz
  · cases hz
def gMod : PyData → PyData → Option PyData
  | .int i, .int j => if 0 < j then some (.int (i % j)) else none
  | _, _ => none
theorem op_gMod : OpR X (binaryOp .Mod) (rD X.K gMod) := by
  intro pins s σ H x y v u Q I rx ry h
  obtain ⟨d, e, z, vz, hd, he, hz, hs, q⟩ := h
  unfold gMod at hz
  split at hz
  · split at hz
    · rename_i hc
      cases hz; cases hs
      exact op_mod pins s σ H x y v u Q I rx ry ⟨_, _, dp_inv_int hd, dp_inv_int he, hc, q⟩
    · cases hz
  · cases hz
def gPow : PyData → PyData → Option PyData
  | .int i, .int j => if 0 ≤ j ∧ (Builtin.Int.intBits i : Int) * j ≤ 134217728 then some (.int (i ^ j.toNat)) else none
  | _, _ => none
theorem op_gPow : OpR X (binaryOp .Pow) (rD X.K gPow) := by
  intro pins s σ H x y v u Q I rx ry h
  obtain ⟨d, e, z, vz, hd, he, hz, hs, q⟩ := h
  unfold gPow at hz
  split at hz
  · split at hz
    · rename_i hc
      cases hz; cases hs
      obtain rfl := dp_inv_int hd
      obtain rfl := dp_inv_int he
      obtain ⟨t, rfl⟩ := rx
      obtain ⟨t', rfl⟩ := ry
      exact pow_int hc.1 (by omega) ⟨.int _, H, I.tok _, ⟨_, rfl⟩, q⟩
    · cases hz
  · cases hz
def gBor : PyData → PyData → Option PyData
  | .int i, .int j => some (.int (Builtin.bitOr i j))
  | _, _ => none
theorem op_gBor : OpR X (binaryOp .BitOr) (rD X.K gBor) := by
  intro pins s σ H x y v u Q I rx ry h
  obtain ⟨d, e, z, vz, hd, he, hz, hs, q⟩ := h
  unfold gBor at hz
  split at hz
  · cases hz; cases hs
    exact op_or pins s σ H x y v u Q I rx ry ⟨_, _, dp_inv_int hd, dp_inv_int he, q⟩
  · cases hz

/-! ### + -/
def gAdd : PyData → PyData → Option PyData
  | .int i, .int j => some (.int (i + j))
  | .str a, .str b => if a.length + b.length ≤ 16777216 then some (.str (a ++ b)) else none
  | _, _ => none
theorem op_gAdd : OpR X (binaryOp .Add) (rD X.K gAdd) := by
  intro pins s σ H x y v u Q I rx ry h
  obtain ⟨d, e, z, vz, hd, he, hz, hs, q⟩ := h
  unfold gAdd at hz
  split at hz
  · cases hz; cases hs
    exact op_add pins s σ H x y v u Q I rx ry ⟨_, _, dp_inv_int hd, dp_inv_int he, q⟩
  · split at hz
    · rename_i hc
      cases hz; cases hs
      exact op_add_str pins s σ H x y v u Q I rx ry ⟨_, _, dp_inv_str hd, dp_inv_str he, by rw [sizeLine_eq]; exact hc, q⟩
    · cases hz
  · cases hz
def rCatS (K : PySem.W.Frag) : R2 := fun x y H Q => ∃ (a b : Addr) (xs ys : List V), x = .ref a ∧ y = .ref b ∧ SqL K H a xs ∧ SqL K H b ys ∧ xs.length + ys.length ≤ sizeLine ∧ ∀ p, H p = none → Q (.ref p) (upd H p (.lst (xs ++ ys)))
theorem op_catS : OpR X (binaryOp .Add) (rCatS X.K) := by
  intro pins s σ H x y v u Q I rx ry h
  obtain ⟨a, b, xs, ys, rfl, rfl, h1, h2, hz, q⟩ := h
  cases rx
  cases ry
  obtain ⟨i1, r1, p1, z1⟩ := I.list h1
  obtain ⟨i2, r2, p2, z2⟩ := I.list h2
  obtain ⟨⟨c1, dd1, dt1, sl1⟩, n1, g1, q1, w1, t1⟩ := p1
  obtain ⟨⟨c2, dd2, dt2, sl2⟩, n2, g2, q2, w2, t2⟩ := p2
  simp only at q1 w1 t1 q2 w2 t2
  subst q1 w1 t1 q2 w2 t2
  have hsz : i1.toArray.size + i2.toArray.size ≤ sizeLine := by
    rw [List.size_toArray, List.size_toArray, ← r1.length, ← r2.length]
    exact hz
  refine concat_meets ⟨_, g1, rfl⟩ ⟨_, g2, rfl⟩ noFill_list_add seq_list_add PySem.F.slot_list_add PySem.F.entry_list_add (PySem.F.args_list_add_2 _ _) (list_addW a b i1.toArray i2.toArray n1 n2 _ _ sl1 sl2 hsz) ⟨g1, g2, ?_⟩
  have ea : i1.toArray ++ i2.toArray = (i1 ++ i2).toArray := by simp
  rw [ea]
  exact ⟨.ref _, _, I.lnew (t' := s.toks) (r1.append r2) (by rw [List.length_append]; exact hz), rfl, q _ I.fresh⟩
def mAdd : MV → MV → Sto → Res MV := fun x y S => match look S x, look S y with
  | some (.list as), some (.list bs) => if as.length + bs.length ≤ 16777216 then .ok (.dat (.list (as ++ bs))) S else .bad
  | _, _ => mD gAdd x y S
theorem dpAll_len {K : PySem.W.Frag} {B : Hp} : ∀ {vs : List V} {ds : List PyData}, DpAll K B vs ds → vs.length = ds.length
  | _, [], h => by cases h; rfl
  | _, d :: ds, h => by
    cases h with
    | cons _ t => simp [dpAll_len t]
theorem dpAll_app {K : PySem.W.Frag} {B : Hp} : ∀ {vs us : List V} {ds es : List PyData}, DpAll K B vs ds → DpAll K B us es → DpAll K B (vs ++ us) (ds ++ es)
  | _, _, [], _, h, g => by cases h; exact g
  | _, _, d :: ds, _, h, g => by
    cases h with
    | cons r t => exact .cons r (dpAll_app t g)
theorem op_addM : OpR X (binaryOp .Add) (fun x y H Q => rCatS X.K x y H Q ∨ rD X.K gAdd x y H Q) := OpR.or op_catS op_gAdd
theorem ops_addM : OpS X (fun x y H Q => rCatS X.K x y H Q ∨ rD X.K gAdd x y H Q) mAdd := by
  intro W w S H σ x y v u Q s rx ry p
  unfold mAdd at p
  split at p
  · rename_i as bs e1 e2
    split at p
    · rename_i hz
      obtain ⟨a, vs, rfl, h1, h2⟩ := look_list s rx e1
      obtain ⟨b, us, rfl, h3, h4⟩ := look_list s ry e2
      refine .inl ⟨a, b, vs, us, rfl, rfl, h1, h3, by rw [dpAll_len h2, dpAll_len h4, sizeLine_eq]; exact hz, fun q hq => ?_⟩
      obtain ⟨l, s', d⟩ := new_list s hq (dpAll_app h2 h4)
      exact p _ _ l s' _ d
    · exact p.elim
  · exact .inr (ops_D gAdd W w S H σ x y v u Q s rx ry p)
end
end PX
end

section
set_option Elab.async false
set_option linter.all false
set_option maxRecDepth 100000
set_option maxHeartbeats 4000000
namespace PX
open PySem PySem.Spec PyProof.Rows L2
section
variable {X : Cx} {W : WX}
/-! ### comparisons -/
def gEq : PyData → PyData → Option PyData
  | .int i, .int j => some (.bool (decide (i = j)))
  | .str a, .str b => some (.bool (decide (a = b)))
  | d, e => if SeqAt.shaped d = true ∧ SeqAt.shaped e = true then some (.bool (PyData.eqv d e)) else none
def gNe : PyData → PyData → Option PyData
  | .int i, .int j => some (.bool (!decide (i = j)))
  | .str a, .str b => some (.bool (!decide (a = b)))
  | d, e => if SeqAt.shaped d = true ∧ SeqAt.shaped e = true then some (.bool (!PyData.eqv d e)) else none
theorem dec_ref {i j : Int} : decide (V.int i = V.int j) = decide (i = j) := by by_cases h : i = j <;> simp [h]
theorem dec_str' {i j : Str} : decide (V.str i = V.str j) = decide (i = j) := by by_cases h : i = j <;> simp [h]
theorem op_gEq (hu : X.A.units + 64 < cLine) : OpR X (compareOp .Eq) (rD X.K gEq) := by
  intro pins s σ H x y v u Q I rx ry h
  obtain ⟨d, e, z, vz, hd, he, hz, hs, q⟩ := h
  unfold gEq at hz
  split at hz
  · cases hz; cases hs
    rw [← dec_ref] at q
    obtain rfl := dp_inv_int hd
    obtain rfl := dp_inv_int he
    exact op_eq pins s σ H _ _ v u Q I rx ry ⟨rfl, q⟩
  · cases hz; cases hs
    rw [← dec_str'] at q
    obtain rfl := dp_inv_str hd
    obtain rfl := dp_inv_str he
    exact op_eq pins s σ H _ _ v u Q I rx ry ⟨rfl, q⟩
  · split at hz
    · rename_i hc
      cases hz; cases hs
      exact op_eqD hu pins s σ H x y v u Q I rx ry ⟨d, e, hd, he, hc.1, hc.2, q⟩
    · cases hz
theorem op_gNe (hu : X.A.units + 64 < cLine) : OpR X (compareOp .NotEq) (rD X.K gNe) := by
  intro pins s σ H x y v u Q I rx ry h
  obtain ⟨d, e, z, vz, hd, he, hz, hs, q⟩ := h
  unfold gNe at hz
  split at hz
  · cases hz; cases hs
    rw [← dec_ref] at q
    obtain rfl := dp_inv_int hd
    obtain rfl := dp_inv_int he
    exact op_ne pins s σ H _ _ v u Q I rx ry ⟨rfl, q⟩
  · cases hz; cases hs
    rw [← dec_str'] at q
    obtain rfl := dp_inv_str hd
    obtain rfl := dp_inv_str he
    exact op_ne pins s σ H _ _ v u Q I rx ry ⟨rfl, q⟩
  · split at hz
    · rename_i hc
      cases hz; cases hs
      exact op_neD hu pins s σ H x y v u Q I rx ry ⟨d, e, hd, he, hc.1, hc.2, q⟩
    · cases hz
/-- order: ints, or data that are alike -/
def ordOk (d e : PyData) : Prop := PySem.W.alike d e = true ∧ (match d with | .none => false | _ => true) = true ∧ decide (d.depth ≤ 64) = true
instance (d e : PyData) : Decidable (ordOk d e) := by unfold ordOk; infer_instance
def gOrd (gi : Int → Int → Bool) (gd : PyData → PyData → Bool) : PyData → PyData → Option PyData
  | .int i, .int j => some (.bool (gi i j))
  | d, e => if ordOk d e then some (.bool (gd d e)) else none
def gLt := gOrd (fun i j => decide (i < j)) fun d e => PySem.W.dataLt d e
def gGt := gOrd (fun i j => decide (j < i)) fun d e => PySem.W.dataLt e d
def gLe := gOrd (fun i j => decide (i ≤ j)) fun d e => !PySem.W.dataLt e d
def gGe := gOrd (fun i j => decide (j ≤ i)) fun d e => !PySem.W.dataLt d e
theorem op_ord {op : CmpOp} {gi : Int → Int → Bool} {gd : PyData → PyData → Bool} (hu : X.A.units + 64 < cLine) (h0 : OpR X (compareOp op) (rI0 fun i j => .bl (gi i j)))
    (h1 : ∀ {prog : Program} {w : World} {A : Around} {E : Value → Shared → Prop} {s : Shared} {a b : Value} {da db : PyData} {as bs : List Addr} {Q : Value → Shared → Prop}, Reads s.heap a da as → Reads s.heap b db bs → PySem.W.alike da db = true → da ≠ .none →
      A.units + min da.depth db.depth < cLine → Q (.bool (gd da db)) s → wpAny (model prog w) A (compareOp op a b) Q E s) : OpR X (compareOp op) (rD X.K (gOrd gi gd)) := by
  intro pins s σ H x y v u Q I rx ry h
  obtain ⟨d, e, z, vz, hd, he, hz, hs, q⟩ := h
  unfold gOrd at hz
  split at hz
  · cases hz; cases hs
    exact h0 pins s σ H x y v u Q I rx ry ⟨_, _, dp_inv_int hd, dp_inv_int he, q⟩
  · split at hz
    · rename_i hc
      cases hz; cases hs
      obtain ⟨c1, c2, c3⟩ := hc
      obtain ⟨as, r1⟩ := Dp.reads I d x v hd rx
      obtain ⟨bs, r2⟩ := Dp.reads I e y u he ry
      refine h1 r1 r2 c1 ?_ ?_ ⟨.bl _, H, I, rfl, q⟩
      · rintro rfl
        cases c2
      · have := of_decide_eq_true c3
        omega
    · cases hz
theorem op_gLt (hu : X.A.units + 64 < cLine) : OpR X (compareOp .Lt) (rD X.K gLt) := op_ord hu op_lt fun a b c d e q => PySem.W.lt_data a b c d e q
theorem op_gGt (hu : X.A.units + 64 < cLine) : OpR X (compareOp .Gt) (rD X.K gGt) := op_ord hu op_gt fun a b c d e q => PySem.W.gt_data a b c d e q
theorem op_gLe (hu : X.A.units + 64 < cLine) : OpR X (compareOp .LtE) (rD X.K gLe) := op_ord hu op_le fun a b c d e q => PySem.W.le_data a b c d e q
theorem op_gGe (hu : X.A.units + 64 < cLine) : OpR X (compareOp .GtE) (rD X.K gGe) := op_ord hu op_ge fun a b c d e q => PySem.W.ge_data a b c d e q
/-! ### is None -/
def isNone : MV → Bool
  | .dat .none => true
  | .cst v => decide (v = .non)
  | _ => false
def mIs : MV → MV → Sto → Res MV := fun x y S => match y with
  | .dat .none => .ok (.dat (.bool (isNone x))) S
  | _ => .bad
def mIsNot : MV → MV → Sto → Res MV := fun x y S => match y with
  | .dat .none => .ok (.dat (.bool (!isNone x))) S
  | _ => .bad
abbrev rIs : R2 := fun x y H Q => y = .non ∧ Q (.bl (decide (x = .non))) H
abbrev rIsNot : R2 := fun x y H Q => y = .non ∧ Q (.bl (!decide (x = .non))) H
theorem rel_none {K : PySem.W.Frag} {mg : Str → Option Value} {w : Wd} {v : V} {x : MV} (r : RelM K mg w v x) : decide (v = .non) = isNone x := by
  cases x with
  | dat d =>
    have r' : Dp K w.B v d := r
    cases r' <;> rfl
  | cell i =>
    obtain ⟨_, rfl⟩ := r
    rfl
  | exc c d =>
    obtain ⟨_, _, _, _, rfl, _⟩ := r
    rfl
  | seq t xs =>
    obtain ⟨_, _, rfl, _⟩ := r
    rfl
  | dct =>
    obtain ⟨_, rfl, _⟩ := r
    rfl
  | cst u =>
    have r' : v = u := r
    subst r'
    rfl
theorem ops_is : OpS X rIs mIs := by
  intro W w S H σ x y v u Q s rx ry p
  unfold mIs at p
  split at p
  · have ry' : Dp X.K w.B u .none := ry
    refine ⟨dp_inv_none ry', ?_⟩
    rw [rel_none rx]
    exact p w H (Lx.refl w H) s _ (.bl _)
  · exact p.elim
theorem ops_isNot : OpS X rIsNot mIsNot := by
  intro W w S H σ x y v u Q s rx ry p
  unfold mIsNot at p
  split at p
  · have ry' : Dp X.K w.B u .none := ry
    refine ⟨dp_inv_none ry', ?_⟩
    rw [rel_none rx]
    exact p w H (Lx.refl w H) s _ (.bl _)
  · exact p.elim
/-! ### in -/
def flatD : PyData → Bool
  | .none => true
  | .bool _ => true
  | .int _ => true
  | .str _ => true
  | _ => false
theorem flat_v {K : PySem.W.Frag} {B : Hp} {v : V} {d : PyData} (h : Dp K B v d) (f : flatD d = true) : flatV v = true := by
  cases h <;> first | rfl | cases f
theorem eqV_eqv {K : PySem.W.Frag} {B : Hp} {v u : V} {d e : PyData} (h : Dp K B v d) (g : Dp K B u e) (f : flatD d = true) (f2 : flatD e = true) : eqV v u = PyData.eqv d e := by
  cases h <;> cases g <;> first | rfl | (cases f; done) | (cases f2; done)
theorem all_flat {K : PySem.W.Frag} {B : Hp} : ∀ {vs : List V} {ds : List PyData}, DpAll K B vs ds → ds.all flatD = true → vs.all flatV = true
  | _, [], h, _ => by cases h; rfl
  | _, d :: ds, h, f => by
    cases h with
    | cons r t =>
      rw [List.all_cons, Bool.and_eq_true] at f
      rw [List.all_cons, flat_v r f.1, all_flat t f.2]
      rfl
theorem inV_any {K : PySem.W.Frag} {B : Hp} {v : V} {d : PyData} (h : Dp K B v d) (f : flatD d = true) : ∀ {vs : List V} {ds : List PyData}, DpAll K B vs ds → ds.all flatD = true → inV v vs = ds.any fun z => PyData.eqv z d
  | _, [], h, _ => by cases h; rfl
  | _, z :: ds, h', f' => by
    cases h' with
    | cons r t =>
      rw [List.all_cons, Bool.and_eq_true] at f'
      have ih := inV_any h f t f'.2
      show (_ :: _ : List V).any _ = _
      rw [List.any_cons, List.any_cons, eqV_eqv r h f'.1 f]
      show (_ || inV v _) = _
      rw [ih]
def inB (d : PyData) (ds : List PyData) : Bool := ds.any fun z => PyData.eqv z d
def strIn (x z : Str) : Bool := if x.cps.size = 1 then decide (x.cps[0]! ∈ z.cps.toList) else !(Builtin.Str.occurrences z x 0 z.length 1).isEmpty
def gIn (neg : Bool) : PyData → PyData → Option PyData := fun d e => match e with
  | .list ds => if (flatD d = true ∧ ds.all flatD = true) ∨ (SeqAt.shaped d = true ∧ SeqAt.shaped (.list ds) = true) then some (.bool (if neg then !inB d ds else inB d ds)) else none
  | .tuple ds => if flatD d = true ∧ ds.all flatD = true then some (.bool (if neg then !inB d ds else inB d ds)) else none
  | .str z => match d with
    | .str x => some (.bool (if neg then !strIn x z else strIn x z))
    | _ => none
  | _ => none
theorem one_sign {x : Str} (h : x.cps.size = 1) : x = ⟨#[x.cps[0]!]⟩ := by
  obtain ⟨a⟩ := x
  obtain ⟨l⟩ := a
  match l, h with
  | [c], _ => rfl
theorem op_gIn (hu : X.A.units + 65 < cLine) : OpR X (compareOp .In) (rD X.K (gIn false)) := by
  intro pins s σ H x y v u Q I rx ry h
  obtain ⟨d, e, z, vz, hd, he, hz, hs, q⟩ := h
  unfold gIn at hz
  split at hz
  · rename_i ds
    split at hz
    · rename_i hc
      cases hz; cases hs
      rcases hc with hc | hc
      · cases he with
        | lst h1 h2 =>
          refine op_in_seq pins s σ H x _ v u Q I rx ry ⟨_, _, rfl, .inl h1, flat_v hd hc.1, all_flat h2 hc.2, ?_⟩
          rw [inV_any hd hc.1 h2 hc.2]
          exact q
      · exact op_inD hu pins s σ H x y v u Q I rx ry ⟨d, ds, hd, he, hc.1, hc.2, q⟩
    · cases hz
  · rename_i ds
    split at hz
    · rename_i hc
      cases hz; cases hs
      cases he with
      | tup h1 h2 =>
        refine op_in_seq pins s σ H x _ v u Q I rx ry ⟨_, _, rfl, .inr h1, flat_v hd hc.1, all_flat h2 hc.2, ?_⟩
        rw [inV_any hd hc.1 h2 hc.2]
        exact q
    · cases hz
  · rename_i zz
    split at hz
    · rename_i xx
      cases hz; cases hs
      obtain rfl := dp_inv_str hd
      obtain rfl := dp_inv_str he
      by_cases h1 : xx.cps.size = 1
      · refine op_in_sign pins s σ H _ _ v u Q I rx ry ⟨xx.cps[0]!, zz, by rw [← one_sign h1], rfl, ?_⟩
        have q' : Q (.bl (strIn xx zz)) H := q
        unfold strIn at q'
        rw [if_pos h1] at q'
        exact q'
      · refine op_in_str pins s σ H _ _ v u Q I rx ry ⟨xx, zz, rfl, rfl, ?_⟩
        have q' : Q (.bl (strIn xx zz)) H := q
        unfold strIn at q'
        rw [if_neg h1] at q'
        exact q'
    · cases hz
  · cases hz
theorem op_gNotIn (hu : X.A.units + 65 < cLine) : OpR X (compareOp .NotIn) (rD X.K (gIn true)) := by
  intro pins s σ H x y v u Q I rx ry h
  obtain ⟨d, e, z, vz, hd, he, hz, hs, q⟩ := h
  unfold gIn at hz
  split at hz
  · rename_i ds
    split at hz
    · rename_i hc
      cases hz; cases hs
      rcases hc with hc | hc
      · cases he with
        | lst h1 h2 =>
          refine op_notIn_seq pins s σ H x _ v u Q I rx ry ⟨_, _, rfl, .inl h1, flat_v hd hc.1, all_flat h2 hc.2, ?_⟩
          rw [inV_any hd hc.1 h2 hc.2]
          exact q
      · exact op_notInD hu pins s σ H x y v u Q I rx ry ⟨d, ds, hd, he, hc.1, hc.2, q⟩
    · cases hz
  · rename_i ds
    split at hz
    · rename_i hc
      cases hz; cases hs
      cases he with
      | tup h1 h2 =>
        refine op_notIn_seq pins s σ H x _ v u Q I rx ry ⟨_, _, rfl, .inr h1, flat_v hd hc.1, all_flat h2 hc.2, ?_⟩
        rw [inV_any hd hc.1 h2 hc.2]
        exact q
    · cases hz
  · rename_i zz
    split at hz
    · rename_i xx
      cases hz; cases hs
      obtain rfl := dp_inv_str hd
      obtain rfl := dp_inv_str he
      by_cases h1 : xx.cps.size = 1
      · refine op_notIn_sign pins s σ H _ _ v u Q I rx ry ⟨xx.cps[0]!, zz, by rw [← one_sign h1], rfl, ?_⟩
        have q' : Q (.bl (!strIn xx zz)) H := q
        unfold strIn at q'
        rw [if_pos h1] at q'
        exact q'
      · refine op_notIn_str pins s σ H _ _ v u Q I rx ry ⟨xx, zz, rfl, rfl, ?_⟩
        have q' : Q (.bl (!strIn xx zz)) H := q
        unfold strIn at q'
        rw [if_neg h1] at q'
        exact q'
    · cases hz
  · cases hz

/-! ### displays -/
def mlst (fa : AM) : EM := fun m S => (fa m S).bind fun xs S1 => match fzAll S1 xs with
  | some (ds, S2) => if ds.length ≤ 16777216 then .ok (.dat (.list ds)) S2 else .bad
  | none => .bad
def mtup (fa : AM) : EM := fun m S => (fa m S).bind fun xs S1 => match fzAll S1 xs with
  | some (ds, S2) => if ds.length ≤ 16777216 then .ok (.dat (.tuple ds)) S2 else .bad
  | none => .bad
/-- a new list that may be changed -/
def mlstC (fa : AM) : EM := fun m S => (fa m S).bind fun xs S1 => if xs.length ≤ 16777216 then .ok (.cell S1.length) (S1 ++ [.lst xs]) else .bad
theorem ge_lst {es : List Expr} {fa : AM} {pos : Pos} (h : GA X W es fa) : GE X W (.List es pos) (mlst fa) := by
  refine PE.imp (pe_lst h) fun σ H Q q => ?_
  obtain ⟨w, S, m, s, l, p⟩ := q
  refine ⟨w, S, m, s, l, (Pst.bind p).imp fun w1 S1 H1 xs l1 s1 p1 vs rs => ?_⟩
  cases e : fzAll S1 xs with
  | none => simp only [e] at p1; exact p1.elim
  | some z =>
    obtain ⟨ds, S2⟩ := z
    simp only [e] at p1
    split at p1
    · rename_i hz
      obtain ⟨w2, l2, s2, d2⟩ := fzAll_ok s1 rs e
      refine ⟨by rw [dpAll_len d2, sizeLine_eq]; exact hz, fun a ha => ?_⟩
      obtain ⟨l3, s3, d3⟩ := new_list s2 ha d2
      exact p1 _ _ (l2.trans s2 l3) s3 _ d3
    · exact p1.elim
theorem ge_tup {es : List Expr} {fa : AM} {pos : Pos} {x1 : Nat} (h : GA X W es fa) : GE X W (.Tuple es x1 pos) (mtup fa) := by
  refine PE.imp (pe_tup h) fun σ H Q q => ?_
  obtain ⟨w, S, m, s, l, p⟩ := q
  refine ⟨w, S, m, s, l, (Pst.bind p).imp fun w1 S1 H1 xs l1 s1 p1 vs rs => ?_⟩
  cases e : fzAll S1 xs with
  | none => simp only [e] at p1; exact p1.elim
  | some z =>
    obtain ⟨ds, S2⟩ := z
    simp only [e] at p1
    split at p1
    · rename_i hz
      obtain ⟨w2, l2, s2, d2⟩ := fzAll_ok s1 rs e
      refine ⟨by rw [dpAll_len d2, sizeLine_eq]; exact hz, fun a ha => ?_⟩
      obtain ⟨l3, s3, d3⟩ := new_tup s2 ha d2
      exact p1 _ _ (l2.trans s2 l3) s3 _ d3
    · exact p1.elim
theorem ge_lstC {es : List Expr} {fa : AM} {pos : Pos} (h : GA X W es fa) : GE X W (.List es pos) (mlstC fa) := by
  refine PE.imp (pe_lst h) fun σ H Q q => ?_
  obtain ⟨w, S, m, s, l, p⟩ := q
  refine ⟨w, S, m, s, l, (Pst.bind p).imp fun w1 S1 H1 xs l1 s1 p1 vs rs => ?_⟩
  split at p1
  · rename_i hz
    refine ⟨by rw [Paired.length rs, sizeLine_eq]; exact hz, fun a ha => ?_⟩
    obtain ⟨l3, s3, d3⟩ := new_cell s1 ha rs
    exact p1 _ _ l3 s3 _ d3
  · exact p1.elim

/-- lists, tuples of any values, not changed -/
def mlstM (fa : AM) : EM := fun m S => (fa m S).bind fun xs S1 => if xs.length ≤ 16777216 then .ok (.seq false xs) S1 else .bad
def mtupM (fa : AM) : EM := fun m S => (fa m S).bind fun xs S1 => if xs.length ≤ 16777216 then .ok (.seq true xs) S1 else .bad
theorem new_lstM {K : PySem.W.Frag} {mg : Str → Option Value} {w : Wd} {S : Sto} {H : Hp} (s : Sim K mg w S H) {p : Addr} {vs : List V} {xs : List MV} (hp : H p = none) (h : AllM K mg w vs xs) :
    Lx w H (w.put p (.lst vs)) (upd H p (.lst vs)) ∧ Sim K mg (w.put p (.lst vs)) S (upd H p (.lst vs)) ∧ RelM K mg (w.put p (.lst vs)) (.ref p) (.seq false xs) :=
  have l := lx_put s hp
  ⟨l, sim_put s hp, p, vs, rfl, .inl (.inl upd_same), (h.mono l.le).r⟩
theorem new_tupM {K : PySem.W.Frag} {mg : Str → Option Value} {w : Wd} {S : Sto} {H : Hp} (s : Sim K mg w S H) {p : Addr} {vs : List V} {xs : List MV} (hp : H p = none) (h : AllM K mg w vs xs) :
    Lx w H (w.put p (.tup vs)) (upd H p (.tup vs)) ∧ Sim K mg (w.put p (.tup vs)) S (upd H p (.tup vs)) ∧ RelM K mg (w.put p (.tup vs)) (.ref p) (.seq true xs) :=
  have l := lx_put s hp
  ⟨l, sim_put s hp, p, vs, rfl, .inl (.inl upd_same), (h.mono l.le).r⟩
theorem ge_lstM {es : List Expr} {fa : AM} {pos : Pos} (h : GA X W es fa) : GE X W (.List es pos) (mlstM fa) := by
  refine PE.imp (pe_lst h) fun σ H Q q => ?_
  obtain ⟨w, S, m, s, l, p⟩ := q
  refine ⟨w, S, m, s, l, (Pst.bind p).imp fun w1 S1 H1 xs l1 s1 p1 vs rs => ?_⟩
  split at p1
  · rename_i hz
    refine ⟨by rw [Paired.length rs, sizeLine_eq]; exact hz, fun a ha => ?_⟩
    obtain ⟨l3, s3, d3⟩ := new_lstM s1 ha rs
    exact p1 _ _ l3 s3 _ d3
  · exact p1.elim
theorem ge_tupM {es : List Expr} {fa : AM} {pos : Pos} {x1 : Nat} (h : GA X W es fa) : GE X W (.Tuple es x1 pos) (mtupM fa) := by
  refine PE.imp (pe_tup h) fun σ H Q q => ?_
  obtain ⟨w, S, m, s, l, p⟩ := q
  refine ⟨w, S, m, s, l, (Pst.bind p).imp fun w1 S1 H1 xs l1 s1 p1 vs rs => ?_⟩
  split at p1
  · rename_i hz
    refine ⟨by rw [Paired.length rs, sizeLine_eq]; exact hz, fun a ha => ?_⟩
    obtain ⟨l3, s3, d3⟩ := new_tupM s1 ha rs
    exact p1 _ _ l3 s3 _ d3
  · exact p1.elim
/-! ### subscripts, slices -/
theorem dpAll_get {K : PySem.W.Frag} {B : Hp} : ∀ {vs : List V} {ds : List PyData} {i : Nat} {d : PyData}, DpAll K B vs ds → ds[i]? = some d → ∃ v, vs[i]? = some v ∧ Dp K B v d
  | _, [], i, d, h, e => by simp at e
  | _, z :: ds, 0, d, h, e => by
    cases h with
    | cons r t =>
      simp at e
      subst e
      exact ⟨_, rfl, r⟩
  | _, z :: ds, i + 1, d, h, e => by
    cases h with
    | cons r t =>
      obtain ⟨v, h1, h2⟩ := dpAll_get (i := i) t (by simpa using e)
      exact ⟨v, by simpa using h1, h2⟩
theorem dpAll_at {K : PySem.W.Frag} {B : Hp} {vs : List V} {ds : List PyData} {i : Int} {d : PyData} (h : DpAll K B vs ds) (e : atI ds i = some d) : ∃ v, atI vs i = some v ∧ Dp K B v d := by
  unfold atI at e ⊢
  rw [dpAll_len h]
  cases hj : ixN ds.length i with
  | none => rw [hj] at e; cases e
  | some j =>
    rw [hj] at e
    exact dpAll_get h e
def mIxM : MV → MV → Sto → Res MV := fun x y S => match items S x, y with
  | some (_, xs), .dat (.int i) => match atI xs i with
    | some z => .ok z S
    | none => .bad
  | _, _ => .bad
def mIx : MV → MV → Sto → Res MV := fun x y S => match look S x, look S y with
  | some (.list ds), some (.int i) => match atI ds i with
    | some d => .ok (.dat d) S
    | none => .bad
  | some (.tuple ds), some (.int i) => match atI ds i with
    | some d => .ok (.dat d) S
    | none => .bad
  | some (.str z), some (.int i) => match atI z.cps.toList i with
    | some c => if z.length ≤ 16777216 then .ok (.dat (.str ⟨#[c]⟩)) S else .bad
    | none => .bad
  | _, _ => mIxM x y S
theorem ops_ix : OpS X (rIx X.K) mIx := by
  intro W w S H σ x y v u Q s rx ry p
  unfold mIx at p
  split at p
  · rename_i ds i e1 e2
    cases e3 : atI ds i with
    | none => simp only [e3] at p; exact p.elim
    | some d =>
      simp only [e3] at p
      obtain ⟨a, vs, rfl, h1, h2⟩ := look_list s rx e1
      obtain ⟨vd, h3, h4⟩ := dpAll_at h2 e3
      exact .inl ⟨a, vs, i, vd, rfl, dp_inv_int (look_ok s ry e2), h1, h3, p w H (Lx.refl w H) s _ h4⟩
  · rename_i ds i e1 e2
    cases e3 : atI ds i with
    | none => simp only [e3] at p; exact p.elim
    | some d =>
      simp only [e3] at p
      obtain ⟨a, vs, rfl, h1, h2⟩ := look_tup s rx e1
      obtain ⟨vd, h3, h4⟩ := dpAll_at h2 e3
      exact .inr (.inl ⟨a, vs, i, vd, rfl, dp_inv_int (look_ok s ry e2), h1, h3, p w H (Lx.refl w H) s _ h4⟩)
  · rename_i z i e1 e2
    cases e3 : atI z.cps.toList i with
    | none => simp only [e3] at p; exact p.elim
    | some c =>
      simp only [e3] at p
      split at p
      · rename_i hz
        exact .inr (.inr ⟨z, i, c, dp_inv_str (look_ok s rx e1), dp_inv_int (look_ok s ry e2), by rw [sizeLine_eq]; exact hz, e3, p w H (Lx.refl w H) s _ (.str _)⟩)
      · exact p.elim
  · unfold mIxM at p
    split at p
    · rename_i t ys k e1 _ _ _
      cases e3 : atI ys k with
      | none => simp only [e3] at p; exact p.elim
      | some z =>
        simp only [e3] at p
        obtain ⟨a, vs, rfl, h1, h2⟩ := items_ok s rx e1
        obtain ⟨vd, h3, h4⟩ := allM_at h2 e3
        have ry' : Dp X.K w.B u (.int k) := ry
        have q := p w H (Lx.refl w H) s _ h4
        cases t with
        | true => exact .inr (.inl ⟨a, vs, k, vd, rfl, dp_inv_int ry', h1, h3, q⟩)
        | false => exact .inl ⟨a, vs, k, vd, rfl, dp_inv_int ry', h1, h3, q⟩
    · exact p.elim
def cutD {α : Type} (xs : List α) (lo hi : Option Int) : List α := (xs.drop (HT.sIx xs.length 0 lo)).take (HT.sIx xs.length xs.length hi - HT.sIx xs.length 0 lo)
theorem dpAll_drop {K : PySem.W.Frag} {B : Hp} : ∀ {vs : List V} {ds : List PyData} (n : Nat), DpAll K B vs ds → DpAll K B (vs.drop n) (ds.drop n)
  | _, _, 0, h => h
  | _, [], _ + 1, h => by cases h; exact .nil
  | _, d :: ds, n + 1, h => by
    cases h with
    | cons r t => exact dpAll_drop n t
theorem dpAll_take {K : PySem.W.Frag} {B : Hp} : ∀ {vs : List V} {ds : List PyData} (n : Nat), DpAll K B vs ds → DpAll K B (vs.take n) (ds.take n)
  | _, _, 0, h => .nil
  | _, [], _ + 1, h => by cases h; exact .nil
  | _, d :: ds, n + 1, h => by
    cases h with
    | cons r t => exact .cons r (dpAll_take n t)
theorem dpAll_cut {K : PySem.W.Frag} {B : Hp} {vs : List V} {ds : List PyData} (lo hi : Option Int) (h : DpAll K B vs ds) : DpAll K B (cutV vs lo hi) (cutD ds lo hi) := by
  unfold cutV cutD
  rw [dpAll_len h]
  exact dpAll_take _ (dpAll_drop _ h)
/-- a slice's part -/
def mpart (f : Option EM) : Sl → Sto → Res (Option Int) := fun m S => match f with
  | none => .ok none S
  | some f => (f m S).bind fun x S1 => match x with
    | .dat (.int i) => .ok (some i) S1
    | _ => .bad
abbrev Fo (Q : Option Int → Hp → Prop) : Wd → Sto → Hp → Option Int → Prop := fun _ _ H o => Q o H
abbrev GO (X : Cx) (W : WX) (e : Option Expr) (f : Option EM) : Prop := PO X e (wpG X.K X.mg W Fo (mpart f))
theorem go_none : GO X W none none := by
  refine ⟨fun pins s σ H Q I q => po_none.run pins s σ H Q I ?_⟩
  obtain ⟨w, S, m, s, l, p⟩ := q
  have z := pst_ok (σ := σ) (W := W) s p
  exact z
theorem go_some {e : Expr} {f : EM} (h : GE X W e f) : GO X W (some e) (some f) := by
  refine ⟨fun pins s σ H Q I q => (po_some h).run pins s σ H Q I ?_⟩
  obtain ⟨w, S, m, s, l, p⟩ := q
  refine ⟨w, S, m, s, l, (Pst.bind p).imp fun w1 S1 H1 x l1 s1 p1 v rv => ?_⟩
  split at p1
  · rename_i i
    have rv' : Dp X.K w1.B v (.int i) := rv
    have z := pst_ok (σ := σ) (W := W) s1 p1
    exact ⟨i, dp_inv_int rv', z⟩
  · exact p1.elim
def mCut (x : MV) (lo hi : Option Int) (S : Sto) : Res MV := match look S x with
  | some (.list ds) => .ok (.dat (.list (cutD ds lo hi))) S
  | some (.str z) => if z.length ≤ 16777216 then .ok (.dat (.str (cutS z lo hi))) S else .bad
  | _ => .bad
def mslice (f : EM) (lo hi : Option EM) : EM := fun m S => (f m S).bind fun x S1 => (mpart lo m S1).bind fun l S2 => (mpart hi m S2).bind fun h S3 => mCut x l h S3
theorem ge_slice {e : Expr} {f : EM} {lo hi : Option Expr} {fl fh : Option EM} {pos p2 : Pos} (h : GE X W e f) (hl : GO X W lo fl) (hh : GO X W hi fh) : GE X W (.Subscript e (.Slice lo hi none p2) pos) (mslice f fl fh) := by
  refine PE.imp (pe_slice (SlR.or sl_list sl_str) h hl hh) fun σ H Q q => ?_
  obtain ⟨w, S, m, s, l, p⟩ := q
  refine ⟨w, S, m, s, l, (Pst.bind p).imp fun w1 S1 H1 x l1 s1 p1 v rv => ?_⟩
  refine ⟨w1, S1, m, s1, l.mono l1.le, (Pst.bind p1).imp fun w2 S2 H2 a l2 s2 p2 => ?_⟩
  refine ⟨w2, S2, m, s2, l.mono (l1.le.trans l2.le), (Pst.bind p2).imp fun w3 S3 H3 b l3 s3 p3 => ?_⟩
  have rv3 := rv.mono (l2.le.trans l3.le)
  unfold mCut at p3
  split at p3
  · rename_i ds e1
    obtain ⟨ad, vs, rfl, h1, h2⟩ := look_list s3 rv3 e1
    refine .inl ⟨ad, vs, rfl, h1, fun q hq => ?_⟩
    obtain ⟨l4, s4, d4⟩ := new_list s3 hq (dpAll_cut a b h2)
    exact p3 _ _ l4 s4 _ d4
  · rename_i z e1
    split at p3
    · rename_i hz
      exact .inr ⟨z, dp_inv_str (look_ok s3 rv3 e1), by rw [sizeLine_eq]; exact hz, p3 w3 H3 (Lx.refl _ _) s3 _ (.str _)⟩
    · exact p3.elim
  · exact p3.elim
def mrev (f : EM) : EM := fun m S => (f m S).bind fun x S1 => match look S1 x with
  | some (.list ds) => .ok (.dat (.list ds.reverse)) S1
  | _ => .bad
theorem dpAll_rev {K : PySem.W.Frag} {B : Hp} : ∀ {vs : List V} {ds : List PyData}, DpAll K B vs ds → DpAll K B vs.reverse ds.reverse
  | _, [], h => by cases h; exact .nil
  | _, d :: ds, h => by
    cases h with
    | cons r t =>
      rw [List.reverse_cons, List.reverse_cons]
      exact dpAll_app (dpAll_rev t) (.cons r .nil)
theorem ge_rev {e : Expr} {f : EM} {k : Nat} {p1 p2 p3 pos : Pos} (h : GE X W e f) : GE X W (.Subscript e (.Slice none none (some (.UnaryOp .USub (.Constant (.int 1) k p1) p2)) p3) pos) (mrev f) := by
  refine PE.imp (pe_revL h) fun σ H Q q => ?_
  obtain ⟨w, S, m, s, l, p⟩ := q
  refine ⟨w, S, m, s, l, (Pst.bind p).imp fun w1 S1 H1 x l1 s1 p1 v rv => ?_⟩
  split at p1
  · rename_i ds e1
    obtain ⟨ad, vs, rfl, h1, h2⟩ := look_list s1 rv e1
    refine ⟨ad, vs, rfl, h1, fun q hq => ?_⟩
    obtain ⟨l4, s4, d4⟩ := new_list s1 hq (dpAll_rev h2)
    exact p1 _ _ l4 s4 _ d4
  · exact p1.elim
/-! ### -x -/
def mneg (f : EM) : EM := fun m S => (f m S).bind fun x S1 => match x with
  | .dat (.int i) => .ok (.dat (.int (-i))) S1
  | _ => .bad
theorem ge_neg {e : Expr} {f : EM} {pos : Pos} (h : GE X W e f) : GE X W (.UnaryOp .USub e pos) (mneg f) := by
  refine PE.imp (pe_un un_neg h) fun σ H Q q => ?_
  obtain ⟨w, S, m, s, l, p⟩ := q
  refine ⟨w, S, m, s, l, (Pst.bind p).imp fun w1 S1 H1 x l1 s1 p1 v rv => ?_⟩
  split at p1
  · rename_i i
    have rv' : Dp X.K w1.B v (.int i) := rv
    exact ⟨i, dp_inv_int rv', p1 w1 H1 (Lx.refl _ _) s1 _ (.int _)⟩
  · exact p1.elim
end
end PX
end

section
set_option Elab.async false
set_option linter.all false
set_option maxRecDepth 100000
set_option maxHeartbeats 4000000
namespace PX
open PySem PySem.Spec PyProof.Rows L2

/-! ### statements -/
inductive RS where
  | next (m : Sl) (S : Sto)
  | ret (v : MV) (S : Sto)
  | exc (c : Str) (d : MV) (m : Sl) (S : Sto)
  | bad
abbrev SM := Sl → Sto → RS
def Res.go {α : Type} (r : Res α) (m : Sl) (k : α → Sto → RS) : RS := match r with
  | .ok a S => k a S
  | .exc c d S => .exc c d m S
  | .bad => .bad
def RS.and (r : RS) (k : SM) : RS := match r with
  | .next m S => k m S
  | .ret v S => .ret v S
  | .exc c d m S => .exc c d m S
  | .bad => .bad
section
variable {K : PySem.W.Frag} {mg : Str → Option Value}
def PSt (K : PySem.W.Frag) (mg : Str → Option Value) (w : Wd) (H : Hp) (D : Ends) (W : WX) : RS → Prop
  | .next m S => ∀ w' σ' H', Lx w H w' H' → Sim K mg w' S H' → SlR K mg w' σ' m → D.nx σ' H'
  | .ret x S => ∀ w' v H', Lx w H w' H' → Sim K mg w' S H' → RelM K mg w' v x → D.rt v H'
  | .exc c d m S => ∀ w' σ' H' (C dd : Addr) (u : V), Lx w H w' H' → Sim K mg w' S H' → SlR K mg w' σ' m → mg c = some (.ref C) → w'.B dd = some (.xd [("value", u)]) → RelM K mg w' u d → W (.ref C) (some dd) σ' H'
  | .bad => False
theorem PSt.mono {w w1 : Wd} {H H1 : Hp} {S : Sto} {D : Ends} {W : WX} {r : RS} (l : Lx w H w1 H1) (s : Sim K mg w1 S H1) (h : PSt K mg w H D W r) : PSt K mg w1 H1 D W r := by
  cases r with
  | next m S => exact fun w' σ' H' l' => h w' σ' H' (l.trans s l')
  | ret x S => exact fun w' v H' l' => h w' v H' (l.trans s l')
  | exc c d m S => exact fun w' σ' H' C dd u l' => h w' σ' H' C dd u (l.trans s l')
  | bad => exact h
theorem PSt.go {α : Type} {w : Wd} {H : Hp} {D : Ends} {W : WX} {σ : St} {m : Sl} {r : Res α} {k : α → Sto → RS} (l : SlR K mg w σ m) (h : PSt K mg w H D W (r.go m k)) :
    Pst K mg w H σ W (fun w1 S1 H1 a => PSt K mg w1 H1 D W (k a S1)) r := by
  cases r with
  | ok a S => exact fun w1 H1 l1 s1 => h.mono l1 s1
  | exc c d S => exact fun w1 H1 C dd u l1 s1 => h w1 σ H1 C dd u l1 s1 (l.mono l1.le)
  | bad => exact h
def wpS (K : PySem.W.Frag) (mg : Str → Option Value) (W : WX) (g : SM) : TS := fun D σ H => ∃ w S m, Sim K mg w S H ∧ SlR K mg w σ m ∧ PSt K mg w H D W (g m S)
end
abbrev GS (X : Cx) (W : WX) (st : Stmt) (g : SM) : Prop := PS X st (wpS X.K X.mg W g)
abbrev GB (X : Cx) (W : WX) (st : List Stmt) (g : SM) : Prop := PSs X st (wpS X.K X.mg W g)
def mskip : SM := fun m S => .next m S
def mseq (f g : SM) : SM := fun m S => (f m S).and g
section
variable {X : Cx} {W : WX}
theorem gb_nil : GB X W [] mskip := by
  refine PSs.imp pss_nil fun D σ H q => ?_
  obtain ⟨w, S, m, s, l, p⟩ := q
  exact p w σ H (Lx.refl _ _) s l
theorem gb_one {st : Stmt} {g : SM} (h : GS X W st g) : GB X W [st] g := pss_one h
theorem gb_cons {st : Stmt} {rest : List Stmt} {f g : SM} (h : GS X W st f) (h2 : GB X W rest g) : GB X W (st :: rest) (mseq f g) := by
  refine PSs.imp (pss_cons h h2) fun D σ H q => ?_
  obtain ⟨w, S, m, s, l, p⟩ := q
  refine ⟨w, S, m, s, l, ?_⟩
  unfold mseq at p
  cases e : f m S with
  | next m1 S1 =>
    rw [e] at p
    exact fun w1 σ1 H1 l1 s1 r1 => ⟨w1, S1, m1, s1, r1, p.mono l1 s1⟩
  | ret v S1 => rw [e] at p; exact p
  | exc c d m1 S1 => rw [e] at p; exact p
  | bad => rw [e] at p; exact p
/-- e alone -/
def mexpr (f : EM) : SM := fun m S => (f m S).go m fun _ S1 => .next m S1
theorem gs_expr {e : Expr} {f : EM} {pos : Pos} (h : GE X W e f) (hs : swapsWith e none pos.line X.env = pure false := by rfl) : GS X W (.Expr e pos) (mexpr f) := by
  refine PS.imp (ps_expr h hs) fun D σ H q => ?_
  obtain ⟨w, S, m, s, l, p⟩ := q
  exact ⟨w, S, m, s, l, (PSt.go l p).imp fun w1 S1 H1 x l1 s1 p1 v rv => p1 w1 σ H1 (Lx.refl _ _) s1 (l.mono l1.le)⟩
def mret (f : EM) : SM := fun m S => (f m S).go m fun v S1 => .ret v S1
theorem gs_ret {e : Expr} {f : EM} {pos : Pos} (h : GE X W e f) : GS X W (.Return (some e) pos) (mret f) := by
  refine PS.imp (ps_ret h) fun D σ H q => ?_
  obtain ⟨w, S, m, s, l, p⟩ := q
  exact ⟨w, S, m, s, l, (PSt.go l p).imp fun w1 S1 H1 x l1 s1 p1 v rv => p1 w1 v H1 (Lx.refl _ _) s1 rv⟩
def mifS (t : TM) (f g : SM) : SM := fun m S => (t m S).go m fun b S1 => if b then f m S1 else g m S1
theorem gs_if {c : Expr} {a b : List Stmt} {t : TM} {f g : SM} {pos : Pos} (h : GT X W c t) (ha : GB X W a f) (hb : GB X W b g) : GS X W (.If c a b pos) (mifS t f g) := by
  refine PS.imp (ps_if h ha hb) fun D σ H q => ?_
  obtain ⟨w, S, m, s, l, p⟩ := q
  refine ⟨w, S, m, s, l, (PSt.go l p).imp fun w1 S1 H1 b l1 s1 p1 => ?_⟩
  cases b with
  | true => exact ⟨w1, S1, m, s1, l.mono l1.le, p1⟩
  | false => exact ⟨w1, S1, m, s1, l.mono l1.le, p1⟩

/-! ### targets -/
abbrev GM := MV → Sl → Sto → Option (Sl × Sto)
/-- σ' is σ but at the places js -/
def ButAt (js : List Nat) (σ σ' : St) : Prop := σ'.length = σ.length ∧ ∀ i, i ∉ js → σ'[i]? = σ[i]?
theorem ButAt.refl (js : List Nat) (σ : St) : ButAt js σ σ := ⟨rfl, fun _ _ => rfl⟩
theorem ButAt.trans {js ks : List Nat} {a b c : St} (h : ButAt js a b) (g : ButAt ks b c) : ButAt (js ++ ks) a c :=
  ⟨g.1.trans h.1, fun i hi => (g.2 i fun z => hi (List.mem_append_right _ z)).trans (h.2 i fun z => hi (List.mem_append_left _ z))⟩
def gOk (X : Cx) (g : GM) (t : TG) (js : List Nat) : Prop := ∀ (w : Wd) (S : Sto) (m : Sl) (σ : St) (H : Hp) (v : V) (x : MV) (Q : St → Hp → Prop) (m' : Sl) (S' : Sto), Sim X.K X.mg w S H → SlR X.K X.mg w σ m → RelM X.K X.mg w v x → g x m S = some (m', S') →
  (∀ w' σ' H', Lx w H w' H' → Sim X.K X.mg w' S' H' → SlR X.K X.mg w' σ' m' → ButAt js σ σ' → Q σ' H') → t v σ H Q
structure GG (X : Cx) (tg : Expr) (g : GM) (t : TG) (js : List Nat) : Prop where
  pg : PG X tg t
  ok : gOk X g t js
def gset (i : Nat) : GM := fun x m S => some (m.set i (some x), S)
theorem gok_name {X : Cx} (i : Nat) : gOk X (gset i) (gName i) [i] := by
  intro w S m σ H v x Q m' S' s l r e k
  simp only [gset, Option.some.injEq, Prod.mk.injEq] at e
  obtain ⟨rfl, rfl⟩ := e
  exact k w _ H (Lx.refl _ _) s (l.set (a := some v) (b := some x) r i) ⟨List.length_set, fun j hj => List.getElem?_set_ne fun z => hj (by rw [z]; exact List.mem_singleton.mpr rfl)⟩
theorem gg_name (i : Nat) {x : Str} {pos : Pos} (h : PG X (.Name x pos) (gName i)) : GG X (.Name x pos) (gset i) (gName i) [i] := ⟨h, gok_name i⟩
abbrev GMs := List MV → Sl → Sto → Option (Sl × Sto)
abbrev gOks (X : Cx) (g : GMs) (t : TGs) (js : List Nat) : Prop := ∀ (w : Wd) (S : Sto) (m : Sl) (σ : St) (H : Hp) (vs : List V) (xs : List MV) (Q : St → Hp → Prop) (m' : Sl) (S' : Sto), Sim X.K X.mg w S H → SlR X.K X.mg w σ m → AllM X.K X.mg w vs xs → g xs m S = some (m', S') →
    (∀ w' σ' H', Lx w H w' H' → Sim X.K X.mg w' S' H' → SlR X.K X.mg w' σ' m' → ButAt js σ σ' → Q σ' H') → t vs σ H Q
structure GGs (X : Cx) (ts : List Expr) (g : GMs) (t : TGs) (js : List Nat) : Prop where
  pg : PGs X ts t
  ok : gOks X g t js
def gsnil : GMs := fun xs m S => match xs with
  | [] => some (m, S)
  | _ => none
def gscons (g : GM) (gs : GMs) : GMs := fun xs m S => match xs with
  | [] => none
  | x :: xs => match g x m S with
    | some (m1, S1) => gs xs m1 S1
    | none => none
theorem goks_nil : gOks X gsnil gNil [] := by
  intro w S m σ H vs xs Q m' S' s l r e k
  cases r with
  | nil =>
    simp only [gsnil, Option.some.injEq, Prod.mk.injEq] at e
    obtain ⟨rfl, rfl⟩ := e
    exact ⟨rfl, k w σ H (Lx.refl _ _) s l (ButAt.refl _ _)⟩
  | cons _ _ => simp [gsnil] at e
theorem ggs_nil : GGs X [] gsnil gNil [] := ⟨pgs_nil, goks_nil⟩
theorem goks_cons {g : GM} {gs : GMs} {t : TG} {us : TGs} {js ks : List Nat} (h : gOk X g t js) (h2 : gOks X gs us ks) : gOks X (gscons g gs) (gCons t us) (js ++ ks) := by
  intro w S m σ H vs xs Q m' S' s l r e k
  cases r with
  | nil => simp [gscons] at e
  | cons r rs =>
    rename_i v x vs xs
    unfold gscons at e
    cases e1 : g x m S with
    | none => simp [e1] at e
    | some q =>
      obtain ⟨m1, S1⟩ := q
      simp only [e1] at e
      refine ⟨v, vs, rfl, h w S m σ H v x _ m1 S1 s l r e1 fun w1 σ1 H1 l1 s1 r1 b1 => ?_⟩
      exact h2 w1 S1 m1 σ1 H1 vs xs Q m' S' s1 r1 (AllM.mono l1.le rs) e fun w2 σ2 H2 l2 s2 r2 b2 => k w2 σ2 H2 (l1.trans s1 l2) s2 r2 (b1.trans b2)
theorem ggs_cons {tg : Expr} {ts : List Expr} {g : GM} {gs : GMs} {t : TG} {us : TGs} {js ks : List Nat} (h : GG X tg g t js) (h2 : GGs X ts gs us ks)
    (hs : (assignEach (tg :: ts) X.env).map (·.2) = assign tg X.env :: (assignEach ts X.env).map (·.2) := by rfl) : GGs X (tg :: ts) (gscons g gs) (gCons t us) (js ++ ks) := ⟨pgs_cons h.pg h2.pg hs, goks_cons h.ok h2.ok⟩
def gtup (n : Nat) (gs : GMs) : GM := fun x m S => match x with
  | .seq true xs => if xs.length = n then gs xs m S else none
  | x => match look S x with
    | some (.tuple ds) => if ds.length = n then gs (ds.map MV.dat) m S else none
    | _ => none
theorem gok_tup {n : Nat} {gs : GMs} {ts : TGs} {js : List Nat} (h : gOks X gs ts js) : gOk X (gtup n gs) (gTup X.K n ts) js := by
  intro w S m σ H v x Q m' S' s l r e kk
  unfold gtup at e
  split at e
  · rename_i xs
    split at e
    · rename_i hl
      obtain ⟨a, vs, rfl, h1, h2⟩ := r
      have h2' := h2.all
      exact ⟨a, vs, rfl, sqt_ext s.le h1, (Paired.length h2').trans hl, h w S m σ H vs _ Q m' S' s l h2' e kk⟩
    · cases e
  · split at e
    · rename_i ds e1
      split at e
      · rename_i hl
        obtain ⟨a, vs, rfl, h1, h2⟩ := look_tup s r e1
        exact ⟨a, vs, rfl, h1, (dpAll_len h2).trans hl, h w S m σ H vs _ Q m' S' s l (dat_all h2) e kk⟩
      · cases e
    · cases e
theorem gg_tup {es : List Expr} {k n : Nat} {gs : GMs} {ts : TGs} {js : List Nat} {pos : Pos} (hc : X.calm = true) (h : GGs X es gs ts js) (hn : (assignEach es X.env).length = n := by rfl) (hst : (assignEach es X.env).findIdx? (·.1) = none := by rfl) :
    GG X (.Tuple es k pos) (gtup n gs) (gTup X.K n ts) js := by
  exact ⟨pg_tup hc h.pg hn hst, gok_tup h.ok⟩
/-- x = e, a, b = e -/
def masg (f : EM) (g : GM) : SM := fun m S => (f m S).go m fun x S1 => match g x m S1 with
  | some (m1, S2) => .next m1 S2
  | none => .bad
theorem wp_asg {f : EM} {g : GM} {t : TG} {js : List Nat} (hg : gOk X g t js) {D : Ends} {σ : St} {H : Hp} (q : wpS X.K X.mg W (masg f g) D σ H) : tAsg (wpE X.K X.mg W f) t D σ H := by
  obtain ⟨w, S, m, s, l, p⟩ := q
  refine ⟨w, S, m, s, l, (PSt.go l p).imp fun w1 S1 H1 x l1 s1 p1 v rv => ?_⟩
  cases e : g x m S1 with
  | none => simp only [e] at p1; exact p1.elim
  | some z =>
    obtain ⟨m1, S2⟩ := z
    simp only [e] at p1
    exact hg w1 S1 m σ H1 v x D.nx m1 S2 s1 (l.mono l1.le) rv e fun w' σ' H' a b c _ => p1 w' σ' H' a b c
theorem gs_set {i : Nat} {x : Str} {e : Expr} {f : EM} {pos pos' : Pos} (hN : X.N.Nodup) (hi : X.N[i]? = some x) (hx : Loc X.env.scope x) (he : GE X W e f) (hs : swapsWith e (some (.Name x pos')) pos.line X.env = pure false := by rfl)
    (hf : X.fn x = true ∨ X.env.scope.names.lookup x = some .local := by first | exact .inl rfl | exact .inr rfl | assumption) : GS X W (.Assign [.Name x pos'] e pos) (masg f (gset i)) :=
  PS.imp (ps_set hN hi hx he hs hf) fun D σ H q => wp_asg (gg_name (X := X) i (pos := pos') (x := x) (pg_name hN hi hx hf)).ok q
theorem gs_asg {tg e : Expr} {f : EM} {g : GM} {t : TG} {js : List Nat} {pos : Pos} (he : GE X W e f) (hg : GG X tg g t js) (hs : swapsWithSole [tg] e pos.line X.env = pure false := by rfl) (hw : swappedStores [tg] e X.env = pure none := by rfl)
    (h1 : (assignEach [tg] X.env).map (·.2) = [assign tg X.env] := by rfl) : GS X W (.Assign [tg] e pos) (masg f g) :=
  PS.imp (ps_asg he hg.pg hs hw h1) fun D σ H q => wp_asg hg.ok q
/-- a, b = x, y -/
def mpar (i j : Nat) (fa : AM) : SM := fun m S => (fa m S).go m fun xs S1 => match xs with
  | [x, y] => .next ((m.set i (some x)).set j (some y)) S1
  | _ => .bad
theorem gs_par {i j : Nat} {x y : Str} {a b : Expr} {fa : AM} {px py pt pos : Pos} {kt k2 : Nat} {pt2 : Pos} (hc : X.calm = true) (hN : X.N.Nodup) (hi : X.N[i]? = some x) (hj : X.N[j]? = some y) (hij : i ≠ j)
    (hx : X.env.scope.names.lookup x = some .local) (hy : X.env.scope.names.lookup y = some .local) (ha : GA X W [a, b] fa)
    (hw : swappedStores [.Tuple [.Name x px, .Name y py] kt pt] (.Tuple [a, b] k2 pt2) X.env = pure (some [x, y]))
    (hs : swapsWithSole [.Tuple [.Name x px, .Name y py] kt pt] (.Tuple [a, b] k2 pt2) pos.line X.env = pure false := by rfl) :
    GS X W (.Assign [.Tuple [.Name x px, .Name y py] kt pt] (.Tuple [a, b] k2 pt2) pos) (mpar i j fa) := by
  refine PS.imp (ps_par hc hN hi hj hij hx hy ha hw hs) fun D σ H q => ?_
  obtain ⟨w, S, m, s, l, p⟩ := q
  refine ⟨w, S, m, s, l, (PSt.go l p).imp fun w1 S1 H1 xs l1 s1 p1 vs rs => ?_⟩
  split at p1
  · cases rs with
    | cons r1 t =>
      cases t with
      | cons r2 t2 =>
        cases t2
        rename_i v u
        exact ⟨v, u, rfl, p1 w1 _ H1 (Lx.refl _ _) s1 (((l.mono l1.le).set (a := some v) (b := some _) r1 i).set (a := some u) (b := some _) r2 j)⟩
  · exact p1.elim
/-- o[i] = e of a cell -/
def msetix (f o i : EM) : SM := fun m S => (f m S).go m fun v S1 => (o m S1).go m fun x S2 => (i m S2).go m fun y S3 => match x, y with
  | .cell c, .dat (.int k) => match S3[c]? with
    | some (.lst xs) => match ixN xs.length k with
      | some j => .next m (S3.set c (.lst (xs.set j v)))
      | none => .bad
    | _ => .bad
  | _, _ => .bad
theorem allM_set {K : PySem.W.Frag} {mg : Str → Option Value} {w : Wd} {v : V} {x : MV} (r : RelM K mg w v x) : ∀ {vs : List V} {xs : List MV} (j : Nat), AllM K mg w vs xs → AllM K mg w (vs.set j v) (xs.set j x)
  | _, _, _, .nil => .nil
  | _, _, 0, .cons _ t => .cons r t
  | _, _, j + 1, .cons q t => .cons q (allM_set r j t)
theorem gs_setix {e o i : Expr} {f fo fi : EM} {pos pos' : Pos} (he : GE X W e f) (ho : GE X W o fo) (hi : GE X W i fi) (hpg : PG X (.Subscript o i pos') (gSub (wpE X.K X.mg W fo) (wpE X.K X.mg W fi) rSetL))
    (hs : swapsWithSole [.Subscript o i pos'] e pos.line X.env = pure false := by rfl) (hw : swappedStores [.Subscript o i pos'] e X.env = pure none := by rfl)
    (h1 : (assignEach [.Subscript o i pos'] X.env).map (·.2) = [assign (.Subscript o i pos') X.env] := by rfl) : GS X W (.Assign [.Subscript o i pos'] e pos) (msetix f fo fi) := by
  refine PS.imp (ps_asg he hpg hs hw h1) fun D σ H q => ?_
  obtain ⟨w, S, m, s, l, p⟩ := q
  refine ⟨w, S, m, s, l, (PSt.go l p).imp fun w1 S1 H1 x l1 s1 p1 v rv => ?_⟩
  refine ⟨w1, S1, m, s1, l.mono l1.le, (PSt.go (l.mono l1.le) p1).imp fun w2 S2 H2 y l2 s2 p2 u ru => ?_⟩
  refine ⟨w2, S2, m, s2, l.mono (l1.le.trans l2.le), (PSt.go (l.mono (l1.le.trans l2.le)) p2).imp fun w3 S3 H3 z l3 s3 p3 t rt => ?_⟩
  split at p3
  · rename_i c k
    split at p3
    · rename_i xs e1
      split at p3
      · rename_i j e2
        obtain ⟨hc, rfl⟩ := ru.mono l3.le
        have rt' : Dp X.K w3.B t (.int k) := rt
        obtain rfl := dp_inv_int rt'
        obtain ⟨hB, vs, h1, h2⟩ := s3.obj c _ e1
        refine ⟨_, vs, k, j, rfl, rfl, h1, by rw [Paired.length h2]; exact e2, ?_⟩
        exact p3 w3 σ _ (set_lx hc) (set_cell s3 e1 (allM_set (rv.mono (l2.le.trans l3.le)) j h2)) (l.mono (l1.le.trans (l2.le.trans l3.le)))
      · exact p3.elim
    · exact p3.elim
  · exact p3.elim

/-! ### what is walked -/
def ItR (K : PySem.W.Frag) (mg : Str → Option Value) (w : Wd) (J : It) (xs : List MV) : Prop := ∀ (i : Nat) (w' : Wd) (S' : Sto) (H' : Hp), Le w w' → Sim K mg w' S' H' →
  (∀ x, xs[i]? = some x → J.go i H' ∧ ∀ v H2, J.yld i H' v H2 → ∃ w2, Lx w' H' w2 H2 ∧ Sim K mg w2 S' H2 ∧ RelM K mg w2 v x) ∧ (xs.length ≤ i → J.stop i H')
abbrev Fi (K : PySem.W.Frag) (mg : Str → Option Value) (R : It → Hp → Prop) : Wd → Sto → Hp → List MV → Prop := fun w _ H xs => ∀ J, ItR K mg w J xs → R J H
abbrev wpI (K : PySem.W.Frag) (mg : Str → Option Value) (W : WX) (f : AM) : TI := wpG K mg W (Fi K mg) f
abbrev GI (X : Cx) (W : WX) (tg iter : Expr) (f : AM) : Prop := PI X tg iter (wpI X.K X.mg W f)
theorem PI.imp {tg iter : Expr} {t t' : TI} (h : PI X tg iter t) (k : ∀ σ H R, t' σ H R → t σ H R) : PI X tg iter t' := ⟨fun pins s σ H R I q => h.run pins s σ H R I (k σ H R q)⟩
theorem PI.or {tg iter : Expr} {t t' : TI} (h : PI X tg iter t) (h' : PI X tg iter t') : PI X tg iter (fun σ H R => t σ H R ∨ t' σ H R) :=
  ⟨fun pins s σ H R I q => q.elim (h.run pins s σ H R I) (h'.run pins s σ H R I)⟩
def signs (z : Str) : List MV := z.cps.toList.map fun c => MV.dat (.str ⟨#[c]⟩)
def iterOf (x : MV) (S : Sto) : Res (List MV) := match x with
  | .seq _ xs => .ok xs S
  | x => match fz S x with
    | some (.list ds, S1) => .ok (ds.map MV.dat) S1
    | some (.tuple ds, S1) => .ok (ds.map MV.dat) S1
    | some (.str z, S1) => .ok (signs z) S1
    | _ => .bad
def miter (f : EM) : AM := fun m S => (f m S).bind fun x S1 => iterOf x S1
theorem dat_get {ds : List PyData} {i : Nat} {x : MV} (e : (ds.map MV.dat)[i]? = some x) : ∃ d, ds[i]? = some d ∧ x = .dat d := by
  rw [List.getElem?_map] at e
  cases h : ds[i]? with
  | none => rw [h] at e; cases e
  | some d =>
    rw [h] at e
    exact ⟨d, rfl, (Option.some.inj e).symm⟩
theorem itr_list {K : PySem.W.Frag} {mg : Str → Option Value} {w : Wd} {a : Addr} {ds : List PyData} (h : Dp K w.B (.ref a) (.list ds)) : ItR K mg w (Itl K a) (ds.map MV.dat) := by
  intro i w' S' H' l s
  cases h with
  | lst h1 h2 =>
    rename_i vs
    have h1' : SqL K H' a vs := sql_ext s.le (sql_ext l.1 h1)
    refine ⟨fun x e => ?_, fun hl => ⟨vs, h1', by rw [dpAll_len h2]; rw [List.length_map] at hl; exact hl⟩⟩
    obtain ⟨d, e1, rfl⟩ := dat_get e
    obtain ⟨v, e2, e3⟩ := dpAll_get h2 e1
    refine ⟨⟨vs, v, h1', e2⟩, fun u H2 hy => ?_⟩
    obtain ⟨rfl, hy⟩ := hy
    have : v = u := Option.some.inj ((e2.symm.trans (hy vs h1')))
    subst this
    exact ⟨w', Lx.refl _ _, s, dp_ext l.1 _ _ e3⟩
theorem itr_tup {K : PySem.W.Frag} {mg : Str → Option Value} {w : Wd} {a : Addr} {ds : List PyData} (h : Dp K w.B (.ref a) (.tuple ds)) : ItR K mg w (Itt K a) (ds.map MV.dat) := by
  intro i w' S' H' l s
  cases h with
  | tup h1 h2 =>
    rename_i vs
    have h1' : SqT K H' a vs := sqt_ext s.le (sqt_ext l.1 h1)
    refine ⟨fun x e => ?_, fun hl => ⟨vs, h1', by rw [dpAll_len h2]; rw [List.length_map] at hl; exact hl⟩⟩
    obtain ⟨d, e1, rfl⟩ := dat_get e
    obtain ⟨v, e2, e3⟩ := dpAll_get h2 e1
    refine ⟨⟨vs, v, h1', e2⟩, fun u H2 hy => ?_⟩
    obtain ⟨rfl, hy⟩ := hy
    have : v = u := Option.some.inj ((e2.symm.trans (hy vs h1')))
    subst this
    exact ⟨w', Lx.refl _ _, s, dp_ext l.1 _ _ e3⟩
theorem itr_seq {K : PySem.W.Frag} {mg : Str → Option Value} {w : Wd} {a : Addr} {vs : List V} {xs : List MV} (h1 : SqL K w.B a vs) (h2 : AllM K mg w vs xs) : ItR K mg w (Itl K a) xs := by
  intro i w' S' H' l s
  have h1' : SqL K H' a vs := sql_ext s.le (sql_ext l.1 h1)
  refine ⟨fun x e => ?_, fun hl => ⟨vs, h1', by rw [Paired.length h2]; exact hl⟩⟩
  obtain ⟨v, e2, e3⟩ := allM_get h2 e
  refine ⟨⟨vs, v, h1', e2⟩, fun u H2 hy => ?_⟩
  obtain ⟨rfl, hy⟩ := hy
  have : v = u := Option.some.inj ((e2.symm.trans (hy vs h1')))
  subst this
  exact ⟨w', Lx.refl _ _, s, e3.mono l⟩
theorem itr_seqT {K : PySem.W.Frag} {mg : Str → Option Value} {w : Wd} {a : Addr} {vs : List V} {xs : List MV} (h1 : SqT K w.B a vs) (h2 : AllM K mg w vs xs) : ItR K mg w (Itt K a) xs := by
  intro i w' S' H' l s
  have h1' : SqT K H' a vs := sqt_ext s.le (sqt_ext l.1 h1)
  refine ⟨fun x e => ?_, fun hl => ⟨vs, h1', by rw [Paired.length h2]; exact hl⟩⟩
  obtain ⟨v, e2, e3⟩ := allM_get h2 e
  refine ⟨⟨vs, v, h1', e2⟩, fun u H2 hy => ?_⟩
  obtain ⟨rfl, hy⟩ := hy
  have : v = u := Option.some.inj ((e2.symm.trans (hy vs h1')))
  subst this
  exact ⟨w', Lx.refl _ _, s, e3.mono l⟩
theorem itr_str {K : PySem.W.Frag} {mg : Str → Option Value} {w : Wd} {z : Str} : ItR K mg w (Its z) (signs z) := by
  intro i w' S' H' l s
  refine ⟨fun x e => ?_, fun hl => ?_⟩
  · unfold signs at e
    rw [List.getElem?_map] at e
    cases h : z.cps.toList[i]? with
    | none => rw [h] at e; cases e
    | some c =>
      rw [h] at e
      have e' : x = .dat (.str ⟨#[c]⟩) := (Option.some.inj e).symm
      subst e'
      have hc : z.cps[i]? = some c := by rw [← Array.getElem?_toList]; exact h
      refine ⟨(Array.getElem?_eq_some_iff.mp hc).1, fun u H2 hy => ?_⟩
      obtain ⟨rfl, c', hc', rfl⟩ := hy
      rw [hc] at hc'
      obtain rfl := Option.some.inj hc'
      exact ⟨w', Lx.refl _ _, s, Dp.str _⟩
  · show z.cps.size ≤ i
    unfold signs at hl
    rw [List.length_map, Array.length_toList] at hl
    exact hl
theorem gi_val {tg e : Expr} {f : EM} (h : GE X W e f) : GI X W tg e (miter f) := by
  refine PI.imp (PI.or (pi_list h) (PI.or (pi_tup h) (pi_str h))) fun σ H R q => ?_
  obtain ⟨w, S, m, s, l, p⟩ := q
  unfold miter at p
  cases ef : f m S with
  | bad => rw [ef] at p; exact p.elim
  | exc c d S1 =>
    rw [ef] at p
    exact .inl ⟨w, S, m, s, l, by rw [ef]; exact p⟩
  | ok x S1 =>
    rw [ef] at p
    have p' : Pst X.K X.mg w H σ W (Fi X.K X.mg R) (iterOf x S1) := p
    unfold iterOf at p'
    split at p'
    · rename_i t xs
      cases t with
      | false =>
        refine .inl ⟨w, S, m, s, l, ?_⟩
        rw [ef]
        intro w1 H1 l1 s1 v rv
        obtain ⟨a, vs, rfl, h1, h2⟩ := rv
        exact ⟨_, rfl, ⟨_, sql_ext s1.le h1⟩, p' w1 H1 l1 s1 _ (itr_seq h1 h2.all)⟩
      | true =>
        refine .inr (.inl ⟨w, S, m, s, l, ?_⟩)
        rw [ef]
        intro w1 H1 l1 s1 v rv
        obtain ⟨a, vs, rfl, h1, h2⟩ := rv
        exact ⟨_, rfl, ⟨_, sqt_ext s1.le h1⟩, p' w1 H1 l1 s1 _ (itr_seqT h1 h2.all)⟩
    split at p'
    · rename_i ds S2 e1
      refine .inl ⟨w, S, m, s, l, ?_⟩
      rw [ef]
      intro w1 H1 l1 s1 v rv
      obtain ⟨w2, l2, s2, d2⟩ := fz_ok s1 rv e1
      cases d2 with
      | lst h1 h2 => exact ⟨_, rfl, ⟨_, sql_ext s2.le h1⟩, p' w2 H1 (l1.trans s1 l2) s2 _ (itr_list (.lst h1 h2))⟩
    · rename_i ds S2 e1
      refine .inr (.inl ⟨w, S, m, s, l, ?_⟩)
      rw [ef]
      intro w1 H1 l1 s1 v rv
      obtain ⟨w2, l2, s2, d2⟩ := fz_ok s1 rv e1
      cases d2 with
      | tup h1 h2 => exact ⟨_, rfl, ⟨_, sqt_ext s2.le h1⟩, p' w2 H1 (l1.trans s1 l2) s2 _ (itr_tup (.tup h1 h2))⟩
    · rename_i z S2 e1
      refine .inr (.inr ⟨w, S, m, s, l, ?_⟩)
      rw [ef]
      intro w1 H1 l1 s1 v rv
      obtain ⟨w2, l2, s2, d2⟩ := fz_ok s1 rv e1
      cases d2 with
      | str x => exact ⟨_, rfl, p' w2 H1 (l1.trans s1 l2) s2 _ itr_str⟩
    · exact p'.elim
/-! ranges -/
def nums (lo : Int) : Nat → List MV
  | 0 => []
  | n + 1 => .dat (.int lo) :: nums (lo + 1) n
theorem nums_len (lo : Int) : ∀ n, (nums lo n).length = n
  | 0 => rfl
  | n + 1 => by simp [nums, nums_len (lo + 1) n]
theorem nums_get : ∀ (n : Nat) (lo : Int) (i : Nat), i < n → (nums lo n)[i]? = some (.dat (.int (lo + i)))
  | 0, _, _, h => absurd h (Nat.not_lt_zero _)
  | n + 1, lo, 0, _ => by simp [nums]
  | n + 1, lo, i + 1, h => by
    have := nums_get n (lo + 1) i (by omega)
    simp only [nums, List.getElem?_cons_succ, this]
    congr 3
    omega
theorem itr_rng {K : PySem.W.Frag} {mg : Str → Option Value} {w : Wd} {lo : Int} {n : Nat} : ItR K mg w (Itr lo n) (nums lo n) := by
  intro i w' S' H' l s
  refine ⟨fun x e => ?_, fun hl => by rw [nums_len] at hl; exact hl⟩
  have hi : i < n := by
    have := (List.getElem?_eq_some_iff.mp e).1
    rw [nums_len] at this
    exact this
  rw [nums_get n lo i hi] at e
  obtain rfl := Option.some.inj e
  refine ⟨hi, fun u H2 hy => ?_⟩
  obtain ⟨rfl, rfl⟩ := hy
  exact ⟨w', Lx.refl _ _, s, Dp.int _⟩
def smallI (i : Int) : Bool := decide (-(2 ^ 62) ≤ i ∧ i < 2 ^ 62)
def mrng1 (fa : AM) : AM := fun m S => (fa m S).bind fun xs S1 => match xs with
  | [.dat (.int j)] => if smallI j = true then .ok (nums 0 j.toNat) S1 else .bad
  | _ => .bad
def mrng2 (fa : AM) : AM := fun m S => (fa m S).bind fun xs S1 => match xs with
  | [.dat (.int i), .dat (.int j)] => if smallI i = true ∧ smallI j = true then .ok (nums i (j - i).toNat) S1 else .bad
  | _ => .bad
theorem all1 {K : PySem.W.Frag} {mg : Str → Option Value} {w : Wd} {vs : List V} {x : MV} (h : AllM K mg w vs [x]) : ∃ v, vs = [v] ∧ RelM K mg w v x := by
  cases h with
  | cons r t =>
    cases t
    exact ⟨_, rfl, r⟩
theorem all2 {K : PySem.W.Frag} {mg : Str → Option Value} {w : Wd} {vs : List V} {x y : MV} (h : AllM K mg w vs [x, y]) : ∃ v u, vs = [v, u] ∧ RelM K mg w v x ∧ RelM K mg w u y := by
  cases h with
  | cons r t =>
    obtain ⟨u, rfl, r2⟩ := all1 t
    exact ⟨_, _, rfl, r, r2⟩
theorem rel_int {K : PySem.W.Frag} {mg : Str → Option Value} {w : Wd} {v : V} {i : Int} (h : RelM K mg w v (.dat (.int i))) : v = .int i := by
  have h' : Dp K w.B v (.int i) := h
  exact dp_inv_int h'
theorem rel_str {K : PySem.W.Frag} {mg : Str → Option Value} {w : Wd} {v : V} {i : Str} (h : RelM K mg w v (.dat (.str i))) : v = .str i := by
  have h' : Dp K w.B v (.str i) := h
  exact dp_inv_str h'
theorem gi_rng1 {tg a : Expr} {fa : AM} {p pos : Pos} (hg : Gl X "range") (hm : X.mg "range" = none) (ha : GA X W [a] fa) (hs : starEach [a] X.env = [(false, eval a X.env)] := by rfl) : GI X W tg (.Call (.Name "range" p) [a] [] pos) (mrng1 fa) := by
  refine PI.imp (pi_range1 hg hm ha hs) fun σ H R q => ?_
  obtain ⟨w, S, m, s, l, p⟩ := q
  refine ⟨w, S, m, s, l, (Pst.bind p).imp fun w1 S1 H1 xs l1 s1 p1 vs rs => ?_⟩
  split at p1
  · split at p1
    · rename_i j hj
      obtain ⟨v, rfl, r⟩ := all1 rs
      obtain rfl := rel_int r
      have hj' := of_decide_eq_true hj
      have z := pst_ok (σ := σ) (W := W) s1 p1
      exact ⟨j, rfl, hj'.1, hj'.2, z _ itr_rng⟩
    · exact p1.elim
  · exact p1.elim
theorem gi_rng2 {tg a b : Expr} {fa : AM} {p pos : Pos} (hg : Gl X "range") (hm : X.mg "range" = none) (ha : GA X W [a, b] fa) (hs : starEach [a, b] X.env = [(false, eval a X.env), (false, eval b X.env)] := by rfl) (hs2 : starEach [b] X.env = [(false, eval b X.env)] := by rfl) :
    GI X W tg (.Call (.Name "range" p) [a, b] [] pos) (mrng2 fa) := by
  refine PI.imp (pi_range2 hg hm ha hs hs2) fun σ H R q => ?_
  obtain ⟨w, S, m, s, l, p⟩ := q
  refine ⟨w, S, m, s, l, (Pst.bind p).imp fun w1 S1 H1 xs l1 s1 p1 vs rs => ?_⟩
  split at p1
  · split at p1
    · rename_i i j hj
      obtain ⟨v, u, rfl, r, r2⟩ := all2 rs
      obtain rfl := rel_int r
      obtain rfl := rel_int r2
      have h1 := of_decide_eq_true hj.1
      have h2 := of_decide_eq_true hj.2
      have z := pst_ok (σ := σ) (W := W) s1 p1
      exact ⟨i, j, rfl, ⟨h1.1, h1.2, h2.1, h2.2⟩, z _ itr_rng⟩
    · exact p1.elim
  · exact p1.elim

/-! ### for -/
def mforGo (g : GM) (b : SM) : List MV → SM
  | [] => fun m S => .next m S
  | x :: xs => fun m S => match g x m S with
    | none => .bad
    | some (m1, S1) => (b m1 S1).and (mforGo g b xs)
def mfor (it : AM) (g : GM) (b : SM) : SM := fun m S => (it m S).go m fun xs S1 => mforGo g b xs m S1
theorem gs_for {tg iter : Expr} {body : List Stmt} {it : AM} {g : GM} {t : TG} {js : List Nat} {b : SM} {pos : Pos} (hp : PassesOwn (model X.prog X.w) X.A X.env X.xe) (hc : X.calm = true) (hi : GI X W tg iter it) (hg : GG X tg g t js) (hb : GB X W body b)
    (hs : ∀ x, foldedSetIterable iter X.env x = pure x := by intro _; rfl) : GS X W (.For tg iter body [] pos) (mfor it g b) := by
  refine PS.imp (ps_for hp hc hi hg.pg hb hs) fun D σ H q => ?_
  obtain ⟨w, S, m, s, l, p⟩ := q
  refine ⟨w, S, m, s, l, (PSt.go l p).imp fun w1 S1 H1 xs l1 s1 p1 J hJ => ?_⟩
  refine ⟨fun i k σ' H' => i + k = xs.length ∧ ∃ w2 S2 m2, Le w1 w2 ∧ Sim X.K X.mg w2 S2 H' ∧ SlR X.K X.mg w2 σ' m2 ∧ PSt X.K X.mg w2 H' D W (mforGo g b (xs.drop i) m2 S2),
    ⟨xs.length, Nat.zero_add _, w1, S1, m, Le.refl _, s1, l.mono l1.le, p1⟩, fun i k σ' H' hw => ?_⟩
  obtain ⟨hik, w2, S2, m2, l2, s2, r2, p2⟩ := hw
  by_cases hi : i < xs.length
  · have ex : xs[i]? = some xs[i] := List.getElem?_eq_getElem hi
    obtain ⟨hgo, hy⟩ := (hJ i w2 S2 H' l2 s2).1 _ ex
    refine .inr ⟨hgo, fun σ3 H3 => ∃ w3 S3 m3, Le w1 w3 ∧ Sim X.K X.mg w3 S3 H3 ∧ SlR X.K X.mg w3 σ3 m3 ∧ PSt X.K X.mg w3 H3 D W (mforGo g b (xs.drop (i + 1)) m3 S3), fun σ3 H3 h => ⟨k - 1, by omega, by omega, h⟩, fun v H3 hv => ?_⟩
    obtain ⟨w3, l3, s3, r3⟩ := hy v H3 hv
    have p3 : PSt X.K X.mg w3 H3 D W (mforGo g b (xs.drop i) m2 S2) := p2.mono l3 s3
    rw [List.drop_eq_getElem_cons hi] at p3
    unfold mforGo at p3
    cases eg : g xs[i] m2 S2 with
    | none => simp only [eg] at p3; exact p3.elim
    | some z =>
      obtain ⟨m4, S4⟩ := z
      simp only [eg] at p3
      refine hg.ok w3 S2 m2 σ' H3 v xs[i] _ m4 S4 s3 (r2.mono l3.le) r3 eg fun w4 σ4 H4 l4 s4 r4 _ => ?_
      refine ⟨w4, S4, m4, s4, r4, ?_⟩
      have p4 := p3.mono l4 s4
      cases eb : b m4 S4 with
      | next m5 S5 =>
        rw [eb] at p4
        exact fun w5 σ5 H5 l5 s5 r5 => ⟨w5, S5, m5, l2.trans (l3.le.trans (l4.le.trans l5.le)), s5, r5, PSt.mono (r := mforGo g b (xs.drop (i + 1)) m5 S5) l5 s5 p4⟩
      | ret x S5 => rw [eb] at p4; exact p4
      | exc c d m5 S5 => rw [eb] at p4; exact p4
      | bad => rw [eb] at p4; exact p4
  · refine .inl ⟨(hJ i w2 S2 H' l2 s2).2 (Nat.not_lt.mp hi), ?_⟩
    rw [List.drop_eq_nil_of_le (Nat.not_lt.mp hi)] at p2
    exact p2 w2 σ' H' (Lx.refl _ _) s2 r2
/-! ### while, with fuel -/
def mwhileGo (t : TM) (b : SM) : Nat → SM
  | 0 => fun _ _ => .bad
  | n + 1 => fun m S => (t m S).go m fun c S1 => if c then (b m S1).and (mwhileGo t b n) else .next m S1
def mwhile (n : Nat) (t : TM) (b : SM) : SM := mwhileGo t b n
theorem gs_while (n : Nat) {c : Expr} {body : List Stmt} {t : TM} {b : SM} {pos : Pos} (hp : PassesOwn (model X.prog X.w) X.A X.env X.xe) (hc : GT X W c t) (hb : GB X W body b) : GS X W (.While c body [] pos) (mwhile n t b) := by
  refine PS.imp (ps_while hp hc hb) fun D σ H q => ?_
  obtain ⟨w, S, m, s, l, p⟩ := q
  refine ⟨fun k σ' H' => ∃ w2 S2 m2, Le w w2 ∧ Sim X.K X.mg w2 S2 H' ∧ SlR X.K X.mg w2 σ' m2 ∧ PSt X.K X.mg w2 H' D W (mwhileGo t b k m2 S2), ⟨n, w, S, m, Le.refl _, s, l, p⟩, fun k σ' H' hw => ?_⟩
  obtain ⟨w2, S2, m2, l2, s2, r2, p2⟩ := hw
  cases k with
  | zero => exact p2.elim
  | succ k =>
    refine ⟨w2, S2, m2, s2, r2, (PSt.go r2 p2).imp fun w3 S3 H3 c l3 s3 p3 => ?_⟩
    cases c with
    | false => exact p3 w3 σ' H3 (Lx.refl _ _) s3 (r2.mono l3.le)
    | true =>
      refine ⟨fun σ4 H4 => ∃ w4 S4 m4, Le w w4 ∧ Sim X.K X.mg w4 S4 H4 ∧ SlR X.K X.mg w4 σ4 m4 ∧ PSt X.K X.mg w4 H4 D W (mwhileGo t b k m4 S4), fun σ4 H4 h => ⟨k, Nat.lt_succ_self k, h⟩, w3, S3, m2, s3, r2.mono l3.le, ?_⟩
      have p4 : PSt X.K X.mg w3 H3 D W ((b m2 S3).and (mwhileGo t b k)) := p3
      cases eb : b m2 S3 with
      | next m5 S5 =>
        rw [eb] at p4
        exact fun w5 σ5 H5 l5 s5 r5 => ⟨w5, S5, m5, l2.trans (l3.le.trans l5.le), s5, r5, PSt.mono (r := mwhileGo t b k m5 S5) l5 s5 p4⟩
      | ret x S5 => rw [eb] at p4; exact p4
      | exc c d m5 S5 => rw [eb] at p4; exact p4
      | bad => rw [eb] at p4; exact p4
end
end PX
end

section
set_option Elab.async false
set_option linter.all false
set_option maxRecDepth 100000
set_option maxHeartbeats 4000000
namespace PX
open PySem PySem.Spec PyProof.Rows L2

/-! ### targets, for a comprehension's block: what a store does, with no context -/
theorem wipe_but {js vs : List Nat} (hj : ∀ j ∈ js, j ∈ vs) {σ σ2 : St} (h : ButAt js (wipe σ vs) σ2) : wipe σ2 vs = wipe σ vs := by
  have wn : ∀ {τ : St} {i : Nat} {us : List Nat}, i ∈ us → i < τ.length → (wipe τ us)[i]? = some none := by
    intro τ i us
    induction us with
    | nil => intro h; cases h
    | cons u us ih =>
      intro hi hl
      unfold wipe
      by_cases e : u = i
      · subst e
        rw [List.getElem?_set_self (by rw [wipe_length]; exact hl)]
      · rw [List.getElem?_set_ne e]
        exact ih ((List.mem_cons.mp hi).resolve_left fun z => e z.symm) hl
  have hlen : σ2.length = σ.length := by rw [h.1, wipe_length]
  refine List.ext_getElem? fun i => ?_
  by_cases hi : i ∈ vs
  · by_cases hl : i < σ.length
    · rw [wn hi (by rw [hlen]; exact hl), wn hi hl]
    · rw [List.getElem?_eq_none (by rw [wipe_length, hlen]; exact Nat.not_lt.mp hl), List.getElem?_eq_none (by rw [wipe_length]; exact Nat.not_lt.mp hl)]
  · rw [wipe_out hi, h.2 i fun z => hi (hj i z)]
def mwipe (m : Sl) : List Nat → Sl
  | [] => m
  | v :: vs => (mwipe m vs).set v none
theorem slr_wipe {K : PySem.W.Frag} {mg : Str → Option Value} {w : Wd} {σ : St} {m : Sl} (h : SlR K mg w σ m) : ∀ vs, SlR K mg w (wipe σ vs) (mwipe m vs)
  | [] => h
  | v :: vs => (slr_wipe h vs).set (a := none) (b := none) trivial v

theorem paired_snoc {α β : Type} {R : α → β → Prop} {a : α} {b : β} (r : R a b) : ∀ {as : List α} {bs : List β}, Paired R as bs → Paired R (as ++ [a]) (bs ++ [b])
  | _, _, .nil => .cons r .nil
  | _, _, .cons q t => .cons q (paired_snoc r t)
/-! ### comprehensions -/
def Res.nox {α : Type} (r : Res α) : Res α := match r with
  | .exc _ _ _ => .bad
  | r => r
def mlcGo (g : GM) (t : TM) (e : EM) (m : Sl) : List MV → List MV → AM
  | [], acc => fun _ S => .ok acc S
  | x :: xs, acc => fun m0 S => match g x m S with
    | none => .bad
    | some (m1, S1) => (t m1 S1).nox.bind fun b S2 => if b then (e m1 S2).nox.bind fun y S3 => mlcGo g t e m xs (acc ++ [y]) m0 S3 else mlcGo g t e m xs acc m0 S2
def mlcAll (it : AM) (g : GM) (t : TM) (e : EM) (vs : List Nat) : AM := fun m S => (it m S).bind fun xs S1 => if xs.length ≤ 16777216 then mlcGo g t e (mwipe m vs) xs [] m S1 else .bad
/-- as persistent data -/
def mlc (it : AM) (g : GM) (t : TM) (e : EM) (vs : List Nat) : EM := fun m S => (mlcAll it g t e vs m S).bind fun ys S1 => match fzAll S1 ys with
  | some (ds, S2) => .ok (.dat (.list ds)) S2
  | none => .bad
/-- as a list that may be changed -/
def mlcC (it : AM) (g : GM) (t : TM) (e : EM) (vs : List Nat) : EM := fun m S => (mlcAll it g t e vs m S).bind fun ys S1 => .ok (.cell S1.length) (S1 ++ [.lst ys])

section
variable {K : PySem.W.Frag} {mg : Str → Option Value}
/-- a list D that is tracked, held by nothing and no cell -/
structure Limb (w : Wd) (H : Hp) (D : Addr) : Prop where
  b : w.B D = none
  r : ∀ i, i < w.n → w.r i ≠ D
theorem limb_new {w : Wd} {S : Sto} {H : Hp} (s : Sim K mg w S H) {D : Addr} (hD : H D = none) : Limb w H D := ⟨free_B s hD, sim_ne s hD⟩
theorem limb_lx {w w' : Wd} {H H' : Hp} {D : Addr} {o : HO} (l : Lx w H w' H') (k : Limb w H D) (e : H D = some o) : Limb w' H' D ∧ H' D = some o := by
  refine ⟨⟨l.old D o e k.r k.b, fun i hi => ?_⟩, l.keep D o e k.r⟩
  by_cases h : i < w.n
  · rw [l.le.2.2 i h]; exact k.r i h
  · intro z
    have := l.new i (Nat.not_lt.mp h) hi
    rw [z, e] at this
    cases this
theorem limb_sim {w : Wd} {S : Sto} {H : Hp} {D : Addr} {o : HO} (s : Sim K mg w S H) (k : Limb w H D) : Sim K mg w S (upd H D o) := by
  refine ⟨s.n, fun a u e => ?_, s.inj, fun i o e => ?_⟩
  · rw [upd_ne (ne_of_none e k.b)]
    exact s.le _ _ e
  · have hi : i < w.n := by rw [s.n]; exact (List.getElem?_eq_some_iff.mp e).1
    exact obR_mono (Le.refl _) hi rfl (upd_ne (k.r i hi)) (s.obj i o e)
theorem limb_lx2 {w w' : Wd} {H H' : Hp} {D : Addr} {o : HO} (l : Lx w H w' H') (e : H D = none) : Lx w H w' (upd H' D o) :=
  ⟨l.le, l.new, fun a u h hc => by
    rw [upd_ne (ne_of_none h e)]
    exact l.keep a u h hc, l.old⟩
/-- D becomes persistent -/
theorem limb_put {w : Wd} {S : Sto} {H : Hp} {D : Addr} {o : HO} (s : Sim K mg w S H) (k : Limb w H D) (e : H D = some o) : Sim K mg (w.put D o) S H := by
  have l : Le w (w.put D o) := le_put k.b
  refine ⟨s.n, fun a u h => ?_, s.inj, fun i o' h => ?_⟩
  · by_cases ha : a = D
    · subst ha
      have h' : upd w.B a o a = some u := h
      rw [upd_same] at h'
      rw [e, h']
    · have h' : upd w.B D o a = some u := h
      rw [upd_ne ha] at h'
      exact s.le _ _ h'
  · have hi : i < w.n := by rw [s.n]; exact (List.getElem?_eq_some_iff.mp h).1
    exact obR_mono l hi (upd_ne (k.r i hi)) rfl (s.obj i o' h)
theorem lx_limb_put {w0 w : Wd} {H0 H : Hp} {D : Addr} {o : HO} (l : Lx w0 H0 w H) (e0 : H0 D = none) (k : Limb w H D) : Lx w0 H0 (w.put D o) H := by
  refine ⟨l.le.trans (le_put k.b), fun i h1 h2 => l.new i h1 h2, l.keep, fun a u h hc q => ?_⟩
  show upd w.B D o a = none
  rw [upd_ne (ne_of_none h e0)]
  exact l.old a u h hc q
/-- D becomes a cell -/
theorem limb_more {w : Wd} {S : Sto} {H : Hp} {D : Addr} {vs : List V} {xs : List MV} (s : Sim K mg w S H) (k : Limb w H D) (e : H D = some (.lst vs)) (h : AllM K mg w vs xs) :
    Sim K mg (w.more D) (S ++ [.lst xs]) H ∧ RelM K mg (w.more D) (.ref D) (.cell S.length) := by
  have l : Le w (w.more D) := ⟨fun _ _ e => e, Nat.le_succ _, fun i hi => if_neg (Nat.ne_of_lt hi)⟩
  refine ⟨⟨?_, fun a u e => s.le a u e, fun i j hi hj e => ?_, fun i o eo => ?_⟩, ?_⟩
  · show w.n + 1 = (S ++ [Ob.lst xs]).length
    rw [List.length_append, s.n]
    rfl
  · have hi' : i < w.n + 1 := hi
    have hj' : j < w.n + 1 := hj
    have e' : (if i = w.n then D else w.r i) = (if j = w.n then D else w.r j) := e
    by_cases h1 : i = w.n
    · by_cases h2 : j = w.n
      · omega
      · rw [if_pos h1, if_neg h2] at e'
        exact absurd e'.symm (k.r j (by omega))
    · by_cases h2 : j = w.n
      · rw [if_neg h1, if_pos h2] at e'
        exact absurd e' (k.r i (by omega))
      · rw [if_neg h1, if_neg h2] at e'
        exact s.inj i j (by omega) (by omega) e'
  · by_cases h1 : i < S.length
    · rw [List.getElem?_append_left h1] at eo
      have hi : i < w.n := by rw [s.n]; exact h1
      have er : (w.more D).r i = w.r i := if_neg (Nat.ne_of_lt hi)
      exact obR_mono l hi rfl rfl (s.obj i o eo)
    · have hlen := (List.getElem?_eq_some_iff.mp eo).1
      rw [List.length_append] at hlen
      have h2 : i = S.length := by
        have : [Ob.lst xs].length = 1 := rfl
        omega
      subst h2
      rw [List.getElem?_append_right (Nat.le_refl _), Nat.sub_self] at eo
      have e2 : Ob.lst xs = o := Option.some.inj eo
      subst e2
      have er : (w.more D).r S.length = D := if_pos s.n.symm
      refine ⟨?_, vs, ?_, h.mono l⟩
      · rw [er]; exact k.b
      · rw [er]; exact e
  · refine ⟨?_, ?_⟩
    · show S.length < w.n + 1
      rw [s.n]; exact Nat.lt_succ_self _
    · show V.ref D = V.ref (if S.length = w.n then D else w.r S.length)
      rw [if_pos s.n.symm]
theorem lx_limb_more {w0 w : Wd} {H0 H : Hp} {D : Addr} (l : Lx w0 H0 w H) (e0 : H0 D = none) : Lx w0 H0 (w.more D) H := by
  refine ⟨l.le.trans ⟨fun _ _ e => e, Nat.le_succ _, fun i hi => if_neg (Nat.ne_of_lt hi)⟩, fun i h1 h2 => ?_, l.keep, l.old⟩
  have h2' : i < w.n + 1 := h2
  show H0 (if i = w.n then D else w.r i) = none
  by_cases e : i = w.n
  · rw [if_pos e]; exact e0
  · rw [if_neg e]; exact l.new i h1 (by omega)
end
abbrev W0 : WX := fun _ _ _ _ => False
section
variable {X : Cx} {W : WX}
theorem wp_lc {it : AM} {g : GM} {tg : TG} {js vs : List Nat} {t : TM} {e : EM} (hg : gOk X g tg js) (hj : ∀ j ∈ js, j ∈ vs) {σ : St} {H : Hp} {Q : VK} {fin : List MV → Sto → Res MV}
    (hf : ∀ (w : Wd) (S : Sto) (H0 H : Hp) (w0 : Wd) (D : Addr) (us : List V) (ys : List MV), Lx w0 H0 w H → H0 D = none → Sim X.K X.mg w S H → Limb w H D → H D = some (.lst us) → AllM X.K X.mg w us ys → Pst X.K X.mg w0 H0 σ W (Fv X.K X.mg Q) (fin ys S) → Q (.ref D) H)
    (h : wpE X.K X.mg W (fun m S => (mlcAll it g t e vs m S).bind fin) σ H Q) :
    tLc (wpI X.K X.mg W it) tg (wpT X.K X.mg W0 t) (wpE X.K X.mg W0 e) vs σ H Q := by
  obtain ⟨w, S, m, s, l, p⟩ := h
  refine ⟨w, S, m, s, l, ?_⟩
  have p' : Pst X.K X.mg w H σ W (Fv X.K X.mg Q) ((it m S).bind fun xs S1 => (if xs.length ≤ 16777216 then mlcGo g t e (mwipe m vs) xs [] m S1 else .bad).bind fin) := by
    have : (mlcAll it g t e vs m S).bind fin = (it m S).bind fun xs S1 => (if xs.length ≤ 16777216 then mlcGo g t e (mwipe m vs) xs [] m S1 else .bad).bind fin := by
      unfold mlcAll
      cases it m S <;> rfl
    rw [← this]
    exact p
  refine (Pst.bind p').imp fun w1 S1 H1 xs l1 s1 p1 J hJ D hD => ?_
  split at p1
  · rename_i hlen
    refine ⟨fun i k H' => i + k = xs.length ∧ ∃ w2 S2 us ys, Lx w1 H1 w2 H' ∧ Sim X.K X.mg w2 S2 H' ∧ Limb w2 H' D ∧ H' D = some (.lst us) ∧ AllM X.K X.mg w2 us ys ∧ ys.length ≤ i ∧
        Pst X.K X.mg w1 H1 σ W (Fv X.K X.mg Q) ((mlcGo g t e (mwipe m vs) (xs.drop i) ys m S2).bind fin),
      ⟨xs.length, Nat.zero_add _, w1, S1, [], [], limb_lx2 (Lx.refl _ _) hD, limb_sim s1 (limb_new s1 hD), ⟨free_B s1 hD, sim_ne s1 hD⟩, upd_same, .nil, Nat.le_refl _, p1⟩, fun i k H' hw => ?_⟩
    obtain ⟨hik, w2, S2, us, ys, l2, s2, k2, e2, a2, hy2, p2⟩ := hw
    by_cases hi : i < xs.length
    · have ex : xs[i]? = some xs[i] := List.getElem?_eq_getElem hi
      obtain ⟨hgo, hy⟩ := (hJ i w2 S2 H' l2.le s2).1 _ ex
      refine .inr ⟨hgo, fun H'' => ∃ w3 S3 us ys, Lx w1 H1 w3 H'' ∧ Sim X.K X.mg w3 S3 H'' ∧ Limb w3 H'' D ∧ H'' D = some (.lst us) ∧ AllM X.K X.mg w3 us ys ∧ ys.length ≤ i + 1 ∧
        Pst X.K X.mg w1 H1 σ W (Fv X.K X.mg Q) ((mlcGo g t e (mwipe m vs) (xs.drop (i + 1)) ys m S3).bind fin), fun H'' h => ⟨k - 1, by omega, by omega, h⟩, fun v H3 hv => ?_⟩
      obtain ⟨w3, l3, s3, r3⟩ := hy v H3 hv
      obtain ⟨k3, e3⟩ := limb_lx l3 k2 e2
      rw [List.drop_eq_getElem_cons hi] at p2
      unfold mlcGo at p2
      cases eg : g xs[i] (mwipe m vs) S2 with
      | none => simp only [eg] at p2; exact p2.elim
      | some z =>
        obtain ⟨m4, S4⟩ := z
        simp only [eg] at p2
        refine hg w3 S2 (mwipe m vs) (wipe σ vs) H3 v xs[i] _ m4 S4 s3 (slr_wipe (l.mono (l1.le.trans (l2.le.trans l3.le))) vs) r3 eg fun w4 σ4 H4 l4 s4 r4 b4 => ?_
        refine ⟨wipe_but hj b4, w4, S4, m4, s4, r4, ?_⟩
        obtain ⟨k4, e4⟩ := limb_lx l4 k3 e3
        have l14 : Lx w1 H1 w4 H4 := (l2.trans s2 l3).trans s3 l4
        have a4 := a2.mono (l3.le.trans l4.le)
        cases et : t m4 S4 with
        | bad => rw [et] at p2; exact p2.elim
        | exc c d S5 => rw [et] at p2; exact p2.elim
        | ok b S5 =>
          rw [et] at p2
          intro w5 H5 l5 s5
          obtain ⟨k5, e5⟩ := limb_lx l5 k4 e4
          have l15 : Lx w1 H1 w5 H5 := l14.trans s4 l5
          cases b with
          | false =>
            exact ⟨w5, S5, us, ys, l15, s5, k5, e5, a4.mono l5.le, Nat.le_succ_of_le hy2, p2⟩
          | true =>
            refine ⟨w5, S5, m4, s5, r4.mono l5.le, ?_⟩
            cases ee : e m4 S5 with
            | bad =>
              have p3 : Pst X.K X.mg w1 H1 σ W (Fv X.K X.mg Q) (((e m4 S5).nox.bind fun y S3 => mlcGo g t e (mwipe m vs) (xs.drop (i + 1)) (ys ++ [y]) m S3).bind fin) := p2
              rw [ee] at p3
              exact p3.elim
            | exc c d S6 =>
              have p3 : Pst X.K X.mg w1 H1 σ W (Fv X.K X.mg Q) (((e m4 S5).nox.bind fun y S3 => mlcGo g t e (mwipe m vs) (xs.drop (i + 1)) (ys ++ [y]) m S3).bind fin) := p2
              rw [ee] at p3
              exact p3.elim
            | ok y S6 =>
              have p3 : Pst X.K X.mg w1 H1 σ W (Fv X.K X.mg Q) (((e m4 S5).nox.bind fun y S3 => mlcGo g t e (mwipe m vs) (xs.drop (i + 1)) (ys ++ [y]) m S3).bind fin) := p2
              rw [ee] at p3
              intro w6 H6 l6 s6 u ru
              obtain ⟨k6, e6⟩ := limb_lx l6 k5 e5
              have l16 : Lx w1 H1 w6 H6 := l15.trans s5 l6
              have hul : us.length = ys.length := Paired.length a2
              refine ⟨us, e6, ?_, w6, S6, us ++ [u], ys ++ [y], limb_lx2 l16 hD, limb_sim s6 k6, ⟨k6.b, k6.r⟩, upd_same, ?_, ?_, p3⟩
              · rw [hul]
                show ys.length < 16777216
                omega
              · exact paired_snoc ru (a4.mono (l5.le.trans l6.le))
              · rw [List.length_append]
                exact Nat.succ_le_succ hy2
    · refine .inl ⟨(hJ i w2 S2 H' l2.le s2).2 (Nat.not_lt.mp hi), ?_⟩
      rw [List.drop_eq_nil_of_le (Nat.not_lt.mp hi)] at p2
      exact hf w2 S2 H1 H' w1 D us ys l2 hD s2 k2 e2 a2 p2
  · exact p1.elim
theorem ge_lc {it : AM} {g : GM} {gt : TG} {js : List Nat} {t : TM} {e : EM} {elt tg iter : Expr} {ifs : List Expr} {scope : Scope} {own : List (Str × Nat)} {pos : Pos} (hc : X.calm = true) (hN : X.N.Nodup) (hi : GI X W tg iter it) (ok : BlkOk X.N X.env.scope scope own)
    (hgo : gOk X g gt js) (hj : ∀ j ∈ js, j ∈ own.map (·.2)) (hg : ∀ (s : Shared) (H : Hp) (C : Addr) (cl : List (Str × Addr)) (fp : List Addr), PG (X.blk s H scope (compEnvC scope cl C X.env) fp) tg gt)
    (ht : ∀ (s : Shared) (H : Hp) (C : Addr) (cl : List (Str × Addr)) (fp : List Addr), PTs (X.blk s H scope (compEnvC scope cl C X.env) fp) ifs (wpT X.K X.mg W0 t))
    (he : ∀ (s : Shared) (H : Hp) (C : Addr) (cl : List (Str × Addr)) (fp : List Addr), GE (X.blk s H scope (compEnvC scope cl C X.env) fp) W0 elt e) (hs : ∀ x, foldedSetIterable iter X.env x = pure x := by intro _; rfl) :
    GE X W (.ListComp elt [⟨tg, iter, ifs, 0⟩] scope pos) (mlc it g t e (own.map (·.2))) := by
  refine PE.imp (pe_lc hc hN hi ok hg ht he hs) fun σ H Q q => wp_lc hgo hj (fun w S H0 H w0 D us ys lx h0 s k e a p => ?_) q
  split at p
  · rename_i ds S2 ez
    obtain ⟨w1, l1, s1, d1⟩ := fzAll_ok s a ez
    obtain ⟨k1, e1⟩ := limb_lx l1 k e
    exact p _ H (lx_limb_put (lx.trans s l1) h0 k1) (limb_put s1 k1 e1) _ (.lst (.inl (.inl upd_same)) (dpAll_ext (le_put k1.b).1 _ _ d1))
  · exact p.elim
theorem ge_lcC {it : AM} {g : GM} {gt : TG} {js : List Nat} {t : TM} {e : EM} {elt tg iter : Expr} {ifs : List Expr} {scope : Scope} {own : List (Str × Nat)} {pos : Pos} (hc : X.calm = true) (hN : X.N.Nodup) (hi : GI X W tg iter it) (ok : BlkOk X.N X.env.scope scope own)
    (hgo : gOk X g gt js) (hj : ∀ j ∈ js, j ∈ own.map (·.2)) (hg : ∀ (s : Shared) (H : Hp) (C : Addr) (cl : List (Str × Addr)) (fp : List Addr), PG (X.blk s H scope (compEnvC scope cl C X.env) fp) tg gt)
    (ht : ∀ (s : Shared) (H : Hp) (C : Addr) (cl : List (Str × Addr)) (fp : List Addr), PTs (X.blk s H scope (compEnvC scope cl C X.env) fp) ifs (wpT X.K X.mg W0 t))
    (he : ∀ (s : Shared) (H : Hp) (C : Addr) (cl : List (Str × Addr)) (fp : List Addr), GE (X.blk s H scope (compEnvC scope cl C X.env) fp) W0 elt e) (hs : ∀ x, foldedSetIterable iter X.env x = pure x := by intro _; rfl) :
    GE X W (.ListComp elt [⟨tg, iter, ifs, 0⟩] scope pos) (mlcC it g t e (own.map (·.2))) := by
  refine PE.imp (pe_lc hc hN hi ok hg ht he hs) fun σ H Q q => wp_lc hgo hj (fun w S H0 H w0 D us ys lx h0 s k e a p => ?_) q
  obtain ⟨s1, r1⟩ := limb_more s k e a
  exact p _ H (lx_limb_more lx h0) s1 _ r1
def myes : TM := fun _ S => .ok true S
theorem gts_nil : PTs X [] (wpT X.K X.mg W myes) := by
  refine ⟨fun pins s σ H Q I q => pts_nil.run pins s σ H Q I ?_⟩
  obtain ⟨w, S, m, s, l, p⟩ := q
  have z := pst_ok (σ := σ) (W := W) s p
  exact z
theorem gts_one {c : Expr} {t : TM} (h : GT X W c t) : PTs X [c] (wpT X.K X.mg W t) := pts_one h
/-- y = [..] on one line -/
theorem gs_setLc {i : Nat} {y : Str} {py : Pos} {it : AM} {g : GM} {gt : TG} {js : List Nat} {t : TM} {e : EM} {elt tg iter : Expr} {ifs : List Expr} {scope : Scope} {own : List (Str × Nat)} {pos spos : Pos} (hc : X.calm = true) (hN : X.N.Nodup) (hy : X.N[i]? = some y) (hyl : X.env.scope.names.lookup y = some .local)
    (hsw : swapsWith (.ListComp elt [⟨tg, iter, ifs, 0⟩] scope pos) (some (.Name y py)) spos.line X.env = pure true) (hi : GI X W tg iter it) (ok : BlkOk X.N X.env.scope scope own)
    (hgo : gOk X g gt js) (hj : ∀ j ∈ js, j ∈ own.map (·.2)) (hg : ∀ (s : Shared) (H : Hp) (C : Addr) (cl : List (Str × Addr)) (fp : List Addr), PG (X.blk s H scope (compEnvC scope cl C X.env) fp) tg gt)
    (ht : ∀ (s : Shared) (H : Hp) (C : Addr) (cl : List (Str × Addr)) (fp : List Addr), PTs (X.blk s H scope (compEnvC scope cl C X.env) fp) ifs (wpT X.K X.mg W0 t))
    (he : ∀ (s : Shared) (H : Hp) (C : Addr) (cl : List (Str × Addr)) (fp : List Addr), GE (X.blk s H scope (compEnvC scope cl C X.env) fp) W0 elt e) (hs : ∀ x, foldedSetIterable iter X.env x = pure x := by intro _; rfl) :
    GS X W (.Assign [.Name y py] (.ListComp elt [⟨tg, iter, ifs, 0⟩] scope pos) spos) (masg (mlc it g t e (own.map (·.2))) (gset i)) := by
  refine PS.imp (ps_setLc (te := wpE X.K X.mg W0 e) hc hN hy hyl hsw hi ok hg ht he hs) fun D σ H q => ?_
  have q' := wp_asg (gok_name (X := X) i) q
  refine wp_lc hgo hj (fun w S H0 H w0 D us ys lx h0 s k e a p => ?_) q'
  split at p
  · rename_i ds S2 ez
    obtain ⟨w1, l1, s1, d1⟩ := fzAll_ok s a ez
    obtain ⟨k1, e1⟩ := limb_lx l1 k e
    exact p _ H (lx_limb_put (lx.trans s l1) h0 k1) (limb_put s1 k1 e1) _ (.lst (.inl (.inl upd_same)) (dpAll_ext (le_put k1.b).1 _ _ d1))
  · exact p.elim
end
end PX
end

section
set_option Elab.async false
set_option linter.all false
set_option maxRecDepth 100000
set_option maxHeartbeats 4000000
namespace PX
open PySem PySem.Spec PyProof.Rows L2

/-! ### calls of builtins by values -/
abbrev RC := List V → Hp → VK → Prop
abbrev MC := List MV → Sto → Res MV
def mcall (g : MC) (fa : AM) : EM := fun m S => (fa m S).bind fun xs S1 => g xs S1
def CallS (X : Cx) (r : RC) (g : MC) : Prop := ∀ (W : WX) (w : Wd) (S : Sto) (H : Hp) (σ : St) (xs : List MV) (vs : List V) (Q : VK),
  Sim X.K X.mg w S H → AllM X.K X.mg w vs xs → Pst X.K X.mg w H σ W (Fv X.K X.mg Q) (g xs S) → r vs H Q
section
variable {X : Cx} {W : WX} {e : Expr} {es : List Expr} {fa : AM} {p pos : Pos} {x : Str} {id T : String} {r : RC} {g : MC}
theorem wp_call (hs : CallS X r g) {σ : St} {H : Hp} {Q : VK} (h : wpE X.K X.mg W (mcall g fa) σ H Q) : tCB r (wpA X.K X.mg W fa) σ H Q := by
  obtain ⟨w, S, m, s, l, p⟩ := h
  exact ⟨w, S, m, s, l, (Pst.bind p).imp fun w1 S1 H1 xs l1 s1 p1 vs rs => hs W w1 S1 H1 σ xs vs Q s1 rs p1⟩
theorem ge_callB (hc : CallR X (.builtin id) r) (hS : CallS X r g) (hg : Gl X x) (hm : X.mg x = none) (hv : bootBuiltins x = some (.builtin id)) (ha : GA X W (e :: es) fa) (hn : x ≠ "__name__" := by decide) (hdb : (x == ("__debug__" : Str)) = false := by decide)
    (he : starEach (e :: es) X.env = (false, eval e X.env) :: starEach es X.env := by rfl) (hpl : (backTo pos (starEach es X.env)).any (·.1) = false := by rfl) : GE X W (.Call (.Name x p) (e :: es) [] pos) (mcall g fa) :=
  PE.imp (pe_callB hc hg hm hv ha hn hdb he hpl) fun σ H Q h => wp_call hS h
theorem ge_callTy (hc : CallR X (.type T) r) (hS : CallS X r g) (hg : Gl X x) (hm : X.mg x = none) (hv : bootBuiltins x = some (.type T)) (ha : GA X W (e :: es) fa) (hn : x ≠ "__name__" := by decide) (hdb : (x == ("__debug__" : Str)) = false := by decide)
    (he : starEach (e :: es) X.env = (false, eval e X.env) :: starEach es X.env := by rfl) (hpl : (backTo pos (starEach es X.env)).any (·.1) = false := by rfl) : GE X W (.Call (.Name x p) (e :: es) [] pos) (mcall g fa) :=
  PE.imp (pe_callTy hc hg hm hv ha hn hdb he hpl) fun σ H Q h => wp_call hS h

/-! one argument, data -/
def m1 (g : PyData → Sto → Res MV) : MC := fun xs S => match xs with
  | [x] => match look S x with
    | some d => g d S
    | none => .bad
  | _ => .bad
def m2 (g : PyData → PyData → Sto → Res MV) : MC := fun xs S => match xs with
  | [x, y] => match look S x, look S y with
    | some d, some e => g d e S
    | _, _ => .bad
  | _ => .bad
def m1L (g : PyData → Sto → Res MV) : MC := fun xs S => match xs with
  | [x] => match look S x with
    | some (.list ds) => g (.list ds) S
    | _ => .bad
  | _ => .bad
theorem s1_of {r : RC} {g : PyData → Sto → Res MV} (h : ∀ (W : WX) (w : Wd) (S : Sto) (H : Hp) (σ : St) (v : V) (d : PyData) (Q : VK), Sim X.K X.mg w S H → Dp X.K H v d → Pst X.K X.mg w H σ W (Fv X.K X.mg Q) (g d S) → r [v] H Q) : CallS X r (m1 g) := by
  intro W w S H σ xs vs Q s rs p
  unfold m1 at p
  split at p
  · obtain ⟨v, rfl, rv⟩ := all1 rs
    split at p
    · rename_i d e
      exact h W w S H σ v d Q s (look_ok s rv e) p
    · exact p.elim
  · exact p.elim
theorem s2_of {r : RC} {g : PyData → PyData → Sto → Res MV} (h : ∀ (W : WX) (w : Wd) (S : Sto) (H : Hp) (σ : St) (v u : V) (d e : PyData) (Q : VK), Sim X.K X.mg w S H → Dp X.K H v d → Dp X.K H u e → Pst X.K X.mg w H σ W (Fv X.K X.mg Q) (g d e S) → r [v, u] H Q) : CallS X r (m2 g) := by
  intro W w S H σ xs vs Q s rs p
  unfold m2 at p
  split at p
  · obtain ⟨v, u, rfl, rv, ru⟩ := all2 rs
    split at p
    · rename_i d e e1 e2
      exact h W w S H σ v u d e Q s (look_ok s rv e1) (look_ok s ru e2) p
    · exact p.elim
  · exact p.elim
theorem pst_dat {K : PySem.W.Frag} {mg : Str → Option Value} {w : Wd} {S : Sto} {H : Hp} {σ : St} {Q : VK} {d : PyData} {v : V} (s : Sim K mg w S H) (p : Pst K mg w H σ W (Fv K mg Q) (.ok (.dat d) S)) (h : Dp K w.B v d) : Q v H := pst_ok s p v h
/-! max, min of two ints, abs -/
def gMax : PyData → PyData → Sto → Res MV
  | .int i, .int j, S => .ok (.dat (.int (if j > i then j else i))) S
  | _, _, _ => .bad
def gMin : PyData → PyData → Sto → Res MV
  | .int i, .int j, S => .ok (.dat (.int (if j < i then j else i))) S
  | _, _, _ => .bad
theorem cs_max : CallS X (fun xs H Q => ∃ i j, xs = [.int i, .int j] ∧ Q (.int (if j > i then j else i)) H) (m2 gMax) := s2_of fun W w S H σ v u d e Q s hd he p => by
  unfold gMax at p
  split at p
  · exact ⟨_, _, by rw [dp_inv_int hd, dp_inv_int he], pst_dat s p (.int _)⟩
  · exact p.elim
theorem cs_min : CallS X (fun xs H Q => ∃ i j, xs = [.int i, .int j] ∧ Q (.int (if j < i then j else i)) H) (m2 gMin) := s2_of fun W w S H σ v u d e Q s hd he p => by
  unfold gMin at p
  split at p
  · exact ⟨_, _, by rw [dp_inv_int hd, dp_inv_int he], pst_dat s p (.int _)⟩
  · exact p.elim
def gAbs : PyData → Sto → Res MV
  | .int i, S => .ok (.dat (.int (if i < 0 then -i else i))) S
  | _, _ => .bad
theorem cs_abs : CallS X (fun xs H Q => ∃ i, xs = [.int i] ∧ Q (.int (if i < 0 then -i else i)) H) (m1 gAbs) := s1_of fun W w S H σ v d Q s hd p => by
  unfold gAbs at p
  split at p
  · exact ⟨_, by rw [dp_inv_int hd], pst_dat s p (.int _)⟩
  · exact p.elim
/-! int -/
def gInt : PyData → Sto → Res MV
  | .int i, S => .ok (.dat (.int i)) S
  | .bool b, S => .ok (.dat (.int (if b then 1 else 0))) S
  | .str a, S => match PySem.intText? a with
    | some n => if a.length ≤ 640 then .ok (.dat (.int n)) S else .bad
    | none => .bad
  | _, _ => .bad
def rInt : RC := fun xs H Q => ((∃ i, xs = [.int i] ∧ Q (.int i) H) ∨ ∃ k, xs = [.bl k] ∧ Q (.int (if k then 1 else 0)) H) ∨ (∃ a n, xs = [.str a] ∧ PySem.intText? a = some n ∧ a.length ≤ 640 ∧ Q (.int n) H)
theorem cr_int : CallR X (.type "int") rInt := call_int1.or call_int_str
theorem cs_int : CallS X rInt (m1 gInt) := s1_of fun W w S H σ v d Q s hd p => by
  unfold gInt at p
  split at p
  · exact .inl (.inl ⟨_, by rw [dp_inv_int hd], pst_dat s p (.int _)⟩)
  · exact .inl (.inr ⟨_, by rw [dp_inv_bool hd], pst_dat s p (.int _)⟩)
  · rename_i a
    split at p
    · rename_i n e
      split at p
      · rename_i hl
        exact .inr ⟨a, n, by rw [dp_inv_str hd], e, hl, pst_dat s p (.int _)⟩
      · exact p.elim
    · exact p.elim
  · exact p.elim
/-! str -/
def gStr : PyData → Sto → Res MV
  | .int i, S => if i.natAbs.log2 < 1920 then .ok (.dat (.str (toString i))) S else .bad
  | .str a, S => .ok (.dat (.str a)) S
  | _, _ => .bad
def rStr : RC := fun xs H Q => (∃ i, xs = [.int i] ∧ i.natAbs.log2 < 1920 ∧ Q (.str (toString i)) H) ∨ (∃ a, xs = [.str a] ∧ Q (.str a) H)
theorem cr_str : CallR X (.type "str") rStr := call_str_int.or SkE.call_str_str
theorem cs_str : CallS X rStr (m1 gStr) := s1_of fun W w S H σ v d Q s hd p => by
  unfold gStr at p
  split at p
  · split at p
    · rename_i hl
      exact .inl ⟨_, by rw [dp_inv_int hd], hl, pst_dat s p (.str _)⟩
    · exact p.elim
  · exact .inr ⟨_, by rw [dp_inv_str hd], pst_dat s p (.str _)⟩
  · exact p.elim
/-! len -/
def mLen : MC := fun xs S => match xs with
  | [x] => match look S x with
    | some (.list ds) => .ok (.dat (.int ds.length)) S
    | some (.tuple ds) => .ok (.dat (.int ds.length)) S
    | some (.str z) => if z.length ≤ 16777216 then .ok (.dat (.int z.length)) S else .bad
    | _ => match items S x with
      | some (_, ys) => .ok (.dat (.int ys.length)) S
      | none => .bad
  | _ => .bad
abbrev rLen (K : PySem.W.Frag) : RC := fun xs H Q => ∃ x n, xs = [x] ∧ LenV K x H n ∧ Q (.int n) H
theorem cs_len : CallS X (rLen X.K) mLen := by
  intro W w S H σ xs vs Q s rs p
  unfold mLen at p
  split at p
  · obtain ⟨v, rfl, rv⟩ := all1 rs
    split at p
    · rename_i ds e
      obtain ⟨a, us, rfl, h1, h2⟩ := look_list s rv e
      exact ⟨_, us.length, rfl, .inl ⟨us, h1, rfl⟩, pst_dat s p (by rw [dpAll_len h2]; exact .int _)⟩
    · rename_i ds e
      obtain ⟨a, us, rfl, h1, h2⟩ := look_tup s rv e
      exact ⟨_, us.length, rfl, .inr ⟨us, h1, rfl⟩, pst_dat s p (by rw [dpAll_len h2]; exact .int _)⟩
    · rename_i z e
      split at p
      · rename_i hz
        exact ⟨_, z.length, rfl, by rw [dp_inv_str (look_ok s rv e)]; exact ⟨by rw [sizeLine_eq]; exact hz, rfl⟩, pst_dat s p (.int _)⟩
      · exact p.elim
    · split at p
      · rename_i t ys e
        obtain ⟨a, us, rfl, h1, h2⟩ := items_ok s rv e
        have q : Q (.int us.length) H := pst_dat s p (by rw [Paired.length h2]; exact .int _)
        cases t with
        | true => exact ⟨_, us.length, rfl, .inr ⟨us, h1, rfl⟩, q⟩
        | false => exact ⟨_, us.length, rfl, .inl ⟨us, h1, rfl⟩, q⟩
      · exact p.elim
  · exact p.elim
/-! sum, all, any -/
def intsD : List PyData → Option (List Int)
  | [] => some []
  | .int i :: ds => (intsD ds).map (i :: ·)
  | _ :: _ => none
def boolsD : List PyData → Option (List Bool)
  | [] => some []
  | .bool i :: ds => (boolsD ds).map (i :: ·)
  | _ :: _ => none
theorem intsD_ok {K : PySem.W.Frag} {B : Hp} : ∀ {ds : List PyData} {ns : List Int} {vs : List V}, intsD ds = some ns → DpAll K B vs ds → vs = ns.map V.int
  | [], ns, vs, e, h => by
    cases h
    cases e
    rfl
  | .int i :: ds, ns, vs, e, h => by
    cases h with
    | cons h1 h2 =>
      unfold intsD at e
      cases e1 : intsD ds with
      | none => rw [e1] at e; cases e
      | some ms =>
        rw [e1] at e
        cases e
        rw [dp_inv_int h1, intsD_ok e1 h2]
        rfl
  | .none :: _, _, _, e, _ => by cases e
  | .bool _ :: _, _, _, e, _ => by cases e
  | .str _ :: _, _, _, e, _ => by cases e
  | .list _ :: _, _, _, e, _ => by cases e
  | .tuple _ :: _, _, _, e, _ => by cases e
  | .dict _ :: _, _, _, e, _ => by cases e
theorem boolsD_ok {K : PySem.W.Frag} {B : Hp} : ∀ {ds : List PyData} {ns : List Bool} {vs : List V}, boolsD ds = some ns → DpAll K B vs ds → vs = ns.map V.bl
  | [], ns, vs, e, h => by
    cases h
    cases e
    rfl
  | .bool i :: ds, ns, vs, e, h => by
    cases h with
    | cons h1 h2 =>
      unfold boolsD at e
      cases e1 : boolsD ds with
      | none => rw [e1] at e; cases e
      | some ms =>
        rw [e1] at e
        cases e
        rw [dp_inv_bool h1, boolsD_ok e1 h2]
        rfl
  | .none :: _, _, _, e, _ => by cases e
  | .int _ :: _, _, _, e, _ => by cases e
  | .str _ :: _, _, _, e, _ => by cases e
  | .list _ :: _, _, _, e, _ => by cases e
  | .tuple _ :: _, _, _, e, _ => by cases e
  | .dict _ :: _, _, _, e, _ => by cases e
theorem intsD_map (ns : List Int) : intsD (ns.map PyData.int) = some ns := by
  induction ns with
  | nil => rfl
  | cons n ns ih => simp [intsD, ih]
theorem boolsD_map (ns : List Bool) : boolsD (ns.map PyData.bool) = some ns := by
  induction ns with
  | nil => rfl
  | cons n ns ih => simp [boolsD, ih]
def gSum : PyData → Sto → Res MV
  | .list ds, S => match intsD ds with
    | some ns => .ok (.dat (.int ns.sum)) S
    | none => .bad
  | _, _ => .bad
def gAll : PyData → Sto → Res MV
  | .list ds, S => match boolsD ds with
    | some ns => .ok (.dat (.bool (ns.all _root_.id))) S
    | none => .bad
  | _, _ => .bad
def gAny : PyData → Sto → Res MV
  | .list ds, S => match boolsD ds with
    | some ns => .ok (.dat (.bool (ns.any _root_.id))) S
    | none => .bad
  | _, _ => .bad
theorem cs_sum : CallS X (rSum X.K) (m1 gSum) := s1_of fun W w S H σ v d Q s hd p => by
  unfold gSum at p
  split at p
  · rename_i ds
    split at p
    · rename_i ns e
      cases hd with
      | lst h1 h2 =>
        obtain rfl := intsD_ok e h2
        exact ⟨_, ns, rfl, h1, pst_dat s p (.int _)⟩
    · exact p.elim
  · exact p.elim
theorem cs_all : CallS X (rAll X.K) (m1 gAll) := s1_of fun W w S H σ v d Q s hd p => by
  unfold gAll at p
  split at p
  · rename_i ds
    split at p
    · rename_i ns e
      cases hd with
      | lst h1 h2 =>
        obtain rfl := boolsD_ok e h2
        exact ⟨_, ns, rfl, h1, pst_dat s p (.bl _)⟩
    · exact p.elim
  · exact p.elim
theorem cs_any : CallS X (rAny X.K) (m1 gAny) := s1_of fun W w S H σ v d Q s hd p => by
  unfold gAny at p
  split at p
  · rename_i ds
    split at p
    · rename_i ns e
      cases hd with
      | lst h1 h2 =>
        obtain rfl := boolsD_ok e h2
        exact ⟨_, ns, rfl, h1, pst_dat s p (.bl _)⟩
    · exact p.elim
  · exact p.elim
/-! list, tuple -/
def strsS (z : Str) : List PyData := z.cps.toList.map fun c => PyData.str ⟨#[c]⟩
def rListOf (K : PySem.W.Frag) : RC := fun xs H Q => ∃ p ys, xs = [.ref p] ∧ (SqL K H p ys ∨ SqT K H p ys) ∧ ∀ l, H l = none → Q (.ref l) (upd H l (.lst ys))
/-- list(x) as data, as a list that may be changed -/
def mList : MC := fun xs S => match xs with
  | [x] => match look S x with
    | some (.list ds) => .ok (.dat (.list ds)) S
    | some (.tuple ds) => .ok (.dat (.list ds)) S
    | _ => .bad
  | _ => .bad
def mListC : MC := fun xs S => match xs with
  | [x] => match look S x with
    | some (.list ds) => .ok (.cell S.length) (S ++ [.lst (ds.map MV.dat)])
    | some (.tuple ds) => .ok (.cell S.length) (S ++ [.lst (ds.map MV.dat)])
    | _ => .bad
  | _ => .bad
theorem cs_list : CallS X (rListOf X.K) mList := by
  intro W w S H σ xs vs Q s rs p
  unfold mList at p
  split at p
  · obtain ⟨v, rfl, rv⟩ := all1 rs
    split at p
    · rename_i ds e
      obtain ⟨a, us, rfl, h1, h2⟩ := look_list s rv e
      refine ⟨a, us, rfl, .inl h1, fun l hl => ?_⟩
      obtain ⟨l3, s3, d3⟩ := new_list s hl h2
      exact p _ _ l3 s3 _ d3
    · rename_i ds e
      obtain ⟨a, us, rfl, h1, h2⟩ := look_tup s rv e
      refine ⟨a, us, rfl, .inr h1, fun l hl => ?_⟩
      obtain ⟨l3, s3, d3⟩ := new_list s hl h2
      exact p _ _ l3 s3 _ d3
    · exact p.elim
  · exact p.elim
theorem cs_listC : CallS X (rListOf X.K) mListC := by
  intro W w S H σ xs vs Q s rs p
  unfold mListC at p
  split at p
  · obtain ⟨v, rfl, rv⟩ := all1 rs
    split at p
    · rename_i ds e
      obtain ⟨a, us, rfl, h1, h2⟩ := look_list s rv e
      refine ⟨a, us, rfl, .inl h1, fun l hl => ?_⟩
      obtain ⟨l3, s3, d3⟩ := new_cell s hl (dat_all h2)
      exact p _ _ l3 s3 _ d3
    · rename_i ds e
      obtain ⟨a, us, rfl, h1, h2⟩ := look_tup s rv e
      refine ⟨a, us, rfl, .inr h1, fun l hl => ?_⟩
      obtain ⟨l3, s3, d3⟩ := new_cell s hl (dat_all h2)
      exact p _ _ l3 s3 _ d3
    · exact p.elim
  · exact p.elim
def rTupleOf (K : PySem.W.Frag) : RC := fun xs H Q => ∃ p ys, xs = [.ref p] ∧ ((SqL K H p ys ∧ ∀ l, H l = none → Q (.ref l) (upd H l (.tup ys))) ∨ (SqT K H p ys ∧ Q (.ref p) H))
def mTuple : MC := fun xs S => match xs with
  | [x] => match look S x with
    | some (.list ds) => .ok (.dat (.tuple ds)) S
    | _ => match x with
      | .dat (.tuple ds) => .ok (.dat (.tuple ds)) S
      | _ => .bad
  | _ => .bad
theorem cs_tuple : CallS X (rTupleOf X.K) mTuple := by
  intro W w S H σ xs vs Q s rs p
  unfold mTuple at p
  split at p
  · obtain ⟨v, rfl, rv⟩ := all1 rs
    split at p
    · rename_i ds e
      obtain ⟨a, us, rfl, h1, h2⟩ := look_list s rv e
      refine ⟨a, us, rfl, .inl ⟨h1, fun l hl => ?_⟩⟩
      obtain ⟨l3, s3, d3⟩ := new_tup s hl h2
      exact p _ _ l3 s3 _ d3
    · split at p
      · rename_i ds _
        have q := pst_ok s p v rv
        have rv' : Dp X.K w.B v (.tuple ds) := rv
        cases rv' with
        | tup h1 h2 => exact ⟨_, _, rfl, .inr ⟨sqt_ext s.le h1, q⟩⟩
      · exact p.elim
  · exact p.elim
/-! sorted -/
abbrev alikeL (ds : List PyData) : Bool := ds.all fun d => ds.all fun e => PySem.W.alike d e
abbrev srtOk (ds : List PyData) : Bool := ds.all fun d => match d with
  | .none => false
  | .tuple _ => false
  | _ => decide (d.depth ≤ 60)
abbrev srtOkT (ds : List PyData) : Bool := ds.all fun d => match d with
  | .tuple (_ :: _) => decide (d.depth ≤ 60)
  | _ => false
def sortD (ds : List PyData) : List PyData := ds.mergeSort (PySem.W.dataLe false _root_.id)
def mSorted : MC := fun xs S => match xs with
  | [x] => match look S x with
    | some (.list ds) => if alikeL ds = true ∧ (srtOk ds = true ∨ srtOkT ds = true) then .ok (.dat (.list (sortD ds))) S else .bad
    | _ => .bad
  | _ => .bad
def rSortedDt (K : PySem.W.Frag) : RC := fun vs H Q => ∃ (a : Addr) (xs : List V) (B : Hp) (ds : List PyData), vs = [V.ref a] ∧ SqL K H a xs ∧ DpAll K B xs ds ∧ (∀ b o, B b = some o → H b = some o) ∧ alikeL ds = true ∧ (srtOk ds = true ∨ srtOkT ds = true) ∧
  ∀ (us : List V) (p : Addr), H p = none → DpAll K B us (sortD ds) → Q (.ref p) (upd H p (.lst us))
def RelD (K : PySem.W.Frag) (H : Hp) (u : Value) (d : PyData) : Prop := ∃ v, RelV v u ∧ Dp K H v d
theorem each_of {K : PySem.W.Frag} {H : Hp} : ∀ {ds : List PyData} {vs : List V} {us : List Value}, Vals vs us → DpAll K H vs ds → PySem.W.EachIs (RelD K H) us ds
  | [], _, _, r, h => by
    cases h
    cases r
    exact .nil
  | d :: ds, _, _, r, h => by
    cases h with
    | cons h1 h2 =>
      cases r with
      | cons r t => exact .cons ⟨_, r, h1⟩ (each_of t h2)
theorem each_back {K : PySem.W.Frag} {H : Hp} : ∀ {us : List Value} {ds : List PyData}, PySem.W.EachIs (RelD K H) us ds → ∃ vs, Vals vs us ∧ DpAll K H vs ds
  | _, _, .nil => ⟨[], .nil, .nil⟩
  | _, _, .cons ⟨v, r, d⟩ t => by
    obtain ⟨vs, h1, h2⟩ := each_back t
    exact ⟨v :: vs, .cons r h1, .cons d h2⟩
theorem cr_sortedDt (hu : X.A.units + 66 < cLine) : CallR X (.builtin "sorted") (rSortedDt X.K) := by
  intro pins s σ H vs us Q I r h
  obtain ⟨a, xs, B, ds, rfl, h1, h2, hB, hal, hok, q⟩ := h
  rw [Vals.ref1 r]
  · obtain ⟨its, rv, hl, hz⟩ := I.list h1
    have ea := each_of rv h2
    have hlen : its.length = ds.length := ea.length
    have hal' : PySem.W.AllAlike (ds.map _root_.id) := by
      rw [List.map_id]
      intro d hd d' hd'
      exact List.all_eq_true.mp (List.all_eq_true.mp hal d hd) d' hd'
    have hdep : ∀ b ∈ ds, b.depth ≤ 60 := by
      intro b hb
      rcases hok with hok | hok
      · have := List.all_eq_true.mp hok b hb
        revert this
        split
        · intro h; cases h
        · intro h; cases h
        · intro h; exact of_decide_eq_true h
      · have := List.all_eq_true.mp hok b hb
        revert this
        split
        · intro h; exact of_decide_eq_true h
        · intro h; cases h
    have hk' : PySem.W.Sortable (ds.map _root_.id) := by
      rw [List.map_id]
      rcases hok with hok | hok
      · refine .inr fun d hd => ?_
        have := List.all_eq_true.mp hok d hd
        constructor
        · rintro rfl
          cases this
        · rintro xs rfl
          cases this
      · refine .inl fun d hd => ?_
        have := List.all_eq_true.mp hok d hd
        revert this
        split
        · intro _; exact ⟨_, _, rfl⟩
        · intro h; cases h
    refine PySem.W.sorted_data (R := RelD X.K B) (enc := _root_.id) (bs := ds) hl.isList ea (ea.mono fun u d ⟨v, r, hd⟩ => Dp.reads I d v u (dp_ext hB d v hd) r) hal' hk' (by rw [← hlen, ← rv.length]; exact hz) (fun b hb => ?_) fun out h3 h4 => ?_
    · have := hdep b hb
      show X.A.units + 2 + b.depth < cLine
      omega
    · obtain ⟨us', r1, r2⟩ := each_back h4
      obtain ⟨ep, he'⟩ := PyProof.Rows.sortedAll_at s.heap its out.toArray
      have hlen' : us'.length ≤ sizeLine := by
        rw [r1.length, h3, ← hlen, ← rv.length]
        exact hz
      exact ⟨.ref _, upd H (s.heap.objs.size + 1) (.lst us'), I.laid (t' := s.toks) (fun _ _ => PyProof.Rows.sortedAll_old) (Nat.le_succ _) ⟨hlen', out, ep, r1, he'⟩, rfl, q us' _ (I.hok.fresh (Nat.le_succ _)) r2⟩
theorem cs_sorted : CallS X (rSortedDt X.K) mSorted := by
  intro W w S H σ xs vs Q s rs p
  unfold mSorted at p
  split at p
  · obtain ⟨v, rfl, rv⟩ := all1 rs
    split at p
    · rename_i ds e
      obtain ⟨a, us, rfl, h1, h2⟩ := look_list s rv e
      split at p
      · rename_i hk
        refine ⟨a, us, w.B, ds, rfl, h1, h2, s.le, hk.1, hk.2, fun us' l hl hd => ?_⟩
        obtain ⟨l3, s3, d3⟩ := new_list s hl hd
        exact p _ _ l3 s3 _ d3
      · exact p.elim
    · exact p.elim
  · exact p.elim
/-! repr -/
def shownM (S : Sto) : MV → Option Str
  | .dct => some "{}"
  | x => match look S x with
    | some d => if d.showable = true ∧ d.shown.length ≤ 16777216 ∧ d.depth ≤ 64 then some d.shown else none
    | none => none
def mRepr : MC := fun xs S => match xs with
  | [x] => match shownM S x with
    | some z => .ok (.dat (.str z)) S
    | none => .bad
  | _ => .bad
def rRepr (K : PySem.W.Frag) : RC := fun vs H Q => (∃ (v : V) (d : PyData), vs = [v] ∧ Dp K H v d ∧ d.showable = true ∧ d.shown.length ≤ 16777216 ∧ d.depth ≤ 64 ∧ Q (.str d.shown) H) ∨ ∃ a, vs = [.ref a] ∧ H a = some (.dK []) ∧ Q (.str "{}") H
theorem dp_noDict {K : PySem.W.Frag} {H : Hp} : True := trivial
mutual
theorem dp_hasDict {K : PySem.W.Frag} {H : Hp} : ∀ (d : PyData) (v : V), Dp K H v d → d.hasDict = false
  | .none, _, _ => rfl
  | .bool _, _, _ => rfl
  | .int _, _, _ => rfl
  | .str _, _, _ => rfl
  | .list ds, _, h => by
    cases h with
    | lst h1 h2 => exact dpAll_hasDict ds _ h2
  | .tuple ds, _, h => by
    cases h with
    | tup h1 h2 => exact dpAll_hasDict ds _ h2
  | .dict _, _, h => by cases h
theorem dpAll_hasDict {K : PySem.W.Frag} {H : Hp} : ∀ (ds : List PyData) (vs : List V), DpAll K H vs ds → PyData.hasDictAll ds = false
  | [], _, _ => rfl
  | d :: ds, _, h => by
    cases h with
    | cons h1 h2 =>
      unfold PyData.hasDictAll
      rw [dp_hasDict d _ h1, dpAll_hasDict ds _ h2]
      rfl
end
theorem cr_repr (hg : X.A.guards = some []) (hu : X.A.units + 66 < cLine) : CallR X (.builtin "repr") (rRepr X.K) := by
  intro pins s σ H vs us Q I r h
  rcases h with ⟨v, d, rfl, hd, hs, hz, hdep, q⟩ | ⟨a, rfl, ha, q⟩
  · obtain ⟨u, rfl, ru⟩ := vals1 r
    have hno := dp_hasDict d v hd
    obtain ⟨as, rd⟩ := Dp.reads I d v u hd ru
    have big : ∀ a, v = .ref a → wpAny (model X.prog X.w) X.A (call (.builtin "repr") [u]) (EP X pins σ Q) X.xe s := by
      rintro a rfl
      cases (show u = Value.ref a from ru)
      refine repr_of_reads' rd hs (fun e => by rw [hno] at e; cases e) hg (by omega) (fun _ _ e => e) (fun h' u tk hk => ?_) (by rw [sizeLine_eq]; exact hz)
      exact ⟨.str _, H, I.kept hk, ⟨_, rfl⟩, q⟩
    cases hd with
    | non =>
      cases (show u = Value.none from ru)
      exact PySem.P.repr_of_none ⟨.str _, H, I.tok _, ⟨_, rfl⟩, q⟩
    | bl b =>
      cases (show u = Value.bool b from ru)
      exact PySem.P.repr_of_bool ⟨.str _, H, I.tok _, ⟨_, rfl⟩, q⟩
    | int i =>
      obtain ⟨t, rfl⟩ := (show ∃ t, u = Value.int i t from ru)
      exact PySem.P.repr_of_int (of_decide_eq_true hs) ⟨.str _, H, I.tok _, ⟨_, rfl⟩, q⟩
    | str z =>
      obtain ⟨t, rfl⟩ := (show ∃ t, u = Value.str z t from ru)
      exact PySem.P.repr_of_str ⟨.str _, H, I.tok _, ⟨_, rfl⟩, q⟩ (by rw [sizeLine_eq]; exact hz)
    | lst _ _ => exact big _ rfl
    | tup _ _ => exact big _ rfl
  · rw [Vals.ref1 r]
    obtain ⟨_, hm, vs, hkv, o, es, ep, h1, h2, h3, _, h4, _⟩ := (show ObjOk X.prog X.w H s.heap a (.dK []) from I.hok a _ ha)
    cases hkv
    have e0 : es.toList = [] := by
      generalize es.toList = l at h4
      cases h4
      rfl
    have rd : Reads s.heap (.ref a) (.dict []) (a :: [] ++ []) := .dict h1 h2.1 h3 (by rw [e0]; exact .nil) (by rw [e0]; exact .nil)
    have hne : a ≠ sysModules := fun z => by rw [z] at hm; simp at hm
    refine repr_of_reads' rd rfl (fun _ hm' => by rcases List.mem_cons.mp hm' with z | z; exact hne z.symm; cases z) hg (by simp only [PyData.depth, PyData.depthKv]; omega) (fun _ _ e => e) (fun h' u tk hk => ?_) (by rw [sizeLine_eq]; decide)
    exact ⟨.str _, H, I.kept hk, ⟨_, rfl⟩, q⟩
theorem cs_repr : CallS X (rRepr X.K) mRepr := by
  intro W w S H σ xs vs Q s rs p
  unfold mRepr at p
  split at p
  · obtain ⟨v, rfl, rv⟩ := all1 rs
    split at p
    · rename_i x z e
      unfold shownM at e
      split at e
      · obtain ⟨a, rfl, ha⟩ := rv
        cases e
        exact .inr ⟨a, rfl, s.le _ _ ha, pst_dat s p (.str _)⟩
      · split at e
        · rename_i d e1
          split at e
          · rename_i hc
            cases e
            exact .inl ⟨v, d, rfl, look_ok s rv e1, hc.1, hc.2.1, hc.2.2, pst_dat s p (.str _)⟩
          · cases e
        · cases e
    · exact p.elim
  · exact p.elim
/-! isinstance, of a built-in type -/
theorem ge_cstV {e : Expr} {v : V} (h : PE X e (tC v)) : GE X W e (fun _ S => .ok (.cst v) S) := by
  refine PE.imp h fun σ H Q q => ?_
  obtain ⟨w, S, m, s, l, p⟩ := q
  exact pst_ok s p v rfl
def mcv (v : V) : EM := fun _ S => .ok (.cst v) S
theorem ge_ty {x : Str} {T : String} {pos : Pos} (hg : Gl X x) (hm : X.mg x = none) (hv : bootBuiltins x = some (.type T)) (hn : x ≠ "__name__" := by decide) (hd : (x == ("__debug__" : Str)) = false := by decide) : GE X W (.Name x pos) (mcv (.ty T)) :=
  ge_cstV (pe_bltn (v := .ty T) hg hm hv rfl hn hd)
theorem ge_globV {x : Str} {C : Addr} {pos : Pos} (hg : Gl X x) (hm : X.mg x = some (.ref C)) (hd : (x == ("__debug__" : Str)) = false := by decide) : GE X W (.Name x pos) (mcv (.ref C)) :=
  ge_cstV (pe_glob (v := .ref C) hg hm rfl hd)
def tyD : PyData → String
  | .none => "NoneType"
  | .bool _ => "bool"
  | .int _ => "int"
  | .str _ => "str"
  | .list _ => "list"
  | .tuple _ => "tuple"
  | .dict _ => "dict"
def tyM (S : Sto) (x : MV) : Option String := match x with
  | .dat (.dict _) => none
  | .dat d => some (tyD d)
  | .seq t _ => some (if t = true then "tuple" else "list")
  | .dct => some "dict"
  | .cell i => match S[i]? with
    | some (.lst _) => some "list"
    | some (.dead (.list _)) => some "list"
    | _ => none
  | _ => none
def mIsi : MC := fun xs S => match xs with
  | [x, .cst (.ty n)] => match tyM S x with
    | some t => match kitB t n with
      | some b => .ok (.dat (.bool b)) S
      | none => .bad
    | none => .bad
  | _ => .bad
theorem tyx_list {K : PySem.W.Frag} {H : Hp} {a : Addr} {xs : List V} (h : SqL K H a xs) : TyX K H (.ref a) (.type "list") := by
  rcases h with (h | ⟨o, h⟩) | ⟨o, its, n, h1, h2, _⟩
  · exact .base (.lst h)
  · exact .base (.frz h)
  · exact .kList h1 h2
theorem tyx_tup {K : PySem.W.Frag} {H : Hp} {a : Addr} {xs : List V} (h : SqT K H a xs) : TyX K H (.ref a) (.type "tuple") := by
  rcases h with (h | ⟨o, h⟩) | ⟨o, its, n, h1, h2, _⟩
  · exact .base (.tup h)
  · exact .fTuple h
  · exact .kTuple h1 h2
theorem tyM_ok {w : Wd} {S : Sto} {H : Hp} (s : Sim X.K X.mg w S H) {x : MV} {v : V} (r : RelM X.K X.mg w v x) {t : String} (e : tyM S x = some t) : TyX X.K H v (.type t) := by
  cases x with
  | dat d =>
    have r' : Dp X.K H v d := dp_ext s.le d v r
    cases r' <;> (unfold tyM at e; cases e)
    · exact .base .non
    · exact .base (.bl _)
    · exact .base (.int _)
    · exact .base (.str _)
    · rename_i h _; exact tyx_list h
    · rename_i h _; exact tyx_tup h
  | seq t' xs =>
    unfold tyM at e
    cases e
    obtain ⟨a, vs, rfl, h1, _⟩ := r
    cases t' with
    | true => exact tyx_tup (sqt_ext s.le h1)
    | false => exact tyx_list (sql_ext s.le h1)
  | dct =>
    unfold tyM at e
    cases e
    obtain ⟨a, rfl, h⟩ := r
    exact .base (.dK (s.le _ _ h))
  | cell i =>
    obtain ⟨hi, rfl⟩ := r
    unfold tyM at e
    cases ho : S[i]? with
    | none => simp [ho] at e
    | some o =>
      have q := s.obj i o ho
      cases o with
      | lst ys =>
        simp [ho] at e
        subst e
        obtain ⟨_, vs, h1, _⟩ := q
        exact tyx_list (.inl (.inl h1))
      | dead d =>
        cases d with
        | list ds =>
          simp [ho] at e
          subst e
          have q2 : Dp X.K H (.ref (w.r i)) (.list ds) := dp_ext s.le _ _ q.2
          cases q2 with
          | lst h1 _ => exact tyx_list h1
        | _ => simp [ho] at e
  | exc _ _ => simp [tyM] at e
  | cst _ => simp [tyM] at e
theorem cs_isi : CallS X (rIsi X.K) mIsi := by
  intro W w S H σ xs vs Q s rs p
  unfold mIsi at p
  split at p
  · rename_i x n
    obtain ⟨v, u, rfl, rv, ru⟩ := all2 rs
    have ru' : u = .ty n := ru
    subst ru'
    split at p
    · rename_i t e
      split at p
      · rename_i b e2
        exact ⟨v, _, _, _, b, rfl, .ty n, tyM_ok s rv e, kit_ty e2, pst_dat s p (.bl _)⟩
      · exact p.elim
    · exact p.elim
  · exact p.elim
/-! ### methods of builtins -/
abbrev RM := V → List V → Hp → VK → Prop
abbrev MM := MV → List MV → Sto → Res MV
def mmeth (g : MM) (fo : EM) (fa : AM) : EM := fun m S => (fo m S).bind fun x S1 => (fa m S1).bind fun xs S2 => g x xs S2
def MethS (X : Cx) (T : String) (r : RM) (g : MM) : Prop := ∀ (W : WX) (w : Wd) (S : Sto) (H : Hp) (σ : St) (x : MV) (v : V) (xs : List MV) (vs : List V) (Q : VK),
  Sim X.K X.mg w S H → RelM X.K X.mg w v x → AllM X.K X.mg w vs xs → Pst X.K X.mg w H σ W (Fv X.K X.mg Q) (g x xs S) → r v vs H Q
/-- a cell that stays one: T list -/
theorem ty_cell {K : PySem.W.Frag} {mg : Str → Option Value} {w : Wd} {S : Sto} {H : Hp} (s : Sim K mg w S H) {i : Nat} {v : V} (r : RelM K mg w v (.cell i)) {ys : List MV} (e : S[i]? = some (.lst ys)) : tyV K "list" v H := by
  obtain ⟨hi, rfl⟩ := r
  obtain ⟨_, vs, h1, _⟩ := s.obj i _ e
  exact .inl ⟨rfl, vs, .inl (.inl h1)⟩
def mlistM (g : MM) (fo : EM) (fa : AM) : EM := fun m S => (fo m S).bind fun x S1 => match tyM S1 x with
  | some "list" => (fa m S1).bind fun xs S2 => g x xs S2
  | _ => .bad
theorem tyV_list {w : Wd} {S : Sto} {H : Hp} (s : Sim X.K X.mg w S H) {x : MV} {v : V} (r : RelM X.K X.mg w v x) (e : tyM S x = some "list") : tyV X.K "list" v H := by
  cases x with
  | dat d =>
    have r' : Dp X.K H v d := dp_ext s.le d v r
    cases r' <;> first | (rename_i h _; exact .inl ⟨rfl, _, h⟩) | (exfalso; revert e; unfold tyM; simp [tyD])
  | seq t' xs =>
    obtain ⟨a, vs, rfl, h1, _⟩ := r
    cases t' with
    | true => exfalso; revert e; unfold tyM; simp
    | false => exact .inl ⟨rfl, _, sql_ext s.le h1⟩
  | dct => exfalso; revert e; unfold tyM; simp
  | cell i =>
    obtain ⟨hi, rfl⟩ := r
    unfold tyM at e
    cases ho : S[i]? with
    | none => simp [ho] at e
    | some o =>
      have q := s.obj i o ho
      cases o with
      | lst ys =>
        obtain ⟨_, vs, h1, _⟩ := q
        exact .inl ⟨rfl, _, .inl (.inl h1)⟩
      | dead d =>
        cases d with
        | list ds =>
          have q2 : Dp X.K H (.ref (w.r i)) (.list ds) := dp_ext s.le _ _ q.2
          cases q2 with
          | lst h1 _ => exact .inl ⟨rfl, _, h1⟩
        | _ => simp [ho] at e
  | exc _ _ => simp [tyM] at e
  | cst _ => simp [tyM] at e
theorem ge_lm {id : String} {name : Str} {o : Expr} {fo : EM} {apos cpos : Pos} {r : RM} {g : MM} (slot : Slot "list" name id) (hty : typeOf (.builtin id) = pure (.type "method_descriptor")) (hm : MtR X id r) (hS : MethS X "list" r g) (ho : GE X W o fo) (ha : GA X W (e :: es) fa)
    (hbase : attributeBase o name X.env (eval o X.env) = eval o X.env := by rfl)
    (hfew : ((backTo cpos (starEach (e :: es) X.env)).all (fun x => !x.1) && (backToKw cpos (keywordEach [] X.env)).all (fun x => x.1.isSome)
      && decide ((e :: es).length + ([] : List Keyword).length + (if ([] : List Keyword).isEmpty then 0 else 1) < 30)) = true := by rfl)
    (hline : (apos.endLine == cpos.line) = true := by rfl) (hs : starEach (e :: es) X.env = (false, eval e X.env) :: starEach es X.env := by rfl) (hplain : (backTo cpos (starEach es X.env)).any (·.1) = false := by rfl) :
    GE X W (.Call (.Attribute o name apos) (e :: es) [] cpos) (mlistM g fo fa) := by
  refine PE.imp (pe_bm PySem.F.plainAttrs_list slot hty hm ho ha hbase hfew hline hs hplain) fun σ H Q q => ?_
  obtain ⟨w, S, m, s, l, p⟩ := q
  refine ⟨w, S, m, s, l, (Pst.bind p).imp fun w1 S1 H1 x l1 s1 p1 v rv => ?_⟩
  split at p1
  · rename_i e1
    exact ⟨tyV_list s1 rv e1, w1, S1, m, s1, l.mono l1.le, (Pst.bind p1).imp fun w2 S2 H2 xs l2 s2 p2 vs rs => hS W w2 S2 H2 σ x v xs vs Q s2 (rv.mono l2.le) rs p2⟩
  · exact p1.elim
theorem ge_lm0 {id : String} {name : Str} {o : Expr} {fo : EM} {apos cpos : Pos} {r : RM} {g : MM} (slot : Slot "list" name id) (hty : typeOf (.builtin id) = pure (.type "method_descriptor")) (hm : MtR X id r) (hS : MethS X "list" r g) (ho : GE X W o fo)
    (hbase : attributeBase o name X.env (eval o X.env) = eval o X.env := by rfl) (hline : (apos.endLine == cpos.line) = true := by rfl) :
    GE X W (.Call (.Attribute o name apos) [] [] cpos) (mlistM g fo mnil) := by
  refine PE.imp (pe_bm0 PySem.F.plainAttrs_list slot hty hm ho hbase hline) fun σ H Q q => ?_
  obtain ⟨w, S, m, s, l, p⟩ := q
  refine ⟨w, S, m, s, l, (Pst.bind p).imp fun w1 S1 H1 x l1 s1 p1 v rv => ?_⟩
  split at p1
  · rename_i e1
    exact ⟨tyV_list s1 rv e1, hS W w1 S1 H1 σ x v [] [] Q s1 rv .nil p1⟩
  · exact p1.elim
/-! append, pop -/
def gApp : MM := fun x xs S => match x, xs with
  | .cell i, [y] => match S[i]? with
    | some (.lst zs) => if zs.length < 16777216 then .ok (.dat .none) (S.set i (.lst (zs ++ [y]))) else .bad
    | _ => .bad
  | _, _ => .bad
theorem ms_app : MethS X "list" rAppend gApp := by
  intro W w S H σ x v xs vs Q s rv rs p
  unfold gApp at p
  split at p
  · rename_i i y
    split at p
    · rename_i zs e
      split at p
      · rename_i hz
        obtain ⟨hi, rfl⟩ := rv
        obtain ⟨u, rfl, ru⟩ := all1 rs
        obtain ⟨hB, us, h1, h2⟩ := s.obj i _ e
        refine ⟨_, us, u, rfl, rfl, h1, by rw [Paired.length h2]; exact hz, ?_⟩
        exact p w _ (set_lx hi) (set_cell s e (paired_snoc ru h2)) _ .non
      · exact p.elim
    · exact p.elim
  · exact p.elim
def gPop : MM := fun x xs S => match x, xs with
  | .cell i, [] => match S[i]? with
    | some (.lst zs) => match zs[zs.length - 1]? with
      | some y => .ok y (S.set i (.lst zs.dropLast))
      | none => .bad
    | _ => .bad
  | _, _ => .bad
theorem paired_dropLast {α β : Type} {R : α → β → Prop} : ∀ {as : List α} {bs : List β}, Paired R as bs → Paired R as.dropLast bs.dropLast
  | _, _, .nil => .nil
  | _, _, .cons r .nil => .nil
  | _, _, .cons r (.cons r2 t) => .cons r (paired_dropLast (.cons r2 t))
theorem paired_erase {α β : Type} {R : α → β → Prop} : ∀ {as : List α} {bs : List β} (k : Nat), Paired R as bs → Paired R (as.eraseIdx k) (bs.eraseIdx k)
  | _, _, _, .nil => .nil
  | _, _, 0, .cons r t => t
  | _, _, k + 1, .cons r t => .cons r (paired_erase k t)
theorem ms_pop : MethS X "list" rPop gPop := by
  intro W w S H σ x v xs vs Q s rv rs p
  unfold gPop at p
  split at p
  · rename_i i
    cases rs
    split at p
    · rename_i zs e
      split at p
      · rename_i y ey
        obtain ⟨hi, rfl⟩ := rv
        obtain ⟨hB, us, h1, h2⟩ := s.obj i _ e
        obtain ⟨u, eu, ru⟩ := allM_get h2 ey
        refine ⟨_, us, u, rfl, rfl, h1, by rw [Paired.length h2]; exact eu, ?_⟩
        exact p w _ (set_lx hi) (set_cell s e (paired_dropLast h2)) _ ru
      · exact p.elim
    · exact p.elim
  · exact p.elim
def gPopAt : MM := fun x xs S => match x, xs with
  | .cell i, [.dat (.int j)] => match S[i]? with
    | some (.lst zs) => match ixN zs.length j with
      | some k => if zs.length ≤ 16777216 then match zs[k]? with
        | some y => .ok y (S.set i (.lst (zs.eraseIdx k)))
        | none => .bad
        else .bad
      | none => .bad
    | _ => .bad
  | _, _ => .bad
theorem ms_popAt : MethS X "list" rPopAt gPopAt := by
  intro W w S H σ x v xs vs Q s rv rs p
  unfold gPopAt at p
  split at p
  · rename_i i j
    obtain ⟨uj, rfl, rj⟩ := all1 rs
    obtain rfl := rel_int rj
    split at p
    · rename_i zs e
      split at p
      · rename_i k ek
        split at p
        · rename_i hz
          split at p
          · rename_i y ey
            obtain ⟨hi, rfl⟩ := rv
            obtain ⟨hB, us, h1, h2⟩ := s.obj i _ e
            obtain ⟨u, eu, ru⟩ := allM_get h2 ey
            obtain ⟨q1, q2, q3, q4⟩ := ixN_seq ek
            have hl := Paired.length h2
            refine ⟨_, us, j, k, u, rfl, rfl, h1, by omega, by omega, by rw [hl]; exact q1, eu, ?_⟩
            exact p w _ (set_lx hi) (set_cell s e (paired_erase k h2)) _ ru
          · exact p.elim
        · exact p.elim
      · exact p.elim
    · exact p.elim
  · exact p.elim
/-! index -/
def findD (d : PyData) : List PyData → Option Nat
  | [] => none
  | z :: zs => if PyData.eqv z d = true then some 0 else (findD d zs).map (· + 1)
theorem findD_ok {d : PyData} : ∀ {ds : List PyData} {j : Nat}, findD d ds = some j → ∃ z, ds[j]? = some z ∧ PyData.eqv z d = true ∧ ∀ m z', m < j → ds[m]? = some z' → PyData.eqv z' d = false
  | [], j, e => by cases e
  | z :: zs, j, e => by
    unfold findD at e
    split at e
    · rename_i h
      cases e
      exact ⟨z, rfl, h, fun m z' hm => absurd hm (Nat.not_lt_zero _)⟩
    · rename_i h
      cases e1 : findD d zs with
      | none => rw [e1] at e; cases e
      | some k =>
        rw [e1] at e
        cases e
        obtain ⟨z', h1, h2, h3⟩ := findD_ok e1
        refine ⟨z', h1, h2, fun m u hm eu => ?_⟩
        cases m with
        | zero =>
          cases eu
          cases hb : PyData.eqv z d with
          | true => exact absurd hb h
          | false => rfl
        | succ m => exact h3 m u (Nat.lt_of_succ_lt_succ hm) eu
def gIndex : MM := fun x xs S => match xs with
  | [y] => match look S x, look S y with
    | some (.list ds), some d => if SeqAt.shaped (.list ds) = true ∧ SeqAt.shaped d = true then match findD d ds with
      | some j => .ok (.dat (.int j)) S
      | none => .bad
      else .bad
    | _, _ => .bad
  | _ => .bad
theorem ms_index : MethS X "list" (rIndexD X.K) gIndex := by
  intro W w S H σ x v xs vs Q s rv rs p
  unfold gIndex at p
  split at p
  · rename_i y
    obtain ⟨u, rfl, ru⟩ := all1 rs
    split at p
    · rename_i ds d e1 e2
      split at p
      · rename_i hc
        split at p
        · rename_i j ej
          obtain ⟨z, h1, h2, h3⟩ := findD_ok ej
          obtain ⟨a, us, rfl, q1, q2⟩ := look_list s rv e1
          exact ⟨a, u, d, ds, j, z, rfl, rfl, look_ok s rv e1, look_ok s ru e2, hc.1, hc.2, h1, h2, h3, pst_dat s p (.int _)⟩
        · exact p.elim
      · exact p.elim
    · exact p.elim
  · exact p.elim
end
end PX
end

section
set_option Elab.async false
set_option linter.all false
set_option maxRecDepth 100000
set_option maxHeartbeats 4000000
namespace PX
open PySem PySem.Spec PyProof.Rows L2
section
variable {X : Cx} {W : WX} {o e : Expr} {fo fe : EM}
/-! ### texts -/
def mtxt1 (g : Str → MV → Sto → Res MV) (fo fe : EM) : EM := fun m S => (fo m S).bind fun x S1 => match x with
  | .dat (.str a) => (fe m S1).bind fun y S2 => g a y S2
  | _ => .bad
def mtxt0 (g : Str → Sto → Res MV) (fo : EM) : EM := fun m S => (fo m S).bind fun x S1 => match x with
  | .dat (.str a) => g a S1
  | _ => .bad
theorem wp_txt1 {r : RM} {g : Str → MV → Sto → Res MV} (hr : ∀ (w : Wd) (S : Sto) (H : Hp) (σ : St) (a : Str) (y : MV) (u : V) (Q : VK), Sim X.K X.mg w S H → RelM X.K X.mg w u y → Pst X.K X.mg w H σ W (Fv X.K X.mg Q) (g a y S) → r (.str a) [u] H Q)
    {σ : St} {H : Hp} {Q : VK} (q : wpE X.K X.mg W (mtxt1 g fo fe) σ H Q) : tM1 r (wpE X.K X.mg W fo) (wpE X.K X.mg W fe) σ H Q := by
  obtain ⟨w, S, m, s, l, p⟩ := q
  refine ⟨w, S, m, s, l, (Pst.bind p).imp fun w1 S1 H1 x l1 s1 p1 v rv => ?_⟩
  split at p1
  · rename_i a
    obtain rfl := rel_str rv
    refine ⟨⟨a, rfl⟩, w1, S1, m, s1, l.mono l1.le, (Pst.bind p1).imp fun w2 S2 H2 y l2 s2 p2 u ru => hr w2 S2 H2 σ a y u Q s2 ru p2⟩
  · exact p1.elim
theorem wp_txt0 {r : RM} {g : Str → Sto → Res MV} (hr : ∀ (w : Wd) (S : Sto) (H : Hp) (σ : St) (a : Str) (Q : VK), Sim X.K X.mg w S H → Pst X.K X.mg w H σ W (Fv X.K X.mg Q) (g a S) → r (.str a) [] H Q)
    {σ : St} {H : Hp} {Q : VK} (q : wpE X.K X.mg W (mtxt0 g fo) σ H Q) : tM0 r (wpE X.K X.mg W fo) σ H Q := by
  obtain ⟨w, S, m, s, l, p⟩ := q
  refine ⟨w, S, m, s, l, (Pst.bind p).imp fun w1 S1 H1 x l1 s1 p1 v rv => ?_⟩
  split at p1
  · rename_i a
    obtain rfl := rel_str rv
    exact ⟨⟨a, rfl⟩, hr w1 S1 H1 σ a Q s1 p1⟩
  · exact p1.elim
theorem dp_strs {K : PySem.W.Frag} {B : Hp} : ∀ ys : List Str, DpAll K B (ys.map V.str) (ys.map PyData.str)
  | [] => .nil
  | y :: ys => .cons (.str y) (dp_strs ys)
def strsD : List PyData → Option (List Str)
  | [] => some []
  | .str i :: ds => (strsD ds).map (i :: ·)
  | _ :: _ => none
theorem strsD_map (ns : List Str) : strsD (ns.map PyData.str) = some ns := by
  induction ns with
  | nil => rfl
  | cons n ns ih => simp [strsD, ih]
theorem strsD_ok {K : PySem.W.Frag} {B : Hp} : ∀ {ds : List PyData} {ns : List Str} {vs : List V}, strsD ds = some ns → DpAll K B vs ds → vs = ns.map V.str
  | [], ns, vs, e, h => by
    cases h
    cases e
    rfl
  | .str i :: ds, ns, vs, e, h => by
    cases h with
    | cons h1 h2 =>
      unfold strsD at e
      cases e1 : strsD ds with
      | none => rw [e1] at e; cases e
      | some ms =>
        rw [e1] at e
        cases e
        rw [dp_inv_str h1, strsD_ok e1 h2]
        rfl
  | .none :: _, _, _, e, _ => by cases e
  | .bool _ :: _, _, _, e, _ => by cases e
  | .int _ :: _, _, _, e, _ => by cases e
  | .list _ :: _, _, _, e, _ => by cases e
  | .tuple _ :: _, _, _, e, _ => by cases e
  | .dict _ :: _, _, _, e, _ => by cases e
def gSplit (a : Str) (y : MV) (S : Sto) : Res MV := match y with
  | .dat (.str b) => if (b.length == 0) = false ∧ a.length + 2 ≤ 16777216 then .ok (.dat (.list ((Txt.split a b).map PyData.str))) S else .bad
  | _ => .bad
theorem ge_split {apos pos : Pos} (ho : GE X W o fo) (he : GE X W e fe) (hs : starEach [e] X.env = [(false, eval e X.env)] := by rfl) (hbase : attributeBase o "split" X.env (eval o X.env) = eval o X.env := by rfl) (hline : (apos.endLine == pos.line) = true := by rfl) :
    GE X W (.Call (.Attribute o "split" apos) [e] [] pos) (mtxt1 gSplit fo fe) := by
  refine PE.imp (pe_split ho he hs hbase hline) fun σ H Q q => wp_txt1 (fun w S H σ a y u Q s ru p => ?_) q
  unfold gSplit at p
  split at p
  · rename_i b
    obtain rfl := rel_str ru
    split at p
    · rename_i hc
      refine ⟨a, b, rfl, rfl, hc.1, by rw [sizeLine_eq]; exact hc.2, fun l hl => ?_⟩
      obtain ⟨l3, s3, d3⟩ := new_list s hl (dp_strs (Txt.split a b))
      exact p _ _ l3 s3 _ d3
    · exact p.elim
  · exact p.elim
def gJoin (a : Str) (y : MV) (S : Sto) : Res MV := match look S y with
  | some (.list ds) => match strsD ds with
    | some ys => if (ys.map (·.length)).sum + ys.length * a.length ≤ 16777216 then .ok (.dat (.str (Txt.join a ys))) S else .bad
    | none => .bad
  | _ => .bad
theorem ge_join {apos pos : Pos} (ho : GE X W o fo) (he : GE X W e fe) (hs : starEach [e] X.env = [(false, eval e X.env)] := by rfl) (hbase : attributeBase o "join" X.env (eval o X.env) = eval o X.env := by rfl) (hline : (apos.endLine == pos.line) = true := by rfl) :
    GE X W (.Call (.Attribute o "join" apos) [e] [] pos) (mtxt1 gJoin fo fe) := by
  refine PE.imp (pe_join ho he hs hbase hline) fun σ H Q q => wp_txt1 (fun w S H σ a y u Q s ru p => ?_) q
  unfold gJoin at p
  split at p
  · rename_i ds e1
    obtain ⟨x, us, rfl, h1, h2⟩ := look_list s ru e1
    split at p
    · rename_i ys e2
      obtain rfl := strsD_ok e2 h2
      split at p
      · rename_i hc
        exact ⟨a, x, ys, rfl, rfl, .inl h1, hc, pst_dat s p (.str _)⟩
      · exact p.elim
    · exact p.elim
  · exact p.elim
def gUpper (a : Str) (S : Sto) : Res MV := if a.length ≤ 5592405 then .ok (.dat (.str (Txt.upper a))) S else .bad
theorem ge_upper {apos pos : Pos} (ho : GE X W o fo) (hbase : attributeBase o "upper" X.env (eval o X.env) = eval o X.env := by rfl) (hline : (apos.endLine == pos.line) = true := by rfl) :
    GE X W (.Call (.Attribute o "upper" apos) [] [] pos) (mtxt0 gUpper fo) := by
  refine PE.imp (pe_upper ho hbase hline) fun σ H Q q => wp_txt0 (fun w S H σ a Q s p => ?_) q
  unfold gUpper at p
  split at p
  · rename_i hc
    exact ⟨a, rfl, rfl, hc, pst_dat s p (.str _)⟩
  · exact p.elim
/-! ### bit_length -/
def mbits (fo : EM) : EM := fun m S => (fo m S).bind fun x S1 => match x with
  | .dat (.int i) => .ok (.dat (.int (Builtin.Int.intBits i : Nat))) S1
  | _ => .bad
theorem ge_bits {apos pos : Pos} (ho : GE X W o fo) (hbase : attributeBase o "bit_length" X.env (eval o X.env) = eval o X.env := by rfl) (hline : (apos.endLine == pos.line) = true := by rfl) : GE X W (.Call (.Attribute o "bit_length" apos) [] [] pos) (mbits fo) := by
  refine PE.imp (pe_bits ho hbase hline) fun σ H Q q => ?_
  obtain ⟨w, S, m, s, l, p⟩ := q
  refine ⟨w, S, m, s, l, (Pst.bind p).imp fun w1 S1 H1 x l1 s1 p1 v rv => ?_⟩
  split at p1
  · rename_i i
    exact ⟨i, rel_int rv, pst_dat s1 p1 (.int _)⟩
  · exact p1.elim
/-! ### enumerate -/
def enumD : Nat → List PyData → List MV
  | _, [] => []
  | i, d :: ds => .dat (.tuple [.int (i : Nat), d]) :: enumD (i + 1) ds
theorem enumD_len : ∀ (i : Nat) (ds : List PyData), (enumD i ds).length = ds.length
  | _, [] => rfl
  | i, _ :: ds => by simp [enumD, enumD_len (i + 1) ds]
theorem enumD_get : ∀ (ds : List PyData) (k i : Nat) (x : MV), (enumD k ds)[i]? = some x → ∃ d, ds[i]? = some d ∧ x = .dat (.tuple [.int ((k + i : Nat) : Int), d])
  | [], _, _, _, e => by cases e
  | d :: ds, k, 0, x, e => by
    cases e
    exact ⟨d, rfl, rfl⟩
  | d :: ds, k, i + 1, x, e => by
    obtain ⟨d', h1, h2⟩ := enumD_get ds (k + 1) i x e
    refine ⟨d', h1, ?_⟩
    rw [h2]
    congr 4
    omega
def menum (fa : AM) : AM := fun m S => (fa m S).bind fun xs S1 => match xs with
  | [x] => match fz S1 x with
    | some (.list ds, S2) => .ok (enumD 0 ds) S2
    | _ => .bad
  | _ => .bad
theorem itr_enum {K : PySem.W.Frag} {mg : Str → Option Value} {w : Wd} {a : Addr} {ds : List PyData} (h : Dp K w.B (.ref a) (.list ds)) : ItR K mg w (Ite K a) (enumD 0 ds) := by
  intro i w' S' H' l s
  cases h with
  | lst h1 h2 =>
    rename_i vs
    have h1' : SqL K H' a vs := sql_ext s.le (sql_ext l.1 h1)
    refine ⟨fun x e => ?_, fun hl => ⟨vs, h1', by rw [dpAll_len h2]; rw [enumD_len] at hl; exact hl⟩⟩
    obtain ⟨d, e1, rfl⟩ := enumD_get ds 0 i x e
    obtain ⟨v, e2, e3⟩ := dpAll_get h2 e1
    refine ⟨⟨vs, v, h1', e2⟩, fun u H2 hy => ?_⟩
    obtain ⟨T, y, rfl, hT, rfl, hy⟩ := hy
    have : v = y := Option.some.inj ((e2.symm.trans (hy vs h1')))
    subst this
    rw [Nat.zero_add]
    obtain ⟨l3, s3, d3⟩ := new_tup s hT (ds := [.int (i : Nat), d]) (vs := [.int (i : Nat), v]) (.cons (.int _) (.cons (dp_ext l.1 _ _ e3) .nil))
    exact ⟨_, l3, s3, d3⟩
theorem gi_enum {e : Expr} {fa : AM} {p pos tpos : Pos} {elts : List Expr} {kk : Nat} (hg : Gl X "enumerate") (hm : X.mg "enumerate" = none) (ha : GA X W [e] fa) (hs : starEach [e] X.env = [(false, eval e X.env)] := by rfl) :
    GI X W (.Tuple elts kk tpos) (.Call (.Name "enumerate" p) [e] [] pos) (menum fa) := by
  refine PI.imp (pi_enum hg hm ha hs) fun σ H R q => ?_
  obtain ⟨w, S, m, s, l, p⟩ := q
  refine ⟨w, S, m, s, l, (Pst.bind p).imp fun w1 S1 H1 xs l1 s1 p1 vs rs => ?_⟩
  split at p1
  · obtain ⟨v, rfl, r⟩ := all1 rs
    split at p1
    · rename_i ds S2 e1
      obtain ⟨w2, l2, s2, d2⟩ := fz_ok s1 r e1
      cases d2 with
      | lst h1 h2 => exact ⟨_, _, rfl, sql_ext s2.le h1, p1 w2 H1 l2 s2 _ (itr_enum (.lst h1 h2))⟩
    · exact p1.elim
  · exact p1.elim
end
end PX
end

section
set_option Elab.async false
set_option linter.all false
set_option maxRecDepth 100000
set_option maxHeartbeats 4000000
namespace PX
open PySem PySem.Spec PyProof.Rows L2

/-! ### what a def of the text promises -/
abbrev FM := List MV → Sto → Res MV
def spG (K : PySem.W.Frag) (mg : Str → Option Value) (np : Nat) (g : FM) : Sp := fun vs H Q E => vs.length = np ∧ ∃ w S xs, Sim K mg w S H ∧ AllM K mg w vs xs ∧ Pst K mg w H [] (fun c d _ H' => E c d H') (Fv K mg Q) (g xs S)
structure FnG (P : Program) (w : World) (K : PySem.W.Frag) (mg : Str → Option Value) (base : Heap) (k : Nat) (f : Addr) (fd : FuncData) (ps : List Str) (g : FM) : Prop where
  run : ∀ (A : Around) (outer : List Env) (s : Shared) (H : Hp) (args : Args) (us : List Value) (vs : List V) (Q : VK) (E : XK), A.guards = some [] → Room k A → Env0 P w K mg base A outer s H → BindsTo s fd args (ps.zip us) → Vals vs us → spG K mg ps.length g vs H Q E →
    codeAny (model P w) A (.call (.ref f) args) (CR (L2.CX P w) outer P w H s Q E) s
theorem FnG.mono {P : Program} {w : World} {K : PySem.W.Frag} {mg : Str → Option Value} {base : Heap} {j k : Nat} {f : Addr} {fd : FuncData} {ps : List Str} {g : FM} (F : FnG P w K mg base j f fd ps g) (h : j ≤ k) : FnG P w K mg base k f fd ps g :=
  ⟨fun A outer s H args us vs Q E hg hr => F.run A outer s H args us vs Q E hg (hr.mono h)⟩
/-- g is told by a simpler g' -/
def Tells (g g' : FM) : Prop := ∀ xs S, g' xs S ≠ .bad → g xs S = g' xs S
theorem FnG.tells {P : Program} {w : World} {K : PySem.W.Frag} {mg : Str → Option Value} {base : Heap} {k : Nat} {f : Addr} {fd : FuncData} {ps : List Str} {g g' : FM} (F : FnG P w K mg base k f fd ps g) (h : Tells g g') : FnG P w K mg base k f fd ps g' := by
  refine ⟨fun A outer s H args us vs Q E hg hr he hb hv hs => F.run A outer s H args us vs Q E hg hr he hb hv ?_⟩
  obtain ⟨hl, w, S, xs, s0, a, p⟩ := hs
  refine ⟨hl, w, S, xs, s0, a, ?_⟩
  rw [h xs S fun z => by rw [z] at p; exact p]
  exact p
/-- the body's model as the def's -/
def mfun (np n : Nat) (b : SM) : FM := fun xs S => if xs.length = np then match b (xs.map some ++ List.replicate (n - np) none) S with
    | .next _ S' => .ok (.dat .none) S'
    | .ret v S' => .ok v S'
    | .exc c d _ S' => .exc c d S'
    | .bad => .bad
  else .bad
abbrev WE0 (E : XK) : WX := fun c d _ H => E c d H
theorem slr_start {K : PySem.W.Frag} {mg : Str → Option Value} {w : Wd} (n : Nat) : ∀ {vs : List V} {xs : List MV}, AllM K mg w vs xs → SlR K mg w (vs.map some ++ List.replicate n none) (xs.map some ++ List.replicate n none)
  | _, _, .nil => by
    show SlR K mg w (List.replicate n none) (List.replicate n none)
    induction n with
    | zero => exact .nil
    | succ n ih => exact .cons trivial ih
  | _, _, .cons r t => .cons r (slr_start n t)
section
variable {P : Program} {w : World} {K : PySem.W.Frag} {mg : Str → Option Value} {base : Heap}
/-- a def by its body -/
theorem fnG_of {x qual : Str} {st : Stmt} {f : Addr} {fd : FuncData} {N ps : List Str} {k : Nat} {b : SM} (F : Fun K x qual st f fd) (S : FnScope N ps (defScope st))
    (hbody : ∀ (cdv : Value) (A : Around) (outer : List Env) (s : Shared) (H : Hp) (E : XK), A.guards = some [] → Room k (A.deeper (envOfC qual (defScope st) s.heap.objs.size f cdv)) →
      GB (cxOf (L2.CX P w) P w K mg base N qual (defScope st) f cdv A outer s H E) (WE0 E) (defBody st) b) : FnG P w K mg base (k + 1) f fd ps (mfun ps.length N.length b) := by
  obtain ⟨oc, od, kV, doc, pm, an, cdv, ct, osl, rfl, lk, hcd⟩ := F.ex
  refine ⟨fun A outer s H args us vs Q E hg hr e0 hb hv hs => ?_⟩
  obtain ⟨hl, w0, S0, xs, s0, a0, p0⟩ := hs
  refine LamX.run_ofS lk hcd S hr e0 hb hv hl fun hr' => ⟨_, hbody cdv A outer s H E hg hr', w0, S0, xs.map some ++ List.replicate (N.length - ps.length) none, s0, ?_, ?_⟩
  · unfold L2.start
    rw [hl]
    exact slr_start _ a0
  · unfold mfun at p0
    rw [if_pos (by rw [← Paired.length a0]; exact hl)] at p0
    revert p0
    cases b (xs.map some ++ List.replicate (N.length - ps.length) none) S0 with
    | next m S' => exact fun p w' σ' H' l s _ => p w' H' l s _ .non
    | ret v S' => exact fun p w' u H' l s r => p w' H' l s u r
    | exc c d m S' => exact fun p w' σ' H' C dd u l s _ h1 h2 h3 => p w' H' C dd u l s h1 h2 h3
    | bad => exact fun p => p
end
/-! ### calls -/
section
variable {X : Cx} {W : WX} {k : Nat} {f : Addr} {fd : FuncData} {ps ks : List Str} {g : FM} {x : Str} {p pos : Pos} {e : Expr} {es : List Expr} {fa fk : AM} {kws : List Keyword}
theorem run_fnG {pins : List (Addr × Obj)} {σ : St} {H : Hp} {s : Shared} {Q : VK} {args : Args} {us : List Value} {vs : List V} (F : FnG X.prog X.w X.K X.mg X.base k f fd ps g) (hg : X.A.guards = some []) (hr : Room k X.A) (tk : Takes X W) (hb : BindsTo s fd args (ps.zip us))
    (I : Inv X pins σ H s) (r : Vals vs us) (h : spG X.K X.mg ps.length g vs H Q (WE W σ)) : wpAny (model X.prog X.w) X.A (call (.ref f) args.pos args.kw) (EP X pins σ Q) X.xe s := by
  refine wpAny_call (codeAny_mono (F.run X.A X.stack s H args us vs Q (WE W σ) hg hr I.env0 hb r h) fun r s' hq => ?_)
  cases r with
  | error e => exact passAt tk σ pins H s e s' I hq
  | ok fl =>
    cases fl with
    | ret u => exact I.after hq
    | next => exact False.elim hq
    | brk => exact False.elim hq
    | cont => exact False.elim hq
theorem wp_fn {np : Nat} {σ : St} {H : Hp} {Q : VK} (hlen : ∀ xs S, xs.length ≠ np → g xs S = .bad) (h : wpE X.K X.mg W (mcall g fa) σ H Q) : wpA X.K X.mg W fa σ H fun vs H1 => spG X.K X.mg np g vs H1 Q (WE W σ) := by
  obtain ⟨w, S, m, s, l, p⟩ := h
  refine ⟨w, S, m, s, l, (Pst.bind p).imp fun w1 S1 H1 xs l1 s1 p1 vs rs => ⟨?_, w1, S1, xs, s1, rs, ?_⟩⟩
  · rw [Paired.length rs]
    by_cases hx : xs.length = np
    · exact hx
    · rw [hlen xs S1 hx] at p1
      exact p1.elim
  · cases e : g xs S1 with
    | ok a S2 => rw [e] at p1; exact p1
    | exc c d S2 => rw [e] at p1; exact p1
    | bad => rw [e] at p1; exact p1
theorem ge_call (F : FnG X.prog X.w X.K X.mg X.base k f fd ps g) (hlen : ∀ xs S, xs.length ≠ ps.length → g xs S = .bad) (hgd : X.A.guards = some []) (hr : Room k X.A) (tk : Takes X W) (hg : Gl X x) (hm : X.mg x = some (.ref f)) (hk : PySem.W.keepIn X.K (.ref f) = true) (hb : Binds X.K fd ps [])
    (ha : GA X W (e :: es) fa) (hdb : (x == ("__debug__" : Str)) = false := by decide) (he : starEach (e :: es) X.env = (false, eval e X.env) :: starEach es X.env := by rfl) (hpl : (backTo pos (starEach es X.env)).any (·.1) = false := by rfl) :
    GE X W (.Call (.Name x p) (e :: es) [] pos) (mcall g fa) := by
  refine ⟨fun pins s σ H Q I h => ?_⟩
  have h' := wp_fn hlen h
  refine wpAny_Call_Name_kw (ld_glob I hg hm ?_ hdb)
  refine PySem.W.callWith_K (h₀ := X.base) I.ok.mod.kin hk (thn (ha.run pos pins s σ H _ I h') fun us s1 ⟨vs, H1, I1, r, q⟩ => ⟨I1.kIn, ?_⟩) he hpl
  have hl : us.length = ps.length := by rw [← r.length]; exact q.1
  have b := hb s1 us I1.kIn (by rw [List.append_nil]; exact hl)
  rw [List.append_nil] at b
  exact run_fnG (args := ⟨us, []⟩) F hgd hr tk b I1 r q
/-- f(k = v, ..) -/
abbrev GK (X : Cx) (W : WX) (kws : List Keyword) (f : AM) : Prop := PK X kws (wpA X.K X.mg W f)
theorem gk_nil : GK X W [] mnil := ⟨fun pos pins s σ H Q I h => pk_nil.run pos pins s σ H Q I (by
  obtain ⟨w, S, m, s, l, p⟩ := h
  exact pst_ok s p [] .nil)⟩
theorem gk_cons {nm : Option Str} {kpos : Pos} {f : EM} {g : AM} (ha : GE X W e f) (hr : GK X W kws g) : GK X W (⟨nm, e, kpos⟩ :: kws) (mcons f g) :=
  ⟨fun pos pins s σ H Q I h => (pk_cons ha hr).run pos pins s σ H Q I (wp_cons h)⟩
def pick {α : Type} (xs : List α) : List Nat → Option (List α)
  | [] => some []
  | j :: js => match xs[j]?, pick xs js with
    | some x, some r => some (x :: r)
    | _, _ => none
/-- keywords alone: pm puts their values in the parameters' order -/
structure KB (K : PySem.W.Frag) (fd : FuncData) (ps ks : List Str) (pm : List Nat) : Prop where
  to : ∀ (s : Shared) (ws us : List Value), K.In s.heap → ws.length = ks.length → pick ws pm = some us → BindsTo s fd ⟨[], ks.zip ws⟩ (ps.zip us)
def mkw (g : FM) (pm : List Nat) : MC := fun xs S => match pick xs pm with
  | some ys => g ys S
  | none => .bad
theorem pick_ok {α β : Type} {R : α → β → Prop} {as : List α} {bs : List β} (h : ∀ (j : Nat) (b : β), bs[j]? = some b → ∃ a, as[j]? = some a ∧ R a b) : ∀ {pm : List Nat} {ys : List β}, pick bs pm = some ys → ∃ zs, pick as pm = some zs ∧ Paired R zs ys
  | [], ys, e => by
    cases e
    exact ⟨[], rfl, .nil⟩
  | j :: js, ys, e => by
    unfold pick at e
    cases e1 : bs[j]? with
    | none => simp [e1] at e
    | some b =>
      cases e2 : pick bs js with
      | none => simp [e1, e2] at e
      | some r =>
        simp only [e1, e2, Option.some.injEq] at e
        subst e
        obtain ⟨a, h1, h2⟩ := h j b e1
        obtain ⟨zs, h3, h4⟩ := pick_ok h e2
        exact ⟨a :: zs, by unfold pick; rw [h1, h3], .cons h2 h4⟩
theorem pick_get {α : Type} {xs : List α} : ∀ {pm : List Nat} {ys : List α}, pick xs pm = some ys → ys.length = pm.length ∧ ∀ i j : Nat, pm[i]? = some j → ys[i]? = xs[j]?
  | [], ys, e => by
    cases e
    exact ⟨rfl, fun i j h => by simp at h⟩
  | j :: js, ys, e => by
    unfold pick at e
    cases e1 : xs[j]? with
    | none => simp [e1] at e
    | some b =>
      cases e2 : pick xs js with
      | none => simp [e1, e2] at e
      | some r =>
        simp only [e1, e2, Option.some.injEq] at e
        subst e
        obtain ⟨h1, h2⟩ := pick_get e2
        refine ⟨congrArg Nat.succ h1, fun i j' h => ?_⟩
        cases i with
        | zero =>
          simp at h
          subst h
          rw [e1]
          rfl
        | succ i => simpa using h2 i j' (by simpa using h)
class ALen (f : AM) (n : outParam Nat) : Prop where
  len : ∀ {xs : List MV} {m : Sl} {S S' : Sto}, f m S = .ok xs S' → xs.length = n
instance : ALen mnil 0 := ⟨fun h => by cases h; rfl⟩
instance {f : EM} {g : AM} {n : Nat} [i : ALen g n] : ALen (mcons f g) (n + 1) := ⟨fun {xs m S S'} h => by
  unfold mcons at h
  cases e : f m S with
  | bad => rw [e] at h; cases h
  | exc _ _ _ => rw [e] at h; cases h
  | ok a S1 =>
    rw [e] at h
    have h' : (g m S1).bind (fun xs S2 => .ok (a :: xs) S2) = .ok xs S' := h
    cases e2 : g m S1 with
    | bad => rw [e2] at h'; cases h'
    | exc _ _ _ => rw [e2] at h'; cases h'
    | ok ys S2 =>
      rw [e2] at h'
      cases h'
      exact congrArg Nat.succ (i.len e2)⟩
theorem ge_callK {pm : List Nat} (F : FnG X.prog X.w X.K X.mg X.base k f fd ps g) (hlen : ∀ xs S, xs.length ≠ ps.length → g xs S = .bad) (hgd : X.A.guards = some []) (hr : Room k X.A) (tk : Takes X W) (hg : Gl X x) (hm : X.mg x = some (.ref f)) (hk : PySem.W.keepIn X.K (.ref f) = true) (hb : KB X.K fd ps ks pm)
    (hkw : GK X W kws fk) (hall : (backToKw pos (keywordEach kws X.env)).all (·.1.isSome) = true := by rfl) (hks : (backToKw pos (keywordEach kws X.env)).filterMap (·.1) = ks := by rfl) (hkl : kws.length = ks.length := by rfl) (hpl0 : pm.length = ps.length := by rfl)
    (hdb : (x == ("__debug__" : Str)) = false := by decide)
    (hkn : ∀ xs m S S', fk m S = .ok xs S' → xs.length = ks.length := by intro xs m S S' h; exact ALen.len h)
    (hpl : ((backTo pos (starEach [] X.env)).any (·.1) || (backToKw pos (keywordEach kws X.env)).any (·.1.isNone)) = false := by rfl) :
    GE X W (.Call (.Name x p) [] kws pos) (mcall (mkw g pm) fk) := by
  refine ⟨fun pins s σ H Q I h => ?_⟩
  have h' : wpA X.K X.mg W fk σ H fun zs H1 => zs.length = ks.length ∧ ∃ vs, pick zs pm = some vs ∧ spG X.K X.mg ps.length g vs H1 Q (WE W σ) := by
    obtain ⟨w, S, m, s, l, p⟩ := h
    refine ⟨w, S, m, s, l, ?_⟩
    have p' := Pst.bind p
    cases e0 : fk m S with
    | bad => rw [e0] at p'; exact p'
    | exc c d S' => rw [e0] at p'; exact p'
    | ok xs S' =>
      rw [e0] at p'
      intro w1 H1 l1 s1 zs rs
      have p1 : Pst X.K X.mg w1 H1 σ W (Fv X.K X.mg Q) (mkw g pm xs S') := p' w1 H1 l1 s1
      refine ⟨by rw [Paired.length rs]; exact hkn xs m S S' e0, ?_⟩
      unfold mkw at p1
      cases ep : pick xs pm with
      | none => rw [ep] at p1; exact p1.elim
      | some ys =>
        rw [ep] at p1
        obtain ⟨vs, h1, h2⟩ := pick_ok (R := RelM X.K X.mg w1) (fun j b hb => allM_get rs hb) ep
        have ly := (pick_get ep).1
        refine ⟨vs, h1, by rw [Paired.length h2, ly, hpl0], w1, S', ys, s1, h2, ?_⟩
        have p2 : Pst X.K X.mg w1 H1 σ W (Fv X.K X.mg Q) (g ys S') := p1
        cases e : g ys S' with
        | ok a S2 => rw [e] at p2; exact p2
        | exc c d S2 => rw [e] at p2; exact p2
        | bad => rw [e] at p2; exact p2
  refine wpAny_Call_Name_kw (ld_glob I hg hm ?_ hdb)
  refine PySem.W.callWith_KW0 (h₀ := X.base) I.ok.mod.kin hk hall (thn (hkw.run pos pins s σ H _ I h') fun ws s2 ⟨zs, H2, I2, rz, hz, vs, hp, q⟩ => ⟨I2.kIn, ?_⟩) hpl
  rw [hks]
  obtain ⟨us, hu1, hu2⟩ := pick_ok (R := fun (u : Value) (v : V) => RelV v u) (as := ws) (fun j b hb => by
    obtain ⟨u, h1, h2⟩ := rz.get hb
    exact ⟨u, h1, h2⟩) hp
  have hvu : Vals vs us := by
    clear q hu1 hp
    induction hu2 with
    | nil => exact .nil
    | cons r t ih => exact .cons r ih
  exact run_fnG (args := ⟨[], ks.zip ws⟩) F hgd hr tk (hb.to s2 ws us I2.kIn (by rw [← rz.length]; exact hz) hu1) I2 hvu q
end
end PX
end

section
set_option Elab.async false
set_option linter.all false
set_option maxRecDepth 100000
set_option maxHeartbeats 4000000
namespace PX
open PySem PySem.Spec PyProof.Rows L2
/-! ### what a def has made for itself is forgotten behind it -/
mutual
def scop (n : Nat) : MV → Bool
  | .cell i => decide (i < n)
  | .seq _ xs => scops n xs
  | .exc _ d => scop n d
  | _ => true
def scops (n : Nat) : List MV → Bool
  | [] => true
  | x :: xs => scop n x && scops n xs
end
def Wd.cut (w : Wd) (n : Nat) : Wd := ⟨w.B, w.r, n⟩
section
variable {K : PySem.W.Frag} {mg : Str → Option Value}
mutual
theorem scop_of {w : Wd} : ∀ (x : MV) (v : V), RelM K mg w v x → scop w.n x = true
  | .dat _, _, _ => by simp [scop]
  | .cell i, _, h => by
    unfold scop
    exact decide_eq_true h.1
  | .exc _ d, _, h => by
    obtain ⟨a, C, dd, u, h1, h2, h3, h4, h5⟩ := h
    unfold scop
    exact scop_of d u h5
  | .seq _ xs, _, h => by
    obtain ⟨a, vs, h1, h2, h3⟩ := h
    unfold scop
    exact scops_of xs vs h3
  | .dct, _, _ => by simp [scop]
  | .cst _, _, _ => by simp [scop]
theorem scops_of {w : Wd} : ∀ (xs : List MV) (vs : List V), AllR K mg w vs xs → scops w.n xs = true
  | [], _, _ => by simp [scops]
  | x :: xs, [], h => h.elim
  | x :: xs, v :: vs, h => by
    unfold scops
    rw [scop_of x v h.1, scops_of xs vs h.2]
    rfl
end
mutual
theorem rel_cut {w : Wd} {n : Nat} : ∀ (x : MV) (v : V), scop n x = true → RelM K mg w v x → RelM K mg (w.cut n) v x
  | .dat _, _, _, h => h
  | .cell i, _, hs, h => ⟨by unfold scop at hs; exact of_decide_eq_true hs, h.2⟩
  | .exc _ d, _, hs, h => by
    obtain ⟨a, C, dd, u, h1, h2, h3, h4, h5⟩ := h
    unfold scop at hs
    exact ⟨a, C, dd, u, h1, h2, h3, h4, rel_cut d u hs h5⟩
  | .seq _ xs, _, hs, h => by
    obtain ⟨a, vs, h1, h2, h3⟩ := h
    unfold scop at hs
    exact ⟨a, vs, h1, h2, rels_cut xs vs hs h3⟩
  | .dct, _, _, h => h
  | .cst _, _, _, h => h
theorem rels_cut {w : Wd} {n : Nat} : ∀ (xs : List MV) (vs : List V), scops n xs = true → AllR K mg w vs xs → AllR K mg (w.cut n) vs xs
  | [], [], _, _ => trivial
  | [], _ :: _, _, h => h.elim
  | _ :: _, [], _, h => h.elim
  | x :: xs, v :: vs, hs, h => by
    unfold scops at hs
    rw [Bool.and_eq_true] at hs
    exact ⟨rel_cut x v hs.1 h.1, rels_cut xs vs hs.2 h.2⟩
end
def obScop (n : Nat) : Ob → Bool
  | .lst xs => scops n xs
  | .dead _ => true
/-- S' may be cut to the cells of S -/
def cutOk (S S' : Sto) : Prop := S.length ≤ S'.length ∧ ∀ i o, i < S.length → S'[i]? = some o → S[i]? = some o ∨ obScop S.length o = true
theorem sim_cut {w0 w : Wd} {S S' : Sto} {H0 H : Hp} (s0 : Sim K mg w0 S H0) (s : Sim K mg w S' H) (h : cutOk S S') : Sim K mg (w.cut S.length) (S'.take S.length) H := by
  refine ⟨?_, s.le, fun i j hi hj e => ?_, fun i o e => ?_⟩
  · show S.length = _
    rw [List.length_take]
    have := h.1
    omega
  · have := h.1
    have hn := s.n
    exact s.inj i j (by have : i < S.length := hi; omega) (by have : j < S.length := hj; omega) e
  · have hi : i < S.length := by
      have := (List.getElem?_eq_some_iff.mp e).1
      rw [List.length_take] at this
      omega
    rw [List.getElem?_take_of_lt hi] at e
    have q := s.obj i o e
    have hsc : obScop S.length o = true := by
      rcases h.2 i o hi e with e0 | e0
      · have q0 := s0.obj i o e0
        cases o with
        | dead d => rfl
        | lst xs =>
          obtain ⟨_, vs, _, h2⟩ := q0
          have := scops_of xs vs h2.r
          rw [s0.n] at this
          exact this
      · exact e0
    cases o with
    | dead d => exact q
    | lst xs =>
      obtain ⟨h1, vs, h2, h3⟩ := q
      exact ⟨h1, vs, h2, (rels_cut xs vs hsc h3.r).all⟩
theorem lx_cut {w0 w : Wd} {H0 H : Hp} {n : Nat} (l : Lx w0 H0 w H) (hn : w0.n ≤ n) (hn2 : n ≤ w.n) : Lx w0 H0 (w.cut n) H :=
  ⟨⟨l.le.1, hn, l.le.2.2⟩, fun i h1 h2 => l.new i h1 (Nat.lt_of_lt_of_le h2 hn2), l.keep, l.old⟩
end
open Classical in
/-- the result as data if it can be, what was made beside it forgotten -/
noncomputable def mclean (g : FM) : FM := fun xs S => match g xs S with
  | .ok v S' => match fz S' v with
    | some (d, S2) => if cutOk S S2 then .ok (.dat d) (S2.take S.length) else .ok v S'
    | none => if cutOk S S' ∧ scop S.length v = true then .ok v (S'.take S.length) else .ok v S'
  | r => r
theorem cutOk_app (S J : Sto) : cutOk S (S ++ J) := ⟨by rw [List.length_append]; exact Nat.le_add_right _ _, fun i o hi e => .inl (by rw [List.getElem?_append_left hi] at e; exact e)⟩
theorem mclean_ok {g : FM} {xs : List MV} {S : Sto} {d : PyData} {J : Sto} (h : g xs S = .ok (.dat d) (S ++ J)) : mclean g xs S = .ok (.dat d) S := by
  unfold mclean
  rw [h]
  simp only [fz]
  rw [if_pos (cutOk_app S J), List.take_left]
theorem mclean_ok' {g : FM} {xs : List MV} {S S' : Sto} {v : MV} {d : PyData} {S2 : Sto} (h : g xs S = .ok v S') (hf : fz S' v = some (d, S2)) (hc : cutOk S S2) : mclean g xs S = .ok (.dat d) (S2.take S.length) := by
  unfold mclean
  rw [h]
  simp only [hf]
  rw [if_pos hc]
theorem mclean_exc {g : FM} {xs : List MV} {S S' : Sto} {c : Str} {d : MV} (h : g xs S = .exc c d S') : mclean g xs S = .exc c d S' := by
  unfold mclean
  rw [h]
theorem mclean_bad {g : FM} {xs : List MV} {S : Sto} (h : g xs S = .bad) : mclean g xs S = .bad := by
  unfold mclean
  rw [h]
theorem FnG.clean {P : Program} {w : World} {K : PySem.W.Frag} {mg : Str → Option Value} {base : Heap} {k : Nat} {f : Addr} {fd : FuncData} {ps : List Str} {g : FM} (F : FnG P w K mg base k f fd ps g) : FnG P w K mg base k f fd ps (mclean g) := by
  refine ⟨fun A outer s H args us vs Q E hg hr he hb hv hs => F.run A outer s H args us vs Q E hg hr he hb hv ?_⟩
  obtain ⟨hl, w, S, xs, s0, a, p⟩ := hs
  refine ⟨hl, w, S, xs, s0, a, ?_⟩
  unfold mclean at p
  cases e : g xs S with
  | bad => rw [e] at p; exact p
  | exc c d S' => rw [e] at p; exact p
  | ok v S' =>
    rw [e] at p
    intro w1 H1 l1 s1 u ru
    cases ef : fz S' v with
    | some z =>
      obtain ⟨d, S2⟩ := z
      simp only [ef] at p
      split at p
      · rename_i hc
        obtain ⟨w2, l2, s2, d2⟩ := fz_ok s1 ru ef
        have l12 := l1.trans s1 l2
        exact p (w2.cut S.length) H1 (lx_cut l12 (Nat.le_of_eq s0.n) (by rw [s2.n]; exact hc.1)) (sim_cut s0 s2 hc) u d2
      · exact p w1 H1 l1 s1 u ru
    | none =>
      simp only [ef] at p
      split at p
      · rename_i hc
        exact p (w1.cut S.length) H1 (lx_cut l1 (Nat.le_of_eq s0.n) (by rw [s1.n]; exact hc.1.1)) (sim_cut s0 s1 hc.1) u (rel_cut v u hc.2 ru)
      · exact p w1 H1 l1 s1 u ru
end PX
end

section
set_option Elab.async false
set_option linter.all false
set_option maxRecDepth 100000
set_option maxHeartbeats 4000000
/-! the program's own errors: X(LearnError(ValueError)), __init__ says super().__init__(value); self.value = value -/
namespace PX
open PySem PySem.W PySem.Calls PyProof.Rows PySem.HandSPX
def lA : Arguments := { posonlyargs := [], args := [{ arg := "self", annotation := none, pos := ⟨4, 17, 4, 21⟩ }, { arg := "value", annotation := none, pos := ⟨4, 23, 4, 28⟩ }], vararg := none, kwonlyargs := [], kw_defaults := [], kwarg := none, defaults := [.Constant .none 0 ⟨4, 29, 4, 33⟩] }
def lB : List Stmt := [.Expr (.Call (.Attribute (.Call (.Name "super" ⟨5, 8, 5, 13⟩) [] [] ⟨5, 8, 5, 15⟩) "__init__" ⟨5, 8, 5, 24⟩) [.Name "value" ⟨5, 25, 5, 30⟩] [] ⟨5, 8, 5, 31⟩) ⟨5, 8, 5, 31⟩,
  .Assign [.Attribute (.Name "self" ⟨6, 8, 6, 12⟩) "value" ⟨6, 8, 6, 18⟩] (.Name "value" ⟨6, 21, 6, 26⟩) ⟨6, 8, 6, 26⟩]
def lS : Scope := { kind := .function, names := [("self", .local), ("value", .local), ("__class__", .free), ("super", .globalImplicit)], isGenerator := false, isCoroutine := false, more := [] }
abbrev lFn (dV kV doc pm : Value) (an : Option Addr) (cda : Addr) (ct : Value) (cc : Addr) : FuncData := ksFn "__init__" "LearnError.__init__" lA lB lS dV kV doc pm an (.ref cda) ct cc
theorem lS_cell : ∀ x ∈ lS.names, x.2 ≠ .cell := by decide
/-- the base class D's part -/
structure LBase (prog : Program) (K : Frag) (mg : Str → Option Value) (D fI : Addr) : Prop where
  sup : mg "super" = none
  top : (prog.main.scope.names.lookup ("super" : Str)).isSome = false
  any : nsIn K cStatics "thirdparty.any" = some none
  clsD : ∃ cdD, clsIn K D = some cdD
  tC : typeIn K (.ref fI) = some (.type "function")
  fn : ∃ (oc : Value) (od : Option Addr) (T : Addr) (oT : Obj) (its : Array Value) (nT : Nat) (kV doc pm : Value) (an : Option Addr) (cda : Addr) (ct : Value) (cc : Addr) (osl : Array (Option Value))
      (ccl : Value) (cdd : Option Addr) (vs : Array Value) (ccs : Array (Option Value)) (file : Str) (tf : Tok) (cl : Value) (cld : Option Addr) (csl : Array (Option Value)),
    K.lookup fI = some ⟨oc, od, .func (lFn (.ref T) kV doc pm an cda ct cc), osl⟩ ∧ codeIn K (.ref cda) "LearnError.__init__" = true ∧ K.lookup T = some oT ∧ oT.data = .seq its nT ∧ its.size = 1 ∧
    K.lookup cda = some ⟨ccl, cdd, .fields vs, ccs⟩ ∧ vs[2]? = some (.str file tf) ∧ ((prog.main.file : Str) == file) = true ∧ K.lookup cc = some ⟨cl, cld, .cell (some (.ref D)), csl⟩
/-- a class of the program's errors, at C -/
structure LTxt (K : Frag) (C D fI : Addr) : Prop where
  cls : ∃ nm q N bs bm sn sub ab col dd k0 k1 k2 k3 k5, K.lookup C = some (excClassObj nm q C N bs bm true sn sub ab col dd k0 k1 k2 k3 k5 "ValueError.__new__") ∧ refsVE bm = true
  sa : findIn K (.ref C) "__setattr__" = some (some (.builtin "object.__setattr__"))
  ga : findIn K (.ref C) "__getattribute__" = some (some (.builtin "BaseException.__getattribute__"))
  noN : findIn K (.ref C) "value" = some none
  iC : findIn K (.ref C) "__init__" = some (some (.ref fI))
  kC : keepIn K (.ref C) = true
  exC : subIn K (.ref C) (.type "BaseException") = some true
  tyC : typeIn K (.ref C) = some (.type "type")
  hdC : hasDictIn K C = true
  subD : mroIn K C (.ref D) = some true
  along : ks_superIn K C D "__init__" = some (some (.builtin "ValueError.__init__"))
  subV : subIn K (.ref C) (.type "ValueError") = some true
theorem one_ok (v : Value) : [v].length ≤ sizeLine := by
  rw [sizeLine_eq]
  exact (by decide : 1 ≤ 16777216)
/-- what __init__ leaves of a fresh exception at x -/
structure LEnd (h h' : Heap) (x C dx t1 : Addr) (v : Value) : Prop where
  keep : ∀ b o, b ≠ x → h.get? b = some o → h'.get? b = some o
  obj : h'.get? x = some { cls := .ref C, dict := some dx, data := .fields #[.ref t1, .none, .none, .none, .bool false, .none] }
  dbig : h.objs.size ≤ dx
  dne : dx ≠ x
  ns : h'.Ns1 dx (fun y => if y = "value" then some v else none)
structure LMade (h h' : Heap) (e C d : Addr) (v : Value) : Prop where
  keep : ∀ b o, h.get? b = some o → h'.get? b = some o
  new : h.objs.size ≤ e
  obj : ∃ oe vs, h'.get? e = some oe ∧ oe.cls = .ref C ∧ oe.dict = some d ∧ oe.data = .fields vs ∧ vs[1]? = some .none
  dbig : h.objs.size ≤ d
  dne : d ≠ e
  ns : h'.Ns1 d (fun y => if y = "value" then some v else none)
section
variable {prog : Program} {w : World} {A : Around} {E : Value → Shared → Prop} {R : Result → Shared → Prop} {s : Shared} {K : Frag} {mg : Str → Option Value} {C D fI : Addr}
/-- ValueError.__init__ bound to x, called -/
theorem mw_call {u x t0 : Addr} {v : Value} {h : Heap} {g : Array GenState} {d : Drawn} {t : Nat} {os : OsState} {Q : Value → Shared → Prop} (T : LTxt K C D fI) (X : K.In h) (he : h.get? x = some (excO C t0)) (hu : h.get? u = some (kxs_mw "ValueError.__init__" x))
    (hq : ∀ h' t1, (∀ b o, b ≠ x → h.get? b = some o → h'.get? b = some o) → h'.get? x = some (excO C t1) → Q .none ⟨h', g, d, t, os⟩) :
    wpAny (model prog w) A (call (.ref u) [v]) Q E ⟨h, g, d, t, os⟩ := by
  obtain ⟨nm, q, N, bs, bm, sn, sub, ab, col, dd, k0, k1, k2, k3, k5, hC, hbm⟩ := T.cls
  refine wpAny_call (codeAny_of_tree ?_)
  show wpAny _ A.in1 (callAny (.ref u) ⟨[v], []⟩) _ _ _
  simp only [callAny]
  refine wpAny_bind (wpAny_load hu ?_)
  simp only [kxs_mw, show (Value.type "method-wrapper" == Value.type "method" || Value.type "method-wrapper" == Value.type "builtin_function_or_method" || Value.type "method-wrapper" == Value.type "method-wrapper") = true by decide, if_true]
  refine KFB.if_so (by decide) ?_
  refine wpAny_bind (check_bound_init (F.excBase_ValueError).toExcCallFacts (X _ _ hC) he rfl ?_)
  refine wpAny_bind (wpAny_pure (wpAny_pure ?_))
  refine ⟨plainId_quiet (F.excBase_ValueError).init.plain _, codeAny_builtin (F.excBase_ValueError).initEntry ?_⟩
  exact exc_init_tree (cls := .ref C) (t0 := t0) (dv := none) (c2 := .none) (c3 := .none) (b4 := .bool false) he (one_ok v) fun h' k e1 _ => hq h' _ k e1
theorem learn_init (TB : LBase prog K mg D fI) (T : LTxt K C D fI) {x t0 : Addr} {v : Value} (X : K.In s.heap) (hns : s.heap.Ns mainGlobals mg) (hb : ∃ mb, s.heap.Ns builtinsNs mb ∧ ∀ x : Str, x ≠ "__name__" → mb x = bootBuiltins x)
    (hlim : s.heap.NoLimit) (hx : s.heap.get? x = some (excO C t0)) (hnx : K.lookup x = none) (hroom : A.depth < recursionLimit)
    (hq : ∀ h' tk dx t1, LEnd s.heap h' x C dx t1 v → R (.ok (.ret .none)) { s with heap := h', toks := tk }) :
    codeAny (model prog w) A (.call (.ref fI) ⟨[.ref x, v], []⟩) R s := by
  obtain ⟨oc, od, TT, oT, its, nT, kV, doc, pm, an, cda, ct, cc, osl, ccl, cdd, vs, ccs, file, tf, cl, cld, csl, ho, hcd, lT, dT, zT, lcd, hvs, hfile, lcc⟩ := TB.fn
  obtain ⟨nm, q, N, bs, bm, sn, sub, ab, col, dd, k0, k1, k2, k3, k5, hC, hbm⟩ := T.cls
  have hcl : clsIn K C = some { name := nm, bases := bs, mro := .ref C :: bm, ns := N, qualname := q, hasDict := true, slotNames := sn, subclasses := sub, abstract := ab, collection := col, hasDel := false } := by unfold clsIn; rw [hC] <;> rfl
  obtain ⟨cdD, hD⟩ := TB.clsD
  have hbind : BindsTo s (lFn (.ref TT) kV doc pm an cda ct cc) ⟨[.ref x, v], []⟩ [("self", .ref x), ("value", v)] := by
    first
      | exact BindsTo.of_eq rfl
      | exact binds_K X rfl lT dT rfl (by first | rfl | (match its, zT with | ⟨[_]⟩, _ => rfl))
  refine ks_codeAny_call_defAt (binds := [("self", .ref x), ("value", v)]) hroom (X _ _ ho) rfl hlim (codeRec_of X hcd) rfl hbind lS_cell (fun y hy => by rcases List.mem_cons.mp hy with rfl | hy; rfl; rcases List.mem_cons.mp hy with rfl | hy; rfl; cases hy) (fun h₁ hn k => ?_) rfl rfl rfl
  have hxL : s.heap.objs.size ≠ x := Nat.ne_of_gt (Heap.lt_size hx)
  have X₁ : K.In h₁ := X.keeps k
  have hx₁ := k _ _ hx
  obtain ⟨oD, hD1, hD2⟩ : ∃ oD, h₁.get? D = some oD ∧ oD.data = .cls cdD := by
    unfold clsIn at hD
    split at hD
    · rename_i c d cd' sl hl
      cases hD
      exact ⟨_, X₁ _ _ hl, rfl⟩
    · cases hD
  obtain ⟨mb, hmb, hboot⟩ := hb
  -- super().__init__(value)
  refine ks_wpAt_execs_cons (ks_wpAt_Expr_any (ks_wpAt_MethodCall ?_))
  refine ks_wpAt_super_base rfl rfl rfl rfl (X₁ _ _ ho) rfl rfl rfl (X₁ _ _ lcd) rfl hvs hfile TB.top ?_
  refine ks_loadName_global rfl rfl (loadGlobal_builtin (hns.keeps k) TB.sup (hmb.keeps k) ((hboot _ (by decide +kernel)).trans (by decide +kernel)) ⟨rfl, ?_⟩)
  refine wpAny_loadName_free rfl rfl rfl ⟨_, X₁ _ _ lcc, rfl⟩ ?_
  refine wpAny_loadName_local rfl rfl hn rfl ?_
  refine ks_wpAny_isType_cls hD1 hD2 ⟨rfl, ?_⟩
  refine ks_wpAny_call_super hD1 hD2 hx₁ rfl (fun c e => by cases e) (looks_mroIn X₁ T.subD) (fun h₂ e₂ k₂ => ?_)
  have X₂ : K.In h₂ := X₁.keeps k₂
  have hx₂ := k₂ _ _ hx₁
  have hn₂ := hn.keeps k₂
  have I₂ : InstAt h₂ x (excO C t0) C none := ⟨hx₂, rfl, rfl, trivial⟩
  have hal := T.along
  unfold ks_superIn at hal
  rw [hcl] at hal
  refine kxs_getMethod kxs_ValueError e₂ (looks_opaque X₂ TB.any) (l₀ := .ref C :: bm) ?_ rfl X₂ hal (I₂.type.andThen (looks_subIn X₂ T.subV)) (ks_ne X₂ I₂ hcl) rfl ?_
  · exact fun A Q E s k q => wpAny_bind ((looks_clsIn X₂ hcl) A _ E s k (wpAny_pure q))
  have X₃ : K.In (h₂.push (kxs_mw "ValueError.__init__" x)) := X₂.keeps fun b o e => Heap.get?_push_of_some _ e
  have hx₃ : (h₂.push (kxs_mw "ValueError.__init__" x)).get? x = some (excO C t0) := Heap.get?_push_of_some _ hx₂
  have hn₃ : (h₂.push (kxs_mw "ValueError.__init__" x)).Ns s.heap.objs.size _ := hn₂.keeps fun b o e => Heap.get?_push_of_some _ e
  have hu₃ : (h₂.push (kxs_mw "ValueError.__init__" x)).get? h₂.objs.size = some (kxs_mw "ValueError.__init__" x) := Heap.get?_push_at rfl rfl
  refine kxs_callWith (i := "ValueError.__init__") (x := x) rfl (evalArgs_plain (spliced_cons ?_))
  have ld : ∀ {s' : Shared} {M : Model} {A' : Around} {E' : Value → Shared → Prop} {Q' : Value → Shared → Prop} {pos : Pos} {m : Str → Option Value} {y : Str} {z : Value}, s'.heap.Ns s.heap.objs.size m → m y = some z → (callEnv (lFn (.ref TT) kV doc pm an cda ct cc) s.heap.objs.size fI).kindOf y = some .local →
      (y == ("__debug__" : Str)) = false → Q' z s' → wpAny M A' (eval (.Name y pos) (callEnv (lFn (.ref TT) kV doc pm an cda ct cc) s.heap.objs.size fI)) Q' E' s' := fun a b c d e => wpAny_Name (wpAny_loadName_local rfl c a b e) d
  refine ld hn₃ (y := "value") (z := v) rfl rfl (by decide) (spliced_nil ⟨hu₃, ?_⟩)
  refine mw_call T X₃ hx₃ hu₃ fun h₄ t1 k₄ hx₄ => ?_
  have X₄ : K.In h₄ := fun a o e => k₄ a o (fun z => by
    rw [z, hnx] at e
    cases e) (X₃ a o e)
  have hn₄ : h₄.Ns s.heap.objs.size (fun y => ([(("self" : Str), Value.ref x), (("value" : Str), v)] : List (Str × Value)).reverse.lookup y) := by
    obtain ⟨oL, es, ep, hL, r⟩ := hn₃
    exact ⟨oL, es, ep, k₄ _ _ hxL hL, r⟩
  -- self.value = value
  refine ks_wpAt_execs_cons (wpAt_of_wpAny (plainObj_wpAny_Assign_Attribute ?_))
  refine ld hn₄ (y := "value") (z := v) rfl rfl (by decide) (ld hn₄ (y := "self") (z := .ref x) rfl rfl (by decide) ?_)
  refine set_plain X₄ (ox := excO C t1) (od := none) ⟨hx₄, rfl, rfl, trivial⟩ T.sa ?_
  refine exc_osa X₄ hx₄ hcl (show refsVE (.ref C :: bm) = true from hbm) rfl T.noN (fun h₅ tk₅ dx k₅ dn dne hx₅ hn₅ => ?_)
  refine wpAt_of_wpAny (wpAny_execs_nil ?_)
  have z1 : s.heap.objs.size < h₄.objs.size := hn₄.lt
  exact hq h₅ tk₅ dx t1 ⟨fun b o hb e => k₅ b o hb (k₄ b o hb (Heap.get?_push_of_some _ (k₂ b o (k b o e)))), hx₅, Nat.le_of_lt (Nat.lt_of_lt_of_le z1 dn), dne, hn₅⟩
theorem learn_made (TB : LBase prog K mg D fI) (T : LTxt K C D fI) {v : Value} (X : K.In s.heap) (hns : s.heap.Ns mainGlobals mg) (hb : ∃ mb, s.heap.Ns builtinsNs mb ∧ ∀ x : Str, x ≠ "__name__" → mb x = bootBuiltins x)
    (hlim : s.heap.NoLimit) (hroom : A.depth + 1 < recursionLimit) (hq : ∀ h' tk e d, LMade s.heap h' e C d v → R (.ok (.ret (.ref e))) { s with heap := h', toks := tk }) :
    codeAny (model prog w) A (.call (.ref C) ⟨[v], []⟩) R s := by
  obtain ⟨nm, q, N, bs, bm, sn, sub, ab, col, dd, k0, k1, k2, k3, k5, hC, hbm⟩ := T.cls
  obtain ⟨hp, g, dr, tk, os⟩ := s
  have k : ∀ b o, hp.get? b = some o → ((hp.push (kdv_tup [v])).push (excO C hp.objs.size)).get? b = some o := fun b o e => Heap.get?_push_of_some _ (Heap.get?_push_of_some _ e)
  have hget : ((hp.push (kdv_tup [v])).push (excO C hp.objs.size)).get? (hp.objs.size + 1) = some (excO C hp.objs.size) := by heap_get
  have hnx : K.lookup (hp.objs.size + 1) = none := by
    cases e : K.lookup (hp.objs.size + 1) with
    | none => rfl
    | some o =>
      have z : hp.get? (hp.objs.size + 1) = some o := X _ _ e
      exact absurd (Nat.lt_of_succ_lt (Heap.lt_size z)) (Nat.lt_irrefl _)
  refine call_own F.excBase_ValueError (fun X => refsVE_contains X bm hbm) (X _ _ hC) (looks_findIn X T.iC) (fun self => bind_fn X self TB.tC) (one_ok v) ?_
  obtain ⟨mb, hmb, hboot⟩ := hb
  refine learn_init (s := ⟨(hp.push (kdv_tup [v])).push (excO C hp.objs.size), g, dr, tk, os⟩) TB T (X.keeps k) (hns.keeps k) ⟨mb, hmb.keeps k, hboot⟩ (hlim.keeps k) hget hnx ?_ fun h' tk' dx t1 ⟨k', hx, dn, dne, hns'⟩ => ?_
  · show A.depth + 1 < recursionLimit
    exact hroom
  · have old : ∀ b o, hp.get? b = some o → h'.get? b = some o := fun b o e => k' b o (Nat.ne_of_lt (Nat.lt_succ_of_lt (Heap.lt_size e))) (k b o e)
    have z : hp.objs.size + 1 + 1 ≤ dx := by
      first
        | (simpa only [Heap.size_push] using dn)
        | exact dn
        | (have q := dn; rw [Heap.size_push, Heap.size_push] at q; exact q)
    exact ⟨rfl, hq h' tk' (hp.objs.size + 1) dx ⟨old, Nat.le_succ _, ⟨_, _, hx, rfl, rfl, rfl, rfl⟩, Nat.le_trans (Nat.le_trans (Nat.le_succ _) (Nat.le_succ _)) z, dne, hns'⟩⟩
end
end PX
end

section
set_option Elab.async false
set_option linter.all false
set_option maxRecDepth 100000
set_option maxHeartbeats 4000000
namespace PX
open PySem PySem.Spec PyProof.Rows L2
/-! ### raise X(e) -/
theorem relO_val {v : V} {v' : Value} (r : RelV v v') (f : Str) : RelO (List.lookup f [(("value" : Str), v)]) (if f = "value" then some v' else none) := by
  by_cases hw : f = "value"
  · subst hw
    rw [if_pos rfl]
    have q : List.lookup ("value" : Str) [(("value" : Str), v)] = some v := by simp [List.lookup]
    rw [q]
    exact r
  · rw [if_neg hw]
    have qw : (f == ("value" : Str)) = false := by simpa using hw
    have q2 : List.lookup f [(("value" : Str), v)] = none := by simp [List.lookup, qw]
    rw [q2]
    trivial
section
variable {X : Cx} {W : WX} {C D fI : Addr}
def tMkL (C : Addr) (ta : TA) : St → Hp → XK → Prop := fun σ H Q => ta σ H fun vs H1 => ∃ v, vs = [v] ∧ ∀ d, H1 d = none → Q (.ref C) (some d) (upd H1 d (.xd [(("value" : Str), v)]))
theorem pmk_learn {x : Str} {a : Expr} {ta : TA} {p pos : Pos} {k : Nat} (TB : LBase X.prog X.K X.mg D fI) (T : LTxt X.K C D fI) (gC : X.mg x = some (.ref C)) (hr : Room k X.A) (ha : PA X [a] ta) (hg : Gl X x) (hdb : (x == ("__debug__" : Str)) = false := by decide)
    (he : starEach (a :: []) X.env = (false, eval a X.env) :: starEach [] X.env := by rfl) (hpl : (backTo pos (starEach [] X.env)).any (·.1) = false := by rfl) :
    PMk X (.Call (.Name x p) [a] [] pos) (tMkL C ta) := by
  intro pins s σ H Q I h
  refine wpAny_Call_Name_kw (ld_glob I hg gC ?_ hdb)
  refine PySem.W.callWith_K (h₀ := X.base) I.ok.mod.kin T.kC (thn (ha.run pos pins s σ H _ I h) fun us s1 hh => ?_) he hpl
  obtain ⟨vs, H1, I1, r1, v, ev, q1⟩ := hh
  subst ev
  refine ⟨I1.kIn, ?_⟩
  cases r1 with
  | cons rv rn =>
    rename_i v' us'
    cases rn
    show wpAny _ _ (call (.ref C) [v']) _ _ _
    have hlim := I1.nolimit
    have hns : s1.heap.Ns mainGlobals X.mg := I1.mod.glob.keeps I1.bk
    have hblt : ∃ mb, s1.heap.Ns builtinsNs mb ∧ ∀ x : Str, x ≠ "__name__" → mb x = bootBuiltins x := by
      obtain ⟨mb, h1, h2⟩ := I1.mod.blt
      exact ⟨mb, h1.keeps I1.bk, h2⟩
    obtain ⟨hp, g, dr, tk, os⟩ := s1
    refine wpAny_call (learn_made TB T I1.kIn hns hblt hlim (by have := hr.dp; omega) fun h' tk' e d M => ?_)
    show MkP X pins σ Q (.ref e) ⟨h', g, dr, tk', os⟩
    obtain ⟨oe, fv, hoe, hc, hd, hdat, h1⟩ := M.obj
    have hns := M.ns
    obtain ⟨G', g1, g2⟩ := restrict h' fun b => decide (b ≠ e)
    have gk : ∀ b, b ≠ e → G'.get? b = h'.get? b := fun b hb => g1 b (decide_eq_true hb)
    have ge : G'.get? e = none := g2 e (by simp)
    have old : ∀ b o, hp.get? b = some o → G'.get? b = some o := fun b o q => (gk b (Nat.ne_of_lt (Nat.lt_of_lt_of_le (Heap.lt_size q) M.new))).trans (M.keep b o q)
    have ob : ObjOk X.prog X.w (upd H1 d (.xd [(("value" : Str), v)])) G' d (.xd [(("value" : Str), v)]) :=
      ⟨_, hns.at (fun o q => (gk d M.dne).trans q), fun f => relO_val rv f⟩
    have J : Inv X pins σ (upd H1 d (.xd [(("value" : Str), v)])) ⟨G', g, dr, tk', os⟩ := I1.laid (t' := tk') old M.dbig ob
    refine ⟨e, oe, fv, ⟨G', g, dr, tk', os⟩, _, .ref C, some d, rfl, J, fun b o q => ?_, ge, hoe, ⟨hc, hd⟩, hdat, h1, ?_, rfl, I1.bare, raises_own T.exC T.tyC, q1 d (I1.hok.fresh M.dbig)⟩
    · by_cases hb : b = e
      · have q' : G'.get? b = some o := q
        rw [hb, ge] at q'; cases q'
      · exact (gk b hb).symm.trans q
    · rw [upd_ne (Ne.symm M.dne)]
      exact I1.hok.fresh M.new
def mraise (c : Str) (fe : EM) : SM := fun m S => (fe m S).go m fun x S1 => .exc c x m S1
theorem gs_raise {x : Str} {a : Expr} {fe : EM} {p pos pos2 : Pos} {k : Nat} (hc : X.calm = true) (TB : LBase X.prog X.K X.mg D fI) (T : LTxt X.K C D fI) (gC : X.mg x = some (.ref C)) (hr : Room k X.A) (tk : Takes X W) (ha : GE X W a fe) (hg : Gl X x) (hdb : (x == ("__debug__" : Str)) = false := by decide)
    (he : starEach (a :: []) X.env = (false, eval a X.env) :: starEach [] X.env := by rfl) (hpl : (backTo pos (starEach [] X.env)).any (·.1) = false := by rfl) :
    GS X W (.Raise (some (.Call (.Name x p) [a] [] pos)) none pos2) (mraise x fe) := by
  refine PS.imp (ps_raise hc tk (pmk_learn TB T gC hr (ga_cons ha ga_nil he) hg hdb he hpl)) fun D' σ H q => ?_
  obtain ⟨w, S, m, s, l, p⟩ := q
  refine ⟨w, S, m, s, l, ?_⟩
  have p' := PSt.go l p
  unfold mcons
  cases e : fe m S with
  | bad => rw [e] at p'; exact p'
  | exc c d S1 => rw [e] at p'; exact p'
  | ok y S1 =>
    rw [e] at p'
    intro w1 H1 l1 s1 vs rs
    obtain ⟨v, rfl, rv⟩ := all1 rs
    refine ⟨v, rfl, fun d hd => ?_⟩
    have lx := lx_put (o := .xd [(("value" : Str), v)]) s1 hd
    exact p' w1 H1 l1 s1 (w1.put d (.xd [(("value" : Str), v)])) σ _ C d v lx (sim_put s1 hd) (l.mono (l1.le.trans lx.le)) gC upd_same (rv.mono lx.le)
/-! ### e.value of a held exception -/
/-- what is known of all classes of errors -/
def ErrOk (X : Cx) (errs : List Str) : Prop := ∀ c ∈ errs, ∀ C, X.mg c = some (.ref C) → (PySem.W.findIn X.K (.ref C) "__getattribute__" = some (some (.builtin "BaseException.__getattribute__"))) ∧ (∃ gt, PySem.W.findIn X.K (.ref C) "__getattr__" = some gt) ∧
  PySem.W.subIn X.K (.ref C) (.type "BaseException") = some true ∧ PySem.W.hasDictIn X.K C = true ∧ PySem.W.findIn X.K (.ref C) "value" = some none
def mvalE (errs : List Str) (fe : EM) : EM := fun m S => (fe m S).bind fun x S1 => match x with
  | .exc c d => if c ∈ errs then .ok d S1 else .bad
  | _ => .bad
theorem ge_value {errs : List Str} {e : Expr} {fe : EM} {pos : Pos} (hE : ErrOk X errs) (h : GE X W e fe) (hb : attributeBase e "value" X.env (eval e X.env) = eval e X.env := by rfl) : GE X W (.Attribute e "value" pos) (mvalE errs fe) := by
  refine ⟨fun pins s σ H Q I q => ?_⟩
  have q' : wpE X.K X.mg W fe σ H fun x H1 => ∃ (a C dd : Addr) (u : V), x = .ref a ∧ (PySem.W.findIn X.K (.ref C) "__getattribute__" = some (some (.builtin "BaseException.__getattribute__"))) ∧ (∃ gt, PySem.W.findIn X.K (.ref C) "__getattr__" = some gt) ∧
      PySem.W.subIn X.K (.ref C) (.type "BaseException") = some true ∧ PySem.W.hasDictIn X.K C = true ∧ PySem.W.findIn X.K (.ref C) "value" = some none ∧ H1 a = some (ExcO C dd a) ∧ H1 dd = some (.xd [("value", u)]) ∧ Q u H1 := by
    obtain ⟨w, S, m, s0, l, p⟩ := q
    refine ⟨w, S, m, s0, l, (Pst.bind p).imp fun w1 S1 H1 x l1 s1 p1 v rv => ?_⟩
    split at p1
    · rename_i c d
      split at p1
      · rename_i hc
        obtain ⟨a, C, dd, u, rfl, h2, h3, h4, h5⟩ := rv
        obtain ⟨k1, k2, k3, k4, k5⟩ := hE c hc C h2
        exact ⟨a, C, dd, u, rfl, k1, k2, k3, k4, k5, s1.le _ _ h3, s1.le _ _ h4, pst_ok s1 p1 u h5⟩
      · exact p1.elim
    · exact p1.elim
  refine attr_of hb (thn (h.run pins s σ H _ I q') fun u s1 hh => ?_)
  obtain ⟨x, H1, I1, rx, a, C, dd, y, ex, k1, ⟨gt, k2⟩, k3, k4, k5, e1, e2, q⟩ := hh
  subst ex
  obtain rfl : u = Value.ref a := rx
  obtain ⟨⟨oe, vs, ha, hz, hd⟩, _⟩ := (show ObjOk X.prog X.w H1 s1.heap a (ExcO C dd a) from I1.hok a _ e1)
  obtain ⟨mA, hns, hr⟩ := (show ObjOk X.prog X.w H1 s1.heap dd (.xd [(("value" : Str), y)]) from I1.hok dd _ e2)
  obtain ⟨od, ho, hl⟩ := lookIn_ns hns
  have l : List.lookup ("value" : Str) [(("value" : Str), y)] = some y := by simp [List.lookup]
  obtain ⟨u, hu, ru⟩ := RelO.some_of (v := y) (o := mA "value") (by rw [← l]; exact hr "value")
  have J : PySem.W.InstAt s1.heap a oe C (some od) := ⟨ha, hz.1, by unfold PySem.W.notCls; rw [hd] <;> rfl, by rw [hz.2]; exact ho⟩
  exact HandSPX.exc_get I1.kIn J k1 k2 k3 (PySem.W.findObj_own k4 k5 rfl (by rw [hl, hu])) (handed_of ru) ⟨y, H1, I1.tok _, ru, q⟩
/-! ### {} -/
def mdct : EM := fun _ S => .ok .dct S
theorem ge_dct {pos : Pos} : GE X W (.Dict [] [] pos) mdct := by
  refine PE.imp pe_dnewK fun σ H Q q => ?_
  obtain ⟨w, S, m, s, l, p⟩ := q
  intro a ha
  have lx := lx_put (o := .dK []) s ha
  exact p _ _ lx (sim_put s ha) _ ⟨a, rfl, upd_same⟩
/-! ### try: .., except X as e: y = e -/
theorem inv_track {pins : List (Addr × Obj)} {σ : St} {H : Hp} {s : Shared} {a : Addr} {o : HO} (I : Inv X pins σ H s) (hH : H a = none) (n0 : X.s_0.heap.get? a = none) (np : ∀ p ∈ X.pn ++ pins, p.1 ≠ a) (nL : a ≠ X.env.locals) (nc : ∀ v, ¬ s.heap.IsCell a v)
    (new : ObjOk X.prog X.w (upd H a o) s.heap a o) : Inv X pins σ (upd H a o) s := by
  have ne0 : ∀ b ob, X.s_0.heap.get? b = some ob → b ≠ a := fun b ob e z => by
    rw [z, n0] at e
    cases e
  refine ⟨I.ok, I.os, I.bare, ⟨I.base.keep, I.base.slot, fun b ob e h1 h2 => ?_, I.base.there, fun b xs e => ?_, fun b ob u e => ?_, fun b ps e => ?_⟩, I.loc, I.cell, ?_, fun x c e => ?_, fun p hp => ?_, ?_, I.len⟩
  · rw [upd_ne (ne0 b ob e)]
    exact I.base.free b ob e h1 h2
  · have z := I.base.tups b xs e
    rw [upd_ne (ne_of_none z hH)]
    exact z
  · have z := I.base.frzs b ob u e
    rw [upd_ne (ne_of_none z hH)]
    exact z
  · obtain ⟨more, z⟩ := I.base.tbls b ps e
    exact ⟨more, by rw [upd_ne (ne_of_none z hH)]; exact z⟩
  · rw [upd_ne (Ne.symm nL)]
    exact I.free
  · rw [upd_ne fun z => ?_]
    · exact I.freeC x c e
    · obtain ⟨v, hv⟩ := I.cell x c e
      rw [z] at hv
      exact nc v hv
  · obtain ⟨h1, h2, h3, h4, h5⟩ := I.pin p hp
    exact ⟨h1, by rw [upd_ne (np p hp)]; exact h2, h3, h4, h5⟩
  · exact I.hok.laidN (fun _ _ e => e) hH new
def mtryAs (exm : Str → Option Bool) (i j : Nat) (b : SM) : SM := fun m S => match b m S with
  | .exc c d m' S' => match exm c with
    | some true => .next ((m'.set j (some (.exc c d))).set i none) S'
    | some false => .exc c d m' S'
    | none => .bad
  | r => r
def wXs (K : PySem.W.Frag) (c : Value) (i j : Nat) (Wout : WX) (D : Ends) : WX := fun cls d σ H =>
  ∃ b, PySem.W.exmOne K cls c = some b ∧ (b = true → ∃ C dd, cls = .ref C ∧ d = some dd ∧ ∀ a, H a = none → D.nx ((σ.set j (some (.ref a))).set i none) (upd H a (ExcO C dd a))) ∧ (b = false → Wout cls d σ H)
theorem ps_tryX {x n : Str} {c : Value} {i j : Nat} {body : List Stmt} {st : Stmt} {np pos pos' : Pos} {tb : WX → TS} {Wout : WX} (hs : X.stack = X.env :: X.outer) (hf : X.env.frame = some X.env.locals) (hex : X.ex = []) (hN : X.N.Nodup) (hi : X.N[i]? = some n) (hij : i ≠ j) (hln : X.env.kindOf n = some .local) (hc : Names X x c) (tk : Takes X Wout)
    (hb : ∀ (W : WX) (pn : List (Addr × Obj)) (xe : Value → Shared → Prop), Takes (X.tr pn xe) W → PassesOwn (model X.prog X.w) X.A X.env xe → PSs (X.tr pn xe) body (tb W))
    (hsu : ∀ (a : Addr) (pn : List (Addr × Obj)), PS (X.suite a pn) st (tAsg (tVar i) (gName j))) :
    PS X (.Try body [.ExceptHandler (some (.Name x np)) (some n) [st] pos'] [] [] pos) (fun D σ H => tb (wXs X.K c i j Wout D) D σ H) := by
  refine ⟨fun pins s σ H D I h => ?_⟩
  have ok := I.ok
  have hfr : X.A.frames = some (X.env :: X.outer) := by rw [ok.frames, hs]
  have hloc : Loc X.env.scope n := .inl hln
  refine wpAny_Try_except ?_
  refine wpAny_mono ((hb (wXs X.K c i j Wout D) (X.pn ++ pins) (fun e s₁ => wpAny (model X.prog X.w) X.A (noteFrame e X.env) (fun _ s₂ => wpAny (model X.prog X.w) X.A (setFlight e none) (fun _ s₃ =>
    wpAny (model X.prog X.w) X.A (handleBy e X.env [.ExceptHandler (some (.Name x np)) (some n) [st] pos']) (SP X pins D) X.xe s₃) X.xe s₂) X.xe s₁) (fun u s' xx => ?_) PassesOwn.looking).run [] s σ H D (I.toTry _) h) (fun f s1 hsp => ?_) (fun e s1 he => he)
  · obtain ⟨a, B, sI, pins', σ', H', cls, d, rfl, J', nb, up, sky, na, os, ag, b, hb1, hyes, hno⟩ := xx
    have J : Inv X pins σ' H' sI := J'.ofTry ok
    have sky' : Sky B (X.env :: X.outer) a (Zc cls d) X.env.locals s'.heap := by rw [← hs]; exact sky
    show wpAny (model X.prog X.w) X.A (noteFrame (.ref a) X.env) _ _ _
    refine Sky.land Zc.steady hfr hf sky' fun h3 fl3 up3 => ?_
    have J3 : Inv X pins σ' H' { s' with heap := h3 } := J.landed nb fl3.1 (up.trans up3) os ag
    obtain ⟨oe3, vs3, he3, hz3, hd3⟩ := fl3.there
    have notFr : ∀ {h : Heap} {o : Obj} {vs : Array Value}, h.FunFrames B (X.env :: X.outer) → h.get? a = some o → o.data = .fields vs → a ∉ frs (X.env :: X.outer) := fun {h o vs} ff e dd hm => by
      obtain ⟨_, o', e', hnf⟩ := ff.mem hm
      rw [e] at e'
      cases e'
      exact hnf _ dd
    have nfr := notFr fl3.2.2.1 he3 hd3
    have nL : a ≠ X.env.locals := fun z => nfr (List.mem_filterMap.mpr ⟨X.env, List.mem_cons_self, by rw [hf, z]⟩)
    have nF : a ∉ X.fs := fun hm => by
      obtain ⟨e, he, q⟩ := List.mem_filterMap.mp hm
      exact nfr (List.mem_filterMap.mpr ⟨e, List.mem_cons_of_mem _ he, q⟩)
    have nI : sI.heap.get? a = none := by
      cases e : sI.heap.get? a with
      | none => rfl
      | some o =>
        have z := nb a o e (by rw [show (X.tr (X.pn ++ pins) _).stack = X.env :: X.outer from hs]; exact nfr)
        rw [fl3.2.1] at z
        cases z
    have n0 : X.s_0.heap.get? a = none := by
      cases e : X.s_0.heap.get? a with
      | none => rfl
      | some o =>
        obtain ⟨o', z⟩ := J.base.there a o e (by rw [hex]; exact fun z => nomatch z)
        rw [nI] at z
        cases z
    have npn : ∀ p ∈ X.pn ++ pins, p.1 ≠ a := fun p hp z => by
      have q := (J.pin p hp).1
      rw [z, nI] at q
      cases q
    have S3 := J3.suite he3 hd3 na nL nF
    refine wpAny_handleBy_cons (codeAny_handlers_test ?_) (by intro q; cases q)
    have LT : PySem.W.Looks (model X.prog X.w) h3 (typeOf (.ref a)) cls := fun A Q E s k q => wpAny_typeOf_ref (k _ _ he3) (by rw [hz3.1]; exact q)
    have LM := PySem.W.exm_one (M := model X.prog X.w) (J3.kIn) LT hb1
    have test : ∀ {Q : Value → Shared → Prop} {E : Value → Shared → Prop}, Q c { s' with heap := h3 } → wpAny (model X.prog X.w) (X.A.mark (some (.ref a))) (eval (.Name x np) X.env) Q E { s' with heap := h3 } := fun {Q E} q => by
      obtain ⟨hg, hdbg, hm | ⟨hm, hv, hnn⟩⟩ := hc
      · exact ld_glob (X := X.suite a ((a, oe3) :: (X.pn ++ pins))) S3 hg hm q hdbg
      · exact ld_blt (X := X.suite a ((a, oe3) :: (X.pn ++ pins))) S3 hg hm hv q hnn hdbg
    refine test (LM.here ?_)
    cases b with
    | true =>
      obtain ⟨C, dd, rfl, rfl, hnx⟩ := hyes rfl
      refine codeAny_handlers_suite_as ?_
      refine HandSPX.lands_againZ fl3 fun h4 fl4 up4 => ?_
      have J4 : Inv X pins σ' H' { s' with heap := h4 } := J.landed nb fl4.1 ((up.trans up3).trans up4) os ag
      obtain ⟨oe4, vs4, he4, hz4, hd4⟩ := fl4.there
      have S4 := J4.suite he4 hd4 na nL nF
      refine store_ok (X := X.suite a ((a, oe4) :: (X.pn ++ pins))) (v := .ref a) S4 hN hi hloc rfl (fun s5 S5 => ?_) (.inr hln)
      have hlen : i < σ'.length := by
        rw [show σ'.length = X.N.length from J.len]
        exact (List.getElem?_eq_some_iff.mp hi).1
      refine wpAny_mono ((pss_one (hsu a ((a, oe4) :: (X.pn ++ pins)))).run [] s5 _ H' { nx := fun σ6 H6 => σ6 = (σ'.set i (some (.ref a))).set j (some (.ref a)) ∧ H6 = H', rt := fun _ _ => False } S5 ⟨.ref a, List.getElem?_set_self hlen, rfl, rfl⟩) (fun f s6 hsp => ?_) (fun _ _ z => False.elim z)
      cases f with
      | next =>
        obtain ⟨σ6, H6, S6, e6, rfl⟩ := hsp
        subst e6
        have U6 : Inv X ((a, oe4) :: pins) ((σ'.set i (some (.ref a))).set j (some (.ref a))) H6 s6 := (S6.unsuite ok).pins_of fun p hp => by
          rcases List.mem_cons.mp hp with rfl | hp
          · exact S6.pin _ (List.mem_append_left _ List.mem_cons_self)
          · exact (S6.unsuite ok).pin p (List.mem_append_right _ hp)
        refine gone_ok U6 hN hi hln fun s7 J7 => ?_
        have hp7 := J7.pin (a, oe4) (List.mem_append_right _ List.mem_cons_self)
        have J8 : Inv X pins (((σ'.set i (some (.ref a))).set j (some (.ref a))).set i none) H6 s7 := J7.pins_of fun p hp => J7.pin p (List.mem_append_right _ (List.mem_cons_of_mem _ hp))
        have es : ((σ'.set i (some (.ref a))).set j (some (.ref a))).set i none = (σ'.set j (some (.ref a))).set i none := by
          rw [List.set_comm _ _ hij, List.set_set]
        rw [es] at J8
        refine ⟨_, _, inv_track (o := ExcO C dd a) J8 na n0 npn nL (fun v hv => ?_) ⟨⟨oe4, vs4, hp7.1, hz4, hd4⟩, ⟨oe4, hp7.1⟩, fun h1 h2 q k => ?_⟩, hnx a na⟩
        · obtain ⟨o', e', d'⟩ := hv
          rw [hp7.1] at e'
          cases e'
          exact hp7.2.2.2.2 v d'
        · obtain ⟨oe, vs, q1, q2, q3⟩ := q
          exact ⟨oe, vs, k _ q1, q2, q3⟩
      | brk =>
        obtain ⟨_, _, _, q⟩ := hsp
        exact False.elim q
      | cont =>
        obtain ⟨_, _, _, q⟩ := hsp
        exact False.elim q
      | ret u =>
        obtain ⟨_, _, _, _, _, q⟩ := hsp
        exact False.elim q
    | false =>
      show wpAny _ X.A (handleBy (.ref a) X.env []) _ _ _
      refine wpAny_handleBy_nil ?_
      obtain ⟨k1, k2, k3, oe, vs, TT, oT, ts', he, hz, hd, h1, hr⟩ := _root_.id fl3
      unfold PySem.passOn
      refine wpAny_bind (wpAny_field he hd h1 ?_)
      rw [if_neg (show ¬ ((Value.ref TT == Value.none) = true) from by simp)]
      have fin : wpAny (model X.prog X.w) X.A (setFlight (.ref a) X.env.frame) (fun _ s4 => wpAny (model X.prog X.w) X.A (throw (.ref a) : Sem Flow) (SP X pins D) X.xe s4) X.xe { s' with heap := h3 } := by
        rw [hf]
        refine HandSPX.setFlight_upZ fl3 fun h4 hh4 up4 => wpAny_throw (tk _ _ ?_)
        exact ⟨a, B, sI, pins, σ', H', cls, d, rfl, J, nb, (up.trans up3).trans up4, .inr (.inr (by rw [hs]; exact hh4)), na, os, ag, hno rfl⟩
      first
        | exact wpAny_bind (wpAny_pure (wpAny_bind fin))
        | exact wpAny_bind fin
  · cases f with
    | next =>
      obtain ⟨σ', H', J', q⟩ := hsp
      exact wpAny_execs_nil ⟨σ', H', J'.ofTry ok, q⟩
    | brk =>
      obtain ⟨σ', H', J', q⟩ := hsp
      exact ⟨σ', H', J'.ofTry ok, q⟩
    | cont =>
      obtain ⟨σ', H', J', q⟩ := hsp
      exact ⟨σ', H', J'.ofTry ok, q⟩
    | ret u =>
      obtain ⟨v, σ', H', J', r, q⟩ := hsp
      exact ⟨v, σ', H', J'.ofTry ok, r, q⟩
theorem gs_tryAs {exm : Str → Option Bool} {x n : Str} {c : Value} {i j : Nat} {body : List Stmt} {st : Stmt} {np pos pos' : Pos} {b : SM} (hs : X.stack = X.env :: X.outer) (hf : X.env.frame = some X.env.locals) (hex : X.ex = []) (hN : X.N.Nodup) (hi : X.N[i]? = some n) (hij : i ≠ j) (hln : X.env.kindOf n = some .local) (hc : Names X x c) (tk : Takes X W)
    (hx : ∀ cn r C, exm cn = some r → X.mg cn = some (.ref C) → PySem.W.exmOne X.K (.ref C) c = some r)
    (hb : ∀ (W : WX) (pn : List (Addr × Obj)) (xe : Value → Shared → Prop), Takes (X.tr pn xe) W → PassesOwn (model X.prog X.w) X.A X.env xe → GB (X.tr pn xe) W body b)
    (hsu : ∀ (a : Addr) (pn : List (Addr × Obj)), PS (X.suite a pn) st (tAsg (tVar i) (gName j))) :
    GS X W (.Try body [.ExceptHandler (some (.Name x np)) (some n) [st] pos'] [] [] pos) (mtryAs exm i j b) := by
  refine PS.imp (ps_tryX (j := j) (tb := fun W => wpS X.K X.mg W b) hs hf hex hN hi hij hln hc tk hb hsu) fun D σ H q => ?_
  obtain ⟨w, S, m, s, l, p⟩ := q
  refine ⟨w, S, m, s, l, ?_⟩
  unfold mtryAs at p
  cases e : b m S with
  | bad => rw [e] at p; exact p
  | next m1 S1 => rw [e] at p; exact p
  | ret v S1 => rw [e] at p; exact p
  | exc cn d m1 S1 =>
    rw [e] at p
    intro w1 σ1 H1 C dd u l1 s1 r1 hm hB hu
    cases ex : exm cn with
    | none => simp only [ex] at p; exact p.elim
    | some r =>
      simp only [ex] at p
      refine ⟨r, hx cn r C ex hm, fun hr => ?_, fun hr => ?_⟩
      · subst hr
        refine ⟨C, dd, rfl, rfl, fun a ha => ?_⟩
        have lx := lx_put (o := ExcO C dd a) s1 ha
        have ra : RelM X.K X.mg (w1.put a (ExcO C dd a)) (.ref a) (.exc cn d) := ⟨a, C, dd, u, rfl, hm, upd_same, lx.le.1 _ _ hB, hu.mono lx.le⟩
        exact p _ _ _ (l1.trans s1 lx) (sim_put s1 ha) (((r1.mono lx.le).set (a := some (.ref a)) (b := some (.exc cn d)) ra j).set (a := none) (b := none) trivial i)
      · subst hr
        exact p w1 σ1 H1 C dd u l1 s1 r1 hm hB hu
end
end PX
end

section
set_option Elab.async false
set_option linter.all false
set_option maxRecDepth 100000
set_option maxHeartbeats 4000000
/-! the end: a law whose def's model answers True -/
namespace PX
open PySem PySem.Spec PyProof.Rows L2
section
variable {P : Program} {w : World} {K : PySem.W.Frag} {mg : Str → Option Value}
theorem dp_ints {B : Hp} : ∀ ns : List Int, DpAll K B (ns.map V.int) (ns.map PyData.int)
  | [] => .nil
  | n :: ns => .cons (.int n) (dp_ints ns)
theorem sp_law {g : FM} {H : Hp} {a : Addr} {ns : List Int} (hS : SqL K H a (ns.map V.int)) (hg : ∃ S', g [.dat (.list (ns.map PyData.int))] [] = .ok (.dat (.bool true)) S') :
    spG K mg 1 g [.ref a] H (fun v _ => v = .bl true) fun _ _ _ => False := by
  obtain ⟨S', e⟩ := hg
  refine ⟨rfl, ⟨H, fun _ => 0, 0⟩, [], [.dat (.list (ns.map PyData.int))], ⟨rfl, fun _ _ h => h, fun i j hi => absurd hi (Nat.not_lt_zero _), fun i o h => by simp at h⟩, .cons (.lst hS (dp_ints ns)) .nil, ?_⟩
  rw [e]
  exact fun w' H' _ _ v hv => rel_bool hv
theorem one_law {k : Nat} {fa a : Addr} {fd : FuncData} {x : Str} {g : FM} {mb : Str → Option Value} {s₁ : Shared} {vs : List Value} {ns : List Int} {H : Hp}
    (hns : s₁.heap.Ns mainGlobals mg) (hb : s₁.heap.Ns builtinsNs mb) (hbb : ∀ x : Str, x ≠ "__name__" → mb x = bootBuiltins x) (KX : K.In s₁.heap) (hlim : s₁.heap.NoLimit) (hgens : s₁.gens = #[])
    (ha : s₁.heap.get? a = some { cls := .type "list", data := .seq vs.toArray }) (hr : Room k callerA)
    (F : ∀ base : Heap, K.In base → base.Ns mainGlobals mg → FnG P w K mg base k fa fd [x] g) (hbind : ∀ (s : Shared) (u : Value), BindsTo s fd ⟨[u], []⟩ [(x, u)])
    (hg : ∃ S', g [.dat (.list (ns.map PyData.int))] [] = .ok (.dat (.bool true)) S')
    (hO : Only H) (hS : SqL K H a (ns.map V.int)) (hok : HOk P w H s₁.heap) (hA : ∀ b, H b ≠ none → b = a) (hK : H a ≠ none → K.lookup a = none) :
    codeAny (model P w) callerA (.call (.ref fa) ⟨[.ref a], []⟩) (fun r s' => r = .ok (.ret (.bool true)) ∧ OldK s₁.heap s'.heap ∧ s'.os = s₁.os ∧ AllBare s'.gens) s₁ := by
  have under : ∀ {b : Addr} {o : Obj}, s₁.heap.get? b = some o → H b = none → (hidT s₁.heap H).get? b = some o :=
    fun e n => hidT_get e n
  have noDict : ∀ {b : Addr} {o : Obj} {es : Array DictEntry} {ep : Nat}, s₁.heap.get? b = some o → o.data = .dict es ep → H b = none := by
    intro b o es ep e d
    cases q : H b with
    | none => rfl
    | some u =>
      have eb : b = a := hA b (by rw [q]; exact fun z => nomatch z)
      rw [eb, ha] at e
      cases e
      exact nomatch (show Data.seq vs.toArray _ = Data.dict es ep from d)
  have nsHid : ∀ {b : Addr} {m : Str → Option Value}, s₁.heap.Ns b m → (hidT s₁.heap H).Ns b m := by
    rintro b m ⟨o, es, ep, e, d, r⟩
    exact ⟨o, es, ep, under e (noDict e d), d, r⟩
  have inHid : K.In (hidT s₁.heap H) := by
    intro b o e
    refine under (KX b o e) ?_
    cases q : H b with
    | none => rfl
    | some u =>
      have eb : b = a := hA b (by rw [q]; exact fun z => nomatch z)
      rw [eb, hK (by rw [← eb, q]; exact fun z => nomatch z)] at e
      cases e
  have md : Mod K mg (hidT s₁.heap H) := by
    obtain ⟨mc, h1, h2⟩ := hlim
    exact ⟨inHid, nsHid hns, ⟨mb, nsHid hb, hbb⟩, mc, nsHid h1, h2⟩
  have env0 : Env0 P w K mg (hidT s₁.heap H) callerA [] s₁ H :=
    ⟨rfl, md, fun b o e => of_hidT e, Nat.le_of_eq (hidT_size _ _), trivial, fun b hb => absurd (show b ∈ ([] : List Addr) from hb) List.not_mem_nil, hok, .of_eq hgens⟩
  have run := (F _ inHid (nsHid hns)).run callerA [] s₁ H ⟨[.ref a], []⟩ [.ref a] [.ref a] _ _ rfl hr env0 (hbind s₁ (.ref a)) (.cons rfl .nil) (sp_law hS hg)
  refine codeAny_mono run fun r s' h => ?_
  cases r with
  | error e =>
    obtain ⟨_, _, _, _, _, _, _, _, _, _, _, _, z⟩ := h
    exact z.elim
  | ok fl =>
    cases fl with
    | ret u =>
      obtain ⟨v, H', os, bare, un, hok', rv, q⟩ := h
      have q' : v = .bl true := q
      subst q'
      obtain rfl : u = Value.bool true := rv
      refine ⟨rfl, OldK.of_keep fun b o e => ?_, os, bare⟩
      cases q : H b with
      | none => exact un.keep b o e q (fun z => nomatch (show b ∈ ([] : List Addr) from z)) (fun z => nomatch z)
      | some u =>
        rcases hO b with z | ⟨ob, xs, z⟩
        · rw [q] at z
          cases z
        · obtain ⟨e1, _⟩ := hok b _ z
          obtain ⟨e2, _⟩ := hok' b _ (un.frzs b ob _ z)
          rw [e] at e1
          cases e1
          exact e2
    | next => exact h.elim
    | brk => exact h.elim
    | cont => exact h.elim
theorem law_all {k : Nat} {fa a : Addr} {fd : FuncData} {x : Str} {g : FM} {mb : Str → Option Value} {s₁ : Shared} {vs : List Value} {ns : List Int}
    (KX : K.In s₁.heap) (hns : s₁.heap.Ns mainGlobals mg) (hb : s₁.heap.Ns builtinsNs mb) (hbb : ∀ x : Str, x ≠ "__name__" → mb x = bootBuiltins x) (hlim : s₁.heap.NoLimit) (hgens : s₁.gens = #[])
    (ha : s₁.heap.get? a = some { cls := .type "list", data := .seq vs.toArray }) (hi : IntsAre vs ns) (hl : ns.length ≤ sizeLine) (hr : Room k callerA)
    (F : ∀ base : Heap, K.In base → base.Ns mainGlobals mg → FnG P w K mg base k fa fd [x] g) (hbind : ∀ (s : Shared) (u : Value), BindsTo s fd ⟨[u], []⟩ [(x, u)])
    (hg : ∃ S', g [.dat (.list (ns.map PyData.int))] [] = .ok (.dat (.bool true)) S') :
    codeAny (model P w) callerA (.call (.ref fa) ⟨[.ref a], []⟩) (fun r s' => r = .ok (.ret (.bool true)) ∧ OldK s₁.heap s'.heap ∧ s'.os = s₁.os ∧ AllBare s'.gens) s₁ := by
  have rv := vals_ints hi
  cases hk : K.lookup a with
  | some o =>
    have e := KX a o hk
    rw [ha] at e
    cases e
    exact one_law (H := fun _ => none) hns hb hbb KX hlim hgens ha hr F hbind hg (fun _ => .inl rfl)
      (.inr ⟨_, vs.toArray, _, hk, rfl, rfl, rfl, by rw [List.size_toArray, hi.length]; exact hl, by simpa using rv⟩)
      (fun b u z => nomatch (show (none : Option HO) = some u from z)) (fun b z => absurd rfl z) (fun z => absurd rfl z)
  | none =>
    refine one_law (H := fun b => if b = a then some (.frz { cls := .type "list", data := .seq vs.toArray } (.lst (ns.map V.int))) else none) hns hb hbb KX hlim hgens ha hr F hbind hg (fun b => ?_) (.inl (.inr ⟨_, if_pos rfl⟩)) (fun b u z => ?_) (fun b z => ?_) fun _ => hk
    · by_cases hba : b = a
      · exact .inr ⟨_, _, if_pos hba⟩
      · exact .inl (if_neg hba)
    · by_cases hba : b = a
      · have y := (if_pos hba).symm.trans z
        cases y
        rw [hba]
        exact ⟨ha, by rw [List.length_map]; exact hl, vs, _, rv, ha⟩
      · have y := (if_neg hba).symm.trans z
        cases y
    · by_cases hba : b = a
      · exact hba
      · exact absurd (if_neg hba) z
end
/-- the goal that the head leaves -/
theorem walk_ofG {l : PySem.W.OpenLaw} {n k : Nat} {q : Program} {loose : List Str} {XP : (Str → Option Value) → Heap → Prop} {YP : World → Heap → Prop} {d : DefRec} {K : Params → PySem.W.Frag} {x : Str} {g : FM}
    (hn : l.most = some n) (hn2 : n ≤ sizeLine) (hdf : d.params.defaults = []) (hr : Room k callerA) (hY : ∀ (w : World) (h : Heap), YP w h → (K w.params).In h)
    (F : ∀ (w : World) (mg : Str → Option Value) (fa : Addr) (h : Heap), (K w.params).In h → h.Ns mainGlobals mg → mg d.name = some (.ref fa) →
      ∃ fd : FuncData, (∀ (s : Shared) (u : Value), BindsTo s fd ⟨[u], []⟩ [(x, u)]) ∧ ∀ base : Heap, (K w.params).In base → base.Ns mainGlobals mg → FnG l.prog w (K w.params) mg base k fa fd [x] g)
    (hg : ∀ ns : List Int, ns.length ≤ n → (∀ z ∈ ns, Builtin.Int.intBits z ≤ 1048576) → ∃ S', g [.dat (.list (ns.map PyData.int))] [] = .ok (.dat (.bool true)) S') :
    PySem.W.WalkO q loose XP YP l.row.toRowW d [] (fun f vs => PySem.call f vs) := by
  refine Att.attach_callB hn hdf fun w s₀ s₁ mg mb fa o pm cd doc a vs ns G Y ho hd hcd hmg hobj hints hlen hbits hgens => ?_
  have KX := hY w _ Y
  obtain ⟨fd, hb, hF⟩ := F w mg fa _ KX G.T.g hmg
  exact law_all KX G.T.g G.T.b G.T.builtins G.T.nolimit hgens hobj hints (Nat.le_trans hlen hn2) hr hF hb (hg ns hlen hbits)
end PX
end

section
set_option Elab.async false
set_option linter.all false
set_option maxRecDepth 100000
set_option maxHeartbeats 4000000
namespace PX
open PySem PySem.Spec PyProof.Rows L2
section
variable {X : Cx} {W : WX}
theorem gn (i : Nat) {x : Str} {pos : Pos} (hN : X.N[i]? = some x := by rfl) (hv : Vis X.env.scope x := by first | exact Or.inl rfl | exact Or.inr (Or.inl rfl) | exact Or.inr (Or.inr rfl)) (hd : (x == ("__debug__" : Str)) = false := by decide)
    (hcd : (x == ("__classdict__" : Str)) = false := by decide) : GE X W (.Name x pos) (mvar i) := ge_name i (pv i hN hv hd hcd)
theorem hu66 {A : Around} {k : Nat} (hr : Room k A) : A.units + 66 < cLine := by
  have := hr.un
  omega
theorem hu65 {A : Around} {k : Nat} (hr : Room k A) : A.units + 65 < cLine := by
  have := hr.un
  omega
/-- a, b, c = x, y, z -/
def mpar3 (i j l : Nat) (fa : AM) : SM := fun m S => (fa m S).go m fun xs S1 => match xs with
  | [x, y, z] => .next (((m.set i (some x)).set j (some y)).set l (some z)) S1
  | _ => .bad
theorem gs_par3 {i j l : Nat} {x y z : Str} {a b c : Expr} {fa : AM} {px py pz pt pos : Pos} {kt k2 : Nat} {pt2 : Pos} (hc : X.calm = true) (hN : X.N.Nodup) (hi : X.N[i]? = some x) (hj : X.N[j]? = some y) (hl : X.N[l]? = some z) (hij : i ≠ j) (hil : i ≠ l) (hjl : j ≠ l)
    (hx : X.env.scope.names.lookup x = some .local) (hy : X.env.scope.names.lookup y = some .local) (hz : X.env.scope.names.lookup z = some .local) (ha : GA X W [a, b, c] fa)
    (hw : swappedStores [.Tuple [.Name x px, .Name y py, .Name z pz] kt pt] (.Tuple [a, b, c] k2 pt2) X.env = pure (some [x, y, z]))
    (hs : swapsWithSole [.Tuple [.Name x px, .Name y py, .Name z pz] kt pt] (.Tuple [a, b, c] k2 pt2) pos.line X.env = pure false := by rfl) :
    GS X W (.Assign [.Tuple [.Name x px, .Name y py, .Name z pz] kt pt] (.Tuple [a, b, c] k2 pt2) pos) (mpar3 i j l fa) := by
  refine PS.imp (ps_par3 hc hN hi hj hl hij hil hjl hx hy hz ha hw hs) fun D σ H q => ?_
  obtain ⟨w, S, m, s, sl, p⟩ := q
  refine ⟨w, S, m, s, sl, (PSt.go sl p).imp fun w1 S1 H1 xs l1 s1 p1 vs rs => ?_⟩
  split at p1
  · cases rs with
    | cons r1 t =>
      cases t with
      | cons r2 t2 =>
        cases t2 with
        | cons r3 t3 =>
          cases t3
          exact ⟨_, _, _, rfl, p1 w1 _ H1 (Lx.refl _ _) s1 ((((sl.mono l1.le).set (a := some _) (b := some _) r1 i).set (a := some _) (b := some _) r2 j).set (a := some _) (b := some _) r3 l)⟩
  · exact p1.elim
/-- a statement that no run reaches -/
def mnever : SM := fun _ _ => .bad
theorem gs_never {st : Stmt} : GS X W st mnever := by
  refine PS.imp ps_never fun D σ H q => ?_
  obtain ⟨w, S, m, s, l, p⟩ := q
  exact p.elim
theorem gb_never {st : List Stmt} : GB X W st mnever := by
  refine PSs.imp pss_never fun D σ H q => ?_
  obtain ⟨w, S, m, s, l, p⟩ := q
  exact p.elim
end
/-! ### what the written part says of the errors -/
theorem along_of {K : PySem.W.Frag} {C D : Addr} {cd : ClassData} (hc : PySem.W.clsIn K C = some cd) (hm : cd.mro = .ref C :: .ref D :: [.type "ValueError", .type "Exception", .type "BaseException", .type "object"]) (hne : C ≠ D) :
    PySem.W.ks_superIn K C D "__init__" = some (some (.builtin "ValueError.__init__")) := by
  unfold PySem.W.ks_superIn
  rw [hc]
  show PySem.W.alongIn K "__init__" ((cd.mro.dropWhile (· != .ref D)).drop 1) = _
  rw [hm]
  have e1 : (Value.ref C != Value.ref D) = true := by simp [hne]
  rw [List.dropWhile_cons, if_pos e1, List.dropWhile_cons, if_neg (by simp)]
  kernel_rfl
theorem ltxt_of {K : PySem.W.Frag} {C D fI : Addr} {nm q : Str} {N : Addr} {bs : List Value} {sn : List Str} {sub : List Value} {ab : Bool} {col : Option Bool} {dd : Option Addr} {m0 m1 m2 m3 m5 : Option Value}
    (xC : K.lookup C = some (excClassObj nm q C N bs [.ref D, .type "ValueError", .type "Exception", .type "BaseException", .type "object"] true sn sub ab col dd m0 m1 m2 m3 m5 "ValueError.__new__"))
    (iC : PySem.W.findIn K (.ref C) "__init__" = some (some (.ref fI))) (sa : PySem.W.findIn K (.ref C) "__setattr__" = some (some (.builtin "object.__setattr__")))
    (ga : PySem.W.findIn K (.ref C) "__getattribute__" = some (some (.builtin "BaseException.__getattribute__"))) (nv : PySem.W.findIn K (.ref C) "value" = some none) (kC : PySem.W.keepIn K (.ref C) = true)
    (eC : PySem.W.subIn K (.ref C) (.type "BaseException") = some true) (tC : PySem.W.typeIn K (.ref C) = some (.type "type")) (hC : PySem.W.hasDictIn K C = true) (sD : PySem.W.mroIn K C (.ref D) = some true) (sV : PySem.W.subIn K (.ref C) (.type "ValueError") = some true) (hne : C ≠ D) :
    LTxt K C D fI := by
  have hcl : PySem.W.clsIn K C = some { name := nm, bases := bs, mro := .ref C :: .ref D :: [.type "ValueError", .type "Exception", .type "BaseException", .type "object"], ns := N, qualname := q, hasDict := true, slotNames := sn, subclasses := sub, abstract := ab, collection := col, hasDel := false } := by
    unfold PySem.W.clsIn
    rw [xC] <;> rfl
  exact ⟨⟨nm, q, N, bs, _, sn, sub, ab, col, dd, m0, m1, m2, m3, m5, xC, rfl⟩, sa, ga, nv, iC, kC, eC, tC, hC, sD, along_of hcl rfl hne, sV⟩
/-- an error of the class at S is what «except S» names -/
theorem exm_own {K : PySem.W.Frag} {C S : Addr} {r : Bool} (h1 : PySem.W.subIn K (.ref S) (.type "BaseException") = some true) (h2 : PySem.W.isClsIn K S = true) (h3 : PySem.W.typeIn K (.ref S) = some (.type "type")) (h4 : PySem.W.subIn K (.ref C) (.ref S) = some r) :
    PySem.W.exmOne K (.ref C) (.ref S) = some r := by
  have e1 : (PySem.W.subIn K (.ref S) (.type "BaseException") == some true) = true := by rw [h1] <;> rfl
  have e2 : ((PySem.W.clsIn K S).isSome && PySem.W.typeIn K (.ref S) == some (.type "type")) = true := by
    have h2' : (PySem.W.clsIn K S).isSome = true := h2
    rw [h2', h3] <;> rfl
  show (if (PySem.W.subIn K (.ref S) (.type "BaseException") == some true) = true then (if ((PySem.W.clsIn K S).isSome && PySem.W.typeIn K (.ref S) == some (.type "type")) = true then PySem.W.subIn K (.ref C) (.ref S) else none) else none) = some r
  rw [if_pos e1, if_pos e2]
  exact h4
end PX
namespace PX
open PySem PySem.Spec PyProof.Rows L2
theorem fn_clean {P : Program} {w : World} {K : PySem.W.Frag} {mg : Str → Option Value} {base : Heap} {x qual : Str} {st : Stmt} {f : Addr} {fd : FuncData} {N ps : List Str} (k np n : Nat) {b : SM} (F : Fun K x qual st f fd) (S : FnScope N ps (defScope st)) (hp : ps.length = np) (hn : N.length = n)
    (hbody : ∀ (cdv : Value) (A : Around) (outer : List Env) (s : Shared) (H : Hp) (E : XK), A.guards = some [] → Room k (A.deeper (envOfC qual (defScope st) s.heap.objs.size f cdv)) →
      GB (cxOf (L2.CX P w) P w K mg base N qual (defScope st) f cdv A outer s H E) (WE0 E) (defBody st) b) : FnG P w K mg base (k + 1) f fd ps (mclean (mfun np n b)) := by
  subst hp hn
  exact FnG.clean (fnG_of F S hbody)
theorem fn_raw {P : Program} {w : World} {K : PySem.W.Frag} {mg : Str → Option Value} {base : Heap} {x qual : Str} {st : Stmt} {f : Addr} {fd : FuncData} {N ps : List Str} (k np n : Nat) {b : SM} (F : Fun K x qual st f fd) (S : FnScope N ps (defScope st)) (hp : ps.length = np) (hn : N.length = n)
    (hbody : ∀ (cdv : Value) (A : Around) (outer : List Env) (s : Shared) (H : Hp) (E : XK), A.guards = some [] → Room k (A.deeper (envOfC qual (defScope st) s.heap.objs.size f cdv)) →
      GB (cxOf (L2.CX P w) P w K mg base N qual (defScope st) f cdv A outer s H E) (WE0 E) (defBody st) b) : FnG P w K mg base (k + 1) f fd ps (mfun np n b) := by
  subst hp hn
  exact fnG_of F S hbody
theorem mfun_len {np n : Nat} {b : SM} : ∀ xs S, xs.length ≠ np → mfun np n b xs S = .bad := fun xs S h => if_neg h
theorem mcln_len {np n : Nat} {b : SM} : ∀ xs S, xs.length ≠ np → mclean (mfun np n b) xs S = .bad := fun xs S h => mclean_bad (mfun_len xs S h)
end PX
end

section
set_option Elab.async false
set_option linter.all false
set_option maxRecDepth 100000
namespace PX
open PySem
section
variable {α β : Type} {a : α} {S : Sto} {c : Str} {d : MV} {m : Sl} {v : MV}
theorem rb_ok {k : α → Sto → Res β} : (Res.ok a S).bind k = k a S := rfl
theorem rb_bad {k : α → Sto → Res β} : (Res.bad : Res α).bind k = .bad := rfl
theorem rb_exc {k : α → Sto → Res β} : (Res.exc c d S : Res α).bind k = .exc c d S := rfl
theorem rg_ok {k : α → Sto → RS} : (Res.ok a S).go m k = k a S := rfl
theorem rg_bad {k : α → Sto → RS} : (Res.bad : Res α).go m k = .bad := rfl
theorem rg_exc {k : α → Sto → RS} : (Res.exc c d S : Res α).go m k = .exc c d m S := rfl
theorem ra_next {k : SM} : (RS.next m S).and k = k m S := rfl
theorem ra_ret {k : SM} : (RS.ret v S).and k = .ret v S := rfl
theorem ra_exc {k : SM} : (RS.exc c d m S).and k = .exc c d m S := rfl
theorem ra_bad {k : SM} : RS.bad.and k = .bad := rfl
theorem rn_ok : (Res.ok a S).nox = .ok a S := rfl
end
theorem log2_lt' {n : Nat} (h : n < 2 ^ 200) : n.log2 < 200 := by
  by_cases h0 : n = 0
  · subst h0; simp
  · exact (Nat.log2_lt h0).mpr h
theorem gMul_int {i j : Int} (hi : i.natAbs < 2 ^ 200) (hj : j.natAbs < 2 ^ 200) : gMul (.int i) (.int j) = some (.int (i * j)) := by
  have h1 := log2_lt' hi
  have h2 := log2_lt' hj
  show (if i.natAbs.log2 + j.natAbs.log2 < 1000000 then some (PyData.int (i * j)) else none) = _
  rw [if_pos (by omega)]
theorem gMod_int {i j : Int} (h : 0 < j) : gMod (.int i) (.int j) = some (.int (i % j)) := if_pos h
theorem gFdiv_int {i j : Int} (h : 0 < j) (h2 : j < 1073741824) : gFdiv (.int i) (.int j) = some (.int (i / j)) := if_pos ⟨h, h2⟩
theorem mAdd_int {i j : Int} {S : Sto} : mAdd (.dat (.int i)) (.dat (.int j)) S = .ok (.dat (.int (i + j))) S := rfl
theorem mAdd_str {a b : Str} {S : Sto} (h : a.length + b.length ≤ 16777216) : mAdd (.dat (.str a)) (.dat (.str b)) S = .ok (.dat (.str (a ++ b))) S := by
  show (match (if a.length + b.length ≤ 16777216 then some (PyData.str (a ++ b)) else none) with
    | some z => match scV z with
      | some _ => (Res.ok (MV.dat z) S : Res MV)
      | none => .bad
    | none => .bad) = _
  rw [if_pos h]
  rfl
theorem mAdd_list {a b : List PyData} {S : Sto} (h : a.length + b.length ≤ 16777216) : mAdd (.dat (.list a)) (.dat (.list b)) S = .ok (.dat (.list (a ++ b))) S := if_pos h
theorem gGt_int {i j : Int} : gGt (.int i) (.int j) = some (.bool (decide (j < i))) := rfl
theorem gLt_int {i j : Int} : gLt (.int i) (.int j) = some (.bool (decide (i < j))) := rfl
theorem gLe_int {i j : Int} : gLe (.int i) (.int j) = some (.bool (decide (i ≤ j))) := rfl
theorem gGe_int {i j : Int} : gGe (.int i) (.int j) = some (.bool (decide (j ≤ i))) := rfl
theorem gEq_int {i j : Int} : gEq (.int i) (.int j) = some (.bool (decide (i = j))) := rfl
theorem gNe_int {i j : Int} : gNe (.int i) (.int j) = some (.bool (!decide (i = j))) := rfl
theorem gEq_str {i j : Str} : gEq (.str i) (.str j) = some (.bool (decide (i = j))) := rfl
theorem gNe_str {i j : Str} : gNe (.str i) (.str j) = some (.bool (!decide (i = j))) := rfl
end PX
namespace PX
open PySem
theorem look_dat {S : Sto} {d : PyData} : look S (.dat d) = some d := rfl
theorem look_lst {S : Sto} {g : Nat} {xs : List MV} {ds : List PyData} (h : S[g]? = some (.lst xs)) (e : allD xs = some ds) : look S (.cell g) = some (.list ds) := by
  simp [look, h, e]
theorem gs_self {S : Sto} {g : Nat} {o : Ob} (h : g < S.length) : (S.set g o)[g]? = some o := List.getElem?_set_self h
theorem gs_app {S : Sto} {o : Ob} {J : Sto} : (S ++ o :: J)[S.length]? = some o := by simp
theorem ss_set {S : Sto} {g : Nat} {o o' : Ob} : (S.set g o).set g o' = S.set g o' := List.set_set ..
def setR (v x y : MV) (m : Sl) (S : Sto) : RS := match x, y with
  | .cell c, .dat (.int k) => match S[c]? with
    | some (.lst xs) => match L2.ixN xs.length k with
      | some j => .next m (S.set c (.lst (xs.set j v)))
      | none => .bad
    | _ => .bad
  | _, _ => .bad
theorem msetix_eq {f o i : EM} : msetix f o i = fun m S => (f m S).go m fun v S1 => (o m S1).go m fun x S2 => (i m S2).go m fun y S3 => setR v x y m S3 := rfl
theorem mIx_list {ds : List PyData} {i : Int} {S : Sto} {d : PyData} (h : L2.atI ds i = some d) : mIx (.dat (.list ds)) (.dat (.int i)) S = .ok (.dat d) S := by
  simp [mIx, look, h]
theorem mIx_tup {ds : List PyData} {i : Int} {S : Sto} {d : PyData} (h : L2.atI ds i = some d) : mIx (.dat (.tuple ds)) (.dat (.int i)) S = .ok (.dat d) S := by
  simp [mIx, look, h]
theorem mIx_cell {g : Nat} {xs : List MV} {ds : List PyData} {i : Int} {S : Sto} {d : PyData} (hS : S[g]? = some (.lst xs)) (e : allD xs = some ds) (h : L2.atI ds i = some d) : mIx (.cell g) (.dat (.int i)) S = .ok (.dat d) S := by
  simp [mIx, look_lst hS e, look_dat, h]
def genO (a b c : Int) : Ob := .lst ([a, b, c].map fun i => .dat (.int i))
section
variable {S : Sto} {g : Nat} {a b c : Int} {m : Sl} {v : Int}
theorem ixG0 (h : S[g]? = some (genO a b c)) : mIx (.cell g) (.dat (.int 0)) S = .ok (.dat (.int a)) S := mIx_cell (ds := [.int a, .int b, .int c]) h rfl rfl
theorem ixG1 (h : S[g]? = some (genO a b c)) : mIx (.cell g) (.dat (.int 1)) S = .ok (.dat (.int b)) S := mIx_cell (ds := [.int a, .int b, .int c]) h rfl rfl
theorem ixG2 (h : S[g]? = some (genO a b c)) : mIx (.cell g) (.dat (.int 2)) S = .ok (.dat (.int c)) S := mIx_cell (ds := [.int a, .int b, .int c]) h rfl rfl
theorem setG0 (h : S[g]? = some (genO a b c)) : setR (.dat (.int v)) (.cell g) (.dat (.int 0)) m S = .next m (S.set g (genO v b c)) := by
  unfold genO at h
  simp [setR, h, L2.ixN, genO]
theorem setG2 (h : S[g]? = some (genO a b c)) : setR (.dat (.int v)) (.cell g) (.dat (.int 2)) m S = .next m (S.set g (genO a b v)) := by
  unfold genO at h
  simp [setR, h, L2.ixN, genO]
end
theorem mrng1_eq {fa : AM} {m : Sl} {S S' : Sto} {j : Int} (h : fa m S = .ok [.dat (.int j)] S') (hj : smallI j = true) : mrng1 fa m S = .ok (nums 0 j.toNat) S' := by
  simp [mrng1, h, rb_ok, hj]
theorem mrng2_eq {fa : AM} {m : Sl} {S S' : Sto} {i j : Int} (h : fa m S = .ok [.dat (.int i), .dat (.int j)] S') (hi : smallI i = true) (hj : smallI j = true) : mrng2 fa m S = .ok (nums i (j - i).toNat) S' := by
  simp [mrng2, h, rb_ok, hi, hj]
end PX
namespace PX
open PySem
theorem mfor_one {it : AM} {g : GM} {b : SM} {m m1 : Sl} {S S' S1 : Sto} {x : MV} (h1 : it m S = .ok [x] S') (h2 : g x m S' = some (m1, S1)) : mfor it g b m S = (b m1 S1).and fun m S => .next m S := by
  simp only [mfor, h1, rg_ok, mforGo, h2]
theorem and_next {m2 : Sl} {S2 : Sto} {r : RS} (h : r = .next m2 S2) : (r.and fun m S => RS.next m S) = .next m2 S2 := by
  rw [h]
  rfl
end PX
namespace PX
open PySem
section
variable {f g : SM} {m m1 : Sl} {S S1 : Sto} {v : MV} {c : Str} {d : MV} {t : TM}
theorem mseq_n (h : f m S = .next m1 S1) : mseq f g m S = g m1 S1 := by unfold mseq; rw [h]; rfl
theorem mseq_r (h : f m S = .ret v S1) : mseq f g m S = .ret v S1 := by unfold mseq; rw [h]; rfl
theorem mseq_e (h : f m S = .exc c d m1 S1) : mseq f g m S = .exc c d m1 S1 := by unfold mseq; rw [h]; rfl
theorem mifS_t (h : t m S = .ok true S1) : mifS t f g m S = f m S1 := by unfold mifS; rw [h]; rfl
theorem mifS_f (h : t m S = .ok false S1) : mifS t f g m S = g m S1 := by unfold mifS; rw [h]; rfl
theorem masg_n {e : EM} {i : Nat} (h : e m S = .ok v S1) : masg e (gset i) m S = .next (m.set i (some v)) S1 := by unfold masg; rw [h]; rfl
theorem mret_r {e : EM} (h : e m S = .ok v S1) : mret e m S = .ret v S1 := by unfold mret; rw [h]; rfl
theorem mexpr_n {e : EM} (h : e m S = .ok v S1) : mexpr e m S = .next m S1 := by unfold mexpr; rw [h]; rfl
theorem mfun_ret {np n : Nat} {b : SM} {xs : List MV} (hl : xs.length = np) (h : b (xs.map some ++ List.replicate (n - np) none) S = .ret v S1) : mfun np n b xs S = .ok v S1 := by
  unfold mfun; rw [if_pos hl, h]
theorem mfun_next {np n : Nat} {b : SM} {xs : List MV} (hl : xs.length = np) (h : b (xs.map some ++ List.replicate (n - np) none) S = .next m1 S1) : mfun np n b xs S = .ok (.dat .none) S1 := by
  unfold mfun; rw [if_pos hl, h]
theorem mfun_exc {np n : Nat} {b : SM} {xs : List MV} (hl : xs.length = np) (h : b (xs.map some ++ List.replicate (n - np) none) S = .exc c d m1 S1) : mfun np n b xs S = .exc c d S1 := by
  unfold mfun; rw [if_pos hl, h]
theorem mpar_n {i j : Nat} {fa : AM} {x y : MV} (h : fa m S = .ok [x, y] S1) : mpar i j fa m S = .next ((m.set i (some x)).set j (some y)) S1 := by unfold mpar; rw [h]; rfl
theorem mpar3_n {i j l : Nat} {fa : AM} {x y z : MV} (h : fa m S = .ok [x, y, z] S1) : mpar3 i j l fa m S = .next (((m.set i (some x)).set j (some y)).set l (some z)) S1 := by unfold mpar3; rw [h]; rfl
end
end PX
namespace PX
open PySem
theorem atI_in {α : Type} {xs : List α} {i : Int} (h0 : 0 ≤ i) (h1 : i < xs.length) : L2.atI xs i = xs[i.toNat]? := by
  unfold L2.atI L2.ixN
  rw [if_pos h0, if_pos h1]
  rfl
theorem atI_get {α : Type} {xs : List α} {i : Int} (h0 : 0 ≤ i) (h1 : i < xs.length) : ∃ x, L2.atI xs i = some x ∧ x ∈ xs := by
  rw [atI_in h0 h1]
  have h : i.toNat < xs.length := by omega
  exact ⟨xs[i.toNat], List.getElem?_eq_getElem h, List.getElem_mem h⟩
theorem cutD_map {α β : Type} (f : α → β) (xs : List α) (lo hi : Option Int) : cutD (xs.map f) lo hi = (cutD xs lo hi).map f := by
  unfold cutD
  rw [List.length_map, List.map_take, List.map_drop]
theorem cutD_mem {α : Type} {xs : List α} {lo hi : Option Int} {x : α} (h : x ∈ cutD xs lo hi) : x ∈ xs := List.mem_of_mem_drop (List.mem_of_mem_take h)
theorem cutD_len {α : Type} (xs : List α) (lo hi : Option Int) : (cutD xs lo hi).length ≤ xs.length := by
  unfold cutD
  rw [List.length_take, List.length_drop]
  omega
theorem mLen_list {ds : List PyData} {S : Sto} : mLen [.dat (.list ds)] S = .ok (.dat (.int ds.length)) S := rfl
theorem mLen_str {z : Str} {S : Sto} (h : z.length ≤ 16777216) : mLen [.dat (.str z)] S = .ok (.dat (.int z.length)) S := by
  simp [mLen, look, h]
theorem mLen_cell {g : Nat} {xs : List MV} {ds : List PyData} {S : Sto} (h : S[g]? = some (.lst xs)) (e : allD xs = some ds) : mLen [.cell g] S = .ok (.dat (.int ds.length)) S := by
  simp [mLen, look_lst h e]
theorem gSum_ints {ns : List Int} {S : Sto} : gSum (.list (ns.map PyData.int)) S = .ok (.dat (.int ns.sum)) S := by
  simp [gSum, intsD_map]
theorem mslice_eq {f : EM} {lo hi : Option EM} {m : Sl} {S S1 S2 S3 : Sto} {x : MV} {l h : Option Int} (e : f m S = .ok x S1) (e1 : mpart lo m S1 = .ok l S2) (e2 : mpart hi m S2 = .ok h S3) : mslice f lo hi m S = mCut x l h S3 := by
  simp only [mslice, e, rb_ok, e1, e2]
theorem mpart_none {m : Sl} {S : Sto} : mpart none m S = .ok none S := rfl
theorem mpart_int {f : EM} {m : Sl} {S S1 : Sto} {i : Int} (e : f m S = .ok (.dat (.int i)) S1) : mpart (some f) m S = .ok (some i) S1 := by
  simp only [mpart, e, rb_ok]
theorem mCut_list {ds : List PyData} {l h : Option Int} {S : Sto} : mCut (.dat (.list ds)) l h S = .ok (.dat (.list (cutD ds l h))) S := rfl
theorem mCut_str {z : Str} {l h : Option Int} {S : Sto} (hz : z.length ≤ 16777216) : mCut (.dat (.str z)) l h S = .ok (.dat (.str (L2.cutS z l h))) S := by
  simp [mCut, look, hz]
end PX
namespace PX
open PySem
section
variable {m : Sl} {S S1 S2 S3 S4 : Sto} {x y z u : MV}
theorem mop_ok {g : MV → MV → Sto → Res MV} {fa fb : EM} (h1 : fa m S = .ok x S1) (h2 : fb m S1 = .ok y S2) : mop g fa fb m S = g x y S2 := by simp only [mop, h1, rb_ok, h2]
theorem mD_ok {g : PyData → PyData → Option PyData} {d e r : PyData} {v : L2.V} (h : g d e = some r) (hv : scV r = some v) : mD g (.dat d) (.dat e) S = .ok (.dat r) S := by
  simp only [mD, look_dat, h, hv]
theorem mDl_ok {g : PyData → PyData → Option PyData} {d e r : PyData} {v : L2.V} (h1 : look S x = some d) (h2 : look S y = some e) (h : g d e = some r) (hv : scV r = some v) : mD g x y S = .ok (.dat r) S := by
  simp only [mD, h1, h2, h, hv]
theorem c1_ok {g : MC} {f : EM} (h : f m S = .ok x S1) : mcall g (mcons f mnil) m S = g [x] S1 := by simp only [mcall, mcons, h, rb_ok, mnil]
theorem c2_ok {g : MC} {f f2 : EM} (h : f m S = .ok x S1) (h2 : f2 m S1 = .ok y S2) : mcall g (mcons f (mcons f2 mnil)) m S = g [x, y] S2 := by simp only [mcall, mcons, h, h2, rb_ok, mnil]
theorem c3_ok {g : MC} {f f2 f3 : EM} (h : f m S = .ok x S1) (h2 : f2 m S1 = .ok y S2) (h3 : f3 m S2 = .ok z S3) : mcall g (mcons f (mcons f2 (mcons f3 mnil))) m S = g [x, y, z] S3 := by simp only [mcall, mcons, h, h2, h3, rb_ok, mnil]
theorem a1_ok {f : EM} (h : f m S = .ok x S1) : mcons f mnil m S = .ok [x] S1 := by simp only [mcons, h, rb_ok, mnil]
theorem ac_ok {f : EM} {g : AM} {xs : List MV} (h : f m S = .ok x S1) (h2 : g m S1 = .ok xs S2) : mcons f g m S = .ok (x :: xs) S2 := by simp only [mcons, h, rb_ok, h2]
theorem an_ok : mnil m S = .ok [] S := rfl
theorem test_ok {f : EM} {b : Bool} (h : f m S = .ok (.dat (.bool b)) S1) : mtest f m S = .ok b S1 := by simp only [mtest, h, rb_ok]
theorem not_ok {f : TM} {b : Bool} (h : f m S = .ok b S1) : mnot f m S = .ok (!b) S1 := by simp only [mnot, h, rb_ok]
theorem and_t {f g : TM} (h : f m S = .ok true S1) : mand f g m S = g m S1 := by simp only [mand, h, rb_ok, if_true]
theorem and_f {f g : TM} (h : f m S = .ok false S1) : mand f g m S = .ok false S1 := by simp [mand, h, rb_ok]
theorem or_t {f g : TM} (h : f m S = .ok true S1) : mor f g m S = .ok true S1 := by simp only [mor, h, rb_ok, if_true]
theorem or_f {f g : TM} (h : f m S = .ok false S1) : mor f g m S = g m S1 := by simp [mor, h, rb_ok]
theorem mlst_ok {fa : AM} {ds : List PyData} (h : fa m S = .ok (ds.map MV.dat) S1) (hl : ds.length ≤ 16777216) : mlst fa m S = .ok (.dat (.list ds)) S1 := by
  simp only [mlst, h, rb_ok, fzAll_dat, hl, if_true]
theorem mtup_ok {fa : AM} {ds : List PyData} (h : fa m S = .ok (ds.map MV.dat) S1) (hl : ds.length ≤ 16777216) : mtup fa m S = .ok (.dat (.tuple ds)) S1 := by
  simp only [mtup, h, rb_ok, fzAll_dat, hl, if_true]
theorem mlstC_ok {fa : AM} {xs : List MV} (h : fa m S = .ok xs S1) (hl : xs.length ≤ 16777216) : mlstC fa m S = .ok (.cell S1.length) (S1 ++ [.lst xs]) := by
  simp only [mlstC, h, rb_ok, hl, if_true]
theorem mpar_ok {i j : Nat} {fa : AM} (h : fa m S = .ok [x, y] S1) : mpar i j fa m S = .next ((m.set i (some x)).set j (some y)) S1 := mpar_n h
theorem lm_ok {g : MM} {fo : EM} {fa : AM} {xs : List MV} (h : fo m S = .ok x S1) (ht : tyM S1 x = some "list") (h2 : fa m S1 = .ok xs S2) : mlistM g fo fa m S = g x xs S2 := by
  simp only [mlistM, h, rb_ok, ht, h2]
theorem tyM_cell {i : Nat} {xs : List MV} (h : S[i]? = some (.lst xs)) : tyM S (.cell i) = some "list" := by simp [tyM, h]
theorem app_ok' {i : Nat} {xs : List MV} (h : S[i]? = some (.lst xs)) (hl : xs.length < 16777216) : gApp (.cell i) [y] S = .ok (.dat .none) (S.set i (.lst (xs ++ [y]))) := by simp [gApp, h, hl]
theorem lc_ok {it : AM} {g : GM} {t : TM} {e : EM} {vs : List Nat} {xs ys : List MV} {ds : List PyData} (h1 : it m S = .ok xs S1) (hl : xs.length ≤ 16777216) (h2 : mlcGo g t e (mwipe m vs) xs [] m S1 = .ok ys S2) (h3 : fzAll S2 ys = some (ds, S3)) :
    mlc it g t e vs m S = .ok (.dat (.list ds)) S3 := by
  simp only [mlc, mlcAll, h1, rb_ok, hl, if_true, h2, h3]
/-- a comprehension without test whose element is data, the store as it is -/
theorem lcGo_map {g : GM} {e : EM} {m m0 : Sl} {S : Sto} {f : MV → PyData} : ∀ (xs acc : List MV), (∀ x ∈ xs, ∃ m1, g x m S = some (m1, S) ∧ e m1 S = .ok (.dat (f x)) S) → mlcGo g myes e m xs acc m0 S = .ok (acc ++ xs.map fun x => .dat (f x)) S
  | [], acc, _ => by simp [mlcGo]
  | x :: xs, acc, h => by
    obtain ⟨m1, h1, h2⟩ := h x (List.mem_cons_self ..)
    have ih := lcGo_map (m0 := m0) xs (acc ++ [.dat (f x)]) fun y hy => h y (List.mem_cons_of_mem _ hy)
    simp only [mlcGo, h1, myes, rn_ok, rb_ok, if_true, h2]
    rw [ih]
    simp
theorem lc_map {it : AM} {g : GM} {e : EM} {vs : List Nat} {xs : List MV} {f : MV → PyData} (h1 : it m S = .ok xs S1) (hl : xs.length ≤ 16777216) (h : ∀ x ∈ xs, ∃ m1, g x (mwipe m vs) S1 = some (m1, S1) ∧ e m1 S1 = .ok (.dat (f x)) S1) :
    mlc it g myes e vs m S = .ok (.dat (.list (xs.map f))) S1 := by
  refine lc_ok h1 hl (lcGo_map xs [] h) ?_
  rw [List.nil_append, show (xs.map fun x => MV.dat (f x)) = (xs.map f).map MV.dat by simp]
  exact fzAll_dat _ _
theorem miter_list {f : EM} {ds : List PyData} (h : f m S = .ok (.dat (.list ds)) S1) : miter f m S = .ok (ds.map MV.dat) S1 := by
  simp [miter, h, rb_ok, iterOf, fz]
theorem miter_str {f : EM} {z : Str} (h : f m S = .ok (.dat (.str z)) S1) : miter f m S = .ok (signs z) S1 := by
  simp [miter, h, rb_ok, iterOf, fz]
end
end PX
namespace PX
open PySem
theorem popAt_ok {S : Sto} {i k : Nat} {zs : List MV} {r : Int} {y : MV} (hS : S[i]? = some (.lst zs)) (hix : L2.ixN zs.length r = some k) (hz : zs.length ≤ 16777216) (hy : zs[k]? = some y) : gPopAt (.cell i) [.dat (.int r)] S = .ok y (S.set i (.lst (zs.eraseIdx k))) := by
  simp only [gPopAt, hS, hix, hz, if_true, hy]
theorem fz_cell {S : Sto} {i : Nat} {xs : List MV} {ds : List PyData} (hS : S[i]? = some (.lst xs)) (e : allD xs = some ds) : fz S (.cell i) = some (.list ds, S.set i (.dead (.list ds))) := by
  simp only [fz, hS, e, Option.map_some]
theorem erase_map {α β : Type} (f : α → β) : ∀ (xs : List α) (k : Nat), (xs.map f).eraseIdx k = (xs.eraseIdx k).map f
  | [], _ => rfl
  | _ :: _, 0 => rfl
  | x :: xs, k + 1 => by
    show f x :: (xs.map f).eraseIdx k = f x :: (xs.eraseIdx k).map f
    rw [erase_map f xs k]
end PX
end

section
set_option Elab.async false
set_option linter.all false
set_option maxRecDepth 100000
set_option maxHeartbeats 4000000
namespace K86
open PySem PySem.Spec PyProof.Rows L2 PX
def top (i : Nat) : Stmt := PySem.Challenge.pw_learntsurely_k86_whole_wrong_lines_of_fa.main.body.getD i (.Pass ⟨0, 0, 0, 0⟩)
def errs : List Str := ["InvalidText"]
def exm_InvalidText (cn : Str) : Option Bool := if cn = "InvalidText" then some true else none
abbrev s__law_all_rows : Stmt := top 20
theorem sc__law_all_rows : FnScope ["many", "found", "turn", "longer", "row"] ["many"] (defScope s__law_all_rows) := ⟨rfl, rfl, rfl, by decide +kernel, rfl, by decide +kernel, by decide +kernel⟩
noncomputable def b__law_all_rows : SM := (mseq (masg (mlst (mcons (mlst mnil) mnil)) (gset 1))
    (mseq (mfor (mrng1 (mcons (mvar 0) mnil)) (gset 2) (mseq (masg (mlst mnil) (gset 3))
    (mseq (mfor (miter (mvar 1)) (gset 4) (masg (mop (mAdd) (mvar 3) (mlst (mcons (mop (mAdd) (mvar 4) (mlst (mcons (mcst (.int 0)) mnil))) (mcons (mop (mAdd) (mvar 4) (mlst (mcons (mcst (.int 1)) mnil))) mnil)))) (gset 3)))
    (masg (mvar 3) (gset 1)))))
    (mret (mvar 1))))
noncomputable def m__law_all_rows : FM := mclean (mfun 1 5 b__law_all_rows)
abbrev s__law_hash : Stmt := top 14
theorem sc__law_hash : FnScope ["seed", "index", "mixed"] ["seed", "index"] (defScope s__law_hash) := ⟨rfl, rfl, rfl, by decide +kernel, rfl, by decide +kernel, by decide +kernel⟩
noncomputable def b__law_hash : SM := (mseq (masg (mop (mD gMod) (mcall (m1 gInt) (mcons (mop (mAdd) (mop (mAdd) (mop (mAdd) (mop (mD gMul) (mvar 0) (mcst (.int 1140671))) (mop (mD gMul) (mop (mD gMul) (mcst (.int 27644437)) (mvar 1)) (mvar 1))) (mop (mD gMul) (mcst (.int 131)) (mvar 1))) (mcst (.int 19))) mnil)) (mcst (.int 2147483629))) (gset 2))
    (mseq (masg (mop (mD gMod) (mcall (m1 gInt) (mcons (mop (mAdd) (mop (mAdd) (mop (mD gMul) (mvar 2) (mvar 2)) (mop (mD gMul) (mcst (.int 62089)) (mvar 1))) (mcst (.int 32416187))) mnil)) (mcst (.int 2147483587))) (gset 2))
    (mret (mop (mD gMod) (mcall (m1 gInt) (mcons (mop (mD gMul) (mvar 2) (mcst (.int 48271))) mnil)) (mcst (.int 2147483647))))))
noncomputable def m__law_hash : FM := mclean (mfun 2 3 b__law_hash)
abbrev s__law_random : Stmt := top 15
theorem sc__law_random : FnScope ["generator", "bound", "drawn", "turn"] ["generator", "bound"] (defScope s__law_random) := ⟨rfl, rfl, rfl, by decide +kernel, rfl, by decide +kernel, by decide +kernel⟩
noncomputable def b__law_random : SM := (mseq (mifS (mtest (mop (mD gGt) (mop mIx (mvar 0) (mcst (.int 0))) (mcst (.int 0)))) (mseq (masg (mop (mD gMod) (mcall (m1 gInt) (mcons (mop mIx (mvar 0) (mcst (.int 0))) mnil)) (mvar 1)) (gset 2))
    (mseq (msetix (mop (mD gFdiv) (mop mIx (mvar 0) (mcst (.int 0))) (mvar 1)) (mvar 0) (mcst (.int 0)))
    (mret (mvar 2)))) mskip)
    (mseq (masg (mcst (.int 0)) (gset 2))
    (mseq (mfor (mrng1 (mcons (mop (mAdd) (mcst (.int 1)) (mop (mD gFdiv) (mbits (mvar 1)) (mcst (.int 30)))) mnil)) (gset 3) (mseq (msetix (mop (mAdd) (mop mIx (mvar 0) (mcst (.int 2))) (mcst (.int 1))) (mvar 0) (mcst (.int 2)))
    (masg (mop (mAdd) (mop (mD gMul) (mvar 2) (mcst (.int 2147483587))) (mcall m__law_hash (mcons (mop mIx (mvar 0) (mcst (.int 1))) (mcons (mop mIx (mvar 0) (mcst (.int 2))) mnil)))) (gset 2))))
    (mret (mop (mD gMod) (mcall (m1 gInt) (mcons (mvar 2) mnil)) (mvar 1))))))
noncomputable def m__law_random : FM := mclean (mfun 2 4 b__law_random)
abbrev s__law_drawn_order : Stmt := top 19
theorem sc__law_drawn_order : FnScope ["generator", "row", "left", "found"] ["generator", "row"] (defScope s__law_drawn_order) := ⟨rfl, rfl, rfl, by decide +kernel, rfl, by decide +kernel, by decide +kernel⟩
noncomputable def b__law_drawn_order : SM := (mseq (mpar 2 3 (mcons (mcall (mListC) (mcons (mvar 1) mnil)) (mcons (mlstC mnil) mnil)))
    (mseq (mwhile 100 (mtest (mop (mD gNe) (mvar 2) (mlst mnil))) (mexpr (mlistM gApp (mvar 3) (mcons (mlistM gPopAt (mvar 2) (mcons (mcall m__law_random (mcons (mvar 0) (mcons (mcall (mLen) (mcons (mvar 2) mnil)) mnil))) mnil)) mnil))))
    (mret (mvar 3))))
noncomputable def m__law_drawn_order : FM := mclean (mfun 2 4 b__law_drawn_order)
abbrev s__law_family : Stmt := top 21
theorem sc__law_family : FnScope ["generator", "most", "high", "points", "rows"] ["generator", "most", "high"] (defScope s__law_family) := ⟨rfl, rfl, rfl, by decide +kernel, rfl, by decide +kernel, by decide +kernel⟩
noncomputable def b__law_family : SM := (mseq (masg (mop (mAdd) (mcst (.int 1)) (mcall m__law_random (mcons (mvar 0) (mcons (mvar 1) mnil)))) (gset 3))
    (mseq (masg (mcall m__law_drawn_order (mcons (mvar 0) (mcons (mcall m__law_all_rows (mcons (mvar 3) mnil)) mnil))) (gset 4))
    (mret (mtup (mcons (mcst (.str "family")) (mcons (mvar 3) (mcons (mcall (mSorted) (mcons (mslice (mvar 4) none (some (mop (mAdd) (mcst (.int 1)) (mcall m__law_random (mcons (mvar 0) (mcons (mcall (m2 gMin) (mcons (mcall (mLen) (mcons (mvar 4) mnil)) (mcons (mvar 2) mnil))) mnil)))))) mnil)) mnil)))))))
noncomputable def m__law_family : FM := mclean (mfun 3 5 b__law_family)
abbrev s__law_cell : Stmt := top 16
theorem sc__law_cell : FnScope ["script", "index"] ["script", "index"] (defScope s__law_cell) := ⟨rfl, rfl, rfl, by decide +kernel, rfl, by decide +kernel, by decide +kernel⟩
noncomputable def b__law_cell : SM := (mseq (mifS (mtest (mop (mD gLt) (mvar 1) (mcall (mLen) (mcons (mvar 0) mnil)))) (mret (mop mIx (mvar 0) (mvar 1))) mskip)
    (mret (mop (mD gMod) (mcall (m1 gSum) (mcons (mslice (mvar 0) none (some (mcst (.int 1)))) mnil)) (mcst (.int 1000003)))))
noncomputable def m__law_cell : FM := mclean (mfun 2 2 b__law_cell)
abbrev s__law_generator : Stmt := top 17
theorem sc__law_generator : FnScope ["script", "index", "seed"] ["script", "index"] (defScope s__law_generator) := ⟨rfl, rfl, rfl, by decide +kernel, rfl, by decide +kernel, by decide +kernel⟩
noncomputable def b__law_generator : SM := (mseq (masg (mcall m__law_cell (mcons (mvar 0) (mcons (mvar 1) mnil))) (gset 2))
    (mret (mlstC (mcons (mop (mD gMod) (mcall (m1 gInt) (mcons (mcall (m2 gMax) (mcons (mop (mD gSubD) (mvar 2) (mop (mD gPow) (mcst (.int 10)) (mcst (.int 18)))) (mcons (mcst (.int 0)) mnil))) mnil)) (mop (mD gPow) (mop (mD gPow) (mcst (.int 10)) (mcst (.int 60))) (mcst (.int 10)))) (mcons (mop (mD gMod) (mcall (m1 gInt) (mcons (mvar 2) mnil)) (mcst (.int 2147483647))) (mcons (mop (mD gMul) (mcst (.int 1000)) (mvar 1)) mnil))))))
noncomputable def m__law_generator : FM := mfun 2 3 b__law_generator
abbrev s__law_pick : Stmt := top 18
theorem sc__law_pick : FnScope ["generator", "row"] ["generator", "row"] (defScope s__law_pick) := ⟨rfl, rfl, rfl, by decide +kernel, rfl, by decide +kernel, by decide +kernel⟩
noncomputable def b__law_pick : SM := (mret (mop mIx (mvar 1) (mcall m__law_random (mcons (mvar 0) (mcons (mcall (mLen) (mcons (mvar 1) mnil)) mnil)))))
noncomputable def m__law_pick : FM := mclean (mfun 2 2 b__law_pick)
abbrev s__law_words : Stmt := top 22
theorem sc__law_words : FnScope ["row", "label"] ["row"] (defScope s__law_words) := ⟨rfl, rfl, rfl, by decide +kernel, rfl, by decide +kernel, by decide +kernel⟩
noncomputable def b__law_words : SM := (mret (mtxt1 gJoin (mcst (.str "")) (mlc (miter (mvar 0)) (gset 1) myes (mcall (m1 gStr) (mcons (mvar 1) mnil)) (List.map (·.2) ([("label", 1)] : List (Str × Nat))))))
noncomputable def m__law_words : FM := mclean (mfun 1 2 b__law_words)
abbrev s__law_text : Stmt := top 23
theorem sc__law_text : FnScope ["family", "lines", "row", "line"] ["family"] (defScope s__law_text) := ⟨rfl, rfl, rfl, by decide +kernel, rfl, by decide +kernel, by decide +kernel⟩
noncomputable def b__law_text : SM := (mseq (masg (mop (mAdd) (mlst (mcons (mop (mAdd) (mcst (.str "points ")) (mcall (m1 gStr) (mcons (mop mIx (mvar 0) (mcst (.int 1))) mnil))) mnil)) (mlc (miter (mop mIx (mvar 0) (mcst (.int 2)))) (gset 2) myes (mcall m__law_words (mcons (mvar 2) mnil)) (List.map (·.2) ([("row", 2)] : List (Str × Nat))))) (gset 1))
    (mret (mtxt1 gJoin (mcst (.str "")) (mlc (miter (mvar 1)) (gset 3) myes (mop (mAdd) (mvar 3) (mcst (.str "\n"))) (List.map (·.2) ([("line", 3)] : List (Str × Nat)))))))
noncomputable def m__law_text : FM := mclean (mfun 1 4 b__law_text)
abbrev s__law_texts : Stmt := top 26
theorem sc__law_texts : FnScope ["generator", "family", "found", "lists", "some", "turn", "text", "lines", "at", "spot", "cut", "here", "line"] ["generator", "family"] (defScope s__law_texts) := ⟨rfl, rfl, rfl, by decide +kernel, rfl, by decide +kernel, by decide +kernel⟩
noncomputable def b__law_texts : SM := (mseq (mpar 6 7 (mcons (mcall m__law_text (mcons (mvar 1) mnil)) (mcons (mslice (mtxt1 gSplit (mcall m__law_text (mcons (mvar 1) mnil)) (mcst (.str "\n"))) none (some (mneg (mcst (.int 1))))) mnil)))
    (mseq (mpar3 8 9 10 (mcons (mcall m__law_random (mcons (mvar 0) (mcons (mcall (mLen) (mcons (mvar 7) mnil)) mnil))) (mcons (mcall m__law_random (mcons (mvar 0) (mcons (mcall (mLen) (mcons (mvar 7) mnil)) mnil))) (mcons (mcall m__law_random (mcons (mvar 0) (mcons (mop (mAdd) (mcall (mLen) (mcons (mvar 6) mnil)) (mcst (.int 1))) mnil))) mnil))))
    (mseq (masg (mlstC (mcons (mvar 6) (mcons (mop (mAdd) (mvar 6) (mcst (.str "\n"))) (mcons (mslice (mvar 6) none (some (mneg (mcst (.int 1))))) (mcons (mcst (.str "")) (mcons (mcst (.str "\n")) (mcons (mop (mAdd) (mcst (.str " ")) (mvar 6)) (mcons (mop (mAdd) (mvar 6) (mvar 6)) (mcons (mslice (mvar 6) none (some (mvar 10))) (mcons (mslice (mvar 6) (some (mvar 10)) none) mnil)))))))))) (gset 2))
    (mseq (masg (mlst (mcons (mop (mAdd) (mslice (mvar 7) none (some (mvar 8))) (mslice (mvar 7) (some (mop (mAdd) (mvar 8) (mcst (.int 1)))) none)) (mcons (mop (mAdd) (mop (mAdd) (mslice (mvar 7) none (some (mvar 8))) (mslice (mvar 7) (some (mvar 8)) (some (mop (mAdd) (mvar 8) (mcst (.int 1)))))) (mslice (mvar 7) (some (mvar 8)) none)) (mcons (mrev (mvar 7)) (mcons (mop (mAdd) (mop (mAdd) (mslice (mvar 7) none (some (mvar 8))) (mlst (mcons (mop mIx (mvar 7) (mvar 9)) mnil))) (mslice (mvar 7) (some (mop (mAdd) (mvar 8) (mcst (.int 1)))) none)) mnil))))) (gset 3))
    (mseq (mfor (miter (mop (mAdd) (mvar 3) (mlst (mcons (mop (mAdd) (mvar 7) (mlst (mcons (mop (mD gMul) (mcst (.str "0")) (mop mIx (mvar 1) (mcst (.int 1)))) mnil))) (mcons (mop (mAdd) (mvar 7) (mlst (mcons (mop (mD gMul) (mcst (.str "1")) (mop mIx (mvar 1) (mcst (.int 1)))) mnil))) mnil))))) (gset 4) (mexpr (mlistM gApp (mvar 2) (mcons (mtxt1 gJoin (mcst (.str "")) (mlc (miter (mvar 4)) (gset 12) myes (mop (mAdd) (mvar 12) (mcst (.str "\n"))) (List.map (·.2) ([("line", 12)] : List (Str × Nat))))) mnil))))
    (mseq (mfor (mrng1 (mcons (mcst (.int 4)) mnil)) (gset 5) (mseq (masg (mcall m__law_random (mcons (mvar 0) (mcons (mcall (mLen) (mcons (mvar 6) mnil)) mnil))) (gset 11))
    (mexpr (mlistM gApp (mvar 2) (mcons (mop (mAdd) (mop (mAdd) (mslice (mvar 6) none (some (mvar 11))) (mcall m__law_pick (mcons (mvar 0) (mcons (mlst (mcons (mcst (.str "0")) (mcons (mcst (.str "1")) (mcons (mcst (.str "2")) (mcons (mcst (.str " ")) (mcons (mcst (.str "\n")) (mcons (mcst (.str "p")) mnil))))))) mnil)))) (mslice (mvar 6) (some (mop (mAdd) (mvar 11) (mcall m__law_random (mcons (mvar 0) (mcons (mcst (.int 2)) mnil))))) none)) mnil)))))
    (mret (mvar 2))))))))
noncomputable def m__law_texts : FM := mclean (mfun 2 13 b__law_texts)
abbrev s__law_row : Stmt := top 24
theorem sc__law_row : FnScope ["line", "points", "sign"] ["line", "points"] (defScope s__law_row) := ⟨rfl, rfl, rfl, by decide +kernel, rfl, by decide +kernel, by decide +kernel⟩
noncomputable def b__law_row : SM := (mret (mif (mand (mtest (mop (mD gEq) (mcall (mLen) (mcons (mvar 0) mnil)) (mvar 1))) (mtest (mop (mD gEq) (mlc (miter (mvar 0)) (gset 2) (mtest (mop (mD (gIn true)) (mvar 2) (mlst (mcons (mcst (.str "0")) (mcons (mcst (.str "1")) mnil))))) (mvar 2) (List.map (·.2) ([("sign", 2)] : List (Str × Nat)))) (mlst mnil)))) (mlc (miter (mvar 0)) (gset 2) myes (mcall (m1 gInt) (mcons (mvar 2) mnil)) (List.map (·.2) ([("sign", 2)] : List (Str × Nat)))) (mcst .none)))
noncomputable def m__law_row : FM := mclean (mfun 2 3 b__law_row)
abbrev s__law_wrong : Stmt := top 25
theorem sc__law_wrong : FnScope ["text", "lines", "points", "rows", "number", "line", "told", "row", "many"] ["text"] (defScope s__law_wrong) := ⟨rfl, rfl, rfl, by decide +kernel, rfl, by decide +kernel, by decide +kernel⟩
noncomputable def b__law_wrong : SM := (mseq (mpar3 1 2 3 (mcons (mtxt1 gSplit (mvar 0) (mcst (.str "\n"))) (mcons (mcst .none) (mcons (mlstC mnil) mnil))))
    (mseq (mfor (menum (mcons (mslice (mvar 1) none (some (mneg (mcst (.int 1))))) mnil)) (gtup 2 (gscons (gset 4) (gscons (gset 5) gsnil))) (mifS (mtest (mop (mD gEq) (mvar 4) (mcst (.int 0)))) (mseq (masg (mlc (mrng2 (mcons (mcst (.int 1)) (mcons (mcst (.int 7)) mnil))) (gset 8) (mtest (mop (mD gEq) (mvar 5) (mop (mAdd) (mcst (.str "points ")) (mcall (m1 gStr) (mcons (mvar 8) mnil))))) (mvar 8) (List.map (·.2) ([("many", 8)] : List (Str × Nat)))) (gset 6))
    (mseq (mifS (mtest (mop (mD gEq) (mvar 6) (mlst mnil))) (mret (mcst (.int 0))) mskip)
    (masg (mop mIx (mvar 6) (mcst (.int 0))) (gset 2)))) (mseq (masg (mcall m__law_row (mcons (mvar 5) (mcons (mvar 2) mnil))) (gset 7))
    (mseq (mifS (mor (mtest (mop (mIs) (mvar 7) (mcst .none))) (mor (mtest (mop (mD gEq) (mcall (mLen) (mcons (mvar 3) mnil)) (mcst (.int 32)))) (mand (mtest (mop (mD gNe) (mvar 3) (mlst mnil))) (mtest (mop (mD gGe) (mop mIx (mvar 3) (mneg (mcst (.int 1)))) (mvar 7)))))) (mret (mvar 4)) mskip)
    (mexpr (mlistM gApp (mvar 3) (mcons (mvar 7) mnil)))))))
    (mret (mif (mand (mtest (mop (mD gEq) (mop mIx (mvar 1) (mneg (mcst (.int 1)))) (mcst (.str "")))) (mtest (mop (mD gNe) (mvar 3) (mlst mnil)))) (mcst .none) (mop (mD gSubD) (mcall (mLen) (mcons (mvar 1) mnil)) (mcst (.int 1)))))))
noncomputable def m__law_wrong : FM := mclean (mfun 1 9 b__law_wrong)
abbrev s_points_told : Stmt := top 7
theorem sc_points_told : FnScope ["line", "points"] ["line"] (defScope s_points_told) := ⟨rfl, rfl, rfl, by decide +kernel, rfl, by decide +kernel, by decide +kernel⟩
noncomputable def b_points_told : SM := (mseq (mfor (mrng2 (mcons (mcst (.int 1)) (mcons (mop (mAdd) (mcst (.int 6)) (mcst (.int 1))) mnil))) (gset 1) (mifS (mtest (mop (mD gEq) (mvar 0) (mop (mAdd) (mcst (.str "points ")) (mcall (m1 gStr) (mcons (mvar 1) mnil))))) (mret (mvar 1)) mskip))
    (mret (mcst .none)))
noncomputable def m_points_told : FM := mclean (mfun 1 2 b_points_told)
abbrev s_row_told : Stmt := top 8
theorem sc_row_told : FnScope ["line", "points", "sign"] ["line", "points"] (defScope s_row_told) := ⟨rfl, rfl, rfl, by decide +kernel, rfl, by decide +kernel, by decide +kernel⟩
noncomputable def b_row_told : SM := (mseq (mifS (mor (mtest (mop (mD gNe) (mcall (mLen) (mcons (mvar 0) mnil)) (mvar 1))) (mnot (mtest (mcall (m1 gAll) (mcons (mlc (miter (mvar 0)) (gset 2) myes (mop (mD (gIn false)) (mvar 2) (mcst (.str "01"))) (List.map (·.2) ([("sign", 2)] : List (Str × Nat)))) mnil))))) (mret (mcst .none)) mskip)
    (mret (mlc (miter (mvar 0)) (gset 2) myes (mcall (m1 gInt) (mcons (mvar 2) mnil)) (List.map (·.2) ([("sign", 2)] : List (Str × Nat))))))
noncomputable def m_row_told : FM := mclean (mfun 2 3 b_row_told)
abbrev s_wrong_in : Stmt := top 9
theorem sc_wrong_in : FnScope ["lines", "points", "rows", "number", "line", "row"] ["lines"] (defScope s_wrong_in) := ⟨rfl, rfl, rfl, by decide +kernel, rfl, by decide +kernel, by decide +kernel⟩
noncomputable def b_wrong_in : SM := (mseq (mpar 1 2 (mcons (mcst .none) (mcons (mlstC mnil) mnil)))
    (mseq (mfor (menum (mcons (mvar 0) mnil)) (gtup 2 (gscons (gset 3) (gscons (gset 4) gsnil))) (mifS (mtest (mop (mD gEq) (mvar 3) (mcst (.int 0)))) (mseq (masg (mcall m_points_told (mcons (mvar 4) mnil)) (gset 1))
    (mifS (mtest (mop (mIs) (mvar 1) (mcst .none))) (mret (mcst (.int 0))) mskip)) (mseq (masg (mcall m_row_told (mcons (mvar 4) (mcons (mvar 1) mnil))) (gset 5))
    (mseq (mifS (mor (mtest (mop (mIs) (mvar 5) (mcst .none))) (mor (mtest (mop (mD gEq) (mcall (mLen) (mcons (mvar 2) mnil)) (mcst (.int 32)))) (mand (mtest (mop (mD gNe) (mvar 2) (mlst mnil))) (mnot (mtest (mop (mD gLt) (mop mIx (mvar 2) (mneg (mcst (.int 1)))) (mvar 5))))))) (mret (mvar 3)) mskip)
    (mexpr (mlistM gApp (mvar 2) (mcons (mvar 5) mnil)))))))
    (mret (mcst .none))))
noncomputable def m_wrong_in : FM := mclean (mfun 1 6 b_wrong_in)
abbrev s_wrong_by : Stmt := top 10
theorem sc_wrong_by : FnScope ["text", "lines", "found"] ["text"] (defScope s_wrong_by) := ⟨rfl, rfl, rfl, by decide +kernel, rfl, by decide +kernel, by decide +kernel⟩
noncomputable def b_wrong_by : SM := (mseq (masg (mtxt1 gSplit (mvar 0) (mcst (.str "\n"))) (gset 1))
    (mseq (masg (mcall m_wrong_in (mcons (mslice (mvar 1) none (some (mneg (mcst (.int 1))))) mnil)) (gset 2))
    (mseq (mifS (mtest (mop (mIsNot) (mvar 2) (mcst .none))) (mret (mvar 2)) mskip)
    (mseq (mifS (mor (mtest (mop (mD gNe) (mop mIx (mvar 1) (mneg (mcst (.int 1)))) (mcst (.str "")))) (mtest (mop (mD gLt) (mcall (mLen) (mcons (mvar 1) mnil)) (mcst (.int 3))))) (mret (mop (mD gSubD) (mcall (mLen) (mcons (mvar 1) mnil)) (mcst (.int 1)))) mskip)
    (mret (mcst .none))))))
noncomputable def m_wrong_by : FM := mclean (mfun 1 3 b_wrong_by)
abbrev s_read_family : Stmt := top 12
theorem sc_read_family : FnScope ["text", "lines", "points", "line"] ["text"] (defScope s_read_family) := ⟨rfl, rfl, rfl, by decide +kernel, rfl, by decide +kernel, by decide +kernel⟩
noncomputable def b_read_family : SM := (mseq (mifS (mor (mnot (mtest (mcall (mIsi) (mcons (mvar 0) (mcons (mcv (.ty "str")) mnil))))) (mtest (mop (mIsNot) (mcall m_wrong_by (mcons (mvar 0) mnil)) (mcst .none)))) (mraise "InvalidText" (mvar 0)) mskip)
    (mseq (masg (mtxt1 gSplit (mvar 0) (mcst (.str "\n"))) (gset 1))
    (mseq (masg (mcall m_points_told (mcons (mop mIx (mvar 1) (mcst (.int 0))) mnil)) (gset 2))
    (mret (mtup (mcons (mcst (.str "family")) (mcons (mvar 2) (mcons (mlc (miter (mslice (mvar 1) (some (mcst (.int 1))) (some (mneg (mcst (.int 1)))))) (gset 3) myes (mcall m_row_told (mcons (mvar 3) (mcons (mvar 2) mnil))) (List.map (·.2) ([("line", 3)] : List (Str × Nat)))) mnil))))))))
noncomputable def m_read_family : FM := mclean (mfun 1 4 b_read_family)
abbrev s_wrong_line : Stmt := top 11
theorem sc_wrong_line : FnScope ["text"] ["text"] (defScope s_wrong_line) := ⟨rfl, rfl, rfl, by decide +kernel, rfl, by decide +kernel, by decide +kernel⟩
noncomputable def b_wrong_line : SM := (mseq (mifS (mnot (mtest (mcall (mIsi) (mcons (mvar 0) (mcons (mcv (.ty "str")) mnil))))) (mraise "InvalidText" (mvar 0)) mskip)
    (mret (mcall m_wrong_by (mcons (mvar 0) mnil))))
noncomputable def m_wrong_line : FM := mclean (mfun 1 1 b_wrong_line)
abbrev s_law : Stmt := top 27
theorem sc_law : FnScope ["script", "index", "full", "wrong", "generator", "family", "text", "caught", "e", "due", "row", "line"] ["script"] (defScope s_law) := ⟨rfl, rfl, rfl, by decide +kernel, rfl, by decide +kernel, by decide +kernel⟩
noncomputable def b_law : SM := (mseq (mfor (mrng1 (mcons (mcst (.int 6)) mnil)) (gset 1) (mseq (masg (mcall m__law_generator (mcons (mvar 0) (mcons (mvar 1) mnil))) (gset 4))
    (mseq (masg (mcall m__law_family (mcons (mvar 4) (mcons (mcst (.int 5)) (mcons (mcst (.int 12)) mnil)))) (gset 5))
    (mfor (miter (mcall m__law_texts (mcons (mvar 4) (mcons (mvar 5) mnil)))) (gset 6) (mseq (mpar 9 7 (mcons (mcall m__law_wrong (mcons (mvar 6) mnil)) (mcons (mcst .none) mnil)))
    (mseq (mifS (mtest (mop (mD gNe) (mcall (mRepr) (mcons (mlst (mcons (mcall m_wrong_line (mcons (mvar 6) mnil)) (mcons (mcall (mkw m_wrong_line [0]) (mcons (mvar 6) mnil)) mnil))) mnil)) (mcall (mRepr) (mcons (mlst (mcons (mvar 9) (mcons (mvar 9) mnil))) mnil)))) (mret (mcst (.bool false))) mskip)
    (mseq (mtryAs exm_InvalidText 8 7 (mexpr (mcall m_read_family (mcons (mvar 6) mnil))))
    (mifS (mtest (mop (mD gNe) (mop (mIs) (mvar 7) (mcst .none)) (mop (mIs) (mvar 9) (mcst .none)))) (mret (mcst (.bool false))) mskip))))))))
    (mseq (masg (mop (mAdd) (mcst (.str "points 6\n")) (mtxt1 gJoin (mcst (.str "")) (mlc (miter (mcall m__law_all_rows (mcons (mcst (.int 6)) mnil))) (gset 10) myes (mop (mAdd) (mcall m__law_words (mcons (mvar 10) mnil)) (mcst (.str "\n"))) (List.map (·.2) ([("row", 10)] : List (Str × Nat)))))) (gset 2))
    (mseq (mifS (mor (mtest (mop (mD gNe) (mcall m_wrong_line (mcons (mvar 2) mnil)) (mcst (.int 33)))) (mtest (mop (mIsNot) (mcall m_wrong_line (mcons (mtxt1 gJoin (mcst (.str "")) (mlc (miter (mslice (mtxt1 gSplit (mvar 2) (mcst (.str "\n"))) none (some (mcst (.int 33))))) (gset 11) myes (mop (mAdd) (mvar 11) (mcst (.str "\n"))) (List.map (·.2) ([("line", 11)] : List (Str × Nat))))) mnil)) (mcst .none)))) (mret (mcst (.bool false))) mskip)
    (mseq (mfor (miter (mlstM (mcons (mcst .none) (mcons (mcst (.int 7)) (mcons (mlst (mcons (mcst (.str "points 1")) (mcons (mcst (.str "0")) mnil))) (mcons (mcst (.bool true)) (mcons (mtup (mcons (mcst (.str "points 1\n0\n")) mnil)) (mcons mdct mnil)))))))) (gset 3) (mseq (masg (mcst .none) (gset 7))
    (mseq (mtryAs exm_InvalidText 8 7 (mexpr (mcall m_wrong_line (mcons (mvar 3) mnil))))
    (mifS (mor (mtest (mop (mIs) (mvar 7) (mcst .none))) (mtest (mop (mD gNe) (mcall (mRepr) (mcons (mvalE errs (mvar 7)) mnil)) (mcall (mRepr) (mcons (mvar 3) mnil))))) (mret (mcst (.bool false))) mskip))))
    (mret (mcst (.bool true)))))))
noncomputable def m_law : FM := mclean (mfun 1 12 b_law)
/-- what the written part says -/
structure Tx (prog : Program) (K : PySem.W.Frag) (mg : Str → Option Value) (a : Nat → Addr) (fd : Nat → FuncData) (D fI : Addr) (ca : Nat → Addr) : Prop where
  f__law_all_rows : Fun K "_law_all_rows" "_law_all_rows" s__law_all_rows (a 0) (fd 0)
  g__law_all_rows : mg "_law_all_rows" = some (.ref (a 0))
  f__law_hash : Fun K "_law_hash" "_law_hash" s__law_hash (a 1) (fd 1)
  g__law_hash : mg "_law_hash" = some (.ref (a 1))
  f__law_random : Fun K "_law_random" "_law_random" s__law_random (a 2) (fd 2)
  g__law_random : mg "_law_random" = some (.ref (a 2))
  f__law_drawn_order : Fun K "_law_drawn_order" "_law_drawn_order" s__law_drawn_order (a 3) (fd 3)
  g__law_drawn_order : mg "_law_drawn_order" = some (.ref (a 3))
  f__law_family : Fun K "_law_family" "_law_family" s__law_family (a 4) (fd 4)
  g__law_family : mg "_law_family" = some (.ref (a 4))
  f__law_cell : Fun K "_law_cell" "_law_cell" s__law_cell (a 5) (fd 5)
  g__law_cell : mg "_law_cell" = some (.ref (a 5))
  f__law_generator : Fun K "_law_generator" "_law_generator" s__law_generator (a 6) (fd 6)
  g__law_generator : mg "_law_generator" = some (.ref (a 6))
  f__law_pick : Fun K "_law_pick" "_law_pick" s__law_pick (a 7) (fd 7)
  g__law_pick : mg "_law_pick" = some (.ref (a 7))
  f__law_words : Fun K "_law_words" "_law_words" s__law_words (a 8) (fd 8)
  g__law_words : mg "_law_words" = some (.ref (a 8))
  f__law_text : Fun K "_law_text" "_law_text" s__law_text (a 9) (fd 9)
  g__law_text : mg "_law_text" = some (.ref (a 9))
  f__law_texts : Fun K "_law_texts" "_law_texts" s__law_texts (a 10) (fd 10)
  g__law_texts : mg "_law_texts" = some (.ref (a 10))
  f__law_row : Fun K "_law_row" "_law_row" s__law_row (a 11) (fd 11)
  g__law_row : mg "_law_row" = some (.ref (a 11))
  f__law_wrong : Fun K "_law_wrong" "_law_wrong" s__law_wrong (a 12) (fd 12)
  g__law_wrong : mg "_law_wrong" = some (.ref (a 12))
  f_points_told : Fun K "points_told" "points_told" s_points_told (a 13) (fd 13)
  g_points_told : mg "points_told" = some (.ref (a 13))
  f_row_told : Fun K "row_told" "row_told" s_row_told (a 14) (fd 14)
  g_row_told : mg "row_told" = some (.ref (a 14))
  f_wrong_in : Fun K "wrong_in" "wrong_in" s_wrong_in (a 15) (fd 15)
  g_wrong_in : mg "wrong_in" = some (.ref (a 15))
  f_wrong_by : Fun K "wrong_by" "wrong_by" s_wrong_by (a 16) (fd 16)
  g_wrong_by : mg "wrong_by" = some (.ref (a 16))
  f_read_family : Fun K "read_family" "read_family" s_read_family (a 17) (fd 17)
  g_read_family : mg "read_family" = some (.ref (a 17))
  f_wrong_line : Fun K "wrong_line" "wrong_line" s_wrong_line (a 18) (fd 18)
  g_wrong_line : mg "wrong_line" = some (.ref (a 18))
  f_law : Fun K "law" "law" s_law (a 19) (fd 19)
  g_law : mg "law" = some (.ref (a 19))
  n_all : mg "all" = none
  n_enumerate : mg "enumerate" = none
  n_int : mg "int" = none
  n_isinstance : mg "isinstance" = none
  n_len : mg "len" = none
  n_list : mg "list" = none
  n_max : mg "max" = none
  n_min : mg "min" = none
  n_range : mg "range" = none
  n_repr : mg "repr" = none
  n_sorted : mg "sorted" = none
  n_str : mg "str" = none
  n_sum : mg "sum" = none
  c_END : ∃ t, mg "END" = some (.str "\n" t)
  c_MOST_POINTS : ∃ t, mg "MOST_POINTS" = some (.int 6 t)
  c_MOST_ROWS : ∃ t, mg "MOST_ROWS" = some (.int 32 t)
  base : LBase prog K mg D fI
  g_InvalidText : mg "InvalidText" = some (.ref (ca 0))
  l_InvalidText : LTxt K (ca 0) D fI
  x_InvalidText : ∀ cn r C, exm_InvalidText cn = some r → mg cn = some (.ref C) → PySem.W.exmOne K (.ref C) (.ref (ca 0)) = some r
  errs : ∀ c ∈ errs, ∀ C, mg c = some (.ref C) → (PySem.W.findIn K (.ref C) "__getattribute__" = some (some (.builtin "BaseException.__getattribute__"))) ∧ (∃ gt, PySem.W.findIn K (.ref C) "__getattr__" = some gt) ∧
    PySem.W.subIn K (.ref C) (.type "BaseException") = some true ∧ PySem.W.hasDictIn K C = true ∧ PySem.W.findIn K (.ref C) "value" = some none
section
variable {P : Program} {w : World} {K : PySem.W.Frag} {mg : Str → Option Value} {base : Heap} {a : Nat → Addr} {fd : Nat → FuncData} {D fI : Addr} {ca : Nat → Addr}
theorem bd__law_all_rows (T : Tx P K mg a fd D fI ca) : Binds K (fd 0) ["many"] [] := T.f__law_all_rows.binds fun _ _ _ _ _ _ us hl => match us, hl with | [_], _ => rfl
theorem bd__law_hash (T : Tx P K mg a fd D fI ca) : Binds K (fd 1) ["seed", "index"] [] := T.f__law_hash.binds fun _ _ _ _ _ _ us hl => match us, hl with | [_, _], _ => rfl
theorem bd__law_random (T : Tx P K mg a fd D fI ca) : Binds K (fd 2) ["generator", "bound"] [] := T.f__law_random.binds fun _ _ _ _ _ _ us hl => match us, hl with | [_, _], _ => rfl
theorem bd__law_drawn_order (T : Tx P K mg a fd D fI ca) : Binds K (fd 3) ["generator", "row"] [] := T.f__law_drawn_order.binds fun _ _ _ _ _ _ us hl => match us, hl with | [_, _], _ => rfl
theorem bd__law_family (T : Tx P K mg a fd D fI ca) : Binds K (fd 4) ["generator", "most", "high"] [] := T.f__law_family.binds fun _ _ _ _ _ _ us hl => match us, hl with | [_, _, _], _ => rfl
theorem bd__law_cell (T : Tx P K mg a fd D fI ca) : Binds K (fd 5) ["script", "index"] [] := T.f__law_cell.binds fun _ _ _ _ _ _ us hl => match us, hl with | [_, _], _ => rfl
theorem bd__law_generator (T : Tx P K mg a fd D fI ca) : Binds K (fd 6) ["script", "index"] [] := T.f__law_generator.binds fun _ _ _ _ _ _ us hl => match us, hl with | [_, _], _ => rfl
theorem bd__law_pick (T : Tx P K mg a fd D fI ca) : Binds K (fd 7) ["generator", "row"] [] := T.f__law_pick.binds fun _ _ _ _ _ _ us hl => match us, hl with | [_, _], _ => rfl
theorem bd__law_words (T : Tx P K mg a fd D fI ca) : Binds K (fd 8) ["row"] [] := T.f__law_words.binds fun _ _ _ _ _ _ us hl => match us, hl with | [_], _ => rfl
theorem bd__law_text (T : Tx P K mg a fd D fI ca) : Binds K (fd 9) ["family"] [] := T.f__law_text.binds fun _ _ _ _ _ _ us hl => match us, hl with | [_], _ => rfl
theorem bd__law_texts (T : Tx P K mg a fd D fI ca) : Binds K (fd 10) ["generator", "family"] [] := T.f__law_texts.binds fun _ _ _ _ _ _ us hl => match us, hl with | [_, _], _ => rfl
theorem bd__law_row (T : Tx P K mg a fd D fI ca) : Binds K (fd 11) ["line", "points"] [] := T.f__law_row.binds fun _ _ _ _ _ _ us hl => match us, hl with | [_, _], _ => rfl
theorem bd__law_wrong (T : Tx P K mg a fd D fI ca) : Binds K (fd 12) ["text"] [] := T.f__law_wrong.binds fun _ _ _ _ _ _ us hl => match us, hl with | [_], _ => rfl
theorem bd_points_told (T : Tx P K mg a fd D fI ca) : Binds K (fd 13) ["line"] [] := T.f_points_told.binds fun _ _ _ _ _ _ us hl => match us, hl with | [_], _ => rfl
theorem bd_row_told (T : Tx P K mg a fd D fI ca) : Binds K (fd 14) ["line", "points"] [] := T.f_row_told.binds fun _ _ _ _ _ _ us hl => match us, hl with | [_, _], _ => rfl
theorem bd_wrong_in (T : Tx P K mg a fd D fI ca) : Binds K (fd 15) ["lines"] [] := T.f_wrong_in.binds fun _ _ _ _ _ _ us hl => match us, hl with | [_], _ => rfl
theorem bd_wrong_by (T : Tx P K mg a fd D fI ca) : Binds K (fd 16) ["text"] [] := T.f_wrong_by.binds fun _ _ _ _ _ _ us hl => match us, hl with | [_], _ => rfl
theorem bd_read_family (T : Tx P K mg a fd D fI ca) : Binds K (fd 17) ["text"] [] := T.f_read_family.binds fun _ _ _ _ _ _ us hl => match us, hl with | [_], _ => rfl
theorem bd_wrong_line (T : Tx P K mg a fd D fI ca) : Binds K (fd 18) ["text"] [] := T.f_wrong_line.binds fun _ _ _ _ _ _ us hl => match us, hl with | [_], _ => rfl
theorem bd_law (T : Tx P K mg a fd D fI ca) : Binds K (fd 19) ["script"] [] := T.f_law.binds fun _ _ _ _ _ _ us hl => match us, hl with | [_], _ => rfl
theorem kb_wrong_line_text (T : Tx P K mg a fd D fI ca) : KB K (fd 18) ["text"] ["text"] [0] := by
  obtain ⟨oc, od, kV, doc, pm, an, cdv, ct, osl, e, lk, hcd⟩ := T.f_wrong_line.ex
  rw [e]
  exact ⟨fun s ws us _ hl hp => match ws, hl with | [v0], _ => by cases hp; exact .of_eq rfl⟩
theorem ok__law_all_rows (T : Tx P K mg a fd D fI ca) : FnG P w K mg base 2 (a 0) (fd 0) ["many"] m__law_all_rows := by
  delta m__law_all_rows
  refine fn_clean 1 1 5 (b := b__law_all_rows) T.f__law_all_rows sc__law_all_rows rfl rfl fun cdv A outer s H E hg hr => ?_
  delta b__law_all_rows
  have tk : Takes (cxOf (L2.CX P w) P w K mg base ["many", "found", "turn", "longer", "row"] "_law_all_rows" (defScope s__law_all_rows) (a 0) cdv A outer s H E) (WE0 E) := takes_of rfl rfl rfl rfl
  have own : PassesOwn (model P w) (cxOf (L2.CX P w) P w K mg base ["many", "found", "turn", "longer", "row"] "_law_all_rows" (defScope s__law_all_rows) (a 0) cdv A outer s H E).A (cxOf (L2.CX P w) P w K mg base ["many", "found", "turn", "longer", "row"] "_law_all_rows" (defScope s__law_all_rows) (a 0) cdv A outer s H E).env (cxOf (L2.CX P w) P w K mg base ["many", "found", "turn", "longer", "row"] "_law_all_rows" (defScope s__law_all_rows) (a 0) cdv A outer s H E).xe := passes_of (X := cxOf (L2.CX P w) P w K mg base ["many", "found", "turn", "longer", "row"] "_law_all_rows" (defScope s__law_all_rows) (a 0) cdv A outer s H E) rfl
  exact (gb_cons (gs_set (i := 1) sc__law_all_rows.nd rfl (.inl rfl) (ge_lst (ga_cons (ge_lst ga_nil) ga_nil)))
    (gb_cons (gs_for own rfl (gi_rng1 (by rfl) T.n_range (ga_cons (gn 0) ga_nil)) ⟨(pg_name sc__law_all_rows.nd rfl (.inl rfl)), (gok_name 2)⟩ (gb_cons (gs_set (i := 3) sc__law_all_rows.nd rfl (.inl rfl) (ge_lst ga_nil))
    (gb_cons (gs_for own rfl (gi_val (gn 1)) ⟨(pg_name sc__law_all_rows.nd rfl (.inl rfl)), (gok_name 4)⟩ (gb_one (gs_set (i := 3) sc__law_all_rows.nd rfl (.inl rfl) (ge_op (op_addM) (ops_addM) (gn 3) (ge_lst (ga_cons (ge_op (op_addM) (ops_addM) (gn 4) (ge_lst (ga_cons ge_int ga_nil))) (ga_cons (ge_op (op_addM) (ops_addM) (gn 4) (ge_lst (ga_cons ge_int ga_nil))) ga_nil)))))))
    (gb_one (gs_set (i := 1) sc__law_all_rows.nd rfl (.inl rfl) (gn 3))))))
    (gb_one (gs_ret (gn 1)))))
theorem ok__law_hash (T : Tx P K mg a fd D fI ca) : FnG P w K mg base 2 (a 1) (fd 1) ["seed", "index"] m__law_hash := by
  delta m__law_hash
  refine fn_clean 1 2 3 (b := b__law_hash) T.f__law_hash sc__law_hash rfl rfl fun cdv A outer s H E hg hr => ?_
  delta b__law_hash
  have tk : Takes (cxOf (L2.CX P w) P w K mg base ["seed", "index", "mixed"] "_law_hash" (defScope s__law_hash) (a 1) cdv A outer s H E) (WE0 E) := takes_of rfl rfl rfl rfl
  have own : PassesOwn (model P w) (cxOf (L2.CX P w) P w K mg base ["seed", "index", "mixed"] "_law_hash" (defScope s__law_hash) (a 1) cdv A outer s H E).A (cxOf (L2.CX P w) P w K mg base ["seed", "index", "mixed"] "_law_hash" (defScope s__law_hash) (a 1) cdv A outer s H E).env (cxOf (L2.CX P w) P w K mg base ["seed", "index", "mixed"] "_law_hash" (defScope s__law_hash) (a 1) cdv A outer s H E).xe := passes_of (X := cxOf (L2.CX P w) P w K mg base ["seed", "index", "mixed"] "_law_hash" (defScope s__law_hash) (a 1) cdv A outer s H E) rfl
  exact (gb_cons (gs_set (i := 2) sc__law_hash.nd rfl (.inl rfl) (ge_op (op_gMod) (ops_D gMod) (ge_callTy cr_int cs_int (by rfl) T.n_int (by decide +kernel) (ga_cons (ge_op (op_addM) (ops_addM) (ge_op (op_addM) (ops_addM) (ge_op (op_addM) (ops_addM) (ge_op (op_gMul) (ops_D gMul) (gn 0) ge_int) (ge_op (op_gMul) (ops_D gMul) (ge_op (op_gMul) (ops_D gMul) ge_int (gn 1)) (gn 1))) (ge_op (op_gMul) (ops_D gMul) ge_int (gn 1))) ge_int) ga_nil)) ge_int))
    (gb_cons (gs_set (i := 2) sc__law_hash.nd rfl (.inl rfl) (ge_op (op_gMod) (ops_D gMod) (ge_callTy cr_int cs_int (by rfl) T.n_int (by decide +kernel) (ga_cons (ge_op (op_addM) (ops_addM) (ge_op (op_addM) (ops_addM) (ge_op (op_gMul) (ops_D gMul) (gn 2) (gn 2)) (ge_op (op_gMul) (ops_D gMul) ge_int (gn 1))) ge_int) ga_nil)) ge_int))
    (gb_one (gs_ret (ge_op (op_gMod) (ops_D gMod) (ge_callTy cr_int cs_int (by rfl) T.n_int (by decide +kernel) (ga_cons (ge_op (op_gMul) (ops_D gMul) (gn 2) ge_int) ga_nil)) ge_int)))))
theorem ok__law_random (T : Tx P K mg a fd D fI ca) : FnG P w K mg base 4 (a 2) (fd 2) ["generator", "bound"] m__law_random := by
  delta m__law_random
  refine fn_clean 3 2 4 (b := b__law_random) T.f__law_random sc__law_random rfl rfl fun cdv A outer s H E hg hr => ?_
  delta b__law_random
  have tk : Takes (cxOf (L2.CX P w) P w K mg base ["generator", "bound", "drawn", "turn"] "_law_random" (defScope s__law_random) (a 2) cdv A outer s H E) (WE0 E) := takes_of rfl rfl rfl rfl
  have own : PassesOwn (model P w) (cxOf (L2.CX P w) P w K mg base ["generator", "bound", "drawn", "turn"] "_law_random" (defScope s__law_random) (a 2) cdv A outer s H E).A (cxOf (L2.CX P w) P w K mg base ["generator", "bound", "drawn", "turn"] "_law_random" (defScope s__law_random) (a 2) cdv A outer s H E).env (cxOf (L2.CX P w) P w K mg base ["generator", "bound", "drawn", "turn"] "_law_random" (defScope s__law_random) (a 2) cdv A outer s H E).xe := passes_of (X := cxOf (L2.CX P w) P w K mg base ["generator", "bound", "drawn", "turn"] "_law_random" (defScope s__law_random) (a 2) cdv A outer s H E) rfl
  exact (gb_cons (gs_if (gt_cmp (op_gGt hr.units) (ops_D gGt) (ge_ix ix_seq ops_ix (gn 0) ge_int (fun _ _ => rfl)) ge_int (nomark _)) (gb_cons (gs_set (i := 2) sc__law_random.nd rfl (.inl rfl) (ge_op (op_gMod) (ops_D gMod) (ge_callTy cr_int cs_int (by rfl) T.n_int (by decide +kernel) (ga_cons (ge_ix ix_seq ops_ix (gn 0) ge_int (fun _ _ => rfl)) ga_nil)) (gn 1)))
    (gb_cons (gs_setix (ge_op (op_gFdiv) (ops_D gFdiv) (ge_ix ix_seq ops_ix (gn 0) ge_int (fun _ _ => rfl)) (gn 1)) (gn 0) ge_int (pg_sub (gn 0) ge_int set_list (fun _ => rfl)))
    (gb_one (gs_ret (gn 2))))) gb_nil)
    (gb_cons (gs_set (i := 2) sc__law_random.nd rfl (.inl rfl) ge_int)
    (gb_cons (gs_for own rfl (gi_rng1 (by rfl) T.n_range (ga_cons (ge_op (op_addM) (ops_addM) ge_int (ge_op (op_gFdiv) (ops_D gFdiv) (ge_bits (gn 1)) ge_int)) ga_nil)) ⟨(pg_name sc__law_random.nd rfl (.inl rfl)), (gok_name 3)⟩ (gb_cons (gs_setix (ge_op (op_addM) (ops_addM) (ge_ix ix_seq ops_ix (gn 0) ge_int (fun _ _ => rfl)) ge_int) (gn 0) ge_int (pg_sub (gn 0) ge_int set_list (fun _ => rfl)))
    (gb_one (gs_set (i := 2) sc__law_random.nd rfl (.inl rfl) (ge_op (op_addM) (ops_addM) (ge_op (op_gMul) (ops_D gMul) (gn 2) ge_int) (ge_call (ok__law_hash T) mcln_len hg (hr.mono (by decide)) tk (by rfl) T.g__law_hash T.f__law_hash.kp (bd__law_hash T) (ga_cons (ge_ix ix_seq ops_ix (gn 0) ge_int (fun _ _ => rfl)) (ga_cons (ge_ix ix_seq ops_ix (gn 0) ge_int (fun _ _ => rfl)) ga_nil))))))))
    (gb_one (gs_ret (ge_op (op_gMod) (ops_D gMod) (ge_callTy cr_int cs_int (by rfl) T.n_int (by decide +kernel) (ga_cons (gn 2) ga_nil)) (gn 1)))))))
theorem ok__law_drawn_order (T : Tx P K mg a fd D fI ca) : FnG P w K mg base 6 (a 3) (fd 3) ["generator", "row"] m__law_drawn_order := by
  delta m__law_drawn_order
  refine fn_clean 5 2 4 (b := b__law_drawn_order) T.f__law_drawn_order sc__law_drawn_order rfl rfl fun cdv A outer s H E hg hr => ?_
  delta b__law_drawn_order
  have tk : Takes (cxOf (L2.CX P w) P w K mg base ["generator", "row", "left", "found"] "_law_drawn_order" (defScope s__law_drawn_order) (a 3) cdv A outer s H E) (WE0 E) := takes_of rfl rfl rfl rfl
  have own : PassesOwn (model P w) (cxOf (L2.CX P w) P w K mg base ["generator", "row", "left", "found"] "_law_drawn_order" (defScope s__law_drawn_order) (a 3) cdv A outer s H E).A (cxOf (L2.CX P w) P w K mg base ["generator", "row", "left", "found"] "_law_drawn_order" (defScope s__law_drawn_order) (a 3) cdv A outer s H E).env (cxOf (L2.CX P w) P w K mg base ["generator", "row", "left", "found"] "_law_drawn_order" (defScope s__law_drawn_order) (a 3) cdv A outer s H E).xe := passes_of (X := cxOf (L2.CX P w) P w K mg base ["generator", "row", "left", "found"] "_law_drawn_order" (defScope s__law_drawn_order) (a 3) cdv A outer s H E) rfl
  exact (gb_cons (gs_par (i := 2) (j := 3) rfl sc__law_drawn_order.nd rfl rfl (by decide) rfl rfl (ga_cons (ge_callTy call_list_of cs_listC (by rfl) T.n_list (by decide +kernel) (ga_cons (gn 1) ga_nil)) (ga_cons (ge_lstC ga_nil) ga_nil)) rfl)
    (gb_cons (gs_while 100 own (gt_cmp (op_gNe hr.units) (ops_D gNe) (gn 2) (ge_lst ga_nil) (nomark _)) (gb_one (gs_expr (ge_lm PySem.F.slot_list_append PySem.F.type_list_append mt_append ms_app (gn 3) (ga_cons (ge_lm PySem.F.slot_list_pop PySem.F.type_list_pop mt_popAt ms_popAt (gn 2) (ga_cons (ge_call (ok__law_random T) mcln_len hg (hr.mono (by decide)) tk (by rfl) T.g__law_random T.f__law_random.kp (bd__law_random T) (ga_cons (gn 0) (ga_cons (ge_callB call_len cs_len (by rfl) T.n_len (by decide +kernel) (ga_cons (gn 2) ga_nil)) ga_nil))) ga_nil)) ga_nil)))))
    (gb_one (gs_ret (gn 3)))))
theorem ok__law_family (T : Tx P K mg a fd D fI ca) : FnG P w K mg base 8 (a 4) (fd 4) ["generator", "most", "high"] m__law_family := by
  delta m__law_family
  refine fn_clean 7 3 5 (b := b__law_family) T.f__law_family sc__law_family rfl rfl fun cdv A outer s H E hg hr => ?_
  delta b__law_family
  have tk : Takes (cxOf (L2.CX P w) P w K mg base ["generator", "most", "high", "points", "rows"] "_law_family" (defScope s__law_family) (a 4) cdv A outer s H E) (WE0 E) := takes_of rfl rfl rfl rfl
  have own : PassesOwn (model P w) (cxOf (L2.CX P w) P w K mg base ["generator", "most", "high", "points", "rows"] "_law_family" (defScope s__law_family) (a 4) cdv A outer s H E).A (cxOf (L2.CX P w) P w K mg base ["generator", "most", "high", "points", "rows"] "_law_family" (defScope s__law_family) (a 4) cdv A outer s H E).env (cxOf (L2.CX P w) P w K mg base ["generator", "most", "high", "points", "rows"] "_law_family" (defScope s__law_family) (a 4) cdv A outer s H E).xe := passes_of (X := cxOf (L2.CX P w) P w K mg base ["generator", "most", "high", "points", "rows"] "_law_family" (defScope s__law_family) (a 4) cdv A outer s H E) rfl
  exact (gb_cons (gs_set (i := 3) sc__law_family.nd rfl (.inl rfl) (ge_op (op_addM) (ops_addM) ge_int (ge_call (ok__law_random T) mcln_len hg (hr.mono (by decide)) tk (by rfl) T.g__law_random T.f__law_random.kp (bd__law_random T) (ga_cons (gn 0) (ga_cons (gn 1) ga_nil)))))
    (gb_cons (gs_set (i := 4) sc__law_family.nd rfl (.inl rfl) (ge_call (ok__law_drawn_order T) mcln_len hg (hr.mono (by decide)) tk (by rfl) T.g__law_drawn_order T.f__law_drawn_order.kp (bd__law_drawn_order T) (ga_cons (gn 0) (ga_cons (ge_call (ok__law_all_rows T) mcln_len hg (hr.mono (by decide)) tk (by rfl) T.g__law_all_rows T.f__law_all_rows.kp (bd__law_all_rows T) (ga_cons (gn 3) ga_nil)) ga_nil))))
    (gb_one (gs_ret (ge_tup (ga_cons ge_str (ga_cons (gn 3) (ga_cons (ge_callB (cr_sortedDt (hu66 hr)) cs_sorted (by rfl) T.n_sorted (by decide +kernel) (ga_cons (ge_slice (gn 4) go_none (go_some (ge_op (op_addM) (ops_addM) ge_int (ge_call (ok__law_random T) mcln_len hg (hr.mono (by decide)) tk (by rfl) T.g__law_random T.f__law_random.kp (bd__law_random T) (ga_cons (gn 0) (ga_cons (ge_callB (call_min2 rfl) cs_min (by rfl) T.n_min (by decide +kernel) (ga_cons (ge_callB call_len cs_len (by rfl) T.n_len (by decide +kernel) (ga_cons (gn 4) ga_nil)) (ga_cons (gn 2) ga_nil))) ga_nil)))))) ga_nil)) ga_nil))))))))
theorem ok__law_cell (T : Tx P K mg a fd D fI ca) : FnG P w K mg base 2 (a 5) (fd 5) ["script", "index"] m__law_cell := by
  delta m__law_cell
  refine fn_clean 1 2 2 (b := b__law_cell) T.f__law_cell sc__law_cell rfl rfl fun cdv A outer s H E hg hr => ?_
  delta b__law_cell
  have tk : Takes (cxOf (L2.CX P w) P w K mg base ["script", "index"] "_law_cell" (defScope s__law_cell) (a 5) cdv A outer s H E) (WE0 E) := takes_of rfl rfl rfl rfl
  have own : PassesOwn (model P w) (cxOf (L2.CX P w) P w K mg base ["script", "index"] "_law_cell" (defScope s__law_cell) (a 5) cdv A outer s H E).A (cxOf (L2.CX P w) P w K mg base ["script", "index"] "_law_cell" (defScope s__law_cell) (a 5) cdv A outer s H E).env (cxOf (L2.CX P w) P w K mg base ["script", "index"] "_law_cell" (defScope s__law_cell) (a 5) cdv A outer s H E).xe := passes_of (X := cxOf (L2.CX P w) P w K mg base ["script", "index"] "_law_cell" (defScope s__law_cell) (a 5) cdv A outer s H E) rfl
  exact (gb_cons (gs_if (gt_cmp (op_gLt hr.units) (ops_D gLt) (gn 1) (ge_callB call_len cs_len (by rfl) T.n_len (by decide +kernel) (ga_cons (gn 0) ga_nil)) (nomark _)) (gb_one (gs_ret (ge_ix ix_seq ops_ix (gn 0) (gn 1) (fun _ _ => rfl)))) gb_nil)
    (gb_one (gs_ret (ge_op (op_gMod) (ops_D gMod) (ge_callB (cr_sum rfl) cs_sum (by rfl) T.n_sum (by decide +kernel) (ga_cons (ge_slice (gn 0) go_none (go_some ge_int)) ga_nil)) ge_int))))
theorem ok__law_generator (T : Tx P K mg a fd D fI ca) : FnG P w K mg base 4 (a 6) (fd 6) ["script", "index"] m__law_generator := by
  delta m__law_generator
  refine fn_raw 3 2 3 (b := b__law_generator) T.f__law_generator sc__law_generator rfl rfl fun cdv A outer s H E hg hr => ?_
  delta b__law_generator
  have tk : Takes (cxOf (L2.CX P w) P w K mg base ["script", "index", "seed"] "_law_generator" (defScope s__law_generator) (a 6) cdv A outer s H E) (WE0 E) := takes_of rfl rfl rfl rfl
  have own : PassesOwn (model P w) (cxOf (L2.CX P w) P w K mg base ["script", "index", "seed"] "_law_generator" (defScope s__law_generator) (a 6) cdv A outer s H E).A (cxOf (L2.CX P w) P w K mg base ["script", "index", "seed"] "_law_generator" (defScope s__law_generator) (a 6) cdv A outer s H E).env (cxOf (L2.CX P w) P w K mg base ["script", "index", "seed"] "_law_generator" (defScope s__law_generator) (a 6) cdv A outer s H E).xe := passes_of (X := cxOf (L2.CX P w) P w K mg base ["script", "index", "seed"] "_law_generator" (defScope s__law_generator) (a 6) cdv A outer s H E) rfl
  exact (gb_cons (gs_set (i := 2) sc__law_generator.nd rfl (.inl rfl) (ge_call (ok__law_cell T) mcln_len hg (hr.mono (by decide)) tk (by rfl) T.g__law_cell T.f__law_cell.kp (bd__law_cell T) (ga_cons (gn 0) (ga_cons (gn 1) ga_nil))))
    (gb_one (gs_ret (ge_lstC (ga_cons (ge_op (op_gMod) (ops_D gMod) (ge_callTy cr_int cs_int (by rfl) T.n_int (by decide +kernel) (ga_cons (ge_callB (call_max2 rfl) cs_max (by rfl) T.n_max (by decide +kernel) (ga_cons (ge_op (op_gSub) (ops_D gSubD) (gn 2) (ge_op (op_gPow) (ops_D gPow) ge_int ge_int)) (ga_cons ge_int ga_nil))) ga_nil)) (ge_op (op_gPow) (ops_D gPow) (ge_op (op_gPow) (ops_D gPow) ge_int ge_int) ge_int)) (ga_cons (ge_op (op_gMod) (ops_D gMod) (ge_callTy cr_int cs_int (by rfl) T.n_int (by decide +kernel) (ga_cons (gn 2) ga_nil)) ge_int) (ga_cons (ge_op (op_gMul) (ops_D gMul) ge_int (gn 1)) ga_nil)))))))
theorem ok__law_pick (T : Tx P K mg a fd D fI ca) : FnG P w K mg base 6 (a 7) (fd 7) ["generator", "row"] m__law_pick := by
  delta m__law_pick
  refine fn_clean 5 2 2 (b := b__law_pick) T.f__law_pick sc__law_pick rfl rfl fun cdv A outer s H E hg hr => ?_
  delta b__law_pick
  have tk : Takes (cxOf (L2.CX P w) P w K mg base ["generator", "row"] "_law_pick" (defScope s__law_pick) (a 7) cdv A outer s H E) (WE0 E) := takes_of rfl rfl rfl rfl
  have own : PassesOwn (model P w) (cxOf (L2.CX P w) P w K mg base ["generator", "row"] "_law_pick" (defScope s__law_pick) (a 7) cdv A outer s H E).A (cxOf (L2.CX P w) P w K mg base ["generator", "row"] "_law_pick" (defScope s__law_pick) (a 7) cdv A outer s H E).env (cxOf (L2.CX P w) P w K mg base ["generator", "row"] "_law_pick" (defScope s__law_pick) (a 7) cdv A outer s H E).xe := passes_of (X := cxOf (L2.CX P w) P w K mg base ["generator", "row"] "_law_pick" (defScope s__law_pick) (a 7) cdv A outer s H E) rfl
  exact (gb_one (gs_ret (ge_ix ix_seq ops_ix (gn 1) (ge_call (ok__law_random T) mcln_len hg (hr.mono (by decide)) tk (by rfl) T.g__law_random T.f__law_random.kp (bd__law_random T) (ga_cons (gn 0) (ga_cons (ge_callB call_len cs_len (by rfl) T.n_len (by decide +kernel) (ga_cons (gn 1) ga_nil)) ga_nil))) (fun _ _ => rfl))))
theorem ok__law_words (T : Tx P K mg a fd D fI ca) : FnG P w K mg base 2 (a 8) (fd 8) ["row"] m__law_words := by
  delta m__law_words
  refine fn_clean 1 1 2 (b := b__law_words) T.f__law_words sc__law_words rfl rfl fun cdv A outer s H E hg hr => ?_
  delta b__law_words
  have tk : Takes (cxOf (L2.CX P w) P w K mg base ["row", "label"] "_law_words" (defScope s__law_words) (a 8) cdv A outer s H E) (WE0 E) := takes_of rfl rfl rfl rfl
  have own : PassesOwn (model P w) (cxOf (L2.CX P w) P w K mg base ["row", "label"] "_law_words" (defScope s__law_words) (a 8) cdv A outer s H E).A (cxOf (L2.CX P w) P w K mg base ["row", "label"] "_law_words" (defScope s__law_words) (a 8) cdv A outer s H E).env (cxOf (L2.CX P w) P w K mg base ["row", "label"] "_law_words" (defScope s__law_words) (a 8) cdv A outer s H E).xe := passes_of (X := cxOf (L2.CX P w) P w K mg base ["row", "label"] "_law_words" (defScope s__law_words) (a 8) cdv A outer s H E) rfl
  exact (gb_one (gs_ret (ge_join ge_str (ge_lc rfl sc__law_words.nd (gi_val (gn 0)) (blkOk_by (N := ["row", "label"]) (sc := defScope s__law_words) (own := [("label", 1)]) (by decide +kernel)) (gok_name 1) (by decide) (fun _ _ _ _ _ => (pg_name sc__law_words.nd rfl (.inl rfl))) (fun _ _ _ _ _ => gts_nil) (fun _ _ _ _ _ => (ge_callTy cr_str cs_str (by rfl) T.n_str (by decide +kernel) (ga_cons (gn 1) ga_nil)))))))
theorem ok__law_text (T : Tx P K mg a fd D fI ca) : FnG P w K mg base 4 (a 9) (fd 9) ["family"] m__law_text := by
  delta m__law_text
  refine fn_clean 3 1 4 (b := b__law_text) T.f__law_text sc__law_text rfl rfl fun cdv A outer s H E hg hr => ?_
  delta b__law_text
  have tk : Takes (cxOf (L2.CX P w) P w K mg base ["family", "lines", "row", "line"] "_law_text" (defScope s__law_text) (a 9) cdv A outer s H E) (WE0 E) := takes_of rfl rfl rfl rfl
  have own : PassesOwn (model P w) (cxOf (L2.CX P w) P w K mg base ["family", "lines", "row", "line"] "_law_text" (defScope s__law_text) (a 9) cdv A outer s H E).A (cxOf (L2.CX P w) P w K mg base ["family", "lines", "row", "line"] "_law_text" (defScope s__law_text) (a 9) cdv A outer s H E).env (cxOf (L2.CX P w) P w K mg base ["family", "lines", "row", "line"] "_law_text" (defScope s__law_text) (a 9) cdv A outer s H E).xe := passes_of (X := cxOf (L2.CX P w) P w K mg base ["family", "lines", "row", "line"] "_law_text" (defScope s__law_text) (a 9) cdv A outer s H E) rfl
  exact (gb_cons (gs_set (i := 1) sc__law_text.nd rfl (.inl rfl) (ge_op (op_addM) (ops_addM) (ge_lst (ga_cons (ge_op (op_addM) (ops_addM) ge_str (ge_callTy cr_str cs_str (by rfl) T.n_str (by decide +kernel) (ga_cons (ge_ix ix_seq ops_ix (gn 0) ge_int (fun _ _ => rfl)) ga_nil))) ga_nil)) (ge_lc rfl sc__law_text.nd (gi_val (ge_ix ix_seq ops_ix (gn 0) ge_int (fun _ _ => rfl))) (blkOk_by (N := ["family", "lines", "row", "line"]) (sc := defScope s__law_text) (own := [("row", 2)]) (by decide +kernel)) (gok_name 2) (by decide) (fun _ _ _ _ _ => (pg_name sc__law_text.nd rfl (.inl rfl))) (fun _ _ _ _ _ => gts_nil) (fun _ _ _ _ _ => (ge_call (ok__law_words T) mcln_len hg (hr.mono (by decide)) takes0 (by rfl) T.g__law_words T.f__law_words.kp (bd__law_words T) (ga_cons (gn 2) ga_nil))))))
    (gb_one (gs_ret (ge_join ge_str (ge_lc rfl sc__law_text.nd (gi_val (gn 1)) (blkOk_by (N := ["family", "lines", "row", "line"]) (sc := defScope s__law_text) (own := [("line", 3)]) (by decide +kernel)) (gok_name 3) (by decide) (fun _ _ _ _ _ => (pg_name sc__law_text.nd rfl (.inl rfl))) (fun _ _ _ _ _ => gts_nil) (fun _ _ _ _ _ => (ge_op (op_addM) (ops_addM) (gn 3) ge_str)))))))
theorem ok__law_texts (T : Tx P K mg a fd D fI ca) : FnG P w K mg base 8 (a 10) (fd 10) ["generator", "family"] m__law_texts := by
  delta m__law_texts
  refine fn_clean 7 2 13 (b := b__law_texts) T.f__law_texts sc__law_texts rfl rfl fun cdv A outer s H E hg hr => ?_
  delta b__law_texts
  have tk : Takes (cxOf (L2.CX P w) P w K mg base ["generator", "family", "found", "lists", "some", "turn", "text", "lines", "at", "spot", "cut", "here", "line"] "_law_texts" (defScope s__law_texts) (a 10) cdv A outer s H E) (WE0 E) := takes_of rfl rfl rfl rfl
  have own : PassesOwn (model P w) (cxOf (L2.CX P w) P w K mg base ["generator", "family", "found", "lists", "some", "turn", "text", "lines", "at", "spot", "cut", "here", "line"] "_law_texts" (defScope s__law_texts) (a 10) cdv A outer s H E).A (cxOf (L2.CX P w) P w K mg base ["generator", "family", "found", "lists", "some", "turn", "text", "lines", "at", "spot", "cut", "here", "line"] "_law_texts" (defScope s__law_texts) (a 10) cdv A outer s H E).env (cxOf (L2.CX P w) P w K mg base ["generator", "family", "found", "lists", "some", "turn", "text", "lines", "at", "spot", "cut", "here", "line"] "_law_texts" (defScope s__law_texts) (a 10) cdv A outer s H E).xe := passes_of (X := cxOf (L2.CX P w) P w K mg base ["generator", "family", "found", "lists", "some", "turn", "text", "lines", "at", "spot", "cut", "here", "line"] "_law_texts" (defScope s__law_texts) (a 10) cdv A outer s H E) rfl
  exact (gb_cons (gs_par (i := 6) (j := 7) rfl sc__law_texts.nd rfl rfl (by decide) rfl rfl (ga_cons (ge_call (ok__law_text T) mcln_len hg (hr.mono (by decide)) tk (by rfl) T.g__law_text T.f__law_text.kp (bd__law_text T) (ga_cons (gn 1) ga_nil)) (ga_cons (ge_slice (ge_split (ge_call (ok__law_text T) mcln_len hg (hr.mono (by decide)) tk (by rfl) T.g__law_text T.f__law_text.kp (bd__law_text T) (ga_cons (gn 1) ga_nil)) ge_str) go_none (go_some (ge_neg ge_int))) ga_nil)) rfl)
    (gb_cons (gs_par3 (i := 8) (j := 9) (l := 10) rfl sc__law_texts.nd rfl rfl rfl (by decide) (by decide) (by decide) rfl rfl rfl (ga_cons (ge_call (ok__law_random T) mcln_len hg (hr.mono (by decide)) tk (by rfl) T.g__law_random T.f__law_random.kp (bd__law_random T) (ga_cons (gn 0) (ga_cons (ge_callB call_len cs_len (by rfl) T.n_len (by decide +kernel) (ga_cons (gn 7) ga_nil)) ga_nil))) (ga_cons (ge_call (ok__law_random T) mcln_len hg (hr.mono (by decide)) tk (by rfl) T.g__law_random T.f__law_random.kp (bd__law_random T) (ga_cons (gn 0) (ga_cons (ge_callB call_len cs_len (by rfl) T.n_len (by decide +kernel) (ga_cons (gn 7) ga_nil)) ga_nil))) (ga_cons (ge_call (ok__law_random T) mcln_len hg (hr.mono (by decide)) tk (by rfl) T.g__law_random T.f__law_random.kp (bd__law_random T) (ga_cons (gn 0) (ga_cons (ge_op (op_addM) (ops_addM) (ge_callB call_len cs_len (by rfl) T.n_len (by decide +kernel) (ga_cons (gn 6) ga_nil)) ge_int) ga_nil))) ga_nil))) rfl)
    (gb_cons (gs_set (i := 2) sc__law_texts.nd rfl (.inl rfl) (ge_lstC (ga_cons (gn 6) (ga_cons (ge_op (op_addM) (ops_addM) (gn 6) ge_str) (ga_cons (ge_slice (gn 6) go_none (go_some (ge_neg ge_int))) (ga_cons ge_str (ga_cons ge_str (ga_cons (ge_op (op_addM) (ops_addM) ge_str (gn 6)) (ga_cons (ge_op (op_addM) (ops_addM) (gn 6) (gn 6)) (ga_cons (ge_slice (gn 6) go_none (go_some (gn 10))) (ga_cons (ge_slice (gn 6) (go_some (gn 10)) go_none) ga_nil)))))))))))
    (gb_cons (gs_set (i := 3) sc__law_texts.nd rfl (.inl rfl) (ge_lst (ga_cons (ge_op (op_addM) (ops_addM) (ge_slice (gn 7) go_none (go_some (gn 8))) (ge_slice (gn 7) (go_some (ge_op (op_addM) (ops_addM) (gn 8) ge_int)) go_none)) (ga_cons (ge_op (op_addM) (ops_addM) (ge_op (op_addM) (ops_addM) (ge_slice (gn 7) go_none (go_some (gn 8))) (ge_slice (gn 7) (go_some (gn 8)) (go_some (ge_op (op_addM) (ops_addM) (gn 8) ge_int)))) (ge_slice (gn 7) (go_some (gn 8)) go_none)) (ga_cons (ge_rev (gn 7)) (ga_cons (ge_op (op_addM) (ops_addM) (ge_op (op_addM) (ops_addM) (ge_slice (gn 7) go_none (go_some (gn 8))) (ge_lst (ga_cons (ge_ix ix_seq ops_ix (gn 7) (gn 9) (fun _ _ => rfl)) ga_nil))) (ge_slice (gn 7) (go_some (ge_op (op_addM) (ops_addM) (gn 8) ge_int)) go_none)) ga_nil))))))
    (gb_cons (gs_for own rfl (gi_val (ge_op (op_addM) (ops_addM) (gn 3) (ge_lst (ga_cons (ge_op (op_addM) (ops_addM) (gn 7) (ge_lst (ga_cons (ge_op (op_gMul) (ops_D gMul) ge_str (ge_ix ix_seq ops_ix (gn 1) ge_int (fun _ _ => rfl))) ga_nil))) (ga_cons (ge_op (op_addM) (ops_addM) (gn 7) (ge_lst (ga_cons (ge_op (op_gMul) (ops_D gMul) ge_str (ge_ix ix_seq ops_ix (gn 1) ge_int (fun _ _ => rfl))) ga_nil))) ga_nil))))) ⟨(pg_name sc__law_texts.nd rfl (.inl rfl)), (gok_name 4)⟩ (gb_one (gs_expr (ge_lm PySem.F.slot_list_append PySem.F.type_list_append mt_append ms_app (gn 2) (ga_cons (ge_join ge_str (ge_lc rfl sc__law_texts.nd (gi_val (gn 4)) (blkOk_by (N := ["generator", "family", "found", "lists", "some", "turn", "text", "lines", "at", "spot", "cut", "here", "line"]) (sc := defScope s__law_texts) (own := [("line", 12)]) (by decide +kernel)) (gok_name 12) (by decide) (fun _ _ _ _ _ => (pg_name sc__law_texts.nd rfl (.inl rfl))) (fun _ _ _ _ _ => gts_nil) (fun _ _ _ _ _ => (ge_op (op_addM) (ops_addM) (gn 12) ge_str)))) ga_nil)))))
    (gb_cons (gs_for own rfl (gi_rng1 (by rfl) T.n_range (ga_cons ge_int ga_nil)) ⟨(pg_name sc__law_texts.nd rfl (.inl rfl)), (gok_name 5)⟩ (gb_cons (gs_set (i := 11) sc__law_texts.nd rfl (.inl rfl) (ge_call (ok__law_random T) mcln_len hg (hr.mono (by decide)) tk (by rfl) T.g__law_random T.f__law_random.kp (bd__law_random T) (ga_cons (gn 0) (ga_cons (ge_callB call_len cs_len (by rfl) T.n_len (by decide +kernel) (ga_cons (gn 6) ga_nil)) ga_nil))))
    (gb_one (gs_expr (ge_lm PySem.F.slot_list_append PySem.F.type_list_append mt_append ms_app (gn 2) (ga_cons (ge_op (op_addM) (ops_addM) (ge_op (op_addM) (ops_addM) (ge_slice (gn 6) go_none (go_some (gn 11))) (ge_call (ok__law_pick T) mcln_len hg (hr.mono (by decide)) tk (by rfl) T.g__law_pick T.f__law_pick.kp (bd__law_pick T) (ga_cons (gn 0) (ga_cons (ge_lst (ga_cons ge_str (ga_cons ge_str (ga_cons ge_str (ga_cons ge_str (ga_cons ge_str (ga_cons ge_str ga_nil))))))) ga_nil)))) (ge_slice (gn 6) (go_some (ge_op (op_addM) (ops_addM) (gn 11) (ge_call (ok__law_random T) mcln_len hg (hr.mono (by decide)) tk (by rfl) T.g__law_random T.f__law_random.kp (bd__law_random T) (ga_cons (gn 0) (ga_cons ge_int ga_nil))))) go_none)) ga_nil))))))
    (gb_one (gs_ret (gn 2)))))))))
theorem ok__law_row (T : Tx P K mg a fd D fI ca) : FnG P w K mg base 2 (a 11) (fd 11) ["line", "points"] m__law_row := by
  delta m__law_row
  refine fn_clean 1 2 3 (b := b__law_row) T.f__law_row sc__law_row rfl rfl fun cdv A outer s H E hg hr => ?_
  delta b__law_row
  have tk : Takes (cxOf (L2.CX P w) P w K mg base ["line", "points", "sign"] "_law_row" (defScope s__law_row) (a 11) cdv A outer s H E) (WE0 E) := takes_of rfl rfl rfl rfl
  have own : PassesOwn (model P w) (cxOf (L2.CX P w) P w K mg base ["line", "points", "sign"] "_law_row" (defScope s__law_row) (a 11) cdv A outer s H E).A (cxOf (L2.CX P w) P w K mg base ["line", "points", "sign"] "_law_row" (defScope s__law_row) (a 11) cdv A outer s H E).env (cxOf (L2.CX P w) P w K mg base ["line", "points", "sign"] "_law_row" (defScope s__law_row) (a 11) cdv A outer s H E).xe := passes_of (X := cxOf (L2.CX P w) P w K mg base ["line", "points", "sign"] "_law_row" (defScope s__law_row) (a 11) cdv A outer s H E) rfl
  exact (gb_one (gs_ret (ge_if (GW.pt (gw_and (gt_cmp (op_gEq hr.units) (ops_D gEq) (ge_callB call_len cs_len (by rfl) T.n_len (by decide +kernel) (ga_cons (gn 0) ga_nil)) (gn 1) (nomark _)) (gw_and1 (gt_cmp (op_gEq hr.units) (ops_D gEq) (ge_lc rfl sc__law_row.nd (gi_val (gn 0)) (blkOk_by (N := ["line", "points", "sign"]) (sc := defScope s__law_row) (own := [("sign", 2)]) (by decide +kernel)) (gok_name 2) (by decide) (fun _ _ _ _ _ => (pg_name sc__law_row.nd rfl (.inl rfl))) (fun _ _ _ _ _ => (gts_one (gt_cmp (op_gNotIn (hu65 hr)) (ops_D (gIn true)) (gn 2) (ge_lst (ga_cons ge_str (ga_cons ge_str ga_nil))) (by with_unfolding_all rfl)))) (fun _ _ _ _ _ => (gn 2))) (ge_lst ga_nil) (nomark _))))) (ge_lc rfl sc__law_row.nd (gi_val (gn 0)) (blkOk_by (N := ["line", "points", "sign"]) (sc := defScope s__law_row) (own := [("sign", 2)]) (by decide +kernel)) (gok_name 2) (by decide) (fun _ _ _ _ _ => (pg_name sc__law_row.nd rfl (.inl rfl))) (fun _ _ _ _ _ => gts_nil) (fun _ _ _ _ _ => (ge_callTy cr_int cs_int (by rfl) T.n_int (by decide +kernel) (ga_cons (gn 2) ga_nil)))) ge_non)))
theorem ok__law_wrong (T : Tx P K mg a fd D fI ca) : FnG P w K mg base 4 (a 12) (fd 12) ["text"] m__law_wrong := by
  delta m__law_wrong
  refine fn_clean 3 1 9 (b := b__law_wrong) T.f__law_wrong sc__law_wrong rfl rfl fun cdv A outer s H E hg hr => ?_
  delta b__law_wrong
  have tk : Takes (cxOf (L2.CX P w) P w K mg base ["text", "lines", "points", "rows", "number", "line", "told", "row", "many"] "_law_wrong" (defScope s__law_wrong) (a 12) cdv A outer s H E) (WE0 E) := takes_of rfl rfl rfl rfl
  have own : PassesOwn (model P w) (cxOf (L2.CX P w) P w K mg base ["text", "lines", "points", "rows", "number", "line", "told", "row", "many"] "_law_wrong" (defScope s__law_wrong) (a 12) cdv A outer s H E).A (cxOf (L2.CX P w) P w K mg base ["text", "lines", "points", "rows", "number", "line", "told", "row", "many"] "_law_wrong" (defScope s__law_wrong) (a 12) cdv A outer s H E).env (cxOf (L2.CX P w) P w K mg base ["text", "lines", "points", "rows", "number", "line", "told", "row", "many"] "_law_wrong" (defScope s__law_wrong) (a 12) cdv A outer s H E).xe := passes_of (X := cxOf (L2.CX P w) P w K mg base ["text", "lines", "points", "rows", "number", "line", "told", "row", "many"] "_law_wrong" (defScope s__law_wrong) (a 12) cdv A outer s H E) rfl
  exact (gb_cons (gs_par3 (i := 1) (j := 2) (l := 3) rfl sc__law_wrong.nd rfl rfl rfl (by decide) (by decide) (by decide) rfl rfl rfl (ga_cons (ge_split (gn 0) ge_str) (ga_cons ge_non (ga_cons (ge_lstC ga_nil) ga_nil))) rfl)
    (gb_cons (gs_for own rfl (gi_enum (by rfl) T.n_enumerate (ga_cons (ge_slice (gn 1) go_none (go_some (ge_neg ge_int))) ga_nil)) ⟨(pg_tup rfl (pgs_cons (pg_name sc__law_wrong.nd rfl (.inl rfl)) (pgs_cons (pg_name sc__law_wrong.nd rfl (.inr rfl)) pgs_nil))), (gok_tup (goks_cons (gok_name 4) (goks_cons (gok_name 5) goks_nil)))⟩ (gb_one (gs_if (gt_cmp (op_gEq hr.units) (ops_D gEq) (gn 4) ge_int (nomark _)) (gb_cons (gs_setLc (i := 6) rfl sc__law_wrong.nd rfl rfl (sw_true rfl rfl rfl rfl) (gi_rng2 (by rfl) T.n_range (ga_cons ge_int (ga_cons ge_int ga_nil))) (blkOk_by (N := ["text", "lines", "points", "rows", "number", "line", "told", "row", "many"]) (sc := defScope s__law_wrong) (own := [("many", 8)]) (by decide +kernel)) (gok_name 8) (by decide) (fun _ _ _ _ _ => (pg_name sc__law_wrong.nd rfl (.inl rfl))) (fun _ _ _ _ _ => (gts_one (gt_cmp (op_gEq hr.units) (ops_D gEq) (gn 5) (ge_op (op_addM) (ops_addM) ge_str (ge_callTy cr_str cs_str (by rfl) T.n_str (by decide +kernel) (ga_cons (gn 8) ga_nil))) (nomark _)))) (fun _ _ _ _ _ => (gn 8)))
    (gb_cons (gs_if (gt_cmp (op_gEq hr.units) (ops_D gEq) (gn 6) (ge_lst ga_nil) (nomark _)) (gb_one (gs_ret ge_int)) gb_nil)
    (gb_one (gs_set (i := 2) sc__law_wrong.nd rfl (.inl rfl) (ge_ix ix_seq ops_ix (gn 6) ge_int (fun _ _ => rfl)))))) (gb_cons (gs_set (i := 7) sc__law_wrong.nd rfl (.inl rfl) (ge_call (ok__law_row T) mcln_len hg (hr.mono (by decide)) tk (by rfl) T.g__law_row T.f__law_row.kp (bd__law_row T) (ga_cons (gn 5) (ga_cons (gn 2) ga_nil))))
    (gb_cons (gs_if (GW.pt (gw_or (gt_cmp (op_isN) (ops_is) (gn 7) ge_non (nomark _)) (gw_or (gt_cmp (op_gEq hr.units) (ops_D gEq) (ge_callB call_len cs_len (by rfl) T.n_len (by decide +kernel) (ga_cons (gn 3) ga_nil)) ge_int (nomark _)) (gw_or1 (GW.pt (gw_and (gt_cmp (op_gNe hr.units) (ops_D gNe) (gn 3) (ge_lst ga_nil) (nomark _)) (gw_and1 (gt_cmp (op_gGe hr.units) (ops_D gGe) (ge_ix ix_seq ops_ix (gn 3) (ge_neg ge_int) (fun _ _ => rfl)) (gn 7) (nomark _))))))))) (gb_one (gs_ret (gn 4))) gb_nil)
    (gb_one (gs_expr (ge_lm PySem.F.slot_list_append PySem.F.type_list_append mt_append ms_app (gn 3) (ga_cons (gn 7) ga_nil)))))))))
    (gb_one (gs_ret (ge_if (GW.pt (gw_and (gt_cmp (op_gEq hr.units) (ops_D gEq) (ge_ix ix_seq ops_ix (gn 1) (ge_neg ge_int) (fun _ _ => rfl)) ge_str (nomark _)) (gw_and1 (gt_cmp (op_gNe hr.units) (ops_D gNe) (gn 3) (ge_lst ga_nil) (nomark _))))) ge_non (ge_op (op_gSub) (ops_D gSubD) (ge_callB call_len cs_len (by rfl) T.n_len (by decide +kernel) (ga_cons (gn 1) ga_nil)) ge_int))))))
theorem ok_points_told (T : Tx P K mg a fd D fI ca) : FnG P w K mg base 2 (a 13) (fd 13) ["line"] m_points_told := by
  delta m_points_told
  refine fn_clean 1 1 2 (b := b_points_told) T.f_points_told sc_points_told rfl rfl fun cdv A outer s H E hg hr => ?_
  delta b_points_told
  have tk : Takes (cxOf (L2.CX P w) P w K mg base ["line", "points"] "points_told" (defScope s_points_told) (a 13) cdv A outer s H E) (WE0 E) := takes_of rfl rfl rfl rfl
  have own : PassesOwn (model P w) (cxOf (L2.CX P w) P w K mg base ["line", "points"] "points_told" (defScope s_points_told) (a 13) cdv A outer s H E).A (cxOf (L2.CX P w) P w K mg base ["line", "points"] "points_told" (defScope s_points_told) (a 13) cdv A outer s H E).env (cxOf (L2.CX P w) P w K mg base ["line", "points"] "points_told" (defScope s_points_told) (a 13) cdv A outer s H E).xe := passes_of (X := cxOf (L2.CX P w) P w K mg base ["line", "points"] "points_told" (defScope s_points_told) (a 13) cdv A outer s H E) rfl
  exact (gb_cons (gs_for own rfl (gi_rng2 (by rfl) T.n_range (ga_cons ge_int (ga_cons (ge_op (op_addM) (ops_addM) (ge_globInt (by rfl) T.c_MOST_POINTS.choose_spec) ge_int) ga_nil))) ⟨(pg_name sc_points_told.nd rfl (.inl rfl)), (gok_name 1)⟩ (gb_one (gs_if (gt_cmp (op_gEq hr.units) (ops_D gEq) (gn 0) (ge_op (op_addM) (ops_addM) ge_str (ge_callTy cr_str cs_str (by rfl) T.n_str (by decide +kernel) (ga_cons (gn 1) ga_nil))) (nomark _)) (gb_one (gs_ret (gn 1))) gb_nil)))
    (gb_one (gs_ret ge_non)))
theorem ok_row_told (T : Tx P K mg a fd D fI ca) : FnG P w K mg base 2 (a 14) (fd 14) ["line", "points"] m_row_told := by
  delta m_row_told
  refine fn_clean 1 2 3 (b := b_row_told) T.f_row_told sc_row_told rfl rfl fun cdv A outer s H E hg hr => ?_
  delta b_row_told
  have tk : Takes (cxOf (L2.CX P w) P w K mg base ["line", "points", "sign"] "row_told" (defScope s_row_told) (a 14) cdv A outer s H E) (WE0 E) := takes_of rfl rfl rfl rfl
  have own : PassesOwn (model P w) (cxOf (L2.CX P w) P w K mg base ["line", "points", "sign"] "row_told" (defScope s_row_told) (a 14) cdv A outer s H E).A (cxOf (L2.CX P w) P w K mg base ["line", "points", "sign"] "row_told" (defScope s_row_told) (a 14) cdv A outer s H E).env (cxOf (L2.CX P w) P w K mg base ["line", "points", "sign"] "row_told" (defScope s_row_told) (a 14) cdv A outer s H E).xe := passes_of (X := cxOf (L2.CX P w) P w K mg base ["line", "points", "sign"] "row_told" (defScope s_row_told) (a 14) cdv A outer s H E) rfl
  exact (gb_cons (gs_if (GW.pt (gw_or (gt_cmp (op_gNe hr.units) (ops_D gNe) (ge_callB call_len cs_len (by rfl) T.n_len (by decide +kernel) (ga_cons (gn 0) ga_nil)) (gn 1) (nomark _)) (gw_or1 (gt_not (gt_val (ge_callB (cr_all rfl) cs_all (by rfl) T.n_all (by decide +kernel) (ga_cons (ge_lc rfl sc_row_told.nd (gi_val (gn 0)) (blkOk_by (N := ["line", "points", "sign"]) (sc := defScope s_row_told) (own := [("sign", 2)]) (by decide +kernel)) (gok_name 2) (by decide) (fun _ _ _ _ _ => (pg_name sc_row_told.nd rfl (.inl rfl))) (fun _ _ _ _ _ => gts_nil) (fun _ _ _ _ _ => (ge_cmp (op_gIn (hu65 hr)) (ops_D (gIn false)) (gn 2) ge_str (by with_unfolding_all rfl)))) ga_nil))))))) (gb_one (gs_ret ge_non)) gb_nil)
    (gb_one (gs_ret (ge_lc rfl sc_row_told.nd (gi_val (gn 0)) (blkOk_by (N := ["line", "points", "sign"]) (sc := defScope s_row_told) (own := [("sign", 2)]) (by decide +kernel)) (gok_name 2) (by decide) (fun _ _ _ _ _ => (pg_name sc_row_told.nd rfl (.inl rfl))) (fun _ _ _ _ _ => gts_nil) (fun _ _ _ _ _ => (ge_callTy cr_int cs_int (by rfl) T.n_int (by decide +kernel) (ga_cons (gn 2) ga_nil)))))))
theorem ok_wrong_in (T : Tx P K mg a fd D fI ca) : FnG P w K mg base 4 (a 15) (fd 15) ["lines"] m_wrong_in := by
  delta m_wrong_in
  refine fn_clean 3 1 6 (b := b_wrong_in) T.f_wrong_in sc_wrong_in rfl rfl fun cdv A outer s H E hg hr => ?_
  delta b_wrong_in
  have tk : Takes (cxOf (L2.CX P w) P w K mg base ["lines", "points", "rows", "number", "line", "row"] "wrong_in" (defScope s_wrong_in) (a 15) cdv A outer s H E) (WE0 E) := takes_of rfl rfl rfl rfl
  have own : PassesOwn (model P w) (cxOf (L2.CX P w) P w K mg base ["lines", "points", "rows", "number", "line", "row"] "wrong_in" (defScope s_wrong_in) (a 15) cdv A outer s H E).A (cxOf (L2.CX P w) P w K mg base ["lines", "points", "rows", "number", "line", "row"] "wrong_in" (defScope s_wrong_in) (a 15) cdv A outer s H E).env (cxOf (L2.CX P w) P w K mg base ["lines", "points", "rows", "number", "line", "row"] "wrong_in" (defScope s_wrong_in) (a 15) cdv A outer s H E).xe := passes_of (X := cxOf (L2.CX P w) P w K mg base ["lines", "points", "rows", "number", "line", "row"] "wrong_in" (defScope s_wrong_in) (a 15) cdv A outer s H E) rfl
  exact (gb_cons (gs_par (i := 1) (j := 2) rfl sc_wrong_in.nd rfl rfl (by decide) rfl rfl (ga_cons ge_non (ga_cons (ge_lstC ga_nil) ga_nil)) rfl)
    (gb_cons (gs_for own rfl (gi_enum (by rfl) T.n_enumerate (ga_cons (gn 0) ga_nil)) ⟨(pg_tup rfl (pgs_cons (pg_name sc_wrong_in.nd rfl (.inl rfl)) (pgs_cons (pg_name sc_wrong_in.nd rfl (.inl rfl)) pgs_nil))), (gok_tup (goks_cons (gok_name 3) (goks_cons (gok_name 4) goks_nil)))⟩ (gb_one (gs_if (gt_cmp (op_gEq hr.units) (ops_D gEq) (gn 3) ge_int (nomark _)) (gb_cons (gs_set (i := 1) sc_wrong_in.nd rfl (.inl rfl) (ge_call (ok_points_told T) mcln_len hg (hr.mono (by decide)) tk (by rfl) T.g_points_told T.f_points_told.kp (bd_points_told T) (ga_cons (gn 4) ga_nil)))
    (gb_one (gs_if (gt_cmp (op_isN) (ops_is) (gn 1) ge_non (nomark _)) (gb_one (gs_ret ge_int)) gb_nil))) (gb_cons (gs_set (i := 5) sc_wrong_in.nd rfl (.inl rfl) (ge_call (ok_row_told T) mcln_len hg (hr.mono (by decide)) tk (by rfl) T.g_row_told T.f_row_told.kp (bd_row_told T) (ga_cons (gn 4) (ga_cons (gn 1) ga_nil))))
    (gb_cons (gs_if (GW.pt (gw_or (gt_cmp (op_isN) (ops_is) (gn 5) ge_non (nomark _)) (gw_or (gt_cmp (op_gEq hr.units) (ops_D gEq) (ge_callB call_len cs_len (by rfl) T.n_len (by decide +kernel) (ga_cons (gn 2) ga_nil)) (ge_globInt (by rfl) T.c_MOST_ROWS.choose_spec) (nomark _)) (gw_or1 (GW.pt (gw_and (gt_cmp (op_gNe hr.units) (ops_D gNe) (gn 2) (ge_lst ga_nil) (nomark _)) (gw_and1 (gt_not (gt_cmp (op_gLt hr.units) (ops_D gLt) (ge_ix ix_seq ops_ix (gn 2) (ge_neg ge_int) (fun _ _ => rfl)) (gn 5) (nomark _)))))))))) (gb_one (gs_ret (gn 3))) gb_nil)
    (gb_one (gs_expr (ge_lm PySem.F.slot_list_append PySem.F.type_list_append mt_append ms_app (gn 2) (ga_cons (gn 5) ga_nil)))))))))
    (gb_one (gs_ret ge_non))))
theorem ok_wrong_by (T : Tx P K mg a fd D fI ca) : FnG P w K mg base 6 (a 16) (fd 16) ["text"] m_wrong_by := by
  delta m_wrong_by
  refine fn_clean 5 1 3 (b := b_wrong_by) T.f_wrong_by sc_wrong_by rfl rfl fun cdv A outer s H E hg hr => ?_
  delta b_wrong_by
  have tk : Takes (cxOf (L2.CX P w) P w K mg base ["text", "lines", "found"] "wrong_by" (defScope s_wrong_by) (a 16) cdv A outer s H E) (WE0 E) := takes_of rfl rfl rfl rfl
  have own : PassesOwn (model P w) (cxOf (L2.CX P w) P w K mg base ["text", "lines", "found"] "wrong_by" (defScope s_wrong_by) (a 16) cdv A outer s H E).A (cxOf (L2.CX P w) P w K mg base ["text", "lines", "found"] "wrong_by" (defScope s_wrong_by) (a 16) cdv A outer s H E).env (cxOf (L2.CX P w) P w K mg base ["text", "lines", "found"] "wrong_by" (defScope s_wrong_by) (a 16) cdv A outer s H E).xe := passes_of (X := cxOf (L2.CX P w) P w K mg base ["text", "lines", "found"] "wrong_by" (defScope s_wrong_by) (a 16) cdv A outer s H E) rfl
  exact (gb_cons (gs_set (i := 1) sc_wrong_by.nd rfl (.inl rfl) (ge_split (gn 0) (ge_globStr (by rfl) T.c_END.choose_spec)))
    (gb_cons (gs_set (i := 2) sc_wrong_by.nd rfl (.inl rfl) (ge_call (ok_wrong_in T) mcln_len hg (hr.mono (by decide)) tk (by rfl) T.g_wrong_in T.f_wrong_in.kp (bd_wrong_in T) (ga_cons (ge_slice (gn 1) go_none (go_some (ge_neg ge_int))) ga_nil)))
    (gb_cons (gs_if (gt_cmp (op_notN) (ops_isNot) (gn 2) ge_non (nomark _)) (gb_one (gs_ret (gn 2))) gb_nil)
    (gb_cons (gs_if (GW.pt (gw_or (gt_cmp (op_gNe hr.units) (ops_D gNe) (ge_ix ix_seq ops_ix (gn 1) (ge_neg ge_int) (fun _ _ => rfl)) ge_str (nomark _)) (gw_or1 (gt_cmp (op_gLt hr.units) (ops_D gLt) (ge_callB call_len cs_len (by rfl) T.n_len (by decide +kernel) (ga_cons (gn 1) ga_nil)) ge_int (nomark _))))) (gb_one (gs_ret (ge_op (op_gSub) (ops_D gSubD) (ge_callB call_len cs_len (by rfl) T.n_len (by decide +kernel) (ga_cons (gn 1) ga_nil)) ge_int))) gb_nil)
    (gb_one (gs_ret ge_non))))))
theorem ok_read_family (T : Tx P K mg a fd D fI ca) : FnG P w K mg base 8 (a 17) (fd 17) ["text"] m_read_family := by
  delta m_read_family
  refine fn_clean 7 1 4 (b := b_read_family) T.f_read_family sc_read_family rfl rfl fun cdv A outer s H E hg hr => ?_
  delta b_read_family
  have tk : Takes (cxOf (L2.CX P w) P w K mg base ["text", "lines", "points", "line"] "read_family" (defScope s_read_family) (a 17) cdv A outer s H E) (WE0 E) := takes_of rfl rfl rfl rfl
  have own : PassesOwn (model P w) (cxOf (L2.CX P w) P w K mg base ["text", "lines", "points", "line"] "read_family" (defScope s_read_family) (a 17) cdv A outer s H E).A (cxOf (L2.CX P w) P w K mg base ["text", "lines", "points", "line"] "read_family" (defScope s_read_family) (a 17) cdv A outer s H E).env (cxOf (L2.CX P w) P w K mg base ["text", "lines", "points", "line"] "read_family" (defScope s_read_family) (a 17) cdv A outer s H E).xe := passes_of (X := cxOf (L2.CX P w) P w K mg base ["text", "lines", "points", "line"] "read_family" (defScope s_read_family) (a 17) cdv A outer s H E) rfl
  exact (gb_cons (gs_if (GW.pt (gw_or (gt_not (gt_val (ge_callB call_isi cs_isi (by rfl) T.n_isinstance (by decide +kernel) (ga_cons (gn 0) (ga_cons (ge_ty (T := "str") (by rfl) T.n_str (by decide +kernel)) ga_nil))))) (gw_or1 (gt_cmp (op_notN) (ops_isNot) (ge_call (ok_wrong_by T) mcln_len hg (hr.mono (by decide)) tk (by rfl) T.g_wrong_by T.f_wrong_by.kp (bd_wrong_by T) (ga_cons (gn 0) ga_nil)) ge_non (nomark _))))) (gb_one (gs_raise rfl T.base T.l_InvalidText T.g_InvalidText hr tk (gn 0) (by rfl))) gb_nil)
    (gb_cons (gs_set (i := 1) sc_read_family.nd rfl (.inl rfl) (ge_split (gn 0) (ge_globStr (by rfl) T.c_END.choose_spec)))
    (gb_cons (gs_set (i := 2) sc_read_family.nd rfl (.inr rfl) (ge_call (ok_points_told T) mcln_len hg (hr.mono (by decide)) tk (by rfl) T.g_points_told T.f_points_told.kp (bd_points_told T) (ga_cons (ge_ix ix_seq ops_ix (gn 1) ge_int (fun _ _ => rfl)) ga_nil)))
    (gb_one (gs_ret (ge_tup (ga_cons ge_str (ga_cons (gn 2) (ga_cons (ge_lc rfl sc_read_family.nd (gi_val (ge_slice (gn 1) (go_some ge_int) (go_some (ge_neg ge_int)))) (blkOk_by (N := ["text", "lines", "points", "line"]) (sc := defScope s_read_family) (own := [("line", 3)]) (by decide +kernel)) (gok_name 3) (by decide) (fun _ _ _ _ _ => (pg_name sc_read_family.nd rfl (.inl rfl))) (fun _ _ _ _ _ => gts_nil) (fun _ _ _ _ _ => (ge_call (ok_row_told T) mcln_len hg (hr.mono (by decide)) takes0 (by rfl) T.g_row_told T.f_row_told.kp (bd_row_told T) (ga_cons (gn 3) (ga_cons (gn 2) ga_nil))))) ga_nil)))))))))
theorem ok_wrong_line (T : Tx P K mg a fd D fI ca) : FnG P w K mg base 8 (a 18) (fd 18) ["text"] m_wrong_line := by
  delta m_wrong_line
  refine fn_clean 7 1 1 (b := b_wrong_line) T.f_wrong_line sc_wrong_line rfl rfl fun cdv A outer s H E hg hr => ?_
  delta b_wrong_line
  have tk : Takes (cxOf (L2.CX P w) P w K mg base ["text"] "wrong_line" (defScope s_wrong_line) (a 18) cdv A outer s H E) (WE0 E) := takes_of rfl rfl rfl rfl
  have own : PassesOwn (model P w) (cxOf (L2.CX P w) P w K mg base ["text"] "wrong_line" (defScope s_wrong_line) (a 18) cdv A outer s H E).A (cxOf (L2.CX P w) P w K mg base ["text"] "wrong_line" (defScope s_wrong_line) (a 18) cdv A outer s H E).env (cxOf (L2.CX P w) P w K mg base ["text"] "wrong_line" (defScope s_wrong_line) (a 18) cdv A outer s H E).xe := passes_of (X := cxOf (L2.CX P w) P w K mg base ["text"] "wrong_line" (defScope s_wrong_line) (a 18) cdv A outer s H E) rfl
  exact (gb_cons (gs_if (gt_not (gt_val (ge_callB call_isi cs_isi (by rfl) T.n_isinstance (by decide +kernel) (ga_cons (gn 0) (ga_cons (ge_ty (T := "str") (by rfl) T.n_str (by decide +kernel)) ga_nil))))) (gb_one (gs_raise rfl T.base T.l_InvalidText T.g_InvalidText hr tk (gn 0) (by rfl))) gb_nil)
    (gb_one (gs_ret (ge_call (ok_wrong_by T) mcln_len hg (hr.mono (by decide)) tk (by rfl) T.g_wrong_by T.f_wrong_by.kp (bd_wrong_by T) (ga_cons (gn 0) ga_nil)))))
theorem ok_law (T : Tx P K mg a fd D fI ca) : FnG P w K mg base 10 (a 19) (fd 19) ["script"] m_law := by
  delta m_law
  refine fn_clean 9 1 12 (b := b_law) T.f_law sc_law rfl rfl fun cdv A outer s H E hg hr => ?_
  delta b_law
  have tk : Takes (cxOf (L2.CX P w) P w K mg base ["script", "index", "full", "wrong", "generator", "family", "text", "caught", "e", "due", "row", "line"] "law" (defScope s_law) (a 19) cdv A outer s H E) (WE0 E) := takes_of rfl rfl rfl rfl
  have own : PassesOwn (model P w) (cxOf (L2.CX P w) P w K mg base ["script", "index", "full", "wrong", "generator", "family", "text", "caught", "e", "due", "row", "line"] "law" (defScope s_law) (a 19) cdv A outer s H E).A (cxOf (L2.CX P w) P w K mg base ["script", "index", "full", "wrong", "generator", "family", "text", "caught", "e", "due", "row", "line"] "law" (defScope s_law) (a 19) cdv A outer s H E).env (cxOf (L2.CX P w) P w K mg base ["script", "index", "full", "wrong", "generator", "family", "text", "caught", "e", "due", "row", "line"] "law" (defScope s_law) (a 19) cdv A outer s H E).xe := passes_of (X := cxOf (L2.CX P w) P w K mg base ["script", "index", "full", "wrong", "generator", "family", "text", "caught", "e", "due", "row", "line"] "law" (defScope s_law) (a 19) cdv A outer s H E) rfl
  exact (gb_cons (gs_for own rfl (gi_rng1 (by rfl) T.n_range (ga_cons ge_int ga_nil)) ⟨(pg_name sc_law.nd rfl (.inl rfl)), (gok_name 1)⟩ (gb_cons (gs_set (i := 4) sc_law.nd rfl (.inl rfl) (ge_call (ok__law_generator T) mfun_len hg (hr.mono (by decide)) tk (by rfl) T.g__law_generator T.f__law_generator.kp (bd__law_generator T) (ga_cons (gn 0) (ga_cons (gn 1) ga_nil))))
    (gb_cons (gs_set (i := 5) sc_law.nd rfl (.inl rfl) (ge_call (ok__law_family T) mcln_len hg (hr.mono (by decide)) tk (by rfl) T.g__law_family T.f__law_family.kp (bd__law_family T) (ga_cons (gn 4) (ga_cons ge_int (ga_cons ge_int ga_nil)))))
    (gb_one (gs_for own rfl (gi_val (ge_call (ok__law_texts T) mcln_len hg (hr.mono (by decide)) tk (by rfl) T.g__law_texts T.f__law_texts.kp (bd__law_texts T) (ga_cons (gn 4) (ga_cons (gn 5) ga_nil)))) ⟨(pg_name sc_law.nd rfl (.inl rfl)), (gok_name 6)⟩ (gb_cons (gs_par (i := 9) (j := 7) rfl sc_law.nd rfl rfl (by decide) rfl rfl (ga_cons (ge_call (ok__law_wrong T) mcln_len hg (hr.mono (by decide)) tk (by rfl) T.g__law_wrong T.f__law_wrong.kp (bd__law_wrong T) (ga_cons (gn 6) ga_nil)) (ga_cons ge_non ga_nil)) rfl)
    (gb_cons (gs_if (gt_cmp (op_gNe hr.units) (ops_D gNe) (ge_callB (cr_repr hg (hu66 hr)) cs_repr (by rfl) T.n_repr (by decide +kernel) (ga_cons (ge_lst (ga_cons (ge_call (ok_wrong_line T) mcln_len hg (hr.mono (by decide)) tk (by rfl) T.g_wrong_line T.f_wrong_line.kp (bd_wrong_line T) (ga_cons (gn 6) ga_nil)) (ga_cons (ge_callK (ok_wrong_line T) mcln_len hg (hr.mono (by decide)) tk (by rfl) T.g_wrong_line T.f_wrong_line.kp (kb_wrong_line_text T) (gk_cons (gn 6) gk_nil)) ga_nil))) ga_nil)) (ge_callB (cr_repr hg (hu66 hr)) cs_repr (by rfl) T.n_repr (by decide +kernel) (ga_cons (ge_lst (ga_cons (gn 9) (ga_cons (gn 9) ga_nil))) ga_nil)) (nomark _)) (gb_one (gs_ret ge_bl)) gb_nil)
    (gb_cons (gs_tryAs (j := 7) (i := 8) rfl rfl rfl sc_law.nd rfl (by decide) rfl ⟨by rfl, by decide, .inl T.g_InvalidText⟩ tk T.x_InvalidText (fun W pn xe tk1 own1 => (gb_one (gs_expr (ge_call (ok_read_family T) mcln_len hg (hr.mono (by decide)) tk1 (by rfl) T.g_read_family T.f_read_family.kp (bd_read_family T) (ga_cons (gn 6) ga_nil))))) (fun a pn => ps_set (i := 7) sc_law.nd rfl (.inl rfl) (pv 8)))
    (gb_one (gs_if (gt_cmp (op_gNe hr.units) (ops_D gNe) (ge_cmp (op_isN) (ops_is) (gn 7) ge_non (nomark _)) (ge_cmp (op_isN) (ops_is) (gn 9) ge_non (nomark _)) (nomark _)) (gb_one (gs_ret ge_bl)) gb_nil))))))))))
    (gb_cons (gs_set (i := 2) sc_law.nd rfl (.inl rfl) (ge_op (op_addM) (ops_addM) ge_str (ge_join ge_str (ge_lc rfl sc_law.nd (gi_val (ge_call (ok__law_all_rows T) mcln_len hg (hr.mono (by decide)) tk (by rfl) T.g__law_all_rows T.f__law_all_rows.kp (bd__law_all_rows T) (ga_cons ge_int ga_nil))) (blkOk_by (N := ["script", "index", "full", "wrong", "generator", "family", "text", "caught", "e", "due", "row", "line"]) (sc := defScope s_law) (own := [("row", 10)]) (by decide +kernel)) (gok_name 10) (by decide) (fun _ _ _ _ _ => (pg_name sc_law.nd rfl (.inl rfl))) (fun _ _ _ _ _ => gts_nil) (fun _ _ _ _ _ => (ge_op (op_addM) (ops_addM) (ge_call (ok__law_words T) mcln_len hg (hr.mono (by decide)) takes0 (by rfl) T.g__law_words T.f__law_words.kp (bd__law_words T) (ga_cons (gn 10) ga_nil)) ge_str))))))
    (gb_cons (gs_if (GW.pt (gw_or (gt_cmp (op_gNe hr.units) (ops_D gNe) (ge_call (ok_wrong_line T) mcln_len hg (hr.mono (by decide)) tk (by rfl) T.g_wrong_line T.f_wrong_line.kp (bd_wrong_line T) (ga_cons (gn 2) ga_nil)) ge_int (nomark _)) (gw_or1 (gt_cmp (op_notN) (ops_isNot) (ge_call (ok_wrong_line T) mcln_len hg (hr.mono (by decide)) tk (by rfl) T.g_wrong_line T.f_wrong_line.kp (bd_wrong_line T) (ga_cons (ge_join ge_str (ge_lc rfl sc_law.nd (gi_val (ge_slice (ge_split (gn 2) ge_str) go_none (go_some ge_int))) (blkOk_by (N := ["script", "index", "full", "wrong", "generator", "family", "text", "caught", "e", "due", "row", "line"]) (sc := defScope s_law) (own := [("line", 11)]) (by decide +kernel)) (gok_name 11) (by decide) (fun _ _ _ _ _ => (pg_name sc_law.nd rfl (.inl rfl))) (fun _ _ _ _ _ => gts_nil) (fun _ _ _ _ _ => (ge_op (op_addM) (ops_addM) (gn 11) ge_str)))) ga_nil)) ge_non (nomark _))))) (gb_one (gs_ret ge_bl)) gb_nil)
    (gb_cons (gs_for own rfl (gi_val (ge_lstM (ga_cons ge_non (ga_cons ge_int (ga_cons (ge_lst (ga_cons ge_str (ga_cons ge_str ga_nil))) (ga_cons ge_bl (ga_cons (ge_tup (ga_cons ge_str ga_nil)) (ga_cons ge_dct ga_nil)))))))) ⟨(pg_name sc_law.nd rfl (.inl rfl)), (gok_name 3)⟩ (gb_cons (gs_set (i := 7) sc_law.nd rfl (.inl rfl) ge_non)
    (gb_cons (gs_tryAs (j := 7) (i := 8) rfl rfl rfl sc_law.nd rfl (by decide) rfl ⟨by rfl, by decide, .inl T.g_InvalidText⟩ tk T.x_InvalidText (fun W pn xe tk1 own1 => (gb_one (gs_expr (ge_call (ok_wrong_line T) mcln_len hg (hr.mono (by decide)) tk1 (by rfl) T.g_wrong_line T.f_wrong_line.kp (bd_wrong_line T) (ga_cons (gn 3) ga_nil))))) (fun a pn => ps_set (i := 7) sc_law.nd rfl (.inl rfl) (pv 8)))
    (gb_one (gs_if (GW.pt (gw_or (gt_cmp (op_isN) (ops_is) (gn 7) ge_non (nomark _)) (gw_or1 (gt_cmp (op_gNe hr.units) (ops_D gNe) (ge_callB (cr_repr hg (hu66 hr)) cs_repr (by rfl) T.n_repr (by decide +kernel) (ga_cons (ge_value T.errs (gn 7)) ga_nil)) (ge_callB (cr_repr hg (hu66 hr)) cs_repr (by rfl) T.n_repr (by decide +kernel) (ga_cons (gn 3) ga_nil)) (nomark _))))) (gb_one (gs_ret ge_bl)) gb_nil)))))
    (gb_one (gs_ret ge_bl))))))
end
theorem all_mk {P : Program} {w : World} {K : PySem.W.Frag} {h : Heap} {mg : Str → Option Value} {fa : Addr}
    {A0 : Addr} {oc0 kV0 dc0 pm0 cd0 ct0 : Value} {od0 an0 : Option Addr} {sl0 : Array (Option Value)}
    {A1 : Addr} {oc1 kV1 dc1 pm1 cd1 ct1 : Value} {od1 an1 : Option Addr} {sl1 : Array (Option Value)}
    {A2 : Addr} {oc2 kV2 dc2 pm2 cd2 ct2 : Value} {od2 an2 : Option Addr} {sl2 : Array (Option Value)}
    {A3 : Addr} {oc3 kV3 dc3 pm3 cd3 ct3 : Value} {od3 an3 : Option Addr} {sl3 : Array (Option Value)}
    {A4 : Addr} {oc4 kV4 dc4 pm4 cd4 ct4 : Value} {od4 an4 : Option Addr} {sl4 : Array (Option Value)}
    {A5 : Addr} {oc5 kV5 dc5 pm5 cd5 ct5 : Value} {od5 an5 : Option Addr} {sl5 : Array (Option Value)}
    {A6 : Addr} {oc6 kV6 dc6 pm6 cd6 ct6 : Value} {od6 an6 : Option Addr} {sl6 : Array (Option Value)}
    {A7 : Addr} {oc7 kV7 dc7 pm7 cd7 ct7 : Value} {od7 an7 : Option Addr} {sl7 : Array (Option Value)}
    {A8 : Addr} {oc8 kV8 dc8 pm8 cd8 ct8 : Value} {od8 an8 : Option Addr} {sl8 : Array (Option Value)}
    {A9 : Addr} {oc9 kV9 dc9 pm9 cd9 ct9 : Value} {od9 an9 : Option Addr} {sl9 : Array (Option Value)}
    {A10 : Addr} {oc10 kV10 dc10 pm10 cd10 ct10 : Value} {od10 an10 : Option Addr} {sl10 : Array (Option Value)}
    {A11 : Addr} {oc11 kV11 dc11 pm11 cd11 ct11 : Value} {od11 an11 : Option Addr} {sl11 : Array (Option Value)}
    {A12 : Addr} {oc12 kV12 dc12 pm12 cd12 ct12 : Value} {od12 an12 : Option Addr} {sl12 : Array (Option Value)}
    {A13 : Addr} {oc13 kV13 dc13 pm13 cd13 ct13 : Value} {od13 an13 : Option Addr} {sl13 : Array (Option Value)}
    {A14 : Addr} {oc14 kV14 dc14 pm14 cd14 ct14 : Value} {od14 an14 : Option Addr} {sl14 : Array (Option Value)}
    {A15 : Addr} {oc15 kV15 dc15 pm15 cd15 ct15 : Value} {od15 an15 : Option Addr} {sl15 : Array (Option Value)}
    {A16 : Addr} {oc16 kV16 dc16 pm16 cd16 ct16 : Value} {od16 an16 : Option Addr} {sl16 : Array (Option Value)}
    {A17 : Addr} {oc17 kV17 dc17 pm17 cd17 ct17 : Value} {od17 an17 : Option Addr} {sl17 : Array (Option Value)}
    {A18 : Addr} {oc18 kV18 dc18 pm18 cd18 ct18 : Value} {od18 an18 : Option Addr} {sl18 : Array (Option Value)}
    {A19 : Addr} {oc19 kV19 dc19 pm19 cd19 ct19 : Value} {od19 an19 : Option Addr} {sl19 : Array (Option Value)}
    {t_END : Tok}
    {t_MOST_POINTS : Tok}
    {t_MOST_ROWS : Tok}
    {D fI TT cda cc ND : Addr} {nmD qD : Str} {bsD bmD subD : List Value} {snD : List Str} {abD : Bool} {colD : Option Bool} {ddD : Option Addr} {n0 n1 n2 n3 n5 : Option Value} {oc_0 kV_0 dc_0 pm_0 ct_0 ocT ccl cl : Value} {od_0 an_0 odT cdd cld : Option Addr} {sl_0 slT ccs csl : Array (Option Value)} {its vs : Array Value} {nT : Nat} {file : Str} {tf : Tok}
    {C0 N0 : Addr} {nm0 q0 : Str} {bs0 sub0 : List Value} {sn0 : List Str} {ab0 : Bool} {col0 : Option Bool} {dd0 : Option Addr} {m0_0 m1_0 m2_0 m3_0 m5_0 : Option Value}
    (X : K.In h) (G : h.Ns mainGlobals mg) (hfa : mg "law" = some (.ref fa))
    (a0 : PySem.W.nsIn K mainGlobals "_law_all_rows" = some (some (.ref A0)))
    (l0 : K.lookup A0 = some ⟨oc0, od0, .func (PySem.W.fnOf "_law_all_rows" "_law_all_rows" (defArgs s__law_all_rows) (defBody s__law_all_rows) (defScope s__law_all_rows) .none kV0 dc0 pm0 an0 cd0 ct0), sl0⟩)
    (c0 : PySem.W.codeIn K cd0 "_law_all_rows" = true)
    (k0 : PySem.W.keepIn K (.ref A0) = true)
    (a1 : PySem.W.nsIn K mainGlobals "_law_hash" = some (some (.ref A1)))
    (l1 : K.lookup A1 = some ⟨oc1, od1, .func (PySem.W.fnOf "_law_hash" "_law_hash" (defArgs s__law_hash) (defBody s__law_hash) (defScope s__law_hash) .none kV1 dc1 pm1 an1 cd1 ct1), sl1⟩)
    (c1 : PySem.W.codeIn K cd1 "_law_hash" = true)
    (k1 : PySem.W.keepIn K (.ref A1) = true)
    (a2 : PySem.W.nsIn K mainGlobals "_law_random" = some (some (.ref A2)))
    (l2 : K.lookup A2 = some ⟨oc2, od2, .func (PySem.W.fnOf "_law_random" "_law_random" (defArgs s__law_random) (defBody s__law_random) (defScope s__law_random) .none kV2 dc2 pm2 an2 cd2 ct2), sl2⟩)
    (c2 : PySem.W.codeIn K cd2 "_law_random" = true)
    (k2 : PySem.W.keepIn K (.ref A2) = true)
    (a3 : PySem.W.nsIn K mainGlobals "_law_drawn_order" = some (some (.ref A3)))
    (l3 : K.lookup A3 = some ⟨oc3, od3, .func (PySem.W.fnOf "_law_drawn_order" "_law_drawn_order" (defArgs s__law_drawn_order) (defBody s__law_drawn_order) (defScope s__law_drawn_order) .none kV3 dc3 pm3 an3 cd3 ct3), sl3⟩)
    (c3 : PySem.W.codeIn K cd3 "_law_drawn_order" = true)
    (k3 : PySem.W.keepIn K (.ref A3) = true)
    (a4 : PySem.W.nsIn K mainGlobals "_law_family" = some (some (.ref A4)))
    (l4 : K.lookup A4 = some ⟨oc4, od4, .func (PySem.W.fnOf "_law_family" "_law_family" (defArgs s__law_family) (defBody s__law_family) (defScope s__law_family) .none kV4 dc4 pm4 an4 cd4 ct4), sl4⟩)
    (c4 : PySem.W.codeIn K cd4 "_law_family" = true)
    (k4 : PySem.W.keepIn K (.ref A4) = true)
    (a5 : PySem.W.nsIn K mainGlobals "_law_cell" = some (some (.ref A5)))
    (l5 : K.lookup A5 = some ⟨oc5, od5, .func (PySem.W.fnOf "_law_cell" "_law_cell" (defArgs s__law_cell) (defBody s__law_cell) (defScope s__law_cell) .none kV5 dc5 pm5 an5 cd5 ct5), sl5⟩)
    (c5 : PySem.W.codeIn K cd5 "_law_cell" = true)
    (k5 : PySem.W.keepIn K (.ref A5) = true)
    (a6 : PySem.W.nsIn K mainGlobals "_law_generator" = some (some (.ref A6)))
    (l6 : K.lookup A6 = some ⟨oc6, od6, .func (PySem.W.fnOf "_law_generator" "_law_generator" (defArgs s__law_generator) (defBody s__law_generator) (defScope s__law_generator) .none kV6 dc6 pm6 an6 cd6 ct6), sl6⟩)
    (c6 : PySem.W.codeIn K cd6 "_law_generator" = true)
    (k6 : PySem.W.keepIn K (.ref A6) = true)
    (a7 : PySem.W.nsIn K mainGlobals "_law_pick" = some (some (.ref A7)))
    (l7 : K.lookup A7 = some ⟨oc7, od7, .func (PySem.W.fnOf "_law_pick" "_law_pick" (defArgs s__law_pick) (defBody s__law_pick) (defScope s__law_pick) .none kV7 dc7 pm7 an7 cd7 ct7), sl7⟩)
    (c7 : PySem.W.codeIn K cd7 "_law_pick" = true)
    (k7 : PySem.W.keepIn K (.ref A7) = true)
    (a8 : PySem.W.nsIn K mainGlobals "_law_words" = some (some (.ref A8)))
    (l8 : K.lookup A8 = some ⟨oc8, od8, .func (PySem.W.fnOf "_law_words" "_law_words" (defArgs s__law_words) (defBody s__law_words) (defScope s__law_words) .none kV8 dc8 pm8 an8 cd8 ct8), sl8⟩)
    (c8 : PySem.W.codeIn K cd8 "_law_words" = true)
    (k8 : PySem.W.keepIn K (.ref A8) = true)
    (a9 : PySem.W.nsIn K mainGlobals "_law_text" = some (some (.ref A9)))
    (l9 : K.lookup A9 = some ⟨oc9, od9, .func (PySem.W.fnOf "_law_text" "_law_text" (defArgs s__law_text) (defBody s__law_text) (defScope s__law_text) .none kV9 dc9 pm9 an9 cd9 ct9), sl9⟩)
    (c9 : PySem.W.codeIn K cd9 "_law_text" = true)
    (k9 : PySem.W.keepIn K (.ref A9) = true)
    (a10 : PySem.W.nsIn K mainGlobals "_law_texts" = some (some (.ref A10)))
    (l10 : K.lookup A10 = some ⟨oc10, od10, .func (PySem.W.fnOf "_law_texts" "_law_texts" (defArgs s__law_texts) (defBody s__law_texts) (defScope s__law_texts) .none kV10 dc10 pm10 an10 cd10 ct10), sl10⟩)
    (c10 : PySem.W.codeIn K cd10 "_law_texts" = true)
    (k10 : PySem.W.keepIn K (.ref A10) = true)
    (a11 : PySem.W.nsIn K mainGlobals "_law_row" = some (some (.ref A11)))
    (l11 : K.lookup A11 = some ⟨oc11, od11, .func (PySem.W.fnOf "_law_row" "_law_row" (defArgs s__law_row) (defBody s__law_row) (defScope s__law_row) .none kV11 dc11 pm11 an11 cd11 ct11), sl11⟩)
    (c11 : PySem.W.codeIn K cd11 "_law_row" = true)
    (k11 : PySem.W.keepIn K (.ref A11) = true)
    (a12 : PySem.W.nsIn K mainGlobals "_law_wrong" = some (some (.ref A12)))
    (l12 : K.lookup A12 = some ⟨oc12, od12, .func (PySem.W.fnOf "_law_wrong" "_law_wrong" (defArgs s__law_wrong) (defBody s__law_wrong) (defScope s__law_wrong) .none kV12 dc12 pm12 an12 cd12 ct12), sl12⟩)
    (c12 : PySem.W.codeIn K cd12 "_law_wrong" = true)
    (k12 : PySem.W.keepIn K (.ref A12) = true)
    (a13 : PySem.W.nsIn K mainGlobals "points_told" = some (some (.ref A13)))
    (l13 : K.lookup A13 = some ⟨oc13, od13, .func (PySem.W.fnOf "points_told" "points_told" (defArgs s_points_told) (defBody s_points_told) (defScope s_points_told) .none kV13 dc13 pm13 an13 cd13 ct13), sl13⟩)
    (c13 : PySem.W.codeIn K cd13 "points_told" = true)
    (k13 : PySem.W.keepIn K (.ref A13) = true)
    (a14 : PySem.W.nsIn K mainGlobals "row_told" = some (some (.ref A14)))
    (l14 : K.lookup A14 = some ⟨oc14, od14, .func (PySem.W.fnOf "row_told" "row_told" (defArgs s_row_told) (defBody s_row_told) (defScope s_row_told) .none kV14 dc14 pm14 an14 cd14 ct14), sl14⟩)
    (c14 : PySem.W.codeIn K cd14 "row_told" = true)
    (k14 : PySem.W.keepIn K (.ref A14) = true)
    (a15 : PySem.W.nsIn K mainGlobals "wrong_in" = some (some (.ref A15)))
    (l15 : K.lookup A15 = some ⟨oc15, od15, .func (PySem.W.fnOf "wrong_in" "wrong_in" (defArgs s_wrong_in) (defBody s_wrong_in) (defScope s_wrong_in) .none kV15 dc15 pm15 an15 cd15 ct15), sl15⟩)
    (c15 : PySem.W.codeIn K cd15 "wrong_in" = true)
    (k15 : PySem.W.keepIn K (.ref A15) = true)
    (a16 : PySem.W.nsIn K mainGlobals "wrong_by" = some (some (.ref A16)))
    (l16 : K.lookup A16 = some ⟨oc16, od16, .func (PySem.W.fnOf "wrong_by" "wrong_by" (defArgs s_wrong_by) (defBody s_wrong_by) (defScope s_wrong_by) .none kV16 dc16 pm16 an16 cd16 ct16), sl16⟩)
    (c16 : PySem.W.codeIn K cd16 "wrong_by" = true)
    (k16 : PySem.W.keepIn K (.ref A16) = true)
    (a17 : PySem.W.nsIn K mainGlobals "read_family" = some (some (.ref A17)))
    (l17 : K.lookup A17 = some ⟨oc17, od17, .func (PySem.W.fnOf "read_family" "read_family" (defArgs s_read_family) (defBody s_read_family) (defScope s_read_family) .none kV17 dc17 pm17 an17 cd17 ct17), sl17⟩)
    (c17 : PySem.W.codeIn K cd17 "read_family" = true)
    (k17 : PySem.W.keepIn K (.ref A17) = true)
    (a18 : PySem.W.nsIn K mainGlobals "wrong_line" = some (some (.ref A18)))
    (l18 : K.lookup A18 = some ⟨oc18, od18, .func (PySem.W.fnOf "wrong_line" "wrong_line" (defArgs s_wrong_line) (defBody s_wrong_line) (defScope s_wrong_line) .none kV18 dc18 pm18 an18 cd18 ct18), sl18⟩)
    (c18 : PySem.W.codeIn K cd18 "wrong_line" = true)
    (k18 : PySem.W.keepIn K (.ref A18) = true)
    (a19 : PySem.W.nsIn K mainGlobals "law" = some (some (.ref A19)))
    (l19 : K.lookup A19 = some ⟨oc19, od19, .func (PySem.W.fnOf "law" "law" (defArgs s_law) (defBody s_law) (defScope s_law) .none kV19 dc19 pm19 an19 cd19 ct19), sl19⟩)
    (c19 : PySem.W.codeIn K cd19 "law" = true)
    (k19 : PySem.W.keepIn K (.ref A19) = true)
    (z_all : PySem.W.nsIn K mainGlobals "all" = some none)
    (z_enumerate : PySem.W.nsIn K mainGlobals "enumerate" = some none)
    (z_int : PySem.W.nsIn K mainGlobals "int" = some none)
    (z_isinstance : PySem.W.nsIn K mainGlobals "isinstance" = some none)
    (z_len : PySem.W.nsIn K mainGlobals "len" = some none)
    (z_list : PySem.W.nsIn K mainGlobals "list" = some none)
    (z_max : PySem.W.nsIn K mainGlobals "max" = some none)
    (z_min : PySem.W.nsIn K mainGlobals "min" = some none)
    (z_range : PySem.W.nsIn K mainGlobals "range" = some none)
    (z_repr : PySem.W.nsIn K mainGlobals "repr" = some none)
    (z_sorted : PySem.W.nsIn K mainGlobals "sorted" = some none)
    (z_str : PySem.W.nsIn K mainGlobals "str" = some none)
    (z_sum : PySem.W.nsIn K mainGlobals "sum" = some none)
    (q_END : PySem.W.nsIn K mainGlobals "END" = some (some (.str "\n" t_END)))
    (q_MOST_POINTS : PySem.W.nsIn K mainGlobals "MOST_POINTS" = some (some (.int 6 t_MOST_POINTS)))
    (q_MOST_ROWS : PySem.W.nsIn K mainGlobals "MOST_ROWS" = some (some (.int 32 t_MOST_ROWS)))
    (aC0 : PySem.W.nsIn K mainGlobals "InvalidText" = some (some (.ref C0)))
    (aD : PySem.W.nsIn K mainGlobals "LearnError" = some (some (.ref D)))
    (xD : K.lookup D = some (excClassObj nmD qD D ND bsD bmD true snD subD abD colD ddD n0 n1 n2 n3 n5 "ValueError.__new__"))
    (xC0 : K.lookup C0 = some (excClassObj nm0 q0 C0 N0 bs0 [.ref D, .type "ValueError", .type "Exception", .type "BaseException", .type "object"] true sn0 sub0 ab0 col0 dd0 m0_0 m1_0 m2_0 m3_0 m5_0 "ValueError.__new__"))
    (iC0 : PySem.W.findIn K (.ref C0) "__init__" = some (some (.ref fI)))
    (sa0 : PySem.W.findIn K (.ref C0) "__setattr__" = some (some (.builtin "object.__setattr__")))
    (ga0 : PySem.W.findIn K (.ref C0) "__getattribute__" = some (some (.builtin "BaseException.__getattribute__")))
    (gg0 : PySem.W.findIn K (.ref C0) "__getattr__" = some none)
    (nv0 : PySem.W.findIn K (.ref C0) "value" = some none)
    (kC0 : PySem.W.keepIn K (.ref C0) = true)
    (eC0 : PySem.W.subIn K (.ref C0) (.type "BaseException") = some true)
    (tC0 : PySem.W.typeIn K (.ref C0) = some (.type "type"))
    (hC0 : PySem.W.hasDictIn K C0 = true)
    (yC0 : PySem.W.isClsIn K C0 = true)
    (sD0 : PySem.W.mroIn K C0 (.ref D) = some true)
    (sV0 : PySem.W.subIn K (.ref C0) (.type "ValueError") = some true)
    (ne0 : C0 ≠ D)
    (s_InvalidText_InvalidText : PySem.W.subIn K (.ref C0) (.ref C0) = some true)
    (tI : PySem.W.typeIn K (.ref fI) = some (.type "function"))
    (l_0 : K.lookup fI = some ⟨oc_0, od_0, .func (PX.lFn (.ref TT) kV_0 dc_0 pm_0 an_0 cda ct_0 cc), sl_0⟩)
    (c_0 : PySem.W.codeIn K (.ref cda) "LearnError.__init__" = true)
    (lT : K.lookup TT = some ⟨ocT, odT, .seq its nT, slT⟩)
    (zT : its.size = 1)
    (lcd : K.lookup cda = some ⟨ccl, cdd, .fields vs, ccs⟩)
    (hvs : vs[2]? = some (.str file tf))
    (hfl : ((P.main.file : Str) == file) = true)
    (lcc : K.lookup cc = some ⟨cl, cld, .cell (some (.ref D)), csl⟩)
    (any : PySem.W.nsIn K PySem.cStatics "thirdparty.any" = some none)
    (sup : PySem.W.nsIn K mainGlobals "super" = some none)
    (htop : (P.main.scope.names.lookup ("super" : Str)).isSome = false) :
    ∃ fd : FuncData, (∀ (s : Shared) (u : Value), BindsTo s fd ⟨[u], []⟩ [("script", u)]) ∧ ∀ base : Heap, K.In base → base.Ns mainGlobals mg → FnG P w K mg base 10 fa fd ["script"] m_law := by
  have e : A19 = fa := by
    cases hfa.symm.trans (PySem.W.mg_of X G a19)
    rfl
  subst e
  have F0 := fun_mk (st := s__law_all_rows) l0 c0 k0
  have F1 := fun_mk (st := s__law_hash) l1 c1 k1
  have F2 := fun_mk (st := s__law_random) l2 c2 k2
  have F3 := fun_mk (st := s__law_drawn_order) l3 c3 k3
  have F4 := fun_mk (st := s__law_family) l4 c4 k4
  have F5 := fun_mk (st := s__law_cell) l5 c5 k5
  have F6 := fun_mk (st := s__law_generator) l6 c6 k6
  have F7 := fun_mk (st := s__law_pick) l7 c7 k7
  have F8 := fun_mk (st := s__law_words) l8 c8 k8
  have F9 := fun_mk (st := s__law_text) l9 c9 k9
  have F10 := fun_mk (st := s__law_texts) l10 c10 k10
  have F11 := fun_mk (st := s__law_row) l11 c11 k11
  have F12 := fun_mk (st := s__law_wrong) l12 c12 k12
  have F13 := fun_mk (st := s_points_told) l13 c13 k13
  have F14 := fun_mk (st := s_row_told) l14 c14 k14
  have F15 := fun_mk (st := s_wrong_in) l15 c15 k15
  have F16 := fun_mk (st := s_wrong_by) l16 c16 k16
  have F17 := fun_mk (st := s_read_family) l17 c17 k17
  have F18 := fun_mk (st := s_wrong_line) l18 c18 k18
  have F19 := fun_mk (st := s_law) l19 c19 k19
  have T : Tx P K mg (fun n => [A0, A1, A2, A3, A4, A5, A6, A7, A8, A9, A10, A11, A12, A13, A14, A15, A16, A17, A18, A19].getD n 0) (fun n => [PySem.W.fnOf "_law_all_rows" "_law_all_rows" (defArgs s__law_all_rows) (defBody s__law_all_rows) (defScope s__law_all_rows) .none kV0 dc0 pm0 an0 cd0 ct0, PySem.W.fnOf "_law_hash" "_law_hash" (defArgs s__law_hash) (defBody s__law_hash) (defScope s__law_hash) .none kV1 dc1 pm1 an1 cd1 ct1, PySem.W.fnOf "_law_random" "_law_random" (defArgs s__law_random) (defBody s__law_random) (defScope s__law_random) .none kV2 dc2 pm2 an2 cd2 ct2, PySem.W.fnOf "_law_drawn_order" "_law_drawn_order" (defArgs s__law_drawn_order) (defBody s__law_drawn_order) (defScope s__law_drawn_order) .none kV3 dc3 pm3 an3 cd3 ct3, PySem.W.fnOf "_law_family" "_law_family" (defArgs s__law_family) (defBody s__law_family) (defScope s__law_family) .none kV4 dc4 pm4 an4 cd4 ct4, PySem.W.fnOf "_law_cell" "_law_cell" (defArgs s__law_cell) (defBody s__law_cell) (defScope s__law_cell) .none kV5 dc5 pm5 an5 cd5 ct5, PySem.W.fnOf "_law_generator" "_law_generator" (defArgs s__law_generator) (defBody s__law_generator) (defScope s__law_generator) .none kV6 dc6 pm6 an6 cd6 ct6, PySem.W.fnOf "_law_pick" "_law_pick" (defArgs s__law_pick) (defBody s__law_pick) (defScope s__law_pick) .none kV7 dc7 pm7 an7 cd7 ct7, PySem.W.fnOf "_law_words" "_law_words" (defArgs s__law_words) (defBody s__law_words) (defScope s__law_words) .none kV8 dc8 pm8 an8 cd8 ct8, PySem.W.fnOf "_law_text" "_law_text" (defArgs s__law_text) (defBody s__law_text) (defScope s__law_text) .none kV9 dc9 pm9 an9 cd9 ct9, PySem.W.fnOf "_law_texts" "_law_texts" (defArgs s__law_texts) (defBody s__law_texts) (defScope s__law_texts) .none kV10 dc10 pm10 an10 cd10 ct10, PySem.W.fnOf "_law_row" "_law_row" (defArgs s__law_row) (defBody s__law_row) (defScope s__law_row) .none kV11 dc11 pm11 an11 cd11 ct11, PySem.W.fnOf "_law_wrong" "_law_wrong" (defArgs s__law_wrong) (defBody s__law_wrong) (defScope s__law_wrong) .none kV12 dc12 pm12 an12 cd12 ct12, PySem.W.fnOf "points_told" "points_told" (defArgs s_points_told) (defBody s_points_told) (defScope s_points_told) .none kV13 dc13 pm13 an13 cd13 ct13, PySem.W.fnOf "row_told" "row_told" (defArgs s_row_told) (defBody s_row_told) (defScope s_row_told) .none kV14 dc14 pm14 an14 cd14 ct14, PySem.W.fnOf "wrong_in" "wrong_in" (defArgs s_wrong_in) (defBody s_wrong_in) (defScope s_wrong_in) .none kV15 dc15 pm15 an15 cd15 ct15, PySem.W.fnOf "wrong_by" "wrong_by" (defArgs s_wrong_by) (defBody s_wrong_by) (defScope s_wrong_by) .none kV16 dc16 pm16 an16 cd16 ct16, PySem.W.fnOf "read_family" "read_family" (defArgs s_read_family) (defBody s_read_family) (defScope s_read_family) .none kV17 dc17 pm17 an17 cd17 ct17, PySem.W.fnOf "wrong_line" "wrong_line" (defArgs s_wrong_line) (defBody s_wrong_line) (defScope s_wrong_line) .none kV18 dc18 pm18 an18 cd18 ct18, PySem.W.fnOf "law" "law" (defArgs s_law) (defBody s_law) (defScope s_law) .none kV19 dc19 pm19 an19 cd19 ct19].getD n (PySem.W.fnOf "law" "law" (defArgs s_law) (defBody s_law) (defScope s_law) .none kV19 dc19 pm19 an19 cd19 ct19)) D fI (fun n => [C0].getD n 0) := by
    refine { f__law_all_rows := F0, g__law_all_rows := PySem.W.mg_of X G a0, f__law_hash := F1, g__law_hash := PySem.W.mg_of X G a1, f__law_random := F2, g__law_random := PySem.W.mg_of X G a2, f__law_drawn_order := F3, g__law_drawn_order := PySem.W.mg_of X G a3, f__law_family := F4, g__law_family := PySem.W.mg_of X G a4, f__law_cell := F5, g__law_cell := PySem.W.mg_of X G a5, f__law_generator := F6, g__law_generator := PySem.W.mg_of X G a6, f__law_pick := F7, g__law_pick := PySem.W.mg_of X G a7, f__law_words := F8, g__law_words := PySem.W.mg_of X G a8, f__law_text := F9, g__law_text := PySem.W.mg_of X G a9, f__law_texts := F10, g__law_texts := PySem.W.mg_of X G a10, f__law_row := F11, g__law_row := PySem.W.mg_of X G a11, f__law_wrong := F12, g__law_wrong := PySem.W.mg_of X G a12, f_points_told := F13, g_points_told := PySem.W.mg_of X G a13, f_row_told := F14, g_row_told := PySem.W.mg_of X G a14, f_wrong_in := F15, g_wrong_in := PySem.W.mg_of X G a15, f_wrong_by := F16, g_wrong_by := PySem.W.mg_of X G a16, f_read_family := F17, g_read_family := PySem.W.mg_of X G a17, f_wrong_line := F18, g_wrong_line := PySem.W.mg_of X G a18, f_law := F19, g_law := PySem.W.mg_of X G a19, n_all := PySem.W.mg_none_of X G z_all, n_enumerate := PySem.W.mg_none_of X G z_enumerate, n_int := PySem.W.mg_none_of X G z_int, n_isinstance := PySem.W.mg_none_of X G z_isinstance, n_len := PySem.W.mg_none_of X G z_len, n_list := PySem.W.mg_none_of X G z_list, n_max := PySem.W.mg_none_of X G z_max, n_min := PySem.W.mg_none_of X G z_min, n_range := PySem.W.mg_none_of X G z_range, n_repr := PySem.W.mg_none_of X G z_repr, n_sorted := PySem.W.mg_none_of X G z_sorted, n_str := PySem.W.mg_none_of X G z_str, n_sum := PySem.W.mg_none_of X G z_sum, c_END := ⟨_, PySem.W.mg_of X G q_END⟩, c_MOST_POINTS := ⟨_, PySem.W.mg_of X G q_MOST_POINTS⟩, c_MOST_ROWS := ⟨_, PySem.W.mg_of X G q_MOST_ROWS⟩, base := ?base, g_InvalidText := PySem.W.mg_of X G aC0, l_InvalidText := ltxt_of xC0 iC0 sa0 ga0 nv0 kC0 eC0 tC0 hC0 sD0 sV0 ne0, x_InvalidText := ?x_InvalidText, errs := ?errs }
    case base => exact ⟨PySem.W.mg_none_of X G sup, htop, any, ⟨{ name := nmD, bases := bsD, mro := .ref D :: bmD, ns := ND, qualname := qD, hasDict := true, slotNames := snD, subclasses := subD, abstract := abD, collection := colD, hasDel := false }, by unfold PySem.W.clsIn; rw [xD] <;> rfl⟩, tI,
      ⟨_, _, TT, _, its, nT, _, _, _, _, cda, _, cc, _, _, _, vs, _, file, tf, _, _, _, l_0, c_0, lT, rfl, zT, lcd, hvs, hfl, lcc⟩⟩
    case x_InvalidText =>
      intro cn r C hr hc
      unfold exm_InvalidText at hr
      split at hr
      · rename_i e1
        subst e1
        have e2 := hc.symm.trans (PySem.W.mg_of X G aC0)
        cases e2
        cases hr
        exact exm_own eC0 yC0 tC0 s_InvalidText_InvalidText
      · cases hr
    case errs =>
      intro c hc C hm
      rcases List.mem_cons.mp hc with rfl | hc
      · have e2 := hm.symm.trans (PySem.W.mg_of X G aC0)
        cases e2
        exact ⟨ga0, ⟨_, gg0⟩, eC0, hC0, nv0⟩
      cases hc
  exact ⟨_, fun s u => .of_eq rfl, fun base _ _ => ok_law T⟩
end K86
end

section
set_option Elab.async false
set_option linter.all false
set_option maxRecDepth 100000
set_option maxHeartbeats 2000000
namespace K86
open PySem PX
theorem mclean_ok0 {g : FM} {xs : List MV} {S : Sto} {d : PyData} (h : g xs S = .ok (.dat d) S) : mclean g xs S = .ok (.dat d) S := mclean_ok (J := []) (by rw [h, List.append_nil])
/-- a def that alters the cell g to numbers -/
theorem mclean_set {f : FM} {xs : List MV} {S J : Sto} {d : PyData} {g : Nat} {ns : List Int} (h : f xs S = .ok (.dat d) (S.set g (.lst (ns.map fun i => .dat (.int i))) ++ J)) : mclean f xs S = .ok (.dat d) (S.set g (.lst (ns.map fun i => .dat (.int i)))) := by
  refine (mclean_ok' h rfl ?_).trans ?_
  · refine ⟨by simp, fun i o hi e => ?_⟩
    rw [List.getElem?_append_left (by simpa using hi)] at e
    by_cases hig : i = g
    · subst hig
      rw [List.getElem?_set_self hi] at e
      cases e
      refine .inr ?_
      show scops _ _ = true
      clear h
      induction ns with
      | nil => rfl
      | cons n ns ih => simp [scops, scop, ih]
    · rw [List.getElem?_set_ne (Ne.symm hig)] at e
      exact .inl e
  · rw [List.take_left' (by simp)]
theorem mclean_set0 {f : FM} {xs : List MV} {S : Sto} {d : PyData} {g : Nat} {ns : List Int} (h : f xs S = .ok (.dat d) (S.set g (.lst (ns.map fun i => .dat (.int i))))) : mclean f xs S = .ok (.dat d) (S.set g (.lst (ns.map fun i => .dat (.int i)))) :=
  mclean_set (J := []) (by rw [h, List.append_nil])
def hashV (s i : Int) : Int := (((s * 1140671 + 27644437 * i * i + 131 * i + 19) % 2147483629 * ((s * 1140671 + 27644437 * i * i + 131 * i + 19) % 2147483629) + 62089 * i + 32416187) % 2147483587 * 48271) % 2147483647
theorem hash_ok (s i : Int) (hs : 0 ≤ s ∧ s < 2147483647) (hi : 0 ≤ i ∧ i < 10000000) (S : Sto) : m__law_hash [.dat (.int s), .dat (.int i)] S = .ok (.dat (.int (hashV s i))) S := by
  refine mclean_ok0 ?_
  simp (disch := omega) only [mfun, mseq, masg, mret, mifS, mexpr, mtest, mand, mor, mnot, mif, mop, mD, mcall, m1, m2, look_dat, mvar, mcst, mcons, mnil, rb_ok, rb_bad, rb_exc, rg_ok, rg_bad, rg_exc, ra_next, ra_ret, ra_bad, ra_exc, rn_ok, gset, scV, mskip, mpar, mpar3, List.length_cons, List.length_nil, List.map_cons, List.map_nil, List.replicate, List.cons_append, List.nil_append, List.getElem?_cons_zero, List.getElem?_cons_succ, List.set_cons_zero, List.set_cons_succ, if_true, if_false, msetix_eq, decide_eq_true_eq, Bool.false_eq_true, b__law_hash, gInt, gMul_int, gMod_int, mAdd_int]
  rfl
theorem hashV_b (s i : Int) : 0 ≤ hashV s i ∧ hashV s i < 2147483647 := ⟨Int.emod_nonneg _ (by decide), Int.emod_lt_of_pos _ (by decide)⟩
/-- a generator stands at g -/
def GenAt (S : Sto) (g : Nat) (k : Int) : Prop := ∃ a b c : Int, S[g]? = some (genO a b c) ∧ 0 ≤ a ∧ (0 ≤ b ∧ b < 2147483647) ∧ 0 ≤ c ∧ c ≤ k
theorem bits29 {n : Int} (h : 0 < n ∧ n < 500000000) : (Builtin.Int.intBits n : Int) / 30 = 0 := by
  have hb : Builtin.Int.intBits n ≤ 29 := by
    have h2 : n.natAbs.log2 < 29 := (Nat.log2_lt (by omega)).mpr (by omega)
    unfold Builtin.Int.intBits
    split <;> omega
  omega
theorem rnd_a {S : Sto} {g : Nat} {a b c : Int} (hS : S[g]? = some (genO a b c)) (n : Int) (hn : 0 < n ∧ n < 500000000) (h0 : 0 < a) :
    mfun 2 4 b__law_random [.cell g, .dat (.int n)] S = .ok (.dat (.int (a % n))) (S.set g (genO (a / n) b c)) := by
  simp (disch := omega) only [mfun, mseq, masg, mret, mifS, mexpr, mtest, mand, mor, mnot, mif, mop, mD, mcall, m1, m2, look_dat, mvar, mcst, mcons, mnil, rb_ok, rb_bad, rb_exc, rg_ok, rg_bad, rg_exc, ra_next, ra_ret, ra_bad, ra_exc, rn_ok, gset, scV, mskip, mpar, mpar3, List.length_cons, List.length_nil, List.map_cons, List.map_nil, List.replicate, List.cons_append, List.nil_append, List.getElem?_cons_zero, List.getElem?_cons_succ, List.set_cons_zero, List.set_cons_succ, if_true, if_false, msetix_eq, decide_eq_true_eq, Bool.false_eq_true, b__law_random, ixG0 hS, setG0 hS, gGt_int, h0, gInt, gMod_int, gFdiv_int, decide_true]
noncomputable def bodyR : SM := (mseq (msetix (mop mAdd (mop mIx (mvar 0) (mcst (.int 2))) (mcst (.int 1))) (mvar 0) (mcst (.int 2)))
    (masg (mop mAdd (mop (mD gMul) (mvar 2) (mcst (.int 2147483587))) (mcall m__law_hash (mcons (mop mIx (mvar 0) (mcst (.int 1))) (mcons (mop mIx (mvar 0) (mcst (.int 2))) mnil)))) (gset 2)))
theorem turnR {S : Sto} {g : Nat} {a b c : Int} (hS : S[g]? = some (genO a b c)) (n d t : Int) (hb : 0 ≤ b ∧ b < 2147483647) (hc : 0 ≤ c ∧ c < 1000000) (hd : 0 ≤ d ∧ d < 2147483647) :
    bodyR [some (.cell g), some (.dat (.int n)), some (.dat (.int d)), some (.dat (.int t))] S = .next [some (.cell g), some (.dat (.int n)), some (.dat (.int (d * 2147483587 + hashV b (c + 1)))), some (.dat (.int t))] (S.set g (genO a b (c + 1))) := by
  have hg : g < S.length := (List.getElem?_eq_some_iff.mp hS).1
  have hh2 := hash_ok b (c + 1) hb (by omega) (S.set g (genO a b (c + 1)))
  have hg2 : (S.set g (genO a b (c + 1)))[g]? = some (genO a b (c + 1)) := List.getElem?_set_self hg
  simp (disch := omega) only [mfun, mseq, masg, mret, mifS, mexpr, mtest, mand, mor, mnot, mif, mop, mD, mcall, m1, m2, look_dat, mvar, mcst, mcons, mnil, rb_ok, rb_bad, rb_exc, rg_ok, rg_bad, rg_exc, ra_next, ra_ret, ra_bad, ra_exc, rn_ok, gset, scV, mskip, mpar, mpar3, List.length_cons, List.length_nil, List.map_cons, List.map_nil, List.replicate, List.cons_append, List.nil_append, List.getElem?_cons_zero, List.getElem?_cons_succ, List.set_cons_zero, List.set_cons_succ, if_true, if_false, msetix_eq, decide_eq_true_eq, Bool.false_eq_true, bodyR, ixG2 hS, setG2 hS, ixG1 hg2, ixG2 hg2, hh2, gMul_int, mAdd_int]
theorem rngR {n : Int} (hn : 0 < n ∧ n < 500000000) (x : MV) (y z : Option MV) (S : Sto) : mrng1 (mcons (mop (mAdd) (mcst (.int 1)) (mop (mD gFdiv) (mbits (mvar 1)) (mcst (.int 30)))) mnil) [some x, some (.dat (.int n)), y, z] S = .ok [.dat (.int 0)] S := by
  have e1 := bits29 hn
  have e : mcons (mop (mAdd) (mcst (.int 1)) (mop (mD gFdiv) (mbits (mvar 1)) (mcst (.int 30)))) mnil [some x, some (.dat (.int n)), y, z] S = .ok [.dat (.int 1)] S := by
    simp (disch := omega) only [mfun, mseq, masg, mret, mifS, mexpr, mtest, mand, mor, mnot, mif, mop, mD, mcall, m1, m2, look_dat, mvar, mcst, mcons, mnil, rb_ok, rb_bad, rb_exc, rg_ok, rg_bad, rg_exc, ra_next, ra_ret, ra_bad, ra_exc, rn_ok, gset, scV, mskip, mpar, mpar3, List.length_cons, List.length_nil, List.map_cons, List.map_nil, List.replicate, List.cons_append, List.nil_append, List.getElem?_cons_zero, List.getElem?_cons_succ, List.set_cons_zero, List.set_cons_succ, if_true, if_false, msetix_eq, decide_eq_true_eq, Bool.false_eq_true, mbits, gFdiv_int, mAdd_int, e1]
    rfl
  exact mrng1_eq e rfl
theorem b_rnd : b__law_random = (mseq (mifS (mtest (mop (mD gGt) (mop mIx (mvar 0) (mcst (.int 0))) (mcst (.int 0)))) (mseq (masg (mop (mD gMod) (mcall (m1 gInt) (mcons (mop mIx (mvar 0) (mcst (.int 0))) mnil)) (mvar 1)) (gset 2))
    (mseq (msetix (mop (mD gFdiv) (mop mIx (mvar 0) (mcst (.int 0))) (mvar 1)) (mvar 0) (mcst (.int 0)))
    (mret (mvar 2)))) mskip)
    (mseq (masg (mcst (.int 0)) (gset 2))
    (mseq (mfor (mrng1 (mcons (mop (mAdd) (mcst (.int 1)) (mop (mD gFdiv) (mbits (mvar 1)) (mcst (.int 30)))) mnil)) (gset 3) bodyR)
    (mret (mop (mD gMod) (mcall (m1 gInt) (mcons (mvar 2) mnil)) (mvar 1)))))) := rfl
theorem rnd_b {S : Sto} {g : Nat} {a b c : Int} (hS : S[g]? = some (genO a b c)) (n : Int) (hn : 0 < n ∧ n < 500000000) (h0 : ¬ 0 < a) (hb : 0 ≤ b ∧ b < 2147483647) (hc : 0 ≤ c ∧ c < 1000000) :
    mfun 2 4 b__law_random [.cell g, .dat (.int n)] S = .ok (.dat (.int (hashV b (c + 1) % n))) (S.set g (genO a b (c + 1))) := by
  have ht := turnR hS n 0 0 hb hc (by omega)
  rw [Int.zero_mul, Int.zero_add] at ht
  have hf : mfor (mrng1 (mcons (mop (mAdd) (mcst (.int 1)) (mop (mD gFdiv) (mbits (mvar 1)) (mcst (.int 30)))) mnil)) (gset 3) bodyR [some (.cell g), some (.dat (.int n)), some (.dat (.int 0)), none] S = _ :=
    (mfor_one (rngR hn _ _ _ S) rfl).trans (and_next ht)
  have h1 : mtest (mop (mD gGt) (mop mIx (mvar 0) (mcst (.int 0))) (mcst (.int 0))) [some (.cell g), some (.dat (.int n)), none, none] S = .ok false S := by
    simp only [mfun, mseq, masg, mret, mifS, mexpr, mtest, mand, mor, mnot, mif, mop, mD, mcall, m1, m2, look_dat, mvar, mcst, mcons, mnil, rb_ok, rb_bad, rb_exc, rg_ok, rg_bad, rg_exc, ra_next, ra_ret, ra_bad, ra_exc, rn_ok, gset, scV, mskip, mpar, mpar3, List.length_cons, List.length_nil, List.map_cons, List.map_nil, List.replicate, List.cons_append, List.nil_append, List.getElem?_cons_zero, List.getElem?_cons_succ, List.set_cons_zero, List.set_cons_succ, if_true, if_false, msetix_eq, decide_eq_true_eq, Bool.false_eq_true, ixG0 hS, gGt_int, decide_eq_false h0]
  refine mfun_ret rfl ?_
  rw [b_rnd]
  refine (mseq_n (mifS_f h1)).trans ?_
  refine (mseq_n (masg_n rfl)).trans ?_
  refine (mseq_n hf).trans ?_
  refine mret_r ?_
  simp (disch := omega) only [mfun, mseq, masg, mret, mifS, mexpr, mtest, mand, mor, mnot, mif, mop, mD, mcall, m1, m2, look_dat, mvar, mcst, mcons, mnil, rb_ok, rb_bad, rb_exc, rg_ok, rg_bad, rg_exc, ra_next, ra_ret, ra_bad, ra_exc, rn_ok, gset, scV, mskip, mpar, mpar3, List.length_cons, List.length_nil, List.map_cons, List.map_nil, List.replicate, List.cons_append, List.nil_append, List.getElem?_cons_zero, List.getElem?_cons_succ, List.set_cons_zero, List.set_cons_succ, if_true, if_false, msetix_eq, decide_eq_true_eq, Bool.false_eq_true, gInt, gMod_int]
theorem rnd_ok {S : Sto} {g : Nat} {k : Int} (hG : GenAt S g k) (hk : k < 1000000) (n : Int) (hn : 0 < n ∧ n < 500000000) :
    ∃ r a b c : Int, (0 ≤ r ∧ r < n) ∧ m__law_random [.cell g, .dat (.int n)] S = .ok (.dat (.int r)) (S.set g (genO a b c)) ∧ GenAt (S.set g (genO a b c)) g (k + 1) := by
  obtain ⟨a, b, c, hS, ha, hb, hc, hck⟩ := hG
  have hg : g < S.length := (List.getElem?_eq_some_iff.mp hS).1
  by_cases h0 : 0 < a
  · exact ⟨a % n, a / n, b, c, ⟨Int.emod_nonneg _ (by omega), Int.emod_lt_of_pos _ hn.1⟩, mclean_set0 (ns := [a / n, b, c]) (rnd_a hS n hn h0), _, _, _, List.getElem?_set_self hg, Int.ediv_nonneg ha (by omega), hb, by omega, by omega⟩
  · exact ⟨_, a, b, c + 1, ⟨Int.emod_nonneg _ (by omega), Int.emod_lt_of_pos _ hn.1⟩, mclean_set0 (ns := [a, b, c + 1]) (rnd_b hS n hn h0 hb ⟨hc, by omega⟩), _, _, _, List.getElem?_set_self hg, ha, hb, by omega, by omega⟩
theorem cell_ok (ns : List Int) (i : Int) (hi : 0 ≤ i) (S : Sto) : ∃ x : Int, m__law_cell [.dat (.list (ns.map PyData.int)), .dat (.int i)] S = .ok (.dat (.int x)) S := by
  have ht : ∀ k : Bool, decide (i < ((ns.map PyData.int).length : Int)) = k → mtest (mop (mD gLt) (mvar 1) (mcall (mLen) (mcons (mvar 0) mnil))) [some (.dat (.list (ns.map PyData.int))), some (.dat (.int i))] S = .ok k S := fun k hk => by
    simp only [mfun, mseq, masg, mret, mifS, mexpr, mtest, mand, mor, mnot, mif, mop, mD, mcall, m1, m2, look_dat, mvar, mcst, mcons, mnil, rb_ok, rb_bad, rb_exc, rg_ok, rg_bad, rg_exc, ra_next, ra_ret, ra_bad, ra_exc, rn_ok, gset, scV, mskip, mpar, mpar3, List.length_cons, List.length_nil, List.map_cons, List.map_nil, List.replicate, List.cons_append, List.nil_append, List.getElem?_cons_zero, List.getElem?_cons_succ, List.set_cons_zero, List.set_cons_succ, if_true, if_false, msetix_eq, decide_eq_true_eq, Bool.false_eq_true, mLen_list, gLt_int, hk]
  by_cases h : i < ns.length
  · have h' : i < ((ns.map PyData.int).length : Int) := by rw [List.length_map]; exact h
    obtain ⟨x, hx, hm⟩ := atI_get hi h'
    obtain ⟨y, _, rfl⟩ := List.mem_map.mp hm
    refine ⟨y, mclean_ok0 (mfun_ret rfl ((mseq_r ((mifS_t (ht true (decide_eq_true h'))).trans (mret_r ?_))).trans rfl))⟩
    simp only [mfun, mseq, masg, mret, mifS, mexpr, mtest, mand, mor, mnot, mif, mop, mD, mcall, m1, m2, look_dat, mvar, mcst, mcons, mnil, rb_ok, rb_bad, rb_exc, rg_ok, rg_bad, rg_exc, ra_next, ra_ret, ra_bad, ra_exc, rn_ok, gset, scV, mskip, mpar, mpar3, List.length_cons, List.length_nil, List.map_cons, List.map_nil, List.replicate, List.cons_append, List.nil_append, List.getElem?_cons_zero, List.getElem?_cons_succ, List.set_cons_zero, List.set_cons_succ, if_true, if_false, msetix_eq, decide_eq_true_eq, Bool.false_eq_true, mIx_list hx]
  · have h' : ¬ i < ((ns.map PyData.int).length : Int) := by rw [List.length_map]; exact h
    refine ⟨(cutD ns none (some 1)).sum % 1000003, mclean_ok0 (mfun_ret rfl ((mseq_n (mifS_f (ht false (decide_eq_false h')))).trans ?_))⟩
    refine mret_r ?_
    have e : mslice (mvar 0) none (some (mcst (.int 1))) [some (.dat (.list (ns.map PyData.int))), some (.dat (.int i))] S = .ok (.dat (.list ((cutD ns none (some 1)).map PyData.int))) S := by
      rw [mslice_eq rfl mpart_none (mpart_int rfl), mCut_list, cutD_map]
    simp (disch := omega) only [mfun, mseq, masg, mret, mifS, mexpr, mtest, mand, mor, mnot, mif, mop, mD, mcall, m1, m2, look_dat, mvar, mcst, mcons, mnil, rb_ok, rb_bad, rb_exc, rg_ok, rg_bad, rg_exc, ra_next, ra_ret, ra_bad, ra_exc, rn_ok, gset, scV, mskip, mpar, mpar3, List.length_cons, List.length_nil, List.map_cons, List.map_nil, List.replicate, List.cons_append, List.nil_append, List.getElem?_cons_zero, List.getElem?_cons_succ, List.set_cons_zero, List.set_cons_succ, if_true, if_false, msetix_eq, decide_eq_true_eq, Bool.false_eq_true, e, gSum_ints, gMod_int]
theorem pow_a : ∃ q : Int, ∀ m S, mop (mD gPow) (mcst (.int 10)) (mcst (.int 18)) m S = .ok (.dat (.int q)) S := by
  have e : gPow (.int 10) (.int 18) = some (.int (10 ^ (18 : Int).toNat)) := by
    unfold gPow
    exact if_pos ⟨by decide, by decide +kernel⟩
  exact ⟨_, fun m S => (mop_ok rfl rfl).trans (mD_ok e rfl)⟩
theorem pow_b : ∃ q : Int, 0 < q ∧ ∀ m S, mop (mD gPow) (mop (mD gPow) (mcst (.int 10)) (mcst (.int 60))) (mcst (.int 10)) m S = .ok (.dat (.int q)) S := by
  have e : gPow (.int 10) (.int 60) = some (.int (10 ^ (60 : Int).toNat)) := by
    unfold gPow
    exact if_pos ⟨by decide, by decide +kernel⟩
  have e2 : gPow (.int (10 ^ (60 : Int).toNat)) (.int 10) = some (.int ((10 ^ (60 : Int).toNat) ^ (10 : Int).toNat)) := by
    unfold gPow
    exact if_pos ⟨by decide, by decide +kernel⟩
  have h0 : (0 : Int) < (10 ^ (60 : Int).toNat) ^ (10 : Int).toNat := by decide +kernel
  generalize (10 : Int) ^ (60 : Int).toNat = z at e e2 h0
  exact ⟨_, h0, fun m S => (mop_ok ((mop_ok rfl rfl).trans (mD_ok e rfl)) rfl).trans (mD_ok e2 rfl)⟩
theorem gen_ok (ns : List Int) (i : Int) (hi : 0 ≤ i ∧ i < 100) (S : Sto) : ∃ a b c, m__law_generator [.dat (.list (ns.map PyData.int)), .dat (.int i)] S = .ok (.cell S.length) (S ++ [genO a b c]) ∧ GenAt (S ++ [genO a b c]) S.length (1000 * i) := by
  obtain ⟨x, hx⟩ := cell_ok ns i hi.1 S
  obtain ⟨q, hq⟩ := pow_a
  obtain ⟨r, hr0, hr⟩ := pow_b
  have hm : (0 : Int) < 2147483647 := by decide
  refine ⟨(if 0 > x - q then 0 else x - q) % r, x % 2147483647, 1000 * i, ?_, _, _, _, gs_app, Int.emod_nonneg _ (by omega), ⟨Int.emod_nonneg _ (by omega), Int.emod_lt_of_pos _ (by omega)⟩, by omega, by omega⟩
  refine (mfun_ret rfl ((mseq_n (masg_n ((c2_ok rfl rfl).trans hx))).trans (mret_r ?_)))
  refine (mlstC_ok (ac_ok ((mop_ok ((c1_ok ((c2_ok ((mop_ok rfl (hq _ _)).trans (mD_ok rfl rfl)) rfl).trans rfl)).trans rfl) (hr _ _)).trans (mD_ok (gMod_int hr0) rfl))
    (ac_ok ((mop_ok ((c1_ok rfl).trans rfl) rfl).trans (mD_ok (gMod_int hm) rfl)) (a1_ok ((mop_ok rfl rfl).trans (mD_ok (gMul_int (by omega) (by omega)) rfl))))) (by simp)).trans rfl
end K86
end

section
set_option Elab.async false
set_option linter.all false
set_option maxRecDepth 100000
set_option maxHeartbeats 2000000
namespace K86
open PySem PX
theorem lcGo_filter {g : GM} {t : TM} {e : EM} {m m0 : Sl} {S : Sto} {p : MV → Bool} {f : MV → PyData} : ∀ (xs acc : List MV), (∀ x ∈ xs, ∃ m1, g x m S = some (m1, S) ∧ t m1 S = .ok (p x) S ∧ e m1 S = .ok (.dat (f x)) S) → mlcGo g t e m xs acc m0 S = .ok (acc ++ (xs.filter p).map fun x => .dat (f x)) S
  | [], acc, _ => by simp [mlcGo]
  | x :: xs, acc, h => by
    obtain ⟨m1, h1, h2, h3⟩ := h x (List.mem_cons_self ..)
    have ih := fun acc => lcGo_filter (m0 := m0) xs acc fun y hy => h y (List.mem_cons_of_mem _ hy)
    cases hp : p x with
    | true =>
      rw [hp] at h2
      simp only [mlcGo, h1, h2, rn_ok, rb_ok, if_true, h3, ih, List.filter_cons, hp, List.map_cons, List.append_assoc, List.cons_append, List.nil_append]
    | false =>
      rw [hp] at h2
      simp only [mlcGo, h1, h2, rn_ok, rb_ok, Bool.false_eq_true, if_false, ih, List.filter_cons, hp]
theorem lc_filter {it : AM} {g : GM} {t : TM} {e : EM} {vs : List Nat} {m : Sl} {S S1 : Sto} {xs : List MV} {p : MV → Bool} {f : MV → PyData} (h1 : it m S = .ok xs S1) (hl : xs.length ≤ 16777216) (h : ∀ x ∈ xs, ∃ m1, g x (mwipe m vs) S1 = some (m1, S1) ∧ t m1 S1 = .ok (p x) S1 ∧ e m1 S1 = .ok (.dat (f x)) S1) :
    mlc it g t e vs m S = .ok (.dat (.list ((xs.filter p).map f))) S1 := by
  refine lc_ok h1 hl (lcGo_filter xs [] h) ?_
  rw [List.nil_append, show ((xs.filter p).map fun x => MV.dat (f x)) = ((xs.filter p).map f).map MV.dat by simp]
  exact fzAll_dat _ _
/-! ### points -/
def six : List Int := [1, 2, 3, 4, 5, 6]
def isPts (l : Str) (p : Int) : Bool := decide (l = ("points " : Str) ++ (toString p : Str))
theorem len6 {p : Int} (h : p ∈ six) : (toString p : Str).length ≤ 10 := by
  have : 0 ≤ p ∧ p < 10 := by
    simp [six] at h
    omega
  exact PyProof.Rows.toString_length_le this.1 (by decide) (by omega)
theorem ptest {l : Str} {p : Int} {S : Sto} {m : Sl} {i j : Nat} (hl : m[i]? = some (some (.dat (.str l)))) (hp : m[j]? = some (some (.dat (.int p)))) (h : p ∈ six) :
    mtest (mop (mD gEq) (mvar i) (mop (mAdd) (mcst (.str "points ")) (mcall (m1 gStr) (mcons (mvar j) mnil)))) m S = .ok (isPts l p) S := by
  have e1 : mvar i m S = .ok (.dat (.str l)) S := by simp only [mvar, hl]
  have e2 : mvar j m S = .ok (.dat (.int p)) S := by simp only [mvar, hp]
  have e3 : m1 gStr [.dat (.int p)] S = .ok (.dat (.str (toString p))) S := by
    have : p.natAbs.log2 < 1920 := by
      simp [six] at h
      rcases h with rfl | rfl | rfl | rfl | rfl | rfl <;> decide
    simp only [m1, look_dat, gStr, this, if_true]
  have e4 : (("points " : Str)).length + (toString p : Str).length ≤ 16777216 := by
    have a := len6 h
    have b : ("points " : Str).length = 7 := by decide +kernel
    omega
  exact test_ok ((mop_ok e1 ((mop_ok rfl ((c1_ok e2).trans e3)).trans (mAdd_str e4))).trans (mD_ok gEq_str rfl))
theorem six_nums : nums 1 6 = six.map fun p => MV.dat (.int p) := rfl
theorem rng6 {m : Sl} {S : Sto} : mrng2 (mcons (mcst (.int 1)) (mcons (mop (mAdd) (mcst (.int 6)) (mcst (.int 1))) mnil)) m S = .ok (six.map fun p => MV.dat (.int p)) S :=
  (mrng2_eq (i := 1) (j := 7) (ac_ok rfl (a1_ok ((mop_ok rfl rfl).trans rfl))) (by decide +kernel) (by decide +kernel)).trans (by rw [← six_nums]; rfl)
theorem rng6' {m : Sl} {S : Sto} : mrng2 (mcons (mcst (.int 1)) (mcons (mcst (.int 7)) mnil)) m S = .ok (six.map fun p => MV.dat (.int p)) S :=
  (mrng2_eq (i := 1) (j := 7) (ac_ok rfl (a1_ok rfl)) (by decide +kernel) (by decide +kernel)).trans (by rw [← six_nums]; rfl)
def ptl (l : Str) : Option Int := six.find? (isPts l)
def optI : Option Int → PyData
  | some i => .int i
  | none => .none
theorem ptGo (l : Str) (S : Sto) : ∀ (xs : List Int) (y : Option MV), (∀ p ∈ xs, p ∈ six) → mforGo (gset 1) (mifS (mtest (mop (mD gEq) (mvar 0) (mop (mAdd) (mcst (.str "points ")) (mcall (m1 gStr) (mcons (mvar 1) mnil))))) (mret (mvar 1)) mskip) (xs.map fun p => MV.dat (.int p)) [some (.dat (.str l)), y] S =
    match xs.find? (isPts l) with
    | some p => .ret (.dat (.int p)) S
    | none => .next [some (.dat (.str l)), match xs.getLast? with | some p => some (.dat (.int p)) | none => y] S
  | [], y, _ => rfl
  | p :: xs, y, h => by
    have ht := ptest (S := S) (m := [some (.dat (.str l)), some (.dat (.int p))]) (i := 0) (j := 1) rfl rfl (h p (List.mem_cons_self ..))
    have ih := ptGo l S xs (some (.dat (.int p))) fun q hq => h q (List.mem_cons_of_mem _ hq)
    show (mifS _ _ _ [some (.dat (.str l)), some (.dat (.int p))] S).and _ = _
    cases hp : isPts l p with
    | true =>
      rw [hp] at ht
      rw [mifS_t ht, mret_r rfl]
      simp only [ra_ret, List.find?_cons, hp]
    | false =>
      rw [hp] at ht
      rw [mifS_f ht]
      show mforGo _ _ _ _ _ = _
      rw [ih]
      simp only [List.find?_cons, hp]
      cases xs with
      | nil => rfl
      | cons q xs => rfl
theorem pt_ok (l : Str) (S : Sto) : m_points_told [.dat (.str l)] S = .ok (.dat (optI (ptl l))) S := by
  have hf := (show mfor (mrng2 (mcons (mcst (.int 1)) (mcons (mop (mAdd) (mcst (.int 6)) (mcst (.int 1))) mnil))) (gset 1) (mifS (mtest (mop (mD gEq) (mvar 0) (mop (mAdd) (mcst (.str "points ")) (mcall (m1 gStr) (mcons (mvar 1) mnil))))) (mret (mvar 1)) mskip) [some (.dat (.str l)), none] S =
      mforGo (gset 1) (mifS (mtest (mop (mD gEq) (mvar 0) (mop (mAdd) (mcst (.str "points ")) (mcall (m1 gStr) (mcons (mvar 1) mnil))))) (mret (mvar 1)) mskip) (six.map fun p => MV.dat (.int p)) [some (.dat (.str l)), none] S from by
    unfold mfor
    rw [rng6, rg_ok]).trans (ptGo l S six none fun p h => h)
  refine mclean_ok0 ?_
  unfold ptl
  cases hp : six.find? (isPts l) with
  | some p =>
    rw [hp] at hf
    exact mfun_ret rfl (mseq_r hf)
  | none =>
    rw [hp] at hf
    exact mfun_ret rfl ((mseq_n hf).trans (mret_r rfl))
/-! ### rows -/
def okc (c : Nat) : Bool := c == 48 || c == 49
def rowP (l : Str) (p : Int) : Option (List Int) := if (l.length : Int) = p ∧ l.cps.toList.all okc = true then some (l.cps.toList.map fun c : Nat => (c : Int) - 48) else none
def rowD : Option (List Int) → PyData
  | some r => .list (r.map PyData.int)
  | none => .none
theorem int0 : gInt (.str ⟨#[48]⟩) = fun S => .ok (.dat (.int 0)) S := by
  funext S
  have e : PySem.intText? (⟨#[48]⟩ : Str) = some 0 := by decide +kernel
  simp [gInt, e, Str.length]
theorem int1 : gInt (.str ⟨#[49]⟩) = fun S => .ok (.dat (.int 1)) S := by
  funext S
  have e : PySem.intText? (⟨#[49]⟩ : Str) = some 1 := by decide +kernel
  simp [gInt, e, Str.length]
theorem okc_int {c : Nat} (h : okc c = true) (S : Sto) : gInt (.str ⟨#[c]⟩) S = .ok (.dat (.int ((c : Int) - 48))) S := by
  have : c = 48 ∨ c = 49 := by simpa [okc] using h
  rcases this with rfl | rfl
  · rw [int0]
    rfl
  · rw [int1]
    rfl
/-- the numbers of a line whose signs are all right -/
theorem ints_ok {i j : Nat} {l : Str} {m : Sl} {S : Sto} {vs : List Nat} (hi : m[i]? = some (some (.dat (.str l)))) (hj : j < (mwipe m vs).length) (hl : l.length ≤ 16777216) (h : l.cps.toList.all okc = true) :
    mlc (miter (mvar i)) (gset j) myes (mcall (m1 gInt) (mcons (mvar j) mnil)) vs m S = .ok (.dat (.list ((l.cps.toList.map fun c : Nat => (c : Int) - 48).map PyData.int))) S := by
  have e1 : mvar i m S = .ok (.dat (.str l)) S := by simp only [mvar, hi]
  have q := lc_map (g := gset j) (e := mcall (m1 gInt) (mcons (mvar j) mnil)) (vs := vs) (f := fun x => match x with | .dat (.str z) => .int (((z.cps.toList.headD 0 : Nat) : Int) - 48) | _ => .none) (miter_str e1) (by simp only [signs, List.length_map, Array.length_toList]; exact hl) fun x hx => by
    obtain ⟨c, hc, rfl⟩ := List.mem_map.mp hx
    refine ⟨_, rfl, ?_⟩
    have e2 : mvar j ((mwipe m vs).set j (some (.dat (.str ⟨#[c]⟩)))) S = .ok (.dat (.str ⟨#[c]⟩)) S := by simp only [mvar, List.getElem?_set_self hj]
    exact (c1_ok e2).trans (okc_int (List.all_eq_true.mp h c hc) S)
  rw [q]
  simp [signs, Function.comp_def]
theorem len_test {i j : Nat} {l : Str} {p : Int} {m : Sl} {S : Sto} (hi : m[i]? = some (some (.dat (.str l)))) (hj : m[j]? = some (some (.dat (.int p)))) (hl : l.length ≤ 16777216) :
    mtest (mop (mD gEq) (mcall (mLen) (mcons (mvar i) mnil)) (mvar j)) m S = .ok (decide ((l.length : Int) = p)) S ∧ mtest (mop (mD gNe) (mcall (mLen) (mcons (mvar i) mnil)) (mvar j)) m S = .ok (!decide ((l.length : Int) = p)) S := by
  have e1 : mvar i m S = .ok (.dat (.str l)) S := by simp only [mvar, hi]
  have e2 : mvar j m S = .ok (.dat (.int p)) S := by simp only [mvar, hj]
  exact ⟨test_ok ((mop_ok ((c1_ok e1).trans (mLen_str hl)) e2).trans (mD_ok gEq_int rfl)), test_ok ((mop_ok ((c1_ok e1).trans (mLen_str hl)) e2).trans (mD_ok gNe_int rfl))⟩
theorem in01 (c : Nat) : gIn false (.str ⟨#[c]⟩) (.str "01") = some (.bool (okc c)) := by
  have e : strIn (⟨#[c]⟩ : Str) "01" = okc c := by
    unfold strIn
    rw [if_pos (show (⟨#[c]⟩ : Str).cps.size = 1 from rfl)]
    show decide (c ∈ ("01" : Str).cps.toList) = _
    have : ("01" : Str).cps.toList = [48, 49] := by decide +kernel
    rw [this]
    simp only [okc, List.mem_cons, List.not_mem_nil, or_false, Bool.decide_or]
    rfl
  show some (PyData.bool (if false = true then _ else _)) = _
  rw [if_neg (by decide), e]
theorem rt_ok (l : Str) (p : Int) (S : Sto) (hl : l.length ≤ 16777216) : m_row_told [.dat (.str l), .dat (.int p)] S = .ok (.dat (rowD (rowP l p))) S := by
  refine mclean_ok0 ?_
  have t1 := (len_test (i := 0) (j := 1) (m := [some (.dat (.str l)), some (.dat (.int p)), none]) (S := S) rfl rfl hl).2
  have q := lc_map (m := [some (.dat (.str l)), some (.dat (.int p)), none]) (S := S) (g := gset 2) (e := mop (mD (gIn false)) (mvar 2) (mcst (.str "01"))) (vs := List.map (·.2) ([("sign", 2)] : List (Str × Nat))) (f := fun x => match x with | .dat (.str z) => .bool (okc (z.cps.toList.headD 0)) | _ => .none) (miter_str (f := mvar 0) (z := l) rfl) (by simp only [signs, List.length_map, Array.length_toList]; exact hl) fun x hx => by
    obtain ⟨c, hc, rfl⟩ := List.mem_map.mp hx
    exact ⟨_, rfl, (mop_ok rfl rfl).trans (mD_ok (in01 c) rfl)⟩
  have q2 : (signs l).map (fun x => match x with | MV.dat (.str z) => PyData.bool (okc (z.cps.toList.headD 0)) | _ => .none) = (l.cps.toList.map okc).map PyData.bool := by
    simp [signs, Function.comp_def]
  rw [q2] at q
  have t2 : mtest (mcall (m1 gAll) (mcons (mlc (miter (mvar 0)) (gset 2) myes (mop (mD (gIn false)) (mvar 2) (mcst (.str "01"))) (List.map (·.2) ([("sign", 2)] : List (Str × Nat)))) mnil)) [some (.dat (.str l)), some (.dat (.int p)), none] S = .ok (l.cps.toList.all okc) S := by
    refine test_ok ((c1_ok q).trans ?_)
    simp only [m1, look_dat, gAll, boolsD_map]
    simp [List.all_map, Function.comp_def]
  have hb : b_row_told = (mseq (mifS (mor (mtest (mop (mD gNe) (mcall (mLen) (mcons (mvar 0) mnil)) (mvar 1))) (mnot (mtest (mcall (m1 gAll) (mcons (mlc (miter (mvar 0)) (gset 2) myes (mop (mD (gIn false)) (mvar 2) (mcst (.str "01"))) (List.map (·.2) ([("sign", 2)] : List (Str × Nat)))) mnil))))) (mret (mcst .none)) mskip)
    (mret (mlc (miter (mvar 0)) (gset 2) myes (mcall (m1 gInt) (mcons (mvar 2) mnil)) (List.map (·.2) ([("sign", 2)] : List (Str × Nat)))))) := rfl
  unfold rowP
  by_cases h1 : (l.length : Int) = p
  · rw [decide_eq_true h1] at t1
    cases h2 : l.cps.toList.all okc with
    | true =>
      rw [h2] at t2
      rw [if_pos ⟨h1, rfl⟩]
      exact mfun_ret rfl ((mseq_n (mifS_f ((or_f t1).trans (not_ok t2)))).trans (mret_r (ints_ok (i := 0) (j := 2) rfl (by simp [mwipe]) hl h2)))
    | false =>
      rw [h2] at t2
      rw [if_neg (fun z => by cases z.2)]
      exact mfun_ret rfl (mseq_r ((mifS_t ((or_f t1).trans (not_ok t2))).trans (mret_r rfl)))
  · rw [decide_eq_false h1] at t1
    rw [if_neg (fun z => h1 z.1)]
    exact mfun_ret rfl (mseq_r ((mifS_t (or_t t1)).trans (mret_r rfl)))
/-! ### shapes -/
theorem lay_ints : ∀ ns : List Int, PyData.canLayAll0 (ns.map PyData.int) = true
  | [] => by simp [PyData.canLayAll0]
  | n :: ns => by simp [PyData.canLayAll0, PyData.canLay0, lay_ints ns]
theorem dep_ints : ∀ ns : List Int, PyData.depthAll (ns.map PyData.int) = 0
  | [] => by simp [PyData.depthAll]
  | n :: ns => by simp [PyData.depthAll, PyData.depth, dep_ints ns]
theorem lay_strs : ∀ ns : List Str, (∀ z ∈ ns, PyData.strOk z = true) → PyData.canLayAll0 (ns.map PyData.str) = true
  | [], _ => by simp [PyData.canLayAll0]
  | n :: ns, h => by simp [PyData.canLayAll0, PyData.canLay0, lay_strs ns fun z hz => h z (List.mem_cons_of_mem _ hz), h n (List.mem_cons_self ..)]
theorem dep_strs : ∀ ns : List Str, PyData.depthAll (ns.map PyData.str) = 0
  | [] => by simp [PyData.depthAll]
  | n :: ns => by simp [PyData.depthAll, PyData.depth, dep_strs ns]
def rowsD (rs : List (List Int)) : List PyData := rs.map fun r => .list (r.map PyData.int)
theorem lay_rows : ∀ rs : List (List Int), PyData.canLayAll0 (rowsD rs) = true
  | [] => by simp [rowsD, PyData.canLayAll0]
  | r :: rs => by
    have ih := lay_rows rs
    unfold rowsD at ih
    simp [rowsD, PyData.canLayAll0, PyData.canLay0, lay_ints, ih]
theorem dep_rows : ∀ rs : List (List Int), PyData.depthAll (rowsD rs) ≤ 1
  | [] => by simp [rowsD, PyData.depthAll]
  | r :: rs => by
    have ih := dep_rows rs
    unfold rowsD at ih
    simp only [rowsD, List.map_cons, PyData.depthAll, PyData.depth, dep_ints]
    omega
theorem shp_strs (ns : List Str) (h : ∀ z ∈ ns, PyData.strOk z = true) : SeqAt.shaped (.list (ns.map PyData.str)) = true := by
  simp [SeqAt.shaped, PyData.canLay0, PyData.depth, lay_strs ns h, dep_strs]
theorem shp_ints (ns : List Int) : SeqAt.shaped (.list (ns.map PyData.int)) = true := by
  simp [SeqAt.shaped, PyData.canLay0, PyData.depth, lay_ints, dep_ints]
theorem shp_rows (rs : List (List Int)) : SeqAt.shaped (.list (rowsD rs)) = true := by
  have := dep_rows rs
  simp [SeqAt.shaped, PyData.canLay0, PyData.depth, lay_rows]
  omega
theorem eqv_nil (ds : List PyData) : PyData.eqv (.list ds) (.list []) = ds.isEmpty := by
  cases ds <;> simp [PyData.eqv, PyData.eqvAll]
theorem gEq_nil {ds : List PyData} (h : SeqAt.shaped (.list ds) = true) : gEq (.list ds) (.list []) = some (.bool ds.isEmpty) := by
  show (if SeqAt.shaped (.list ds) = true ∧ SeqAt.shaped (.list []) = true then some (PyData.bool (PyData.eqv (.list ds) (.list []))) else none) = _
  rw [if_pos ⟨h, rfl⟩, eqv_nil]
theorem gNe_nil {ds : List PyData} (h : SeqAt.shaped (.list ds) = true) : gNe (.list ds) (.list []) = some (.bool (!ds.isEmpty)) := by
  show (if SeqAt.shaped (.list ds) = true ∧ SeqAt.shaped (.list []) = true then some (PyData.bool (!PyData.eqv (.list ds) (.list []))) else none) = _
  rw [if_pos ⟨h, rfl⟩, eqv_nil]
theorem one48 : ("0" : Str) = ⟨#[48]⟩ := by decide +kernel
theorem one49 : ("1" : Str) = ⟨#[49]⟩ := by decide +kernel
theorem notin01 (c : Nat) : gIn true (.str ⟨#[c]⟩) (.list [.str "0", .str "1"]) = some (.bool (!okc c)) := by
  have e : inB (.str ⟨#[c]⟩) [.str "0", .str "1"] = okc c := by
    unfold inB
    rw [one48, one49]
    simp only [List.any_cons, List.any_nil, Bool.or_false, PyData.eqv, okc]
    have h : ∀ a b : Nat, ((⟨#[a]⟩ : Str) == ⟨#[b]⟩) = (b == a) := fun a b => by
      by_cases hab : a = b
      · subst hab
        simp
      · have h1 : ((⟨#[a]⟩ : Str) == ⟨#[b]⟩) = false := by
          rw [beq_eq_false_iff_ne]
          intro z
          injection z with z
          simp at z
          exact hab z
        rw [h1]
        symm
        rw [beq_eq_false_iff_ne]
        exact fun z => hab z.symm
    rw [h, h]
  simp only [gIn, e, flatD, List.all_cons, List.all_nil, Bool.and_self, true_and, if_true, true_or]
theorem lr_ok (l : Str) (p : Int) (S : Sto) (hl : l.length ≤ 16777216) (ha : ∀ c ∈ l.cps.toList, c < 128) : m__law_row [.dat (.str l), .dat (.int p)] S = .ok (.dat (rowD (rowP l p))) S := by
  refine mclean_ok0 (mfun_ret rfl (mret_r ?_))
  show mif _ _ _ [some (.dat (.str l)), some (.dat (.int p)), none] S = _
  have t1 := (len_test (i := 0) (j := 1) (m := [some (.dat (.str l)), some (.dat (.int p)), none]) (S := S) rfl rfl hl).1
  have q := lc_filter (m := [some (.dat (.str l)), some (.dat (.int p)), none]) (S := S) (g := gset 2) (t := mtest (mop (mD (gIn true)) (mvar 2) (mlst (mcons (mcst (.str "0")) (mcons (mcst (.str "1")) mnil))))) (e := mvar 2) (vs := List.map (·.2) ([("sign", 2)] : List (Str × Nat)))
    (p := fun x => match x with | .dat (.str z) => !okc (z.cps.toList.headD 0) | _ => false) (f := fun x => match x with | .dat d => d | _ => .none) (miter_str (f := mvar 0) (z := l) rfl) (by simp only [signs, List.length_map, Array.length_toList]; exact hl) fun x hx => by
    obtain ⟨c, hc, rfl⟩ := List.mem_map.mp hx
    exact ⟨_, rfl, test_ok ((mop_ok rfl (mlst_ok (ds := [.str "0", .str "1"]) (ac_ok rfl (a1_ok rfl)) (by decide))).trans (mD_ok (notin01 c) rfl)), rfl⟩
  have q2 : (((signs l).filter (fun x => match x with | MV.dat (.str z) => !okc (z.cps.toList.headD 0) | _ => false)).map fun x => match x with | MV.dat d => d | _ => PyData.none) = ((l.cps.toList.filter fun c => !okc c).map fun c => (⟨#[c]⟩ : Str)).map PyData.str := by
    simp [signs, List.filter_map, Function.comp_def]
  rw [q2] at q
  have he : (((l.cps.toList.filter fun c => !okc c).map fun c => (⟨#[c]⟩ : Str)).map PyData.str).isEmpty = l.cps.toList.all okc := by
    rw [List.isEmpty_map, List.isEmpty_map]
    cases h : l.cps.toList.all okc with
    | true =>
      rw [List.isEmpty_iff, List.filter_eq_nil_iff]
      intro c hc
      simp [List.all_eq_true.mp h c hc]
    | false =>
      rw [List.isEmpty_eq_false_iff]
      intro z
      rw [List.filter_eq_nil_iff] at z
      have : l.cps.toList.all okc = true := List.all_eq_true.mpr fun c hc => by
        have := z c hc
        simpa using this
      rw [h] at this
      cases this
  have t2 := test_ok ((mop_ok q (mlst_ok (ds := []) an_ok (by decide))).trans (mD_ok (gEq_nil (shp_strs _ fun z hz => by
    obtain ⟨c, hc, rfl⟩ := List.mem_map.mp hz
    have := ha c (List.mem_filter.mp hc).1
    simp [PyData.strOk]
    omega)) rfl))
  rw [he] at t2
  unfold rowP
  by_cases h1 : (l.length : Int) = p
  · rw [decide_eq_true h1] at t1
    cases h2 : l.cps.toList.all okc with
    | true =>
      rw [h2] at t2
      rw [if_pos ⟨h1, rfl⟩]
      simp only [mif, and_t t1, t2, rb_ok, if_true]
      exact ints_ok (i := 0) (j := 2) rfl (by simp [mwipe]) hl h2
    | false =>
      rw [h2] at t2
      rw [if_neg (fun z => by cases z.2)]
      simp only [mif, and_t t1, t2, rb_ok, Bool.false_eq_true, if_false]
      rfl
  · rw [decide_eq_false h1] at t1
    rw [if_neg (fun z => h1 z.1)]
    simp only [mif, and_f t1, rb_ok, Bool.false_eq_true, if_false]
    rfl
end K86
end

section
set_option Elab.async false
set_option linter.all false
set_option maxRecDepth 100000
set_option maxHeartbeats 2000000
namespace K86
open PySem PX
abbrev ltR (x y : List Int) : Bool := PySem.W.dataLt (.list (x.map PyData.int)) (.list (y.map PyData.int))
def stop (rs : List (List Int)) (r : List Int) : Bool := decide (rs.length = 32) || (!rs.isEmpty && !ltR (rs.getLastD []) r)
def scanR : Nat → Int → List (List Int) → List Str → Nat ⊕ List (List Int)
  | _, _, rs, [] => .inr rs
  | i, p, rs, l :: ls => match rowP l p with
    | none => .inl i
    | some r => if stop rs r = true then .inl i else scanR (i + 1) p (rs ++ [r]) ls
def scan : List Str → Nat ⊕ List (List Int)
  | [] => .inr []
  | l :: ls => match ptl l with
    | none => .inl 0
    | some p => scanR 1 p [] ls
def cellR (rs : List (List Int)) : Ob := .lst ((rowsD rs).map MV.dat)
theorem alike_ints : ∀ x y : List Int, PySem.W.alikeAll (x.map PyData.int) (y.map PyData.int) = true
  | [], _ => by simp [PySem.W.alikeAll]
  | _ :: _, [] => by simp [PySem.W.alikeAll]
  | a :: x, b :: y => by simp [PySem.W.alikeAll, PySem.W.alike, alike_ints x y]
theorem ord_rows (x y : List Int) : ordOk (.list (x.map PyData.int)) (.list (y.map PyData.int)) := by
  refine ⟨by simp [PySem.W.alike, alike_ints], rfl, ?_⟩
  simp [PyData.depth, dep_ints]
theorem gLt_rows (x y : List Int) : gLt (.list (x.map PyData.int)) (.list (y.map PyData.int)) = some (.bool (ltR x y)) := if_pos (ord_rows x y)
theorem gGe_rows (x y : List Int) : gGe (.list (x.map PyData.int)) (.list (y.map PyData.int)) = some (.bool (!ltR x y)) := if_pos (ord_rows x y)
theorem allD_dat (ds : List PyData) : allD (ds.map MV.dat) = some ds := allD_map ds
section
variable {m : Sl} {S : Sto} {g jr jw : Nat} {rs : List (List Int)} {r : List Int}
theorem cA {o : Option (List Int)} (hw : m[jw]? = some (some (.dat (rowD o)))) : mtest (mop (mIs) (mvar jw) (mcst .none)) m S = .ok o.isNone S := by
  have e : mvar jw m S = .ok (.dat (rowD o)) S := by simp only [mvar, hw]
  refine test_ok ((mop_ok e rfl).trans ?_)
  cases o <;> rfl
theorem cB (hr : m[jr]? = some (some (.cell g))) (hS : S[g]? = some (cellR rs)) : mtest (mop (mD gEq) (mcall (mLen) (mcons (mvar jr) mnil)) (mcst (.int 32))) m S = .ok (decide (rs.length = 32)) S := by
  have e : mvar jr m S = .ok (.cell g) S := by simp only [mvar, hr]
  have q := test_ok ((mop_ok ((c1_ok e).trans (mLen_cell hS (allD_dat _))) (show mcst (.int 32) m S = .ok (.dat (.int 32)) S from rfl)).trans (mD_ok (S := S) (gEq_int (i := ((rowsD rs).length : Int)) (j := 32)) rfl))
  rw [q]
  congr 1
  simp only [rowsD, List.length_map, decide_eq_decide]
  omega
theorem cC (hr : m[jr]? = some (some (.cell g))) (hS : S[g]? = some (cellR rs)) : mtest (mop (mD gNe) (mvar jr) (mlst mnil)) m S = .ok (!rs.isEmpty) S := by
  have e : mvar jr m S = .ok (.cell g) S := by simp only [mvar, hr]
  have q := test_ok ((mop_ok e (mlst_ok (ds := []) an_ok (by decide))).trans (mDl_ok (look_lst hS (allD_dat _)) look_dat (gNe_nil (shp_rows rs)) rfl))
  rw [q]
  congr 2
  simp [rowsD]
theorem last_rows (h : rs ≠ []) : L2.atI (rowsD rs) (-1) = some (.list ((rs.getLastD []).map PyData.int)) := by
  have h1 : 0 < rs.length := List.length_pos_iff.mpr h
  unfold L2.atI L2.ixN
  rw [if_neg (by decide), if_pos (by simp only [rowsD, List.length_map]; omega)]
  have e : (-1 + ((rowsD rs).length : Int)).toNat = rs.length - 1 := by
    simp only [rowsD, List.length_map]
    omega
  rw [e]
  show (rowsD rs)[rs.length - 1]? = _
  unfold rowsD
  rw [List.getElem?_map, ← List.getLast?_eq_getElem?, List.getLast?_eq_some_getLast h]
  simp [List.getLastD_eq_getLast?, List.getLast?_eq_some_getLast h]
theorem cD (hr : m[jr]? = some (some (.cell g))) (hS : S[g]? = some (cellR rs)) (h : rs ≠ []) (hw : m[jw]? = some (some (.dat (rowD (some r))))) :
    mtest (mop (mD gLt) (mop mIx (mvar jr) (mneg (mcst (.int 1)))) (mvar jw)) m S = .ok (ltR (rs.getLastD []) r) S ∧ mtest (mop (mD gGe) (mop mIx (mvar jr) (mneg (mcst (.int 1)))) (mvar jw)) m S = .ok (!ltR (rs.getLastD []) r) S := by
  have e : mvar jr m S = .ok (.cell g) S := by simp only [mvar, hr]
  have e2 : mvar jw m S = .ok (.dat (rowD (some r))) S := by simp only [mvar, hw]
  have e3 : mop mIx (mvar jr) (mneg (mcst (.int 1))) m S = .ok (.dat (.list ((rs.getLastD []).map PyData.int))) S := (mop_ok e (show mneg (mcst (.int 1)) m S = .ok (.dat (.int (-1))) S from rfl)).trans (mIx_cell hS (allD_dat _) (last_rows h))
  exact ⟨test_ok ((mop_ok e3 e2).trans (mD_ok (gLt_rows _ _) rfl)), test_ok ((mop_ok e3 e2).trans (mD_ok (gGe_rows _ _) rfl))⟩
/-- the two conditions, alike -/
theorem cond_p (hr : m[jr]? = some (some (.cell g))) (hS : S[g]? = some (cellR rs)) (hw : m[jw]? = some (some (.dat (rowD (some r))))) :
    mor (mtest (mop (mIs) (mvar jw) (mcst .none))) (mor (mtest (mop (mD gEq) (mcall (mLen) (mcons (mvar jr) mnil)) (mcst (.int 32)))) (mand (mtest (mop (mD gNe) (mvar jr) (mlst mnil))) (mnot (mtest (mop (mD gLt) (mop mIx (mvar jr) (mneg (mcst (.int 1)))) (mvar jw)))))) m S = .ok (stop rs r) S := by
  refine (or_f (cA hw)).trans ?_
  unfold stop
  by_cases h32 : rs.length = 32
  · rw [or_t ((cB hr hS).trans (by rw [decide_eq_true h32]))]
    simp [h32]
  · refine (or_f ((cB hr hS).trans (by rw [decide_eq_false h32]))).trans ?_
    by_cases hn : rs = []
    · subst hn
      exact (and_f (cC hr hS)).trans (by simp)
    · have hne : (!rs.isEmpty) = true := by cases rs with | nil => exact absurd rfl hn | cons _ _ => rfl
      refine (and_t ((cC hr hS).trans (by rw [hne]))).trans ?_
      rw [not_ok (cD hr hS hn hw).1, hne, decide_eq_false h32]
      rfl
theorem cond_l (hr : m[jr]? = some (some (.cell g))) (hS : S[g]? = some (cellR rs)) (hw : m[jw]? = some (some (.dat (rowD (some r))))) :
    mor (mtest (mop (mIs) (mvar jw) (mcst .none))) (mor (mtest (mop (mD gEq) (mcall (mLen) (mcons (mvar jr) mnil)) (mcst (.int 32)))) (mand (mtest (mop (mD gNe) (mvar jr) (mlst mnil))) (mtest (mop (mD gGe) (mop mIx (mvar jr) (mneg (mcst (.int 1)))) (mvar jw))))) m S = .ok (stop rs r) S := by
  refine (or_f (cA hw)).trans ?_
  unfold stop
  by_cases h32 : rs.length = 32
  · rw [or_t ((cB hr hS).trans (by rw [decide_eq_true h32]))]
    simp [h32]
  · refine (or_f ((cB hr hS).trans (by rw [decide_eq_false h32]))).trans ?_
    by_cases hn : rs = []
    · subst hn
      exact (and_f (cC hr hS)).trans (by simp)
    · have hne : (!rs.isEmpty) = true := by cases rs with | nil => exact absurd rfl hn | cons _ _ => rfl
      refine (and_t ((cC hr hS).trans (by rw [hne]))).trans ?_
      rw [(cD hr hS hn hw).2, hne, decide_eq_false h32]
      rfl
theorem cond_n (hw : m[jw]? = some (some (.dat (rowD none)))) (t : TM) : mor (mtest (mop (mIs) (mvar jw) (mcst .none))) t m S = .ok true S := or_t (cA hw)
end

/-! ### the program's loop -/
noncomputable def BpR : SM := (mseq (masg (mcall m_row_told (mcons (mvar 4) (mcons (mvar 1) mnil))) (gset 5))
    (mseq (mifS (mor (mtest (mop (mIs) (mvar 5) (mcst .none))) (mor (mtest (mop (mD gEq) (mcall (mLen) (mcons (mvar 2) mnil)) (mcst (.int 32)))) (mand (mtest (mop (mD gNe) (mvar 2) (mlst mnil))) (mnot (mtest (mop (mD gLt) (mop mIx (mvar 2) (mneg (mcst (.int 1)))) (mvar 5))))))) (mret (mvar 3)) mskip)
    (mexpr (mlistM gApp (mvar 2) (mcons (mvar 5) mnil)))))
noncomputable def BpF : SM := (mseq (masg (mcall m_points_told (mcons (mvar 4) mnil)) (gset 1)) (mifS (mtest (mop (mIs) (mvar 1) (mcst .none))) (mret (mcst (.int 0))) mskip))
noncomputable def Bp : SM := mifS (mtest (mop (mD gEq) (mvar 3) (mcst (.int 0)))) BpF BpR
abbrev Gp : GM := gtup 2 (gscons (gset 3) (gscons (gset 4) gsnil))
theorem cell_get {S0 : Sto} {rs : List (List Int)} : (S0 ++ [cellR rs])[S0.length]? = some (cellR rs) := gs_app
theorem cell_set {S0 : Sto} {o o' : Ob} : (S0 ++ [o]).set S0.length o' = S0 ++ [o'] := by simp
theorem app_row {S0 : Sto} {rs : List (List Int)} {r : List Int} (h : rs.length ≤ 32) : gApp (.cell S0.length) [.dat (rowD (some r))] (S0 ++ [cellR rs]) = .ok (.dat .none) (S0 ++ [cellR (rs ++ [r])]) := by
  rw [app_ok' cell_get (by simp only [rowsD, List.length_map]; omega), cell_set]
  simp [cellR, rowsD, rowD]
theorem turn_p {S0 : Sto} {a0 y : Option MV} {p : Int} {i : Nat} {l : Str} {rs : List (List Int)} (hi : 1 ≤ i) (hl : l.length ≤ 16777216) (h32 : rs.length ≤ 32) :
    Bp [a0, some (.dat (.int p)), some (.cell S0.length), some (.dat (.int (i : Nat))), some (.dat (.str l)), y] (S0 ++ [cellR rs]) = match rowP l p with
      | none => .ret (.dat (.int (i : Nat))) (S0 ++ [cellR rs])
      | some r => if stop rs r = true then .ret (.dat (.int (i : Nat))) (S0 ++ [cellR rs]) else .next [a0, some (.dat (.int p)), some (.cell S0.length), some (.dat (.int (i : Nat))), some (.dat (.str l)), some (.dat (rowD (some r)))] (S0 ++ [cellR (rs ++ [r])]) := by
  have ht : mtest (mop (mD gEq) (mvar 3) (mcst (.int 0))) [a0, some (.dat (.int p)), some (.cell S0.length), some (.dat (.int (i : Nat))), some (.dat (.str l)), y] (S0 ++ [cellR rs]) = .ok false (S0 ++ [cellR rs]) :=
    test_ok ((mop_ok rfl rfl).trans (mD_ok (gEq_int.trans (by rw [decide_eq_false (show ¬ ((i : Nat) : Int) = 0 by omega)])) rfl))
  unfold Bp BpR
  refine (mifS_f ht).trans ((mseq_n (masg_n ((c2_ok rfl rfl).trans (rt_ok l p _ hl)))).trans ?_)
  cases hr : rowP l p with
  | none =>
    exact mseq_r ((mifS_t (cond_n (jw := 5) rfl _)).trans (mret_r rfl))
  | some r =>
    have c := cond_p (jr := 2) (jw := 5) (m := [a0, some (.dat (.int p)), some (.cell S0.length), some (.dat (.int (i : Nat))), some (.dat (.str l)), some (.dat (rowD (some r)))]) (S := S0 ++ [cellR rs]) (rs := rs) (r := r) rfl cell_get rfl
    cases hst : stop rs r with
    | true =>
      rw [hst] at c
      simp only [hst, if_true]
      exact mseq_r ((mifS_t c).trans (mret_r rfl))
    | false =>
      rw [hst] at c
      simp only [hst, Bool.false_eq_true, if_false]
      exact (mseq_n (mifS_f c)).trans (mexpr_n ((lm_ok rfl (tyM_cell cell_get) (a1_ok rfl)).trans (app_row h32)))
theorem go_p {S0 : Sto} {a0 : Option MV} {p : Int} : ∀ (ls : List Str) (i : Nat) (rs : List (List Int)) (y3 y4 y5 : Option MV), 1 ≤ i → rs.length ≤ 32 → (∀ l ∈ ls, l.length ≤ 16777216) →
    ∃ rs' : List (List Int), (∀ k, scanR i p rs ls = .inl k → mforGo Gp Bp (enumD i (ls.map PyData.str)) [a0, some (.dat (.int p)), some (.cell S0.length), y3, y4, y5] (S0 ++ [cellR rs]) = .ret (.dat (.int (k : Nat))) (S0 ++ [cellR rs'])) ∧
      (∀ q, scanR i p rs ls = .inr q → ∃ m, mforGo Gp Bp (enumD i (ls.map PyData.str)) [a0, some (.dat (.int p)), some (.cell S0.length), y3, y4, y5] (S0 ++ [cellR rs]) = .next m (S0 ++ [cellR rs']))
  | [], i, rs, y3, y4, y5, _, _, _ => ⟨rs, fun k h => by simp [scanR] at h, fun q h => ⟨_, rfl⟩⟩
  | l :: ls, i, rs, y3, y4, y5, hi, h32, hl => by
    have t := turn_p (S0 := S0) (a0 := a0) (y := y5) (p := p) hi (hl l (List.mem_cons_self ..)) h32
    have st : mforGo Gp Bp (enumD i ((l :: ls).map PyData.str)) [a0, some (.dat (.int p)), some (.cell S0.length), y3, y4, y5] (S0 ++ [cellR rs]) =
        (Bp [a0, some (.dat (.int p)), some (.cell S0.length), some (.dat (.int (i : Nat))), some (.dat (.str l)), y5] (S0 ++ [cellR rs])).and (mforGo Gp Bp (enumD (i + 1) (ls.map PyData.str))) := rfl
    rw [st, t]
    unfold scanR
    cases hr : rowP l p with
    | none => exact ⟨rs, fun k h => by cases h; rfl, fun q h => by cases h⟩
    | some r =>
      cases hst : stop rs r with
      | true =>
        simp only [hst, if_true]
        exact ⟨rs, fun k h => by cases h; rfl, fun q h => by cases h⟩
      | false =>
        simp only [hst, Bool.false_eq_true, if_false]
        have hn : rs.length ≠ 32 := fun z => by simp [stop, z] at hst
        obtain ⟨rs', h1, h2⟩ := go_p ls (i + 1) (rs ++ [r]) (some (.dat (.int (i : Nat)))) (some (.dat (.str l))) (some (.dat (rowD (some r)))) (by omega) (by simp; omega) fun z hz => hl z (List.mem_cons_of_mem _ hz)
        exact ⟨rs', h1, h2⟩
theorem wi_ok (ls : List Str) (S0 : Sto) (hl : ∀ l ∈ ls, l.length ≤ 16777216) : m_wrong_in [.dat (.list (ls.map PyData.str))] S0 = .ok (.dat (match scan ls with | .inl k => .int (k : Nat) | .inr _ => .none)) S0 := by
  have hb : b_wrong_in = mseq (mpar 1 2 (mcons (mcst .none) (mcons (mlstC mnil) mnil))) (mseq (mfor (menum (mcons (mvar 0) mnil)) Gp Bp) (mret (mcst .none))) := rfl
  have e0 : mpar 1 2 (mcons (mcst .none) (mcons (mlstC mnil) mnil)) [some (.dat (.list (ls.map PyData.str))), none, none, none, none, none] S0 = .next [some (.dat (.list (ls.map PyData.str))), some (.dat .none), some (.cell S0.length), none, none, none] (S0 ++ [cellR []]) :=
    mpar_n (ac_ok rfl (a1_ok (mlstC_ok an_ok (by decide))))
  have e1 : menum (mcons (mvar 0) mnil) [some (.dat (.list (ls.map PyData.str))), some (.dat .none), some (.cell S0.length), none, none, none] (S0 ++ [cellR []]) = .ok (enumD 0 (ls.map PyData.str)) (S0 ++ [cellR []]) := rfl
  have e2 : mfor (menum (mcons (mvar 0) mnil)) Gp Bp [some (.dat (.list (ls.map PyData.str))), some (.dat .none), some (.cell S0.length), none, none, none] (S0 ++ [cellR []]) = mforGo Gp Bp (enumD 0 (ls.map PyData.str)) [some (.dat (.list (ls.map PyData.str))), some (.dat .none), some (.cell S0.length), none, none, none] (S0 ++ [cellR []]) := rfl
  cases ls with
  | nil => exact mclean_ok (J := [cellR []]) (mfun_ret rfl (by rw [hb]; exact (mseq_n e0).trans ((mseq_n rfl).trans (mret_r rfl))))
  | cons l ls =>
    have st : mforGo Gp Bp (enumD 0 ((l :: ls).map PyData.str)) [some (.dat (.list ((l :: ls).map PyData.str))), some (.dat .none), some (.cell S0.length), none, none, none] (S0 ++ [cellR []]) =
        (Bp [some (.dat (.list ((l :: ls).map PyData.str))), some (.dat .none), some (.cell S0.length), some (.dat (.int 0)), some (.dat (.str l)), none] (S0 ++ [cellR []])).and (mforGo Gp Bp (enumD 1 (ls.map PyData.str))) := rfl
    have t0 : mtest (mop (mD gEq) (mvar 3) (mcst (.int 0))) [some (.dat (.list ((l :: ls).map PyData.str))), some (.dat .none), some (.cell S0.length), some (.dat (.int 0)), some (.dat (.str l)), none] (S0 ++ [cellR []]) = .ok true (S0 ++ [cellR []]) := rfl
    have f0 : masg (mcall m_points_told (mcons (mvar 4) mnil)) (gset 1) [some (.dat (.list ((l :: ls).map PyData.str))), some (.dat .none), some (.cell S0.length), some (.dat (.int 0)), some (.dat (.str l)), none] (S0 ++ [cellR []]) = .next [some (.dat (.list ((l :: ls).map PyData.str))), some (.dat (optI (ptl l))), some (.cell S0.length), some (.dat (.int 0)), some (.dat (.str l)), none] (S0 ++ [cellR []]) :=
      masg_n ((c1_ok rfl).trans (pt_ok l _))
    cases hp : ptl l with
    | none =>
      rw [show scan (l :: ls) = .inl 0 by simp only [scan, hp]]
      rw [hp] at f0
      have b0 : Bp [some (.dat (.list ((l :: ls).map PyData.str))), some (.dat .none), some (.cell S0.length), some (.dat (.int 0)), some (.dat (.str l)), none] (S0 ++ [cellR []]) = .ret (.dat (.int 0)) (S0 ++ [cellR []]) := by
        unfold Bp BpF
        exact (mifS_t t0).trans ((mseq_n f0).trans ((mifS_t rfl).trans (mret_r rfl)))
      rw [b0] at st
      exact mclean_ok (J := [cellR []]) (mfun_ret rfl (by rw [hb]; exact (mseq_n e0).trans (mseq_r (e2.trans st))))
    | some p =>
      rw [show scan (l :: ls) = scanR 1 p [] ls by simp only [scan, hp]]
      rw [hp] at f0
      have b0 : Bp [some (.dat (.list ((l :: ls).map PyData.str))), some (.dat .none), some (.cell S0.length), some (.dat (.int 0)), some (.dat (.str l)), none] (S0 ++ [cellR []]) = .next [some (.dat (.list ((l :: ls).map PyData.str))), some (.dat (.int p)), some (.cell S0.length), some (.dat (.int 0)), some (.dat (.str l)), none] (S0 ++ [cellR []]) := by
        unfold Bp BpF
        exact (mifS_t t0).trans ((mseq_n f0).trans ((mifS_f rfl).trans rfl))
      rw [b0] at st
      obtain ⟨rs', h1, h2⟩ := go_p (S0 := S0) (a0 := some (.dat (.list ((l :: ls).map PyData.str)))) (p := p) ls 1 [] (some (.dat (.int 0))) (some (.dat (.str l))) none (Nat.le_refl _) (by decide) fun z hz => hl z (List.mem_cons_of_mem _ hz)
      cases hs : scanR 1 p [] ls with
      | inl k => exact mclean_ok (J := [cellR rs']) (mfun_ret rfl (by rw [hb]; exact (mseq_n e0).trans (mseq_r (e2.trans (st.trans (h1 k hs))))))
      | inr q =>
        obtain ⟨m, h3⟩ := h2 q hs
        exact mclean_ok (J := [cellR rs']) (mfun_ret rfl (by rw [hb]; exact (mseq_n e0).trans ((mseq_n (e2.trans (st.trans h3))).trans (mret_r rfl))))

/-! ### the law's loop -/
noncomputable def BlR : SM := (mseq (masg (mcall m__law_row (mcons (mvar 5) (mcons (mvar 2) mnil))) (gset 7))
    (mseq (mifS (mor (mtest (mop (mIs) (mvar 7) (mcst .none))) (mor (mtest (mop (mD gEq) (mcall (mLen) (mcons (mvar 3) mnil)) (mcst (.int 32)))) (mand (mtest (mop (mD gNe) (mvar 3) (mlst mnil))) (mtest (mop (mD gGe) (mop mIx (mvar 3) (mneg (mcst (.int 1)))) (mvar 7)))))) (mret (mvar 4)) mskip)
    (mexpr (mlistM gApp (mvar 3) (mcons (mvar 7) mnil)))))
noncomputable def BlT : EM := mlc (mrng2 (mcons (mcst (.int 1)) (mcons (mcst (.int 7)) mnil))) (gset 8) (mtest (mop (mD gEq) (mvar 5) (mop (mAdd) (mcst (.str "points ")) (mcall (m1 gStr) (mcons (mvar 8) mnil))))) (mvar 8) (List.map (·.2) ([("many", 8)] : List (Str × Nat)))
noncomputable def BlF : SM := (mseq (masg BlT (gset 6)) (mseq (mifS (mtest (mop (mD gEq) (mvar 6) (mlst mnil))) (mret (mcst (.int 0))) mskip) (masg (mop mIx (mvar 6) (mcst (.int 0))) (gset 2))))
noncomputable def Bl : SM := mifS (mtest (mop (mD gEq) (mvar 4) (mcst (.int 0)))) BlF BlR
abbrev Gl' : GM := gtup 2 (gscons (gset 4) (gscons (gset 5) gsnil))
def Asc (z : Str) : Prop := ∀ c ∈ z.cps.toList, c < 128
theorem turn_l {S0 : Sto} {a0 a1 y6 y7 y8 : Option MV} {p : Int} {i : Nat} {l : Str} {rs : List (List Int)} (hi : 1 ≤ i) (hl : l.length ≤ 16777216) (ha : Asc l) (h32 : rs.length ≤ 32) :
    Bl [a0, a1, some (.dat (.int p)), some (.cell S0.length), some (.dat (.int (i : Nat))), some (.dat (.str l)), y6, y7, y8] (S0 ++ [cellR rs]) = match rowP l p with
      | none => .ret (.dat (.int (i : Nat))) (S0 ++ [cellR rs])
      | some r => if stop rs r = true then .ret (.dat (.int (i : Nat))) (S0 ++ [cellR rs]) else .next [a0, a1, some (.dat (.int p)), some (.cell S0.length), some (.dat (.int (i : Nat))), some (.dat (.str l)), y6, some (.dat (rowD (some r))), y8] (S0 ++ [cellR (rs ++ [r])]) := by
  have ht : mtest (mop (mD gEq) (mvar 4) (mcst (.int 0))) [a0, a1, some (.dat (.int p)), some (.cell S0.length), some (.dat (.int (i : Nat))), some (.dat (.str l)), y6, y7, y8] (S0 ++ [cellR rs]) = .ok false (S0 ++ [cellR rs]) :=
    test_ok ((mop_ok rfl rfl).trans (mD_ok (gEq_int.trans (by rw [decide_eq_false (show ¬ ((i : Nat) : Int) = 0 by omega)])) rfl))
  unfold Bl BlR
  refine (mifS_f ht).trans ((mseq_n (masg_n ((c2_ok rfl rfl).trans (lr_ok l p _ hl ha)))).trans ?_)
  cases hr : rowP l p with
  | none =>
    exact mseq_r ((mifS_t (cond_n (jw := 7) rfl _)).trans (mret_r rfl))
  | some r =>
    have c := cond_l (jr := 3) (jw := 7) (m := [a0, a1, some (.dat (.int p)), some (.cell S0.length), some (.dat (.int (i : Nat))), some (.dat (.str l)), y6, some (.dat (rowD (some r))), y8]) (S := S0 ++ [cellR rs]) (rs := rs) (r := r) rfl cell_get rfl
    cases hst : stop rs r with
    | true =>
      rw [hst] at c
      simp only [hst, if_true]
      exact mseq_r ((mifS_t c).trans (mret_r rfl))
    | false =>
      rw [hst] at c
      simp only [hst, Bool.false_eq_true, if_false]
      exact (mseq_n (mifS_f c)).trans (mexpr_n ((lm_ok rfl (tyM_cell cell_get) (a1_ok rfl)).trans (app_row h32)))
theorem go_l {S0 : Sto} {a0 a1 y6 y8 : Option MV} {p : Int} : ∀ (ls : List Str) (i : Nat) (rs : List (List Int)) (y4 y5 y7 : Option MV), 1 ≤ i → rs.length ≤ 32 → (∀ l ∈ ls, l.length ≤ 16777216 ∧ Asc l) →
    ∃ rs' : List (List Int), (∀ k, scanR i p rs ls = .inl k → mforGo Gl' Bl (enumD i (ls.map PyData.str)) [a0, a1, some (.dat (.int p)), some (.cell S0.length), y4, y5, y6, y7, y8] (S0 ++ [cellR rs]) = .ret (.dat (.int (k : Nat))) (S0 ++ [cellR rs'])) ∧
      (∀ q, scanR i p rs ls = .inr q → ∃ z4 z5 z7 : Option MV, mforGo Gl' Bl (enumD i (ls.map PyData.str)) [a0, a1, some (.dat (.int p)), some (.cell S0.length), y4, y5, y6, y7, y8] (S0 ++ [cellR rs]) = .next [a0, a1, some (.dat (.int p)), some (.cell S0.length), z4, z5, y6, z7, y8] (S0 ++ [cellR q]))
  | [], i, rs, y4, y5, y7, _, _, _ => ⟨rs, fun k h => by simp [scanR] at h, fun q h => by simp [scanR] at h; subst h; exact ⟨_, _, _, rfl⟩⟩
  | l :: ls, i, rs, y4, y5, y7, hi, h32, hl => by
    have t := turn_l (S0 := S0) (a0 := a0) (a1 := a1) (y6 := y6) (y7 := y7) (y8 := y8) (p := p) hi (hl l (List.mem_cons_self ..)).1 (hl l (List.mem_cons_self ..)).2 h32
    have st : mforGo Gl' Bl (enumD i ((l :: ls).map PyData.str)) [a0, a1, some (.dat (.int p)), some (.cell S0.length), y4, y5, y6, y7, y8] (S0 ++ [cellR rs]) =
        (Bl [a0, a1, some (.dat (.int p)), some (.cell S0.length), some (.dat (.int (i : Nat))), some (.dat (.str l)), y6, y7, y8] (S0 ++ [cellR rs])).and (mforGo Gl' Bl (enumD (i + 1) (ls.map PyData.str))) := rfl
    rw [st, t]
    unfold scanR
    cases hr : rowP l p with
    | none => exact ⟨rs, fun k h => by cases h; rfl, fun q h => by cases h⟩
    | some r =>
      cases hst : stop rs r with
      | true =>
        simp only [hst, if_true]
        exact ⟨rs, fun k h => by cases h; rfl, fun q h => by cases h⟩
      | false =>
        simp only [hst, Bool.false_eq_true, if_false]
        have hn : rs.length ≠ 32 := fun z => by simp [stop, z] at hst
        obtain ⟨rs', h1, h2⟩ := go_l ls (i + 1) (rs ++ [r]) (some (.dat (.int (i : Nat)))) (some (.dat (.str l))) (some (.dat (rowD (some r)))) (by omega) (by simp; omega) fun z hz => hl z (List.mem_cons_of_mem _ hz)
        exact ⟨rs', h1, h2⟩
theorem blT_ok {m : Sl} {S : Sto} {l : Str} (hl : m[5]? = some (some (.dat (.str l)))) (hm : m.length = 9) : BlT m S = .ok (.dat (.list ((six.filter (isPts l)).map PyData.int))) S := by
  have h5 : (mwipe m [8])[5]? = some (some (.dat (.str l))) := by
    show (m.set 8 none)[5]? = _
    rw [List.getElem?_set_ne (by decide)]
    exact hl
  have q := lc_filter (m := m) (S := S) (g := gset 8) (t := mtest (mop (mD gEq) (mvar 5) (mop (mAdd) (mcst (.str "points ")) (mcall (m1 gStr) (mcons (mvar 8) mnil))))) (e := mvar 8) (vs := [8]) (p := fun x => match x with | .dat (.int p) => isPts l p | _ => false) (f := fun x => match x with | .dat d => d | _ => .none)
    (it := mrng2 (mcons (mcst (.int 1)) (mcons (mcst (.int 7)) mnil))) rng6' (by decide) fun x hx => by
    obtain ⟨p, hp, rfl⟩ := List.mem_map.mp hx
    have e8 : ((mwipe m [8]).set 8 (some (.dat (.int p))))[8]? = some (some (.dat (.int p))) := List.getElem?_set_self (by show 8 < (m.set 8 none).length; rw [List.length_set, hm]; decide)
    refine ⟨_, rfl, ptest (i := 5) (j := 8) (by rw [List.getElem?_set_ne (by decide)]; exact h5) e8 hp, ?_⟩
    simp only [mvar, e8]
  have q2 : (((six.map fun p => MV.dat (.int p)).filter (fun x => match x with | MV.dat (.int p) => isPts l p | _ => false)).map fun x => match x with | MV.dat d => d | _ => PyData.none) = (six.filter (isPts l)).map PyData.int := by
    simp [List.filter_map, Function.comp_def]
  rw [q2] at q
  exact q
theorem ptl_head (l : Str) : ptl l = (six.filter (isPts l)).head? := (List.head?_filter ..).symm
end K86
end

section
set_option Elab.async false
set_option linter.all false
set_option maxRecDepth 100000
set_option maxHeartbeats 2000000
namespace K86
open PySem PX
theorem cut_front (ls : List PyData) : cutD ls none (some (-1)) = ls.dropLast := by
  unfold cutD HT.sIx
  simp only []
  rw [if_pos (by decide), List.dropLast_eq_take]
  simp only [List.drop_zero, Nat.sub_zero]
  congr 1
  omega
theorem atI_last {ls : List PyData} {z : PyData} (h : ls.getLast? = some z) : L2.atI ls (-1) = some z := by
  have h1 : 0 < ls.length := by
    cases ls with
    | nil => cases h
    | cons _ _ => simp
  unfold L2.atI L2.ixN
  rw [if_neg (by decide), if_pos (by omega)]
  show ls[(-1 + (ls.length : Int)).toNat]? = _
  rw [show (-1 + (ls.length : Int)).toNat = ls.length - 1 by omega, ← List.getLast?_eq_getElem?]
  exact h
theorem scanR_len : ∀ (ls : List Str) (i : Nat) (p : Int) (rs q : List (List Int)), scanR i p rs ls = .inr q → q.length = rs.length + ls.length
  | [], i, p, rs, q, h => by
    simp [scanR] at h
    subst h
    rfl
  | l :: ls, i, p, rs, q, h => by
    unfold scanR at h
    cases hr : rowP l p with
    | none => rw [hr] at h; cases h
    | some r =>
      rw [hr] at h
      cases hs : stop rs r with
      | true => simp only [hs, if_true] at h; cases h
      | false =>
        simp only [hs, Bool.false_eq_true, if_false] at h
        have := scanR_len ls _ p _ q h
        simp at this ⊢
        omega
theorem scan_len (ls : List Str) (q : List (List Int)) (h : scan ls = .inr q) : q.length = ls.length - 1 := by
  cases ls with
  | nil =>
    simp [scan] at h
    subst h
    rfl
  | cons l ls =>
    simp only [scan] at h
    cases hp : ptl l with
    | none => rw [hp] at h; cases h
    | some p =>
      rw [hp] at h
      have := scanR_len ls _ _ _ _ h
      simp at this ⊢
      omega
def wrongV (ls : List Str) : PyData := match scan ls.dropLast with
  | .inl k => .int (k : Nat)
  | .inr q => if ls.getLastD "" = ("" : Str) ∧ q ≠ [] then .none else .int ((ls.length : Int) - 1)
theorem last_str {ls : List Str} (h : ls ≠ []) : (ls.map PyData.str).getLast? = some (.str (ls.getLastD "")) := by
  rw [List.getLast?_map, List.getLast?_eq_some_getLast h]
  simp [List.getLastD_eq_getLast?, List.getLast?_eq_some_getLast h]
section
variable {S0 : Sto} {text : Str}
abbrev lns (text : Str) : List Str := Txt.split text "\n"
theorem lns_ne : lns text ≠ [] := by
  have := PyProof.Rows.split_pos text "\n"
  intro z
  have z' : Txt.split text "\n" = [] := z
  rw [z'] at this
  exact absurd this (by decide)
theorem split_ok {i : Nat} {m : Sl} {S : Sto} (hi : m[i]? = some (some (.dat (.str text)))) (h : text.length ≤ 16000000) : mtxt1 gSplit (mvar i) (mcst (.str "\n")) m S = .ok (.dat (.list ((lns text).map PyData.str))) S := by
  have e : mvar i m S = .ok (.dat (.str text)) S := by simp only [mvar, hi]
  have e1 : ((("\n" : Str).length == 0) = false ∧ text.length + 2 ≤ 16777216) := ⟨by decide +kernel, by omega⟩
  simp only [mtxt1, e, rb_ok, mcst, gSplit, e1, if_true, and_self]
theorem short {l : Str} (h : l ∈ lns text) : l.length ≤ text.length := PyProof.Rows.part_short h
theorem wb_ok (h : text.length ≤ 16000000) : m_wrong_by [.dat (.str text)] S0 = .ok (.dat (wrongV (lns text))) S0 := by
  have e0 := split_ok (text := text) (i := 0) (m := [some (.dat (.str text)), none, none]) (S := S0) rfl h
  have hw := wi_ok (lns text).dropLast S0 fun l hl => by
    have := short (text := text) ((List.dropLast_sublist _).subset hl)
    omega
  have e1 : mcall m_wrong_in (mcons (mslice (mvar 1) none (some (mneg (mcst (.int 1))))) mnil) [some (.dat (.str text)), some (.dat (.list ((lns text).map PyData.str))), none] S0 = .ok (.dat (match scan (lns text).dropLast with | .inl k => .int (k : Nat) | .inr _ => .none)) S0 := by
    refine (c1_ok ((mslice_eq rfl mpart_none (mpart_int rfl)).trans mCut_list)).trans ?_
    rw [cut_front, ← List.map_dropLast]
    exact hw
  have hb : b_wrong_by = mseq (masg (mtxt1 gSplit (mvar 0) (mcst (.str "\n"))) (gset 1)) (mseq (masg (mcall m_wrong_in (mcons (mslice (mvar 1) none (some (mneg (mcst (.int 1))))) mnil)) (gset 2))
    (mseq (mifS (mtest (mop (mIsNot) (mvar 2) (mcst .none))) (mret (mvar 2)) mskip)
    (mseq (mifS (mor (mtest (mop (mD gNe) (mop mIx (mvar 1) (mneg (mcst (.int 1)))) (mcst (.str "")))) (mtest (mop (mD gLt) (mcall (mLen) (mcons (mvar 1) mnil)) (mcst (.int 3))))) (mret (mop (mD gSubD) (mcall (mLen) (mcons (mvar 1) mnil)) (mcst (.int 1)))) mskip)
    (mret (mcst .none))))) := rfl
  refine mclean_ok0 (mfun_ret rfl ?_)
  rw [hb]
  refine (mseq_n (masg_n e0)).trans ((mseq_n (masg_n e1)).trans ?_)
  unfold wrongV
  cases hs : scan (lns text).dropLast with
  | inl k => exact mseq_r ((mifS_t rfl).trans (mret_r rfl))
  | inr q =>
    have hq := scan_len _ _ hs
    rw [List.length_dropLast] at hq
    refine (mseq_n (mifS_f rfl)).trans ?_
    have c1 : mtest (mop (mD gNe) (mop mIx (mvar 1) (mneg (mcst (.int 1)))) (mcst (.str ""))) [some (.dat (.str text)), some (.dat (.list ((lns text).map PyData.str))), some (.dat .none)] S0 = .ok (!decide ((lns text).getLastD "" = ("" : Str))) S0 :=
      test_ok ((mop_ok ((mop_ok rfl rfl).trans (mIx_list (atI_last (last_str lns_ne)))) rfl).trans (mD_ok gNe_str rfl))
    have c2 : mtest (mop (mD gLt) (mcall (mLen) (mcons (mvar 1) mnil)) (mcst (.int 3))) [some (.dat (.str text)), some (.dat (.list ((lns text).map PyData.str))), some (.dat .none)] S0 = .ok (decide ((((lns text).map PyData.str).length : Int) < 3)) S0 :=
      test_ok ((mop_ok ((c1_ok rfl).trans mLen_list) rfl).trans (mD_ok gLt_int rfl))
    have r1 : mret (mop (mD gSubD) (mcall (mLen) (mcons (mvar 1) mnil)) (mcst (.int 1))) [some (.dat (.str text)), some (.dat (.list ((lns text).map PyData.str))), some (.dat .none)] S0 = .ret (.dat (.int ((((lns text).map PyData.str).length : Int) - 1))) S0 :=
      mret_r ((mop_ok ((c1_ok rfl).trans mLen_list) rfl).trans (mD_ok rfl rfl))
    rw [List.length_map] at c2 r1
    by_cases h1 : (lns text).getLastD "" = ("" : Str)
    · rw [decide_eq_true h1] at c1
      by_cases h2 : ((lns text).length : Int) < 3
      · rw [decide_eq_true h2] at c2
        have : q = [] := by
          apply List.length_eq_zero_iff.mp
          omega
        simp only [if_neg (show ¬ ((lns text).getLastD "" = ("" : Str) ∧ q ≠ []) from fun z => z.2 this)]
        exact mseq_r ((mifS_t ((or_f c1).trans c2)).trans r1)
      · rw [decide_eq_false h2] at c2
        have : q ≠ [] := fun z => by
          rw [z] at hq
          simp at hq
          omega
        simp only [if_pos (show ((lns text).getLastD "" = ("" : Str) ∧ q ≠ []) from ⟨h1, this⟩)]
        exact (mseq_n (mifS_f ((or_f c1).trans c2))).trans (mret_r rfl)
    · rw [decide_eq_false h1] at c1
      simp only [if_neg (show ¬ ((lns text).getLastD "" = ("" : Str) ∧ q ≠ []) from fun z => h1 z.1)]
      exact mseq_r ((mifS_t (or_t c1)).trans r1)
end
end K86
end

section
set_option Elab.async false
set_option linter.all false
set_option maxRecDepth 100000
set_option maxHeartbeats 2000000
namespace K86
open PySem PX
theorem in_join (y : Str) : ∀ (parts : List Str) (p : Str) (c : Nat), p ∈ parts → c ∈ p.cps.toList → c ∈ (Str.join y parts).cps.toList
  | [], p, c, h, _ => by cases h
  | [x], p, c, h, hc => by
    rw [List.mem_singleton.mp h] at hc
    exact hc
  | x :: z :: r, p, c, h, hc => by
    show c ∈ (x ++ y ++ Str.join y (z :: r)).cps.toList
    have e : (x ++ y ++ Str.join y (z :: r)).cps.toList = x.cps.toList ++ y.cps.toList ++ (Str.join y (z :: r)).cps.toList := by
      simp [Str.cps_append]
    rw [e]
    rcases List.mem_cons.mp h with rfl | h
    · simp [hc]
    · simp [in_join y (z :: r) p c h hc]
theorem asc_lines {text l : Str} (h : Asc text) (hl : l ∈ lns text) : Asc l := fun c hc => by
  have := in_join "\n" (lns text) l c hl hc
  rw [show Str.join "\n" (lns text) = text from PySem.StrLaws.join_split text "\n"] at this
  exact h c this
section
variable {S0 : Sto} {text : Str}
theorem lw_ok (h : text.length ≤ 16000000) (ha : Asc text) : m__law_wrong [.dat (.str text)] S0 = .ok (.dat (wrongV (lns text))) S0 := by
  have hb : b__law_wrong = mseq (mpar3 1 2 3 (mcons (mtxt1 gSplit (mvar 0) (mcst (.str "\n"))) (mcons (mcst .none) (mcons (mlstC mnil) mnil))))
    (mseq (mfor (menum (mcons (mslice (mvar 1) none (some (mneg (mcst (.int 1))))) mnil)) Gl' Bl)
    (mret (mif (mand (mtest (mop (mD gEq) (mop mIx (mvar 1) (mneg (mcst (.int 1)))) (mcst (.str "")))) (mtest (mop (mD gNe) (mvar 3) (mlst mnil)))) (mcst .none) (mop (mD gSubD) (mcall (mLen) (mcons (mvar 1) mnil)) (mcst (.int 1)))))) := rfl
  have e0 := split_ok (text := text) (i := 0) (m := [some (.dat (.str text)), none, none, none, none, none, none, none, none]) (S := S0) rfl h
  have p0 : mpar3 1 2 3 (mcons (mtxt1 gSplit (mvar 0) (mcst (.str "\n"))) (mcons (mcst .none) (mcons (mlstC mnil) mnil))) [some (.dat (.str text)), none, none, none, none, none, none, none, none] S0 =
      .next [some (.dat (.str text)), some (.dat (.list ((lns text).map PyData.str))), some (.dat .none), some (.cell S0.length), none, none, none, none, none] (S0 ++ [cellR []]) :=
    mpar3_n (ac_ok e0 (ac_ok rfl (a1_ok (mlstC_ok an_ok (by decide)))))
  have en : menum (mcons (mslice (mvar 1) none (some (mneg (mcst (.int 1))))) mnil) [some (.dat (.str text)), some (.dat (.list ((lns text).map PyData.str))), some (.dat .none), some (.cell S0.length), none, none, none, none, none] (S0 ++ [cellR []]) = .ok (enumD 0 ((lns text).dropLast.map PyData.str)) (S0 ++ [cellR []]) := by
    have e : mcons (mslice (mvar 1) none (some (mneg (mcst (.int 1))))) mnil [some (.dat (.str text)), some (.dat (.list ((lns text).map PyData.str))), some (.dat .none), some (.cell S0.length), none, none, none, none, none] (S0 ++ [cellR []]) = .ok [.dat (.list ((lns text).dropLast.map PyData.str))] (S0 ++ [cellR []]) := by
      refine a1_ok (((mslice_eq rfl mpart_none (mpart_int rfl)).trans mCut_list).trans ?_)
      rw [cut_front, ← List.map_dropLast]
    simp only [menum, e, rb_ok, fz]
  -- the last line
  have fin : ∀ (q : List (List Int)) (m : Sl) (S : Sto), m[1]? = some (some (.dat (.list ((lns text).map PyData.str)))) → m[3]? = some (some (.cell S0.length)) → S = S0 ++ [cellR q] →
      mret (mif (mand (mtest (mop (mD gEq) (mop mIx (mvar 1) (mneg (mcst (.int 1)))) (mcst (.str "")))) (mtest (mop (mD gNe) (mvar 3) (mlst mnil)))) (mcst .none) (mop (mD gSubD) (mcall (mLen) (mcons (mvar 1) mnil)) (mcst (.int 1)))) m S =
        .ret (.dat (if (lns text).getLastD "" = ("" : Str) ∧ q ≠ [] then .none else .int (((lns text).length : Int) - 1))) S := by
    intro q m S h1 h3 hS
    have v1 : mvar 1 m S = .ok (.dat (.list ((lns text).map PyData.str))) S := by simp only [mvar, h1]
    have c1 : mtest (mop (mD gEq) (mop mIx (mvar 1) (mneg (mcst (.int 1)))) (mcst (.str ""))) m S = .ok (decide ((lns text).getLastD "" = ("" : Str))) S :=
      test_ok ((mop_ok ((mop_ok v1 (show mneg (mcst (.int 1)) m S = .ok (.dat (.int (-1))) S from rfl)).trans (mIx_list (atI_last (last_str lns_ne)))) (show mcst (.str "") m S = .ok (.dat (.str "")) S from rfl)).trans (mD_ok gEq_str rfl))
    have c2 := cC (m := m) (S := S) (jr := 3) (g := S0.length) (rs := q) h3 (by rw [hS]; exact cell_get)
    have r1 : mop (mD gSubD) (mcall (mLen) (mcons (mvar 1) mnil)) (mcst (.int 1)) m S = .ok (.dat (.int ((((lns text).map PyData.str).length : Int) - 1))) S :=
      (mop_ok ((c1_ok v1).trans mLen_list) (show mcst (.int 1) m S = .ok (.dat (.int 1)) S from rfl)).trans (mD_ok rfl rfl)
    rw [List.length_map] at r1
    refine mret_r ?_
    by_cases k1 : (lns text).getLastD "" = ("" : Str)
    · rw [decide_eq_true k1] at c1
      by_cases k2 : q = []
      · subst k2
        rw [if_neg (fun z => z.2 rfl)]
        simp only [mif, (and_t c1).trans c2, rb_ok, List.isEmpty_nil, Bool.not_true, Bool.false_eq_true, if_false]
        exact r1
      · have hne : (!q.isEmpty) = true := by cases q with | nil => exact absurd rfl k2 | cons _ _ => rfl
        rw [if_pos ⟨k1, k2⟩]
        simp only [mif, (and_t c1).trans c2, rb_ok, hne, if_true]
        rfl
    · rw [decide_eq_false k1] at c1
      rw [if_neg (fun z => k1 z.1)]
      simp only [mif, and_f c1, rb_ok, Bool.false_eq_true, if_false]
      exact r1
  have e2 : mfor (menum (mcons (mslice (mvar 1) none (some (mneg (mcst (.int 1))))) mnil)) Gl' Bl [some (.dat (.str text)), some (.dat (.list ((lns text).map PyData.str))), some (.dat .none), some (.cell S0.length), none, none, none, none, none] (S0 ++ [cellR []]) =
      mforGo Gl' Bl (enumD 0 ((lns text).dropLast.map PyData.str)) [some (.dat (.str text)), some (.dat (.list ((lns text).map PyData.str))), some (.dat .none), some (.cell S0.length), none, none, none, none, none] (S0 ++ [cellR []]) := by
    unfold mfor
    rw [en, rg_ok]
  have hls : ∀ l ∈ (lns text).dropLast, l.length ≤ 16777216 ∧ Asc l := fun l hl => by
    have hm := (List.dropLast_sublist _).subset hl
    have := short (text := text) hm
    exact ⟨by omega, asc_lines ha hm⟩
  unfold wrongV
  cases hd : (lns text).dropLast with
  | nil =>
    rw [hd] at e2
    exact mclean_ok (J := [cellR []]) (mfun_ret rfl (by rw [hb]; exact (mseq_n p0).trans ((mseq_n (e2.trans rfl)).trans (fin [] _ _ rfl rfl rfl))))
  | cons l ls =>
    rw [hd] at e2 hls
    have st : mforGo Gl' Bl (enumD 0 ((l :: ls).map PyData.str)) [some (.dat (.str text)), some (.dat (.list ((lns text).map PyData.str))), some (.dat .none), some (.cell S0.length), none, none, none, none, none] (S0 ++ [cellR []]) =
        (Bl [some (.dat (.str text)), some (.dat (.list ((lns text).map PyData.str))), some (.dat .none), some (.cell S0.length), some (.dat (.int 0)), some (.dat (.str l)), none, none, none] (S0 ++ [cellR []])).and (mforGo Gl' Bl (enumD 1 (ls.map PyData.str))) := rfl
    have t0 : mtest (mop (mD gEq) (mvar 4) (mcst (.int 0))) [some (.dat (.str text)), some (.dat (.list ((lns text).map PyData.str))), some (.dat .none), some (.cell S0.length), some (.dat (.int 0)), some (.dat (.str l)), none, none, none] (S0 ++ [cellR []]) = .ok true (S0 ++ [cellR []]) := rfl
    have f0 := blT_ok (m := [some (.dat (.str text)), some (.dat (.list ((lns text).map PyData.str))), some (.dat .none), some (.cell S0.length), some (.dat (.int 0)), some (.dat (.str l)), none, none, none]) (S := S0 ++ [cellR []]) (l := l) rfl rfl
    have f1 := masg_n (i := 6) f0
    have c0 : mtest (mop (mD gEq) (mvar 6) (mlst mnil)) [some (.dat (.str text)), some (.dat (.list ((lns text).map PyData.str))), some (.dat .none), some (.cell S0.length), some (.dat (.int 0)), some (.dat (.str l)), some (.dat (.list ((six.filter (isPts l)).map PyData.int))), none, none] (S0 ++ [cellR []]) = .ok ((six.filter (isPts l)).map PyData.int).isEmpty (S0 ++ [cellR []]) :=
      test_ok ((mop_ok rfl (mlst_ok (ds := []) an_ok (by decide))).trans (mD_ok (gEq_nil (shp_ints _)) rfl))
    rw [List.isEmpty_map] at c0
    cases hp : ptl l with
    | none =>
      have hf : six.filter (isPts l) = [] := by
        rw [ptl_head] at hp
        exact List.head?_eq_none_iff.mp hp
      rw [show scan (l :: ls) = .inl 0 by simp only [scan, hp]]
      rw [hf] at c0 f1
      have b0 : Bl [some (.dat (.str text)), some (.dat (.list ((lns text).map PyData.str))), some (.dat .none), some (.cell S0.length), some (.dat (.int 0)), some (.dat (.str l)), none, none, none] (S0 ++ [cellR []]) = .ret (.dat (.int 0)) (S0 ++ [cellR []]) := by
        unfold Bl BlF
        exact (mifS_t t0).trans ((mseq_n f1).trans (mseq_r ((mifS_t c0).trans (mret_r rfl))))
      rw [b0] at st
      exact mclean_ok (J := [cellR []]) (mfun_ret rfl (by rw [hb]; exact (mseq_n p0).trans (mseq_r (e2.trans st))))
    | some p =>
      obtain ⟨r, hf⟩ : ∃ r, six.filter (isPts l) = p :: r := by
        rw [ptl_head] at hp
        cases h6 : six.filter (isPts l) with
        | nil => rw [h6] at hp; cases hp
        | cons a r => rw [h6] at hp; cases hp; exact ⟨r, rfl⟩
      rw [show scan (l :: ls) = scanR 1 p [] ls by simp only [scan, hp]]
      rw [hf] at c0 f1
      have b0 : Bl [some (.dat (.str text)), some (.dat (.list ((lns text).map PyData.str))), some (.dat .none), some (.cell S0.length), some (.dat (.int 0)), some (.dat (.str l)), none, none, none] (S0 ++ [cellR []]) =
          .next [some (.dat (.str text)), some (.dat (.list ((lns text).map PyData.str))), some (.dat (.int p)), some (.cell S0.length), some (.dat (.int 0)), some (.dat (.str l)), some (.dat (.list ((p :: r).map PyData.int))), none, none] (S0 ++ [cellR []]) := by
        unfold Bl BlF
        refine (mifS_t t0).trans ((mseq_n f1).trans ((mseq_n (mifS_f c0)).trans (masg_n ((mop_ok rfl rfl).trans (mIx_list ?_)))))
        rw [atI_in (by decide) (by simp)]
        rfl
      rw [b0] at st
      obtain ⟨rs', h1, h2⟩ := go_l (S0 := S0) (a0 := some (.dat (.str text))) (a1 := some (.dat (.list ((lns text).map PyData.str)))) (y6 := some (.dat (.list ((p :: r).map PyData.int)))) (y8 := none) (p := p) ls 1 [] (some (.dat (.int 0))) (some (.dat (.str l))) none (Nat.le_refl _) (by decide) fun z hz => hls z (List.mem_cons_of_mem _ hz)
      cases hs : scanR 1 p [] ls with
      | inl k => exact mclean_ok (J := [cellR rs']) (mfun_ret rfl (by rw [hb]; exact (mseq_n p0).trans (mseq_r (e2.trans (st.trans (h1 k hs))))))
      | inr q =>
        obtain ⟨z4, z5, z7, h3⟩ := h2 q hs
        exact mclean_ok (J := [cellR q]) (mfun_ret rfl (by rw [hb]; exact (mseq_n p0).trans ((mseq_n (e2.trans (st.trans h3))).trans (fin q _ _ rfl rfl rfl))))
/-! ### wrong_line, read_family -/
theorem isi_str (z : Str) (S : Sto) : mIsi [.dat (.str z), .cst (.ty "str")] S = .ok (.dat (.bool true)) S := by
  have e : L2.kitB "str" "str" = some true := by decide +kernel
  simp only [mIsi, tyM, tyD, e]
theorem wl_ok (h : text.length ≤ 16000000) : m_wrong_line [.dat (.str text)] S0 = .ok (.dat (wrongV (lns text))) S0 :=
  mclean_ok0 (mfun_ret rfl ((mseq_n (mifS_f ((not_ok (test_ok ((c2_ok rfl rfl).trans (isi_str _ _)))).trans rfl))).trans (mret_r ((c1_ok rfl).trans (wb_ok h)))))
theorem wrong_none {ls : List Str} (h : wrongV ls = .none) : ∃ l r p, ls = l :: r ∧ ptl l = some p := by
  unfold wrongV at h
  cases hs : scan ls.dropLast with
  | inl k => rw [hs] at h; cases h
  | inr q =>
    rw [hs] at h
    simp only [] at h
    split at h
    · rename_i hc
      cases ls with
      | nil => exact absurd (by simpa [scan] using hs) hc.2
      | cons l r =>
        cases r with
        | nil => exact absurd (by simpa [scan] using hs) hc.2
        | cons z r =>
          have hd : (l :: z :: r).dropLast = l :: (z :: r).dropLast := rfl
          rw [hd] at hs
          simp only [scan] at hs
          cases hp : ptl l with
          | none => rw [hp] at hs; cases hs
          | some p => exact ⟨l, z :: r, p, rfl, hp⟩
    · cases h
theorem rf_ok (h : text.length ≤ 16000000) : (wrongV (lns text) = .none → ∃ d, m_read_family [.dat (.str text)] S0 = .ok (.dat d) S0) ∧ (wrongV (lns text) ≠ .none → m_read_family [.dat (.str text)] S0 = .exc "InvalidText" (.dat (.str text)) S0) := by
  have hb : b_read_family = mseq (mifS (mor (mnot (mtest (mcall (mIsi) (mcons (mvar 0) (mcons (mcv (.ty "str")) mnil))))) (mtest (mop (mIsNot) (mcall m_wrong_by (mcons (mvar 0) mnil)) (mcst .none)))) (mraise "InvalidText" (mvar 0)) mskip)
    (mseq (masg (mtxt1 gSplit (mvar 0) (mcst (.str "\n"))) (gset 1))
    (mseq (masg (mcall m_points_told (mcons (mop mIx (mvar 1) (mcst (.int 0))) mnil)) (gset 2))
    (mret (mtup (mcons (mcst (.str "family")) (mcons (mvar 2) (mcons (mlc (miter (mslice (mvar 1) (some (mcst (.int 1))) (some (mneg (mcst (.int 1)))))) (gset 3) myes (mcall m_row_told (mcons (mvar 3) (mcons (mvar 2) mnil))) (List.map (·.2) ([("line", 3)] : List (Str × Nat)))) mnil))))))) := rfl
  have t1 : mnot (mtest (mcall (mIsi) (mcons (mvar 0) (mcons (mcv (.ty "str")) mnil)))) [some (.dat (.str text)), none, none, none] S0 = .ok false S0 := (not_ok (test_ok ((c2_ok rfl rfl).trans (isi_str _ _)))).trans rfl
  have t2 : mtest (mop (mIsNot) (mcall m_wrong_by (mcons (mvar 0) mnil)) (mcst .none)) [some (.dat (.str text)), none, none, none] S0 = .ok (!isNone (.dat (wrongV (lns text)))) S0 :=
    test_ok ((mop_ok ((c1_ok rfl).trans (wb_ok h)) rfl).trans rfl)
  constructor
  · intro hn
    rw [hn] at t2
    obtain ⟨l, r, p, hl, hp⟩ := wrong_none hn
    have e0 := split_ok (text := text) (i := 0) (m := [some (.dat (.str text)), none, none, none]) (S := S0) rfl h
    have e1 : mcall m_points_told (mcons (mop mIx (mvar 1) (mcst (.int 0))) mnil) [some (.dat (.str text)), some (.dat (.list ((lns text).map PyData.str))), none, none] S0 = .ok (.dat (.int p)) S0 := by
      refine (c1_ok ((mop_ok rfl rfl).trans (mIx_list (d := .str l) ?_))).trans ((pt_ok l S0).trans (by rw [hp]; rfl))
      rw [hl, atI_in (by decide) (by simp)]
      rfl
    have e2 := lc_map (m := [some (.dat (.str text)), some (.dat (.list ((lns text).map PyData.str))), some (.dat (.int p)), none]) (S := S0) (S1 := S0) (g := gset 3) (e := mcall m_row_told (mcons (mvar 3) (mcons (mvar 2) mnil))) (vs := List.map (·.2) ([("line", 3)] : List (Str × Nat)))
      (f := fun x => match x with | .dat (.str z) => rowD (rowP z p) | _ => .none) (it := miter (mslice (mvar 1) (some (mcst (.int 1))) (some (mneg (mcst (.int 1)))))) (xs := (cutD ((lns text).map PyData.str) (some 1) (some (-1))).map MV.dat)
      (miter_list ((mslice_eq rfl (mpart_int rfl) (mpart_int rfl)).trans mCut_list)) (by
        rw [List.length_map]
        have a := cutD_len ((lns text).map PyData.str) (some 1) (some (-1))
        have b := PyProof.Rows.split_le text "\n"
        rw [List.length_map] at a
        have b' : (lns text).length ≤ text.length + 2 := b
        omega) fun x hx => by
      obtain ⟨d, hd, rfl⟩ := List.mem_map.mp hx
      obtain ⟨z, hz, rfl⟩ := List.mem_map.mp (cutD_mem hd)
      have := short (text := text) hz
      exact ⟨_, rfl, (c2_ok rfl rfl).trans (rt_ok z p S0 (by omega))⟩
    have fin := (mseq_n (mifS_f (f := mraise "InvalidText" (mvar 0)) (g := mskip) ((or_f t1).trans t2))).trans ((mseq_n (masg_n (i := 1) e0)).trans ((mseq_n (masg_n (i := 2) e1)).trans (mret_r (mtup_ok (ds := [.str "family", .int p, _]) (ac_ok (show mcst (.str "family") _ _ = .ok _ _ from rfl) (ac_ok (show mvar 2 _ _ = .ok _ _ from rfl) (a1_ok e2))) (by simp)))))
    rw [← hb] at fin
    exact ⟨_, mclean_ok0 (mfun_ret rfl fin)⟩
  · intro hn
    have hf : isNone (.dat (wrongV (lns text))) = false := by
      cases hw : wrongV (lns text) with
      | none => exact absurd hw hn
      | _ => rfl
    rw [hf] at t2
    have fin := mseq_e (g := (mseq (masg (mtxt1 gSplit (mvar 0) (mcst (.str "\n"))) (gset 1))
      (mseq (masg (mcall m_points_told (mcons (mop mIx (mvar 1) (mcst (.int 0))) mnil)) (gset 2))
      (mret (mtup (mcons (mcst (.str "family")) (mcons (mvar 2) (mcons (mlc (miter (mslice (mvar 1) (some (mcst (.int 1))) (some (mneg (mcst (.int 1)))))) (gset 3) myes (mcall m_row_told (mcons (mvar 3) (mcons (mvar 2) mnil))) (List.map (·.2) ([("line", 3)] : List (Str × Nat)))) mnil))))))))
      ((mifS_t (f := mraise "InvalidText" (mvar 0)) (g := mskip) ((or_f t1).trans t2)).trans (show mraise "InvalidText" (mvar 0) _ S0 = .exc "InvalidText" (.dat (.str text)) _ S0 from rfl))
    rw [← hb] at fin
    exact mclean_exc (mfun_exc rfl fin)
end
end K86
end

section
set_option Elab.async false
set_option linter.all false
set_option maxRecDepth 100000
set_option maxHeartbeats 2000000
namespace K86
open PySem PX
/-! ### all rows -/
def ext (r : List Int) : List (List Int) := [r ++ [0], r ++ [1]]
def allR : Nat → List (List Int)
  | 0 => [[]]
  | n + 1 => (allR n).flatMap ext
theorem flat_len : ∀ xs : List (List Int), (xs.flatMap ext).length = 2 * xs.length
  | [] => rfl
  | x :: xs => by
    rw [List.flatMap_cons, List.length_append, flat_len xs]
    simp [ext]
    omega
theorem allR_len : ∀ n, (allR n).length = 2 ^ n
  | 0 => rfl
  | n + 1 => by
    show ((allR n).flatMap ext).length = _
    rw [flat_len, allR_len n, Nat.pow_succ]
    omega
theorem allR_row : ∀ (n : Nat) (r : List Int), r ∈ allR n → r.length = n ∧ ∀ x ∈ r, x = 0 ∨ x = 1
  | 0, r, h => by
    simp [allR] at h
    subst h
    simp
  | n + 1, r, h => by
    obtain ⟨q, hq, hr⟩ := List.mem_flatMap.mp (show r ∈ (allR n).flatMap ext from h)
    obtain ⟨h1, h2⟩ := allR_row n q hq
    simp [ext] at hr
    rcases hr with rfl | rfl
    · refine ⟨by simp [h1], fun x hx => ?_⟩
      rcases List.mem_append.mp hx with hx | hx
      · exact h2 x hx
      · simp at hx
        exact .inl hx
    · refine ⟨by simp [h1], fun x hx => ?_⟩
      rcases List.mem_append.mp hx with hx | hx
      · exact h2 x hx
      · simp at hx
        exact .inr hx
noncomputable def Bai : SM := masg (mop (mAdd) (mvar 3) (mlst (mcons (mop (mAdd) (mvar 4) (mlst (mcons (mcst (.int 0)) mnil))) (mcons (mop (mAdd) (mvar 4) (mlst (mcons (mcst (.int 1)) mnil))) mnil)))) (gset 3)
noncomputable def Bao : SM := (mseq (masg (mlst mnil) (gset 3)) (mseq (mfor (miter (mvar 1)) (gset 4) Bai) (masg (mvar 3) (gset 1))))
theorem ai_go {S : Sto} {a f t : Option MV} : ∀ (xs acc : List (List Int)) (y : Option MV), acc.length + 2 * xs.length ≤ 1000 → (∀ r ∈ xs, r.length ≤ 100) →
    ∃ z, mforGo (gset 4) Bai ((rowsD xs).map MV.dat) [a, f, t, some (.dat (.list (rowsD acc))), y] S = .next [a, f, t, some (.dat (.list (rowsD (acc ++ xs.flatMap ext)))), z] S
  | [], acc, y, _, _ => ⟨y, by simp [rowsD, mforGo]⟩
  | r :: xs, acc, y, hl, hr => by
    obtain ⟨z, ih⟩ := ai_go (S := S) (a := a) (f := f) (t := t) xs (acc ++ ext r) (some (.dat (.list (r.map PyData.int)))) (by simp [ext] at hl ⊢; omega) fun q hq => hr q (List.mem_cons_of_mem _ hq)
    have hrl := hr r (List.mem_cons_self ..)
    have one : ∀ c : Int, mop (mAdd) (mvar 4) (mlst (mcons (mcst (.int c)) mnil)) [a, f, t, some (.dat (.list (rowsD acc))), some (.dat (.list (r.map PyData.int)))] S = .ok (.dat (.list ((r ++ [c]).map PyData.int))) S := fun c => by
      refine (mop_ok rfl (mlst_ok (ds := [.int c]) (a1_ok rfl) (by simp))).trans ((mAdd_list (by simp; omega)).trans ?_)
      simp
    have b : Bai [a, f, t, some (.dat (.list (rowsD acc))), some (.dat (.list (r.map PyData.int)))] S = .next [a, f, t, some (.dat (.list (rowsD (acc ++ ext r)))), some (.dat (.list (r.map PyData.int)))] S := by
      refine masg_n ((mop_ok rfl (mlst_ok (ds := rowsD (ext r)) (ac_ok (one 0) (a1_ok (one 1))) (by simp [rowsD, ext]))).trans ((mAdd_list (by simp [rowsD, ext] at hl ⊢; omega)).trans ?_))
      simp [rowsD]
    refine ⟨z, ?_⟩
    have st : mforGo (gset 4) Bai ((rowsD (r :: xs)).map MV.dat) [a, f, t, some (.dat (.list (rowsD acc))), y] S =
        (Bai [a, f, t, some (.dat (.list (rowsD acc))), some (.dat (.list (r.map PyData.int)))] S).and (mforGo (gset 4) Bai ((rowsD xs).map MV.dat)) := rfl
    rw [st, b, ra_next, ih, List.flatMap_cons, List.append_assoc]
theorem ao_go {S : Sto} {a : Option MV} : ∀ (ts : List MV) (j : Nat) (y2 y3 y4 : Option MV), j + ts.length ≤ 6 →
    ∃ z2 z3 z4, mforGo (gset 2) Bao ts [a, some (.dat (.list (rowsD (allR j)))), y2, y3, y4] S = .next [a, some (.dat (.list (rowsD (allR (j + ts.length))))), z2, z3, z4] S
  | [], j, y2, y3, y4, _ => ⟨y2, y3, y4, rfl⟩
  | t :: ts, j, y2, y3, y4, h => by
    have h' : j + 1 + ts.length ≤ 6 := by simp at h; omega
    have hj : (allR j).length ≤ 64 := by
      rw [allR_len]
      exact Nat.le_trans (Nat.pow_le_pow_right (by decide) (show j ≤ 6 by omega)) (by decide)
    obtain ⟨z, hz⟩ := ai_go (S := S) (a := a) (f := some (.dat (.list (rowsD (allR j))))) (t := some t) (allR j) [] y4 (by simp; omega) fun r hr => by
      rw [(allR_row j r hr).1]
      omega
    obtain ⟨z2, z3, z4, ih⟩ := ao_go (S := S) (a := a) ts (j + 1) (some t) (some (.dat (.list (rowsD (allR (j + 1)))))) z h'
    have b : Bao [a, some (.dat (.list (rowsD (allR j)))), some t, y3, y4] S = .next [a, some (.dat (.list (rowsD (allR (j + 1))))), some t, some (.dat (.list (rowsD (allR (j + 1))))), z] S := by
      refine (mseq_n (masg_n (mlst_ok (ds := rowsD []) an_ok (by decide)))).trans ((mseq_n (m1 := [a, some (.dat (.list (rowsD (allR j)))), some t, some (.dat (.list (rowsD (allR (j + 1))))), z]) (S1 := S) ?_).trans (masg_n rfl))
      have e : mfor (miter (mvar 1)) (gset 4) Bai [a, some (.dat (.list (rowsD (allR j)))), some t, some (.dat (.list (rowsD []))), y4] S = mforGo (gset 4) Bai ((rowsD (allR j)).map MV.dat) [a, some (.dat (.list (rowsD (allR j)))), some t, some (.dat (.list (rowsD []))), y4] S := by
        unfold mfor
        rw [miter_list (ds := rowsD (allR j)) rfl, rg_ok]
      exact e.trans (hz.trans (by rw [List.nil_append]; rfl))
    refine ⟨z2, z3, z4, ?_⟩
    have st : mforGo (gset 2) Bao (t :: ts) [a, some (.dat (.list (rowsD (allR j)))), y2, y3, y4] S = (Bao [a, some (.dat (.list (rowsD (allR j)))), some t, y3, y4] S).and (mforGo (gset 2) Bao ts) := rfl
    rw [st, b, ra_next, ih]
    rw [show j + 1 + ts.length = j + (t :: ts).length by simp; omega]
theorem ar_ok (n : Int) (h : 0 ≤ n ∧ n ≤ 6) (S : Sto) : m__law_all_rows [.dat (.int n)] S = .ok (.dat (.list (rowsD (allR n.toNat)))) S := by
  have hb : b__law_all_rows = mseq (masg (mlst (mcons (mlst mnil) mnil)) (gset 1)) (mseq (mfor (mrng1 (mcons (mvar 0) mnil)) (gset 2) Bao) (mret (mvar 1))) := rfl
  have hs : smallI n = true := by
    unfold smallI
    exact decide_eq_true (by omega)
  obtain ⟨z2, z3, z4, g⟩ := ao_go (S := S) (a := some (.dat (.int n))) (nums 0 n.toNat) 0 none none none (by rw [nums_len]; omega)
  rw [nums_len, Nat.zero_add] at g
  have e : mfor (mrng1 (mcons (mvar 0) mnil)) (gset 2) Bao [some (.dat (.int n)), some (.dat (.list (rowsD (allR 0)))), none, none, none] S = mforGo (gset 2) Bao (nums 0 n.toNat) [some (.dat (.int n)), some (.dat (.list (rowsD (allR 0)))), none, none, none] S := by
    unfold mfor
    rw [mrng1_eq (a1_ok rfl) hs, rg_ok]
  have fin := (mseq_n (masg_n (i := 1) (mlst_ok (m := [some (.dat (.int n)), none, none, none, none]) (S := S) (ds := rowsD (allR 0)) (a1_ok (mlst_ok (ds := []) an_ok (by decide))) (by decide)))).trans ((mseq_n (e.trans g)).trans (mret_r (e := mvar 1) rfl))
  rw [← hb] at fin
  exact mclean_ok0 (mfun_ret rfl fin)
/-! ### an order drawn -/
def Step (g : Nat) (S S' : Sto) : Prop := ∃ a b c, S' = S.set g (genO a b c)
theorem step_refl {S : Sto} {g : Nat} {k : Int} (h : GenAt S g k) : Step g S S := by
  obtain ⟨a, b, c, hS, _⟩ := h
  refine ⟨a, b, c, ?_⟩
  refine List.ext_getElem? fun i => ?_
  by_cases hi : g = i
  · subst hi
    rw [List.getElem?_set_self (List.getElem?_eq_some_iff.mp hS).1]
    exact hS
  · rw [List.getElem?_set_ne hi]
theorem step_trans {S S1 S2 : Sto} {g : Nat} (h : Step g S S1) (h2 : Step g S1 S2) : Step g S S2 := by
  obtain ⟨a, b, c, rfl⟩ := h
  obtain ⟨a', b', c', rfl⟩ := h2
  exact ⟨a', b', c', ss_set⟩
theorem step_len {S S1 : Sto} {g : Nat} (h : Step g S S1) : S1.length = S.length := by
  obtain ⟨a, b, c, rfl⟩ := h
  exact List.length_set
theorem gen_app {S J : Sto} {g : Nat} {k : Int} (h : GenAt S g k) : GenAt (S ++ J) g k := by
  obtain ⟨a, b, c, hS, r⟩ := h
  exact ⟨a, b, c, by rw [List.getElem?_append_left (List.getElem?_eq_some_iff.mp hS).1]; exact hS, r⟩
theorem gen_mono {S : Sto} {g : Nat} {k k' : Int} (h : GenAt S g k) (hk : k ≤ k') : GenAt S g k' := by
  obtain ⟨a, b, c, hS, r1, r2, r3, r4⟩ := h
  exact ⟨a, b, c, hS, r1, r2, r3, by omega⟩
theorem gen_lt {S : Sto} {g : Nat} {k : Int} (h : GenAt S g k) : g < S.length := by
  obtain ⟨a, b, c, hS, _⟩ := h
  exact (List.getElem?_eq_some_iff.mp hS).1
/-- a draw beside other cells -/
theorem rnd_app {S J : Sto} {g : Nat} {k : Int} (hG : GenAt S g k) (hk : k < 1000000) (n : Int) (hn : 0 < n ∧ n < 500000000) :
    ∃ (r : Int) (S' : Sto), (0 ≤ r ∧ r < n) ∧ m__law_random [.cell g, .dat (.int n)] (S ++ J) = .ok (.dat (.int r)) (S' ++ J) ∧ GenAt S' g (k + 1) ∧ Step g S S' := by
  obtain ⟨r, a, b, c, h1, h2, h3⟩ := rnd_ok (gen_app (J := J) hG) hk n hn
  have hg := gen_lt hG
  have e : (S ++ J).set g (genO a b c) = S.set g (genO a b c) ++ J := List.set_append_left _ _ hg
  rw [e] at h2 h3
  refine ⟨r, _, h1, h2, ?_, a, b, c, rfl⟩
  obtain ⟨a', b', c', hS, q⟩ := h3
  rw [List.getElem?_append_left (by rw [List.length_set]; exact hg)] at hS
  exact ⟨a', b', c', hS, q⟩
theorem step_cut {S S' S2 : Sto} {g : Nat} (h : Step g S S') (e : S2.take S.length = S') (hl : S.length ≤ S2.length) : cutOk S S2 := by
  obtain ⟨a, b, c, rfl⟩ := h
  refine ⟨hl, fun i o hi ho => ?_⟩
  have ho' : (S.set g (genO a b c))[i]? = some o := by
    rw [← e, List.getElem?_take_of_lt hi]
    exact ho
  by_cases hig : g = i
  · subst hig
    rw [List.getElem?_set_self hi] at ho'
    cases ho'
    exact .inr (by simp [obScop, scops, scop, genO])
  · rw [List.getElem?_set_ne hig] at ho'
    exact .inl ho'
noncomputable def Bd : SM := mexpr (mlistM gApp (mvar 3) (mcons (mlistM gPopAt (mvar 2) (mcons (mcall m__law_random (mcons (mvar 0) (mcons (mcall (mLen) (mcons (mvar 2) mnil)) mnil))) mnil)) mnil))
noncomputable def Td : TM := mtest (mop (mD gNe) (mvar 2) (mlst mnil))
theorem rows_erase (ls : List (List Int)) (k : Nat) : (rowsD ls).eraseIdx k = rowsD (ls.eraseIdx k) := by
  unfold rowsD
  exact erase_map ..
theorem d_go {g : Nat} {a1 : Option MV} : ∀ (n fuel : Nat) (ls fs : List (List Int)) (S : Sto) (k : Int), ls.length = n → n < fuel → GenAt S g k → k + n < 900000 → fs.length + ls.length ≤ 1000 →
    ∃ (S' : Sto) (fs' : List (List Int)), mwhileGo Td Bd fuel [some (.cell g), a1, some (.cell S.length), some (.cell (S.length + 1))] (S ++ [cellR ls, cellR fs]) = .next [some (.cell g), a1, some (.cell S.length), some (.cell (S.length + 1))] (S' ++ [cellR [], cellR fs']) ∧
      Step g S S' ∧ GenAt S' g (k + n) ∧ fs'.length = fs.length + ls.length ∧ ∀ x ∈ fs', x ∈ fs ∨ x ∈ ls
  | _, 0, _, _, _, _, _, h, _, _, _ => absurd h (Nat.not_lt_zero _)
  | 0, fuel + 1, ls, fs, S, k, hn, _, hG, _, _ => by
    have e : ls = [] := List.length_eq_zero_iff.mp hn
    subst e
    have c := cC (m := [some (.cell g), a1, some (.cell S.length), some (.cell (S.length + 1))]) (S := S ++ [cellR [], cellR fs]) (jr := 2) (g := S.length) (rs := []) rfl gs_app
    refine ⟨S, fs, ?_, step_refl hG, by simpa using hG, by simp, fun x hx => .inl hx⟩
    unfold mwhileGo Td
    simp only [c, rg_ok, List.isEmpty_nil, Bool.not_true, Bool.false_eq_true, if_false]
  | n + 1, fuel + 1, ls, fs, S, k, hn, hf, hG, hk, hl => by
    have hg := gen_lt hG
    have hne : (!ls.isEmpty) = true := by cases ls with | nil => simp at hn | cons _ _ => rfl
    have c := cC (m := [some (.cell g), a1, some (.cell S.length), some (.cell (S.length + 1))]) (S := S ++ [cellR ls, cellR fs]) (jr := 2) (g := S.length) (rs := ls) rfl gs_app
    rw [hne] at c
    have hlen : (rowsD ls).length = n + 1 := by simp [rowsD, hn]
    obtain ⟨r, S1, hr, e1, hG1, hst⟩ := rnd_app (J := [cellR ls, cellR fs]) hG (by omega) ((rowsD ls).length : Int) (by omega)
    have hl1 := step_len hst
    have gl : (S1 ++ [cellR ls, cellR fs])[S.length]? = some (cellR ls) := by rw [← hl1]; exact gs_app
    have gl0 : (S ++ [cellR ls, cellR fs])[S.length]? = some (cellR ls) := gs_app
    have gf0 : (S ++ [cellR ls, cellR fs])[S.length + 1]? = some (cellR fs) := by simp
    have hri : r.toNat < ls.length := by omega
    have hy : ((rowsD ls).map MV.dat)[r.toNat]? = some (.dat (rowD (some ls[r.toNat]))) := by
      simp [rowsD, rowD, hri]
    have hix : L2.ixN ((rowsD ls).map MV.dat).length r = some r.toNat := by
      unfold L2.ixN
      rw [if_pos hr.1, if_pos (by rw [List.length_map]; omega)]
    have pop : gPopAt (.cell S.length) [.dat (.int r)] (S1 ++ [cellR ls, cellR fs]) = .ok (.dat (rowD (some ls[r.toNat]))) (S1 ++ [cellR (ls.eraseIdx r.toNat), cellR fs]) := by
      have hz : ((rowsD ls).map MV.dat).length ≤ 16777216 := by rw [List.length_map]; omega
      rw [popAt_ok gl hix hz hy]
      congr 1
      rw [← hl1]
      simp [cellR, erase_map, rows_erase]
    have gf1 : (S1 ++ [cellR (ls.eraseIdx r.toNat), cellR fs])[S.length + 1]? = some (cellR fs) := by rw [← hl1]; simp
    have app : gApp (.cell (S.length + 1)) [.dat (rowD (some ls[r.toNat]))] (S1 ++ [cellR (ls.eraseIdx r.toNat), cellR fs]) = .ok (.dat .none) (S1 ++ [cellR (ls.eraseIdx r.toNat), cellR (fs ++ [ls[r.toNat]])]) := by
      rw [app_ok' gf1 (by simp only [rowsD, List.length_map]; omega)]
      congr 1
      rw [← hl1]
      simp [cellR, rowsD, rowD]
    have b : Bd [some (.cell g), a1, some (.cell S.length), some (.cell (S.length + 1))] (S ++ [cellR ls, cellR fs]) = .next [some (.cell g), a1, some (.cell S.length), some (.cell (S.length + 1))] (S1 ++ [cellR (ls.eraseIdx r.toNat), cellR (fs ++ [ls[r.toNat]])]) :=
      mexpr_n ((lm_ok rfl (tyM_cell gf0) (a1_ok ((lm_ok rfl (tyM_cell gl0) (a1_ok ((c2_ok rfl ((c1_ok rfl).trans (mLen_cell gl0 (allD_dat _)))).trans e1))).trans pop))).trans app)
    obtain ⟨S', fs', h1, h2, h3, h4, h5⟩ := d_go n fuel (ls.eraseIdx r.toNat) (fs ++ [ls[r.toNat]]) S1 (k + 1) (by rw [List.length_eraseIdx_of_lt hri]; omega) (by omega) hG1 (by omega) (by rw [List.length_eraseIdx_of_lt hri]; simp; omega)
    rw [hl1] at h1
    refine ⟨S', fs', ?_, step_trans hst h2, gen_mono h3 (by omega), by rw [h4, List.length_eraseIdx_of_lt hri]; simp; omega, fun x hx => ?_⟩
    · show mwhileGo Td Bd (fuel + 1) _ _ = _
      unfold mwhileGo
      unfold Td at h1 ⊢
      simp only [c, rg_ok, if_true, b, ra_next]
      exact h1
    · rcases h5 x hx with h | h
      · rcases List.mem_append.mp h with h | h
        · exact .inl h
        · rw [List.mem_singleton.mp h]
          exact .inr (List.getElem_mem hri)
      · exact .inr (List.mem_of_mem_eraseIdx h)
theorem do_ok {g : Nat} {S : Sto} {k : Int} (hG : GenAt S g k) (hk : k < 800000) (ls : List (List Int)) (hl : ls.length ≤ 64) :
    ∃ (S' : Sto) (fs : List (List Int)), m__law_drawn_order [.cell g, .dat (.list (rowsD ls))] S = .ok (.dat (.list (rowsD fs))) S' ∧ Step g S S' ∧ GenAt S' g (k + ls.length) ∧ fs.length = ls.length ∧ ∀ x ∈ fs, x ∈ ls := by
  have hb : b__law_drawn_order = mseq (mpar 2 3 (mcons (mcall (mListC) (mcons (mvar 1) mnil)) (mcons (mlstC mnil) mnil))) (mseq (mwhile 100 Td Bd) (mret (mvar 3))) := rfl
  obtain ⟨S', fs, h1, h2, h3, h4, h5⟩ := d_go (g := g) (a1 := some (.dat (.list (rowsD ls)))) ls.length 100 ls [] S k rfl (by omega) hG (by omega) (by simp; omega)
  have hl1 := step_len h2
  have p0 : mpar 2 3 (mcons (mcall (mListC) (mcons (mvar 1) mnil)) (mcons (mlstC mnil) mnil)) [some (.cell g), some (.dat (.list (rowsD ls))), none, none] S = .next [some (.cell g), some (.dat (.list (rowsD ls))), some (.cell S.length), some (.cell (S.length + 1))] (S ++ [cellR ls, cellR []]) := by
    refine (mpar_n (ac_ok ((c1_ok rfl).trans (show mListC [.dat (.list (rowsD ls))] S = .ok (.cell S.length) (S ++ [cellR ls]) from rfl)) (a1_ok (mlstC_ok an_ok (by decide))))).trans ?_
    simp [cellR, rowsD]
  have fin := (mseq_n p0).trans ((mseq_n (show mwhile 100 Td Bd _ _ = _ from h1)).trans (mret_r (e := mvar 3) rfl))
  rw [← hb] at fin
  have gf : (S' ++ [cellR [], cellR fs])[S.length + 1]? = some (cellR fs) := by rw [← hl1]; simp
  have hfz : fz (S' ++ [cellR [], cellR fs]) (.cell (S.length + 1)) = some (.list (rowsD fs), (S' ++ [cellR [], cellR fs]).set (S.length + 1) (.dead (.list (rowsD fs)))) := fz_cell gf (allD_dat _)
  have ht : ((S' ++ [cellR [], cellR fs]).set (S.length + 1) (.dead (.list (rowsD fs)))).take S.length = S' := by
    rw [← hl1, List.set_append_right _ _ (by omega), List.take_left' rfl]
  refine ⟨S', fs, (mclean_ok' (mfun_ret rfl fin) hfz (step_cut h2 ht (by simp; omega))).trans (by rw [ht]), h2, h3, by simpa using h4, fun x hx => (h5 x hx).resolve_left (by simp)⟩
end K86
end

section
set_option Elab.async false
set_option linter.all false
set_option maxRecDepth 100000
set_option maxHeartbeats 2000000
namespace K86
open PySem PX
/-! ### a family drawn -/
theorem alikeL_rows (xs : List (List Int)) : alikeL (rowsD xs) = true := by
  unfold alikeL
  rw [List.all_eq_true]
  intro d hd
  rw [List.all_eq_true]
  intro e he
  obtain ⟨a, _, rfl⟩ := List.mem_map.mp hd
  obtain ⟨b, _, rfl⟩ := List.mem_map.mp he
  simp [PySem.W.alike, alike_ints]
theorem srtOk_rows (xs : List (List Int)) : srtOk (rowsD xs) = true := by
  unfold srtOk
  rw [List.all_eq_true]
  intro d hd
  obtain ⟨a, _, rfl⟩ := List.mem_map.mp hd
  simp [PyData.depth, dep_ints]
theorem rows_back {xs : List (List Int)} : ∀ ds : List PyData, (∀ d ∈ ds, d ∈ rowsD xs) → ∃ ys, ds = rowsD ys ∧ ys.length = ds.length ∧ ∀ y ∈ ys, y ∈ xs
  | [], _ => ⟨[], rfl, rfl, fun y h => by cases h⟩
  | d :: ds, h => by
    obtain ⟨r, hr, rfl⟩ := List.mem_map.mp (h d (List.mem_cons_self ..))
    obtain ⟨ys, h1, h2, h3⟩ := rows_back ds fun e he => h e (List.mem_cons_of_mem _ he)
    refine ⟨r :: ys, by rw [h1]; rfl, by simp [h2], fun y hy => ?_⟩
    rcases List.mem_cons.mp hy with rfl | hy
    · exact hr
    · exact h3 y hy
theorem sort_rows (xs : List (List Int)) (S : Sto) : ∃ ys, mSorted [.dat (.list (rowsD xs))] S = .ok (.dat (.list (rowsD ys))) S ∧ ys.length = xs.length ∧ ∀ y ∈ ys, y ∈ xs := by
  have hp : (sortD (rowsD xs)).Perm (rowsD xs) := List.mergeSort_perm _ _
  obtain ⟨ys, h1, h2, h3⟩ := rows_back (sortD (rowsD xs)) fun d hd => hp.mem_iff.mp hd
  refine ⟨ys, ?_, by rw [h2, hp.length_eq]; simp [rowsD], h3⟩
  simp only [mSorted, look_dat, alikeL_rows, srtOk_rows, true_or, and_self, if_true, h1]
theorem rnd_st {S : Sto} {g : Nat} {k : Int} (hG : GenAt S g k) (hk : k < 1000000) (n : Int) (hn : 0 < n ∧ n < 500000000) :
    ∃ (r : Int) (S' : Sto), (0 ≤ r ∧ r < n) ∧ m__law_random [.cell g, .dat (.int n)] S = .ok (.dat (.int r)) S' ∧ GenAt S' g (k + 1) ∧ Step g S S' := by
  obtain ⟨r, a, b, c, h1, h2, h3⟩ := rnd_ok hG hk n hn
  exact ⟨r, _, h1, h2, h3, a, b, c, rfl⟩
/-- a def of data that makes a step -/
theorem mclean_step {f : FM} {xs : List MV} {S S' J : Sto} {d : PyData} {g : Nat} (h : f xs S = .ok (.dat d) (S' ++ J)) (hs : Step g S S') : mclean f xs S = .ok (.dat d) S' := by
  have hl := step_len hs
  refine (mclean_ok' h rfl (step_cut hs (by rw [← hl, List.take_left' rfl]) (by rw [List.length_append]; omega))).trans ?_
  rw [← hl, List.take_left' rfl]
theorem mclean_step0 {f : FM} {xs : List MV} {S S' : Sto} {d : PyData} {g : Nat} (h : f xs S = .ok (.dat d) S') (hs : Step g S S') : mclean f xs S = .ok (.dat d) S' := mclean_step (J := []) (by rw [h, List.append_nil]) hs
structure Fam (p : Int) (rs : List (List Int)) : Prop where
  p : 1 ≤ p ∧ p ≤ 5
  n : rs.length ≤ 12
  r : ∀ r ∈ rs, r.length ≤ 5 ∧ ∀ x ∈ r, x = 0 ∨ x = 1
abbrev famD (p : Int) (rs : List (List Int)) : PyData := .tuple [.str "family", .int p, .list (rowsD rs)]
theorem fam_ok {g : Nat} {S : Sto} {k : Int} (hG : GenAt S g k) (hk : k < 700000) : ∃ (S' : Sto) (p : Int) (rs : List (List Int)), m__law_family [.cell g, .dat (.int 5), .dat (.int 12)] S = .ok (.dat (famD p rs)) S' ∧ Step g S S' ∧ GenAt S' g (k + 70) ∧ Fam p rs := by
  obtain ⟨r1, S1, hr1, e1, G1, s1⟩ := rnd_st hG (by omega) 5 (by decide)
  have hp6 : 0 ≤ 1 + r1 ∧ 1 + r1 ≤ 6 := by omega
  have hlen : (allR (1 + r1).toNat).length ≤ 32 ∧ 2 ≤ (allR (1 + r1).toNat).length := by
    rw [allR_len]
    exact ⟨Nat.le_trans (Nat.pow_le_pow_right (by decide) (show (1 + r1).toNat ≤ 5 by omega)) (by decide), Nat.le_trans (by decide : 2 ≤ 2 ^ 1) (Nat.pow_le_pow_right (by decide) (show 1 ≤ (1 + r1).toNat by omega))⟩
  obtain ⟨S2, fs, e2, s2, G2, l2, m2'⟩ := do_ok G1 (by omega) (allR (1 + r1).toNat) (by omega)
  have hfl : (rowsD fs).length = fs.length := by simp [rowsD]
  have hmin : 0 < (if (12 : Int) < ((rowsD fs).length : Int) then (12 : Int) else ((rowsD fs).length : Int)) ∧ (if (12 : Int) < ((rowsD fs).length : Int) then (12 : Int) else ((rowsD fs).length : Int)) ≤ 12 := by
    split <;> omega
  obtain ⟨r3, S3, hr3, e3, G3, s3⟩ := rnd_st G2 (by omega) (if (12 : Int) < ((rowsD fs).length : Int) then (12 : Int) else ((rowsD fs).length : Int)) (by omega)
  have hcut : (cutD fs none (some (1 + r3))).length ≤ 12 := by
    unfold cutD HT.sIx
    rw [List.length_take]
    simp only []
    rw [if_neg (by omega)]
    omega
  obtain ⟨ys, e4, l4, m4⟩ := sort_rows (cutD fs none (some (1 + r3))) S3
  have mem : ∀ y ∈ ys, y ∈ allR (1 + r1).toNat := fun y hy => m2' y (cutD_mem (m4 y hy))
  refine ⟨S3, 1 + r1, ys, mclean_step0 (mfun_ret rfl ((mseq_n (masg_n ((mop_ok rfl ((c2_ok rfl rfl).trans e1)).trans rfl))).trans ((mseq_n (masg_n ((c2_ok rfl ((c1_ok rfl).trans (ar_ok (1 + r1) hp6 S1))).trans e2))).trans (mret_r (mtup_ok (ds := [.str "family", .int (1 + r1), .list (rowsD ys)]) (ac_ok rfl (ac_ok rfl (a1_ok ((c1_ok ((mslice_eq rfl mpart_none (mpart_int ((mop_ok rfl ((c2_ok rfl ((c2_ok ((c1_ok rfl).trans mLen_list) rfl).trans rfl)).trans e3)).trans rfl))).trans (mCut_list.trans (by rw [rowsD, cutD_map]; rfl)))).trans e4)))) (by simp)))))) (step_trans s1 (step_trans s2 s3)), step_trans s1 (step_trans s2 s3), gen_mono G3 (by omega), ⟨by omega, by omega, fun r hr => ?_⟩⟩
  obtain ⟨h1, h2⟩ := allR_row _ r (mem r hr)
  exact ⟨by omega, h2⟩
theorem pick_ok {g : Nat} {S : Sto} {k : Int} (hG : GenAt S g k) (hk : k < 900000) (ds : List PyData) (hd : 0 < ds.length ∧ ds.length < 1000) : ∃ (S' : Sto) (d : PyData), m__law_pick [.cell g, .dat (.list ds)] S = .ok (.dat d) S' ∧ d ∈ ds ∧ Step g S S' ∧ GenAt S' g (k + 1) := by
  obtain ⟨r, S1, hr, e, G1, s1⟩ := rnd_st hG (by omega) (ds.length : Int) (by omega)
  obtain ⟨d, hx, hm⟩ := atI_get hr.1 hr.2
  exact ⟨S1, d, mclean_step0 (mfun_ret rfl (mret_r ((mop_ok rfl ((c2_ok rfl ((c1_ok rfl).trans mLen_list)).trans e)).trans (mIx_list hx)))) s1, hm, s1, G1⟩
end K86
end

section
set_option Elab.async false
set_option linter.all false
set_option maxRecDepth 100000
set_option maxHeartbeats 2000000
namespace K86
open PySem PX
/-! ### texts: lengths and signs -/
theorem len0 : ("" : Str).length = 0 := by decide +kernel
theorem join0_len (ys : List Str) : (Txt.join "" ys).length = (ys.map (·.length)).sum := by
  have h := PySem.size_glued "" ys
  rw [len0, Nat.mul_zero, Nat.add_zero] at h
  exact h
theorem join0_mem : ∀ (ys : List Str) (c : Nat), c ∈ (Str.join "" ys).cps.toList → ∃ y ∈ ys, c ∈ y.cps.toList
  | [], c, h => by
    have : (Str.join "" []).cps.toList = [] := by decide +kernel
    rw [this] at h
    cases h
  | [x], c, h => ⟨x, List.mem_cons_self .., h⟩
  | x :: z :: r, c, h => by
    have h' : c ∈ (x ++ ("" : Str) ++ Str.join "" (z :: r)).cps.toList := h
    have e : (x ++ ("" : Str) ++ Str.join "" (z :: r)).cps.toList = x.cps.toList ++ ("" : Str).cps.toList ++ (Str.join "" (z :: r)).cps.toList := by simp [Str.cps_append]
    have e0 : ("" : Str).cps.toList = [] := by decide +kernel
    rw [e, e0, List.append_nil] at h'
    rcases List.mem_append.mp h' with h' | h'
    · exact ⟨x, List.mem_cons_self .., h'⟩
    · obtain ⟨y, hy, hc⟩ := join0_mem (z :: r) c h'
      exact ⟨y, List.mem_cons_of_mem _ hy, hc⟩
theorem join_is (y : Str) (ys : List Str) : Txt.join y ys = Str.join y ys := PySem.StrLaws.glued_eq_join y ys
theorem join0_asc {ys : List Str} (h : ∀ y ∈ ys, Asc y) : Asc (Txt.join "" ys) := fun c hc => by
  rw [join_is] at hc
  obtain ⟨y, hy, h2⟩ := join0_mem ys c hc
  exact h y hy c h2
theorem sum_le {n : Nat} : ∀ ys : List Str, (∀ y ∈ ys, y.length ≤ n) → (ys.map (·.length)).sum ≤ ys.length * n
  | [], _ => by simp
  | y :: ys, h => by
    have a := h y (List.mem_cons_self ..)
    have b := sum_le ys fun z hz => h z (List.mem_cons_of_mem _ hz)
    simp only [List.map_cons, List.sum_cons, List.length_cons, Nat.succ_mul]
    omega
theorem app_asc {a b : Str} (ha : Asc a) (hb : Asc b) : Asc (a ++ b) := fun c hc => by
  have e : (a ++ b).cps.toList = a.cps.toList ++ b.cps.toList := by simp [Str.cps_append]
  rw [e] at hc
  rcases List.mem_append.mp hc with h | h
  · exact ha c h
  · exact hb c h
theorem app_len (a b : Str) : (a ++ b).length = a.length + b.length := PySem.Str.length_append a b
theorem gJoin_ok {a : Str} {ys : List Str} {S : Sto} (h : (ys.map (·.length)).sum + ys.length * a.length ≤ 16777216) : gJoin a (.dat (.list (ys.map PyData.str))) S = .ok (.dat (.str (Txt.join a ys))) S := by
  simp only [gJoin, look_dat, strsD_map, h, if_true]
theorem join_ok {m : Sl} {S S1 : Sto} {e : EM} {ys : List Str} (h : e m S = .ok (.dat (.list (ys.map PyData.str))) S1) (hb : (ys.map (·.length)).sum ≤ 16777216) : mtxt1 gJoin (mcst (.str "")) e m S = .ok (.dat (.str (Txt.join "" ys))) S1 := by
  have := gJoin_ok (a := "") (ys := ys) (S := S1) (by rw [len0]; simpa using hb)
  simp only [mtxt1, mcst, rb_ok, h, this]
/-! ### words, text -/
def dg (i : Int) : Str := (toString i : Str)
def word (r : List Int) : Str := Txt.join "" (r.map dg)
theorem dg_ok {i : Int} (h : i = 0 ∨ i = 1) : (dg i).length = 1 ∧ Asc (dg i) := by
  rcases h with rfl | rfl
  · exact ⟨by decide +kernel, by unfold Asc; decide +kernel⟩
  · exact ⟨by decide +kernel, by unfold Asc; decide +kernel⟩
theorem word_ok {r : List Int} (h : ∀ x ∈ r, x = 0 ∨ x = 1) : (word r).length = r.length ∧ Asc (word r) := by
  constructor
  · unfold word
    rw [join0_len]
    induction r with
    | nil => rfl
    | cons x r ih =>
      have := ih fun y hy => h y (List.mem_cons_of_mem _ hy)
      simp only [List.map_cons, List.sum_cons, List.length_cons, (dg_ok (h x (List.mem_cons_self ..))).1, this]
      omega
  · refine join0_asc fun y hy => ?_
    obtain ⟨x, hx, rfl⟩ := List.mem_map.mp hy
    exact (dg_ok (h x hx)).2
theorem words_ok {r : List Int} (hl : r.length ≤ 100) (h : ∀ x ∈ r, x = 0 ∨ x = 1) (S : Sto) : m__law_words [.dat (.list (r.map PyData.int))] S = .ok (.dat (.str (word r))) S := by
  have q := lc_map (m := [some (.dat (.list (r.map PyData.int))), none]) (S := S) (S1 := S) (it := miter (mvar 0)) (g := gset 1) (e := mcall (m1 gStr) (mcons (mvar 1) mnil)) (vs := List.map (·.2) ([("label", 1)] : List (Str × Nat))) (f := fun x => match x with | .dat (.int i) => .str (dg i) | _ => .none)
    (miter_list (ds := r.map PyData.int) rfl) (by simp; omega) fun x hx => by
      obtain ⟨d, hd, rfl⟩ := List.mem_map.mp hx
      obtain ⟨i, hi, rfl⟩ := List.mem_map.mp hd
      refine ⟨_, rfl, (c1_ok rfl).trans ?_⟩
      have : i.natAbs.log2 < 1920 := by rcases h i hi with rfl | rfl <;> decide
      simp only [m1, look_dat, gStr, this, if_true]
      rfl
  have q2 : ((r.map PyData.int).map MV.dat).map (fun x => match x with | MV.dat (.int i) => PyData.str (dg i) | _ => .none) = (r.map dg).map PyData.str := by simp [Function.comp_def]
  rw [q2] at q
  have hs : ((r.map dg).map (·.length)).sum = r.length := by
    have := (word_ok h).1
    unfold word at this
    rw [join0_len] at this
    exact this
  exact mclean_ok0 (mfun_ret rfl (mret_r (join_ok q (by rw [hs]; omega))))
def tlines (p : Int) (rs : List (List Int)) : List Str := ((("points " : Str)) ++ dg p) :: rs.map word
def nl (l : Str) : Str := l ++ ("\n" : Str)
def txt (p : Int) (rs : List (List Int)) : Str := Txt.join "" ((tlines p rs).map nl)
theorem asc_nl : Asc ("\n" : Str) := by unfold Asc; decide +kernel
theorem len_nl : ("\n" : Str).length = 1 := by decide +kernel
theorem nl_ok {l : Str} (h : Asc l) : (nl l).length = l.length + 1 ∧ Asc (nl l) := ⟨by unfold nl; rw [app_len, len_nl], app_asc h asc_nl⟩
theorem pline {p : Int} (h : 1 ≤ p ∧ p ≤ 5) : (("points " : Str) ++ dg p).length ≤ 20 ∧ Asc (("points " : Str) ++ dg p) ∧ dg p = (toString p : Str) := by
  have : p = 1 ∨ p = 2 ∨ p = 3 ∨ p = 4 ∨ p = 5 := by omega
  rcases this with rfl | rfl | rfl | rfl | rfl <;> exact ⟨by decide +kernel, by unfold Asc; decide +kernel, rfl⟩
theorem tlines_ok {p : Int} {rs : List (List Int)} (F : Fam p rs) : ∀ l ∈ tlines p rs, l.length ≤ 20 ∧ Asc l := fun l hl => by
  rcases List.mem_cons.mp hl with rfl | hl
  · exact ⟨(pline F.p).1, (pline F.p).2.1⟩
  · obtain ⟨r, hr, rfl⟩ := List.mem_map.mp hl
    have a := word_ok (F.r r hr).2
    have b := (F.r r hr).1
    exact ⟨by omega, a.2⟩
theorem tlines_len {p : Int} {rs : List (List Int)} (F : Fam p rs) : (tlines p rs).length ≤ 13 := by
  have := F.n
  simp [tlines]
  omega
theorem txt_ok {p : Int} {rs : List (List Int)} (F : Fam p rs) : (((tlines p rs).map nl).map (·.length)).sum ≤ 300 ∧ (txt p rs).length ≤ 300 ∧ Asc (txt p rs) ∧ 10 ∈ (txt p rs).cps.toList := by
  have h1 : (((tlines p rs).map nl).map (·.length)).sum ≤ ((tlines p rs).map nl).length * 21 := sum_le _ fun y hy => by
    obtain ⟨l, hl, rfl⟩ := List.mem_map.mp hy
    have := tlines_ok F l hl
    rw [(nl_ok this.2).1]
    omega
  have h2 := tlines_len F
  rw [List.length_map] at h1
  have h3 : (((tlines p rs).map nl).map (·.length)).sum ≤ 300 := by omega
  refine ⟨h3, ?_, join0_asc fun y hy => ?_, ?_⟩
  · unfold txt
    rw [join0_len]
    exact h3
  · obtain ⟨l, hl, rfl⟩ := List.mem_map.mp hy
    exact (nl_ok (tlines_ok F l hl).2).2
  · unfold txt
    rw [join_is]
    refine in_join "" _ (nl (("points " : Str) ++ dg p)) 10 (List.mem_map.mpr ⟨_, List.mem_cons_self .., rfl⟩) ?_
    unfold nl
    rw [show ((("points " : Str) ++ dg p) ++ ("\n" : Str)).cps.toList = (("points " : Str) ++ dg p).cps.toList ++ ("\n" : Str).cps.toList by simp [Str.cps_append], show ("\n" : Str).cps.toList = [10] by decide +kernel]
    simp
/-- [line + '\n' for line in xs], joined -/
theorem nls_ok {m : Sl} {S S1 : Sto} {e : EM} {j : Nat} {ls : List Str} {vs : List Nat} (h : e m S = .ok (.dat (.list (ls.map PyData.str))) S1) (hj : j < (mwipe m vs).length) (hl : ls.length ≤ 10000) (hs : ∀ l ∈ ls, l.length ≤ 1000) :
    mtxt1 gJoin (mcst (.str "")) (mlc (miter e) (gset j) myes (mop (mAdd) (mvar j) (mcst (.str "\n"))) vs) m S = .ok (.dat (.str (Txt.join "" (ls.map nl)))) S1 := by
  have q := lc_map (m := m) (S := S) (S1 := S1) (it := miter e) (g := gset j) (e := mop (mAdd) (mvar j) (mcst (.str "\n"))) (vs := vs) (f := fun x => match x with | .dat (.str l) => .str (nl l) | _ => .none)
    (miter_list h) (by simp; omega) fun x hx => by
      obtain ⟨d, hd, rfl⟩ := List.mem_map.mp hx
      obtain ⟨l, hl', rfl⟩ := List.mem_map.mp hd
      have e1 : mvar j ((mwipe m vs).set j (some (.dat (.str l)))) S1 = .ok (.dat (.str l)) S1 := by simp only [mvar, List.getElem?_set_self hj]
      have := hs l hl'
      exact ⟨_, rfl, (mop_ok e1 rfl).trans (mAdd_str (by rw [len_nl]; omega))⟩
  have q2 : ((ls.map PyData.str).map MV.dat).map (fun x => match x with | MV.dat (.str l) => PyData.str (nl l) | _ => .none) = (ls.map nl).map PyData.str := by simp [Function.comp_def]
  rw [q2] at q
  have b := sum_le (n := 1001) (ls.map nl) fun y hy => by
    obtain ⟨l, hl', rfl⟩ := List.mem_map.mp hy
    have := hs l hl'
    unfold nl
    rw [app_len, len_nl]
    omega
  rw [List.length_map] at b
  have b2 : ls.length * 1001 ≤ 10000 * 1001 := Nat.mul_le_mul_right _ hl
  exact join_ok q (by omega)
theorem text_ok {p : Int} {rs : List (List Int)} (F : Fam p rs) (S : Sto) : m__law_text [.dat (famD p rs)] S = .ok (.dat (.str (txt p rs))) S := by
  have e1 : mcall (m1 gStr) (mcons (mop mIx (mvar 0) (mcst (.int 1))) mnil) [some (.dat (famD p rs)), none, none, none] S = .ok (.dat (.str (dg p))) S := by
    refine (c1_ok ((mop_ok rfl rfl).trans (mIx_tup (d := .int p) rfl))).trans ?_
    have : p.natAbs.log2 < 1920 := by
      have hp := F.p
      have : p = 1 ∨ p = 2 ∨ p = 3 ∨ p = 4 ∨ p = 5 := by omega
      rcases this with rfl | rfl | rfl | rfl | rfl <;> decide
    simp only [m1, look_dat, gStr, this, if_true]
    rfl
  have q := lc_map (m := [some (.dat (famD p rs)), none, none, none]) (S := S) (S1 := S) (it := miter (mop mIx (mvar 0) (mcst (.int 2)))) (g := gset 2) (e := mcall m__law_words (mcons (mvar 2) mnil)) (vs := List.map (·.2) ([("row", 2)] : List (Str × Nat)))
    (f := fun x => match x with | .dat (.list ds) => (match intsD ds with | some r => .str (word r) | none => .none) | _ => .none) (miter_list (ds := rowsD rs) ((mop_ok rfl rfl).trans (mIx_tup rfl))) (by have := F.n; simp [rowsD]; omega) fun x hx => by
      obtain ⟨d, hd, rfl⟩ := List.mem_map.mp hx
      obtain ⟨r, hr, rfl⟩ := List.mem_map.mp hd
      refine ⟨_, rfl, ?_⟩
      simp only [intsD_map]
      exact (c1_ok rfl).trans (words_ok (by have := (F.r r hr).1; omega) (F.r r hr).2 S)
  have q2 : ((rowsD rs).map MV.dat).map (fun x => match x with | MV.dat (.list ds) => (match intsD ds with | some r => PyData.str (word r) | none => .none) | _ => .none) = (rs.map word).map PyData.str := by
    simp [rowsD, Function.comp_def, intsD_map]
  rw [q2] at q
  have e2 := mlst_ok (ds := [.str (("points " : Str) ++ dg p)]) (a1_ok ((mop_ok (show mcst (.str "points ") [some (.dat (famD p rs)), none, none, none] S = .ok (.dat (.str "points ")) S from rfl) e1).trans (mAdd_str (by have := (pline F.p).1; rw [app_len] at this; omega)))) (by simp)
  have e3 := (mop_ok (g := mAdd) e2 q).trans (mAdd_list (by have := F.n; simp; omega))
  have fin := (mseq_n (masg_n (i := 1) e3)).trans (mret_r (nls_ok (m := [some (.dat (famD p rs)), some (.dat (.list ((tlines p rs).map PyData.str))), none, none]) (S := S) (S1 := S) (e := mvar 1) (j := 3) (ls := tlines p rs) (vs := List.map (·.2) ([("line", 3)] : List (Str × Nat))) rfl (by simp [mwipe]) (by have := tlines_len F; omega) fun l hl => by have := (tlines_ok F l hl).1; omega))
  exact mclean_ok0 (mfun_ret rfl fin)
end K86
end

section
set_option Elab.async false
set_option linter.all false
set_option maxRecDepth 100000
set_option maxHeartbeats 2000000
namespace K86
open PySem PX
def OkT (z : Str) : Prop := z.length ≤ 5000000 ∧ Asc z
theorem cutS_ok (z : Str) (lo hi : Option Int) (h : Asc z) : (L2.cutS z lo hi).length ≤ z.length ∧ Asc (L2.cutS z lo hi) := by
  constructor
  · unfold L2.cutS Str.length
    simp only [List.size_toArray, List.length_take, List.length_drop, Array.length_toList]
    omega
  · intro c hc
    unfold L2.cutS at hc
    simp only at hc
    exact h c (List.mem_of_mem_drop (List.mem_of_mem_take hc))
/-- what the lines of a text are -/
structure Lin (L : List Str) : Prop where
  n : 1 ≤ L.length ∧ L.length ≤ 400
  l : ∀ l ∈ L, l.length ≤ 300 ∧ Asc l
theorem lin_of {t : Str} (hl : t.length ≤ 300) (ha : Asc t) (h10 : 10 ∈ t.cps.toList) : Lin (lns t).dropLast := by
  have hs : ("\n" : Str) = ⟨#[10]⟩ := by decide +kernel
  have hle := PyProof.Rows.split_le t "\n"
  have h2 : 2 ≤ (lns t).length := by
    apply Classical.byContradiction
    intro hn
    have h1 : (lns t).length = 1 := by
      have := PyProof.Rows.split_pos t "\n"
      have h' : 1 ≤ (lns t).length := this
      omega
    obtain ⟨z, hz⟩ := List.length_eq_one_iff.mp h1
    have hj : Str.join "\n" (lns t) = t := PySem.StrLaws.join_split t "\n"
    rw [hz] at hj
    have hj' : z = t := hj
    have hf : ∀ p ∈ Txt.split t ⟨#[10]⟩, 10 ∉ p.cps.toList := PySem.StrLaws.split_free t 10
    rw [← hs] at hf
    refine hf z ?_ (by rw [hj']; exact h10)
    show z ∈ lns t
    rw [hz]
    exact List.mem_singleton.mpr rfl
  refine ⟨by rw [List.length_dropLast]; have : (lns t).length ≤ t.length + 2 := hle; omega, fun l hl' => ?_⟩
  have hm := (List.dropLast_sublist _).subset hl'
  have := short (text := t) hm
  exact ⟨by omega, asc_lines ha hm⟩
abbrev strL (L : List Str) : PyData := .list (L.map PyData.str)
theorem cut_strL (L : List Str) (lo hi : Option Int) (S : Sto) : mCut (.dat (strL L)) lo hi S = .ok (.dat (strL (cutD L lo hi))) S := by
  rw [mCut_list, cutD_map]
/-- a list of lines that the law joins -/
def LokL (L : List Str) : Prop := L.length ≤ 5000 ∧ ∀ l ∈ L, l.length ≤ 900 ∧ Asc l
theorem lok_cut {L : List Str} (h : LokL L) (lo hi : Option Int) : LokL (cutD L lo hi) := ⟨Nat.le_trans (cutD_len ..) h.1, fun l hl => h.2 l (cutD_mem hl)⟩
theorem join_lok {L : List Str} (h : LokL L) : OkT (Txt.join "" (L.map nl)) := by
  constructor
  · rw [join0_len]
    have b := sum_le (n := 901) (L.map nl) fun y hy => by
      obtain ⟨l, hl', rfl⟩ := List.mem_map.mp hy
      have := (h.2 l hl').1
      unfold nl
      rw [app_len, len_nl]
      omega
    rw [List.length_map] at b
    have : L.length * 901 ≤ 5000 * 901 := Nat.mul_le_mul_right _ h.1
    omega
  · refine join0_asc fun y hy => ?_
    obtain ⟨l, hl', rfl⟩ := List.mem_map.mp hy
    exact (nl_ok (h.2 l hl').2).2
/-- the cell of found texts -/
abbrev cellT (zs : List Str) : Ob := .lst ((zs.map PyData.str).map MV.dat)
theorem app_txt {S0 : Sto} {zs : List Str} {z : Str} (h : zs.length ≤ 1000) : gApp (.cell S0.length) [.dat (.str z)] (S0 ++ [cellT zs]) = .ok (.dat .none) (S0 ++ [cellT (zs ++ [z])]) := by
  rw [app_ok' gs_app (by simp; omega), cell_set]
  simp [cellT]
noncomputable def Bs : SM := mexpr (mlistM gApp (mvar 2) (mcons (mtxt1 gJoin (mcst (.str "")) (mlc (miter (mvar 4)) (gset 12) myes (mop (mAdd) (mvar 12) (mcst (.str "\n"))) (List.map (·.2) ([("line", 12)] : List (Str × Nat))))) mnil))
/-- the slots of _law_texts -/
abbrev sl (g : Nat) (f : PyData) (n : Nat) (l3 : Option MV) (s4 t5 : Option MV) (t : Str) (L : List Str) (a b c : Int) (h11 l12 : Option MV) : Sl :=
  [some (.cell g), some (.dat f), some (.cell n), l3, s4, t5, some (.dat (.str t)), some (.dat (strL L)), some (.dat (.int a)), some (.dat (.int b)), some (.dat (.int c)), h11, l12]
theorem s_go {g : Nat} {f : PyData} {l3 t5 h11 l12 : Option MV} {t : Str} {L : List Str} {a b c : Int} {S0 : Sto} : ∀ (xs : List (List Str)) (zs : List Str) (y : Option MV), (∀ x ∈ xs, LokL x) → zs.length + xs.length ≤ 900 →
    ∃ y' zs', mforGo (gset 4) Bs ((xs.map strL).map MV.dat) (sl g f S0.length l3 y t5 t L a b c h11 l12) (S0 ++ [cellT zs]) = .next (sl g f S0.length l3 y' t5 t L a b c h11 l12) (S0 ++ [cellT zs']) ∧ zs'.length = zs.length + xs.length ∧ ((∀ z ∈ zs, OkT z) → ∀ z ∈ zs', OkT z)
  | [], zs, y, _, _ => ⟨y, zs, rfl, rfl, fun h => h⟩
  | x :: xs, zs, y, hx, hl => by
    have h0 := hx x (List.mem_cons_self ..)
    have b0 : Bs (sl g f S0.length l3 (some (.dat (strL x))) t5 t L a b c h11 l12) (S0 ++ [cellT zs]) = .next (sl g f S0.length l3 (some (.dat (strL x))) t5 t L a b c h11 l12) (S0 ++ [cellT (zs ++ [Txt.join "" (x.map nl)])]) :=
      mexpr_n ((lm_ok rfl (tyM_cell gs_app) (a1_ok (nls_ok (e := mvar 4) (j := 12) (ls := x) rfl (by simp [mwipe]) (by have := h0.1; omega) fun l hl => by have := (h0.2 l hl).1; omega))).trans (app_txt (by simp at hl; omega)))
    obtain ⟨y', zs', h1, h2, h3⟩ := s_go (g := g) (f := f) (l3 := l3) (t5 := t5) (h11 := h11) (l12 := l12) (t := t) (L := L) (a := a) (b := b) (c := c) (S0 := S0) xs (zs ++ [Txt.join "" (x.map nl)]) (some (.dat (strL x))) (fun q hq => hx q (List.mem_cons_of_mem _ hq)) (by simp at hl ⊢; omega)
    refine ⟨y', zs', ?_, by rw [h2]; simp; omega, fun hz => h3 fun z hz' => ?_⟩
    · have st : mforGo (gset 4) Bs (((x :: xs).map strL).map MV.dat) (sl g f S0.length l3 y t5 t L a b c h11 l12) (S0 ++ [cellT zs]) =
          (Bs (sl g f S0.length l3 (some (.dat (strL x))) t5 t L a b c h11 l12) (S0 ++ [cellT zs])).and (mforGo (gset 4) Bs ((xs.map strL).map MV.dat)) := rfl
      rw [st, b0, ra_next, h1]
    · rcases List.mem_append.mp hz' with h | h
      · exact hz z h
      · rw [List.mem_singleton.mp h]
        exact join_lok h0
def six' : List PyData := [.str "0", .str "1", .str "2", .str " ", .str "\n", .str "p"]
noncomputable def Bt : SM := (mseq (masg (mcall m__law_random (mcons (mvar 0) (mcons (mcall (mLen) (mcons (mvar 6) mnil)) mnil))) (gset 11))
    (mexpr (mlistM gApp (mvar 2) (mcons (mop (mAdd) (mop (mAdd) (mslice (mvar 6) none (some (mvar 11))) (mcall m__law_pick (mcons (mvar 0) (mcons (mlst (mcons (mcst (.str "0")) (mcons (mcst (.str "1")) (mcons (mcst (.str "2")) (mcons (mcst (.str " ")) (mcons (mcst (.str "\n")) (mcons (mcst (.str "p")) mnil))))))) mnil)))) (mslice (mvar 6) (some (mop (mAdd) (mvar 11) (mcall m__law_random (mcons (mvar 0) (mcons (mcst (.int 2)) mnil))))) none)) mnil))))
theorem k_ok {d : PyData} {m : Sl} {S : Sto} : mcst d m S = .ok (.dat d) S := rfl
theorem step_split {S J S' : Sto} {g : Nat} {k : Int} (hg : g < S.length) (h : Step g (S ++ J) S') (hG : GenAt S' g k) : ∃ S1, S' = S1 ++ J ∧ Step g S S1 ∧ GenAt S1 g k := by
  obtain ⟨a, b, c, rfl⟩ := h
  have e : (S ++ J).set g (genO a b c) = S.set g (genO a b c) ++ J := List.set_append_left _ _ hg
  refine ⟨_, e, ⟨a, b, c, rfl⟩, ?_⟩
  rw [e] at hG
  obtain ⟨a', b', c', hS, q⟩ := hG
  rw [List.getElem?_append_left (by rw [List.length_set]; exact hg)] at hS
  exact ⟨a', b', c', hS, q⟩
theorem six_ok {d : PyData} (h : d ∈ six') : ∃ z : Str, d = .str z ∧ z.length = 1 ∧ Asc z := by
  simp only [six', List.mem_cons, List.not_mem_nil, or_false] at h
  rcases h with rfl | rfl | rfl | rfl | rfl | rfl <;> exact ⟨_, rfl, by decide +kernel, by unfold Asc; decide +kernel⟩
theorem t_turn {g : Nat} {f : PyData} {l3 s4 t5 h11 l12 : Option MV} {t : Str} {L : List Str} {a b c : Int} {S : Sto} {k : Int} {zs : List Str} (hG : GenAt S g k) (hk : k < 800000) (ht : 1 ≤ t.length ∧ t.length ≤ 300) (ha : Asc t) (hz : zs.length ≤ 990) :
    ∃ (S' : Sto) (z : Str) (y : Option MV), Bt (sl g f S.length l3 s4 t5 t L a b c h11 l12) (S ++ [cellT zs]) = .next (sl g f S.length l3 s4 t5 t L a b c y l12) (S' ++ [cellT (zs ++ [z])]) ∧ Step g S S' ∧ GenAt S' g (k + 3) ∧ OkT z := by
  have hg := gen_lt hG
  obtain ⟨r1, S1, hr1, e1, G1, s1⟩ := rnd_app (J := [cellT zs]) hG (by omega) (t.length : Int) (by omega)
  have l1 := step_len s1
  obtain ⟨S2', d, e2, hd, s2', G2'⟩ := pick_ok (gen_app (J := [cellT zs]) G1) (by omega) six' (by decide)
  obtain ⟨S2, rfl, s2, G2⟩ := step_split (by omega) s2' G2'
  have l2 := step_len s2
  obtain ⟨z, rfl, hzl, hza⟩ := six_ok hd
  obtain ⟨r3, S3, hr3, e3, G3, s3⟩ := rnd_app (J := [cellT zs]) G2 (by omega) 2 (by decide)
  have l3' := step_len s3
  have k1 := cutS_ok t none (some r1) ha
  have k2 := cutS_ok t (some (r1 + r3)) none ha
  have c1 : mslice (mvar 6) none (some (mvar 11)) (sl g f S.length l3 s4 t5 t L a b c (some (.dat (.int r1))) l12) (S1 ++ [cellT zs]) = .ok (.dat (.str (L2.cutS t none (some r1)))) (S1 ++ [cellT zs]) :=
    (mslice_eq rfl mpart_none (mpart_int rfl)).trans (mCut_str (by omega))
  have c2 : mslice (mvar 6) (some (mop (mAdd) (mvar 11) (mcall m__law_random (mcons (mvar 0) (mcons (mcst (.int 2)) mnil))))) none (sl g f S.length l3 s4 t5 t L a b c (some (.dat (.int r1))) l12) (S2 ++ [cellT zs]) = .ok (.dat (.str (L2.cutS t (some (r1 + r3)) none))) (S3 ++ [cellT zs]) :=
    (mslice_eq rfl (mpart_int ((mop_ok rfl ((c2_ok rfl rfl).trans e3)).trans rfl)) mpart_none).trans (mCut_str (by omega))
  have c3 := (mop_ok (g := mAdd) c1 ((c2_ok (f := mvar 0) rfl (mlst_ok (ds := six') (ac_ok k_ok (ac_ok k_ok (ac_ok k_ok (ac_ok k_ok (ac_ok k_ok (a1_ok k_ok)))))) (by decide))).trans e2)).trans (mAdd_str (by omega))
  have c4 := (mop_ok (g := mAdd) c3 c2).trans (mAdd_str (by rw [app_len]; omega))
  have hl : (S3 ++ [cellT zs])[S.length]? = some (cellT zs) := by
    rw [show S.length = S3.length by omega]
    exact gs_app
  have ap : gApp (.cell S.length) [.dat (.str (L2.cutS t none (some r1) ++ z ++ L2.cutS t (some (r1 + r3)) none))] (S3 ++ [cellT zs]) = .ok (.dat .none) (S3 ++ [cellT (zs ++ [L2.cutS t none (some r1) ++ z ++ L2.cutS t (some (r1 + r3)) none])]) := by
    rw [show S.length = S3.length by omega]
    exact app_txt (by omega)
  have ty : tyM (S1 ++ [cellT zs]) (.cell S.length) = some "list" := by
    rw [show S.length = S1.length by omega]
    exact tyM_cell gs_app
  have fin := (mseq_n (masg_n (i := 11) ((c2_ok (m := sl g f S.length l3 s4 t5 t L a b c h11 l12) (S := S ++ [cellT zs]) (f := mvar 0) (f2 := mcall (mLen) (mcons (mvar 6) mnil)) rfl ((c1_ok rfl).trans (mLen_str (by omega)))).trans e1))).trans (mexpr_n ((lm_ok (g := gApp) (fo := mvar 2) (m := sl g f S.length l3 s4 t5 t L a b c (some (.dat (.int r1))) l12) rfl ty (a1_ok c4)).trans ap))
  refine ⟨S3, _, _, fin, step_trans s1 (step_trans s2 s3), gen_mono G3 (by omega), by rw [app_len, app_len]; omega, app_asc (app_asc k1.2 hza) k2.2⟩
theorem t_go {g : Nat} {f : PyData} {l3 s4 l12 : Option MV} {t : Str} {L : List Str} {a b c : Int} (ht : 1 ≤ t.length ∧ t.length ≤ 300) (ha : Asc t) : ∀ (xs : List MV) (S : Sto) (k : Int) (zs : List Str) (t5 h11 : Option MV), GenAt S g k → k + 3 * xs.length < 700000 → zs.length + xs.length ≤ 980 →
    ∃ (S' : Sto) (zs' : List Str) (y y' : Option MV), mforGo (gset 5) Bt xs (sl g f S.length l3 s4 t5 t L a b c h11 l12) (S ++ [cellT zs]) = .next (sl g f S.length l3 s4 y t L a b c y' l12) (S' ++ [cellT zs']) ∧ Step g S S' ∧ GenAt S' g (k + 3 * xs.length) ∧ zs'.length = zs.length + xs.length ∧ ((∀ z ∈ zs, OkT z) → ∀ z ∈ zs', OkT z)
  | [], S, k, zs, t5, h11, hG, _, _ => ⟨S, zs, t5, h11, rfl, step_refl hG, by simpa using hG, rfl, fun h => h⟩
  | x :: xs, S, k, zs, t5, h11, hG, hk, hl => by
    simp only [List.length_cons] at hk hl
    obtain ⟨S1, z, y, e1, s1, G1, hz⟩ := t_turn (f := f) (l3 := l3) (s4 := s4) (t5 := some x) (h11 := h11) (l12 := l12) (L := L) (a := a) (b := b) (c := c) (zs := zs) hG (by omega) ht ha (by omega)
    obtain ⟨S', zs', y1, y2, e2, s2, G2, l2, ok⟩ := t_go (f := f) (l3 := l3) (s4 := s4) (l12 := l12) (L := L) (a := a) (b := b) (c := c) ht ha xs S1 (k + 3) (zs ++ [z]) (some x) y G1 (by omega) (by simp; omega)
    rw [step_len s1] at e2
    refine ⟨S', zs', y1, y2, ?_, step_trans s1 s2, gen_mono G2 (by simp only [List.length_cons]; omega), by rw [l2]; simp; omega, fun h => ok fun w hw => ?_⟩
    · have st : mforGo (gset 5) Bt (x :: xs) (sl g f S.length l3 s4 t5 t L a b c h11 l12) (S ++ [cellT zs]) = (Bt (sl g f S.length l3 s4 (some x) t L a b c h11 l12) (S ++ [cellT zs])).and (mforGo (gset 5) Bt xs) := rfl
      rw [st, e1, ra_next, e2]
    · rcases List.mem_append.mp hw with h' | h'
      · exact h w h'
      · rw [List.mem_singleton.mp h']
        exact hz
end K86
end

section
set_option Elab.async false
set_option linter.all false
set_option maxRecDepth 100000
set_option maxHeartbeats 2000000
namespace K86
open PySem PX
section
variable {m : Sl} {S S1 S2 S3 : Sto}
theorem mfor_is {it : AM} {g : GM} {b : SM} {m : Sl} {S S' : Sto} {xs : List MV} (h1 : it m S = .ok xs S') : mfor it g b m S = mforGo g b xs m S' := by simp only [mfor, h1, rg_ok]
theorem split_gen {fo : EM} {text : Str} (e : fo m S = .ok (.dat (.str text)) S1) (h : text.length ≤ 16000000) : mtxt1 gSplit fo (mcst (.str "\n")) m S = .ok (.dat (strL (lns text))) S1 := by
  have e1 : ((("\n" : Str).length == 0) = false ∧ text.length + 2 ≤ 16777216) := ⟨by decide +kernel, by omega⟩
  simp only [mtxt1, e, rb_ok, mcst, gSplit, e1, if_true, and_self]
theorem addL {f1 f2 : EM} {X Y : List Str} (h1 : f1 m S = .ok (.dat (strL X)) S1) (h2 : f2 m S1 = .ok (.dat (strL Y)) S2) (hl : X.length + Y.length ≤ 16777216) : mop (mAdd) f1 f2 m S = .ok (.dat (strL (X ++ Y))) S2 := by
  refine (mop_ok h1 h2).trans ((mAdd_list (by simpa using hl)).trans ?_)
  rw [← List.map_append]
theorem cutL {f : EM} {lo hi : Option EM} {X : List Str} {l h : Option Int} (e : f m S = .ok (.dat (strL X)) S1) (e1 : mpart lo m S1 = .ok l S2) (e2 : mpart hi m S2 = .ok h S3) : mslice f lo hi m S = .ok (.dat (strL (cutD X l h))) S3 := (mslice_eq e e1 e2).trans (cut_strL X l h S3)
theorem addS {f1 f2 : EM} {X Y : Str} (h1 : f1 m S = .ok (.dat (.str X)) S1) (h2 : f2 m S1 = .ok (.dat (.str Y)) S2) (hl : X.length + Y.length ≤ 16777216) : mop (mAdd) f1 f2 m S = .ok (.dat (.str (X ++ Y))) S2 := (mop_ok h1 h2).trans (mAdd_str hl)
theorem addI {f1 f2 : EM} {i j : Int} (h1 : f1 m S = .ok (.dat (.int i)) S1) (h2 : f2 m S1 = .ok (.dat (.int j)) S2) : mop (mAdd) f1 f2 m S = .ok (.dat (.int (i + j))) S2 := (mop_ok h1 h2).trans rfl
end
theorem mul_ok {p : Int} (h : 1 ≤ p ∧ p ≤ 5) : (gMul (.str "0") (.int p) = some (.str (Txt.mul "0" p)) ∧ (Txt.mul "0" p).length ≤ 900 ∧ Asc (Txt.mul "0" p)) ∧ (gMul (.str "1") (.int p) = some (.str (Txt.mul "1" p)) ∧ (Txt.mul "1" p).length ≤ 900 ∧ Asc (Txt.mul "1" p)) := by
  have : p = 1 ∨ p = 2 ∨ p = 3 ∨ p = 4 ∨ p = 5 := by omega
  rcases this with rfl | rfl | rfl | rfl | rfl <;>
    exact ⟨⟨by unfold gMul; exact if_pos ⟨by decide, by decide, by decide +kernel⟩, by decide +kernel, by unfold Asc; decide +kernel⟩, ⟨by unfold gMul; exact if_pos ⟨by decide, by decide, by decide +kernel⟩, by decide +kernel, by unfold Asc; decide +kernel⟩⟩
theorem lok_app {X Y : List Str} (hx : X.length ≤ 2000 ∧ ∀ l ∈ X, l.length ≤ 900 ∧ Asc l) (hy : Y.length ≤ 500 ∧ ∀ l ∈ Y, l.length ≤ 900 ∧ Asc l) : (X ++ Y).length ≤ 2500 ∧ ∀ l ∈ X ++ Y, l.length ≤ 900 ∧ Asc l := by
  refine ⟨by simp; omega, fun l hl => ?_⟩
  rcases List.mem_append.mp hl with h | h
  · exact hx.2 l h
  · exact hy.2 l h
theorem cut_front' (ls : List Str) : cutD ls none (some (-1)) = ls.dropLast := by
  unfold cutD HT.sIx
  simp only []
  rw [if_pos (by decide), List.dropLast_eq_take]
  simp only [List.drop_zero, Nat.sub_zero]
  congr 1
  omega
theorem texts_ok {g : Nat} {S : Sto} {k : Int} {p : Int} {rs : List (List Int)} (F : Fam p rs) (hG : GenAt S g k) (hk : k < 600000) :
    ∃ (S' : Sto) (ts : List Str), m__law_texts [.cell g, .dat (famD p rs)] S = .ok (.dat (strL ts)) S' ∧ Step g S S' ∧ GenAt S' g (k + 20) ∧ (∀ z ∈ ts, OkT z) ∧ ts.length ≤ 1000 := by
  obtain ⟨_, ht, hta, h10⟩ := txt_ok F
  have ht1 : 1 ≤ (txt p rs).length := by
    have : 0 < (txt p rs).cps.toList.length := List.length_pos_of_mem h10
    unfold Str.length
    rw [Array.length_toList] at this
    exact this
  have hL := lin_of ht hta h10
  generalize hL' : (lns (txt p rs)).dropLast = L at hL
  generalize htx : txt p rs = t at *
  have hll : (L.map PyData.str).length = L.length := List.length_map ..
  have tk : ∀ (m : Sl) (S : Sto), m[1]? = some (some (.dat (famD p rs))) → mcall m__law_text (mcons (mvar 1) mnil) m S = .ok (.dat (.str t)) S := fun m S h => by
    have e : mvar 1 m S = .ok (.dat (famD p rs)) S := by simp only [mvar, h]
    rw [← htx]
    exact (c1_ok e).trans (text_ok F S)
  -- text, lines
  have p1 : mpar 6 7 (mcons (mcall m__law_text (mcons (mvar 1) mnil)) (mcons (mslice (mtxt1 gSplit (mcall m__law_text (mcons (mvar 1) mnil)) (mcst (.str "\n"))) none (some (mneg (mcst (.int 1))))) mnil)) [some (.cell g), some (.dat (famD p rs)), none, none, none, none, none, none, none, none, none, none, none] S =
      .next [some (.cell g), some (.dat (famD p rs)), none, none, none, none, some (.dat (.str t)), some (.dat (strL L)), none, none, none, none, none] S := by
    refine mpar_n (ac_ok (tk _ S rfl) (a1_ok ((cutL (split_gen (tk _ S rfl) (by omega)) mpart_none (mpart_int rfl)).trans ?_)))
    rw [cut_front', hL']
  -- three drawn numbers
  have hg := gen_lt hG
  have lnL : L.length ≥ 1 := hL.n.1
  have lnL2 := hL.n.2
  obtain ⟨a, S1, ha, ea, G1, s1⟩ := rnd_st hG (by omega) (L.length : Int) (by omega)
  obtain ⟨b, S2, hb, eb, G2, s2⟩ := rnd_st G1 (by omega) (L.length : Int) (by omega)
  obtain ⟨c, S3, hc, ec, G3, s3⟩ := rnd_st G2 (by omega) ((t.length : Int) + 1) (by omega)
  have s13 := step_trans s1 (step_trans s2 s3)
  have l13 := step_len s13
  have lenL : ∀ (m : Sl) (S : Sto), m[7]? = some (some (.dat (strL L))) → mcall (mLen) (mcons (mvar 7) mnil) m S = .ok (.dat (.int (L.length : Int))) S := fun m S h => by
    have e : mvar 7 m S = .ok (.dat (strL L)) S := by simp only [mvar, h]
    exact (c1_ok e).trans ((mLen_list).trans (by rw [List.length_map]))
  generalize hm1 : ([some (.cell g), some (.dat (famD p rs)), none, none, none, none, some (.dat (.str t)), some (.dat (strL L)), none, none, none, none, none] : Sl) = m1 at p1
  have p2 : mpar3 8 9 10 (mcons (mcall m__law_random (mcons (mvar 0) (mcons (mcall (mLen) (mcons (mvar 7) mnil)) mnil))) (mcons (mcall m__law_random (mcons (mvar 0) (mcons (mcall (mLen) (mcons (mvar 7) mnil)) mnil))) (mcons (mcall m__law_random (mcons (mvar 0) (mcons (mop (mAdd) (mcall (mLen) (mcons (mvar 6) mnil)) (mcst (.int 1))) mnil))) mnil))) m1 S =
      .next [some (.cell g), some (.dat (famD p rs)), none, none, none, none, some (.dat (.str t)), some (.dat (strL L)), some (.dat (.int a)), some (.dat (.int b)), some (.dat (.int c)), none, none] S3 := by
    subst hm1
    refine mpar3_n (ac_ok ((c2_ok rfl (lenL _ _ rfl)).trans ea) (ac_ok ((c2_ok rfl (lenL _ _ rfl)).trans eb) (a1_ok ((c2_ok rfl (addI ((c1_ok rfl).trans (mLen_str (by omega))) rfl)).trans ec))))
  -- nine texts
  generalize hm2 : ([some (.cell g), some (.dat (famD p rs)), none, none, none, none, some (.dat (.str t)), some (.dat (strL L)), some (.dat (.int a)), some (.dat (.int b)), some (.dat (.int c)), none, none] : Sl) = m2 at p2
  have v6 : ∀ S, mvar 6 m2 S = .ok (.dat (.str t)) S := fun S => by subst hm2; rfl
  have v10 : ∀ S, mvar 10 m2 S = .ok (.dat (.int c)) S := fun S => by subst hm2; rfl
  have d10 : ("\n" : Str).length = 1 ∧ Asc "\n" := ⟨by decide +kernel, by unfold Asc; decide +kernel⟩
  have d32 : (" " : Str).length = 1 ∧ Asc " " := ⟨by decide +kernel, by unfold Asc; decide +kernel⟩
  have d0 : ("" : Str).length = 0 ∧ Asc "" := ⟨by decide +kernel, by unfold Asc; decide +kernel⟩
  have b1 : t.length + ("\n" : Str).length ≤ 16777216 := by rw [d10.1]; omega
  have b2 : (" " : Str).length + t.length ≤ 16777216 := by rw [d32.1]; omega
  have nine := ac_ok (v6 S3) (ac_ok (addS (Y := "\n") (v6 S3) k_ok b1) (ac_ok ((mslice_eq (v6 S3) mpart_none (mpart_int (f := mneg (mcst (.int 1))) rfl)).trans (mCut_str (by omega))) (ac_ok (k_ok (d := .str "")) (ac_ok (k_ok (d := .str "\n")) (ac_ok (addS (X := " ") k_ok (v6 S3) b2) (ac_ok (addS (v6 S3) (v6 S3) (by omega)) (ac_ok ((mslice_eq (v6 S3) mpart_none (mpart_int (v10 S3))).trans (mCut_str (by omega))) (a1_ok ((mslice_eq (v6 S3) (mpart_int (v10 S3)) mpart_none).trans (mCut_str (by omega)))))))))))
  generalize hz0 : ([t, t ++ "\n", L2.cutS t none (some (-1)), "", "\n", " " ++ t, t ++ t, L2.cutS t none (some c), L2.cutS t (some c) none] : List Str) = zs0
  have zok : ∀ z ∈ zs0, OkT z := by
    have k1 := cutS_ok t none (some (-1)) hta
    have k2 := cutS_ok t none (some c) hta
    have k3 := cutS_ok t (some c) none hta
    subst hz0
    intro z hz
    simp only [List.mem_cons, List.not_mem_nil, or_false] at hz
    rcases hz with rfl | rfl | rfl | rfl | rfl | rfl | rfl | rfl | rfl
    · exact ⟨by omega, hta⟩
    · exact ⟨by rw [app_len]; omega, app_asc hta d10.2⟩
    · exact ⟨by omega, k1.2⟩
    · exact ⟨by omega, d0.2⟩
    · exact ⟨by omega, d10.2⟩
    · exact ⟨by rw [app_len]; omega, app_asc d32.2 hta⟩
    · exact ⟨by rw [app_len]; omega, app_asc hta hta⟩
    · exact ⟨by omega, k2.2⟩
    · exact ⟨by omega, k3.2⟩
  have p3 := masg_n (i := 2) (mlstC_ok nine (by simp))
  rw [show ([.dat (.str t), .dat (.str (t ++ "\n")), .dat (.str (L2.cutS t none (some (-1)))), .dat (.str ""), .dat (.str "\n"), .dat (.str (" " ++ t)), .dat (.str (t ++ t)), .dat (.str (L2.cutS t none (some c))), .dat (.str (L2.cutS t (some c) none))] : List MV) = (zs0.map PyData.str).map MV.dat by subst hz0; rfl] at p3
  have z9 : zs0.length = 9 := by subst hz0; rfl
  -- four lists
  generalize hm3 : m2.set 2 (some (.cell S3.length)) = m3 at p3
  have w7 : ∀ S, mvar 7 m3 S = .ok (.dat (strL L)) S := fun S => by subst hm3 hm2; rfl
  have w8 : ∀ S, mvar 8 m3 S = .ok (.dat (.int a)) S := fun S => by subst hm3 hm2; rfl
  have w9 : ∀ S, mvar 9 m3 S = .ok (.dat (.int b)) S := fun S => by subst hm3 hm2; rfl
  have hLok : LokL L := ⟨by omega, fun l hl => ⟨by have := (hL.l l hl).1; omega, (hL.l l hl).2⟩⟩
  have cl := fun lo hi => cutD_len L lo hi
  obtain ⟨x, hx, hxm⟩ := atI_get (xs := L) hb.1 hb.2
  have hx' : L2.atI (L.map PyData.str) b = some (.str x) := by
    obtain ⟨q, hq, hqm⟩ := atI_get (xs := L.map PyData.str) (i := b) hb.1 (by rw [List.length_map]; exact hb.2)
    rw [atI_in hb.1 (by rw [List.length_map]; exact hb.2), List.getElem?_map]
    rw [atI_in hb.1 hb.2] at hx
    rw [hx]
    rfl
  have e8 : ∀ S, mop (mAdd) (mvar 8) (mcst (.int 1)) m3 S = .ok (.dat (.int (a + 1))) S := fun S => addI (w8 S) k_ok
  generalize hS4 : S3 ++ [Ob.lst ((zs0.map PyData.str).map MV.dat)] = S4 at p3
  have f0 := cutL (w7 S4) mpart_none (mpart_int (w8 S4))
  have f1 := cutL (w7 S4) (mpart_int (e8 S4)) mpart_none
  have f2 := cutL (w7 S4) (mpart_int (w8 S4)) (mpart_int (e8 S4))
  have f3 := cutL (w7 S4) (mpart_int (w8 S4)) mpart_none
  have four := ac_ok (addL f0 f1 (by have := cl none (some a); have := cl (some (a+1)) none; omega)) (ac_ok (addL (addL f0 f2 (by have := cl none (some a); have := cl (some a) (some (a+1)); omega)) f3 (by have := cl none (some a); have := cl (some a) (some (a+1)); have := cl (some a) none; rw [List.length_append]; omega))
    (ac_ok (show mrev (mvar 7) m3 S4 = .ok (.dat (strL L.reverse)) S4 by simp only [mrev, w7, rb_ok, look_dat, strL, List.map_reverse]) (a1_ok (addL (Y := cutD L (some (a + 1)) none) (addL (Y := [x]) f0 (mlst_ok (ds := [.str x]) (a1_ok ((mop_ok (w7 S4) (w9 S4)).trans (mIx_list hx'))) (by simp)) (by have := cl none (some a); rw [List.length_singleton]; omega)) f1 (by have := cl none (some a); have := cl (some (a+1)) none; rw [List.length_append, List.length_singleton]; omega)))))
  generalize hY1 : cutD L none (some a) ++ cutD L (some (a + 1)) none = Y1 at four
  generalize hY2 : cutD L none (some a) ++ cutD L (some a) (some (a + 1)) ++ cutD L (some a) none = Y2 at four
  generalize hY4 : cutD L none (some a) ++ [x] ++ cutD L (some (a + 1)) none = Y4 at four
  have p4 := masg_n (i := 3) (mlst_ok (ds := [strL Y1, strL Y2, strL L.reverse, strL Y4]) four (by simp))
  have mem2 : ∀ {A B : List Str}, LokL A → LokL B → A.length ≤ 1000 → B.length ≤ 1000 → LokL (A ++ B) ∧ (A ++ B).length = A.length + B.length := fun {A B} hA hB h1 h2 => ⟨⟨by rw [List.length_append]; omega, fun l hl => (List.mem_append.mp hl).elim (hA.2 l) (hB.2 l)⟩, List.length_append⟩
  have lc := fun lo hi => lok_cut hLok lo hi
  have lx : LokL [x] := ⟨by simp, fun l hl => by rw [List.mem_singleton.mp hl]; exact hLok.2 x hxm⟩
  have oY1 : LokL Y1 := by
    rw [← hY1]
    exact (mem2 (lc _ _) (lc _ _) (by have := cl none (some a); omega) (by have := cl (some (a+1)) none; omega)).1
  have oY2 : LokL Y2 := by
    rw [← hY2]
    have q := mem2 (lc none (some a)) (lc (some a) (some (a+1))) (by have := cl none (some a); omega) (by have := cl (some a) (some (a+1)); omega)
    exact (mem2 q.1 (lc _ _) (by have := cl none (some a); have := cl (some a) (some (a+1)); omega) (by have := cl (some a) none; omega)).1
  have oY3 : LokL L.reverse := ⟨by rw [List.length_reverse]; exact hLok.1, fun l hl => hLok.2 l (List.mem_reverse.mp hl)⟩
  have oY4 : LokL Y4 := by
    rw [← hY4]
    have q := mem2 (lc none (some a)) lx (by have := cl none (some a); omega) (by simp)
    exact (mem2 q.1 (lc _ _) (by have := cl none (some a); rw [q.2, List.length_singleton]; omega) (by have := cl (some (a+1)) none; omega)).1
  have hp := F.p
  have mu := mul_ok (p := p) (by omega)
  have oY5 : LokL (L ++ [Txt.mul "0" p]) := (mem2 hLok ⟨by simp, fun l hl => by rw [List.mem_singleton.mp hl]; exact mu.1.2⟩ (by omega) (by simp)).1
  have oY6 : LokL (L ++ [Txt.mul "1" p]) := (mem2 hLok ⟨by simp, fun l hl => by rw [List.mem_singleton.mp hl]; exact mu.2.2⟩ (by omega) (by simp)).1
  generalize hl3 : (MV.dat (.list [strL Y1, strL Y2, strL L.reverse, strL Y4])) = l3 at p4
  have hm4 : m3.set 3 (some l3) = sl g (famD p rs) S3.length (some l3) none none t L a b c none none := by subst hm3 hm2; rfl
  rw [hm4] at p4
  -- six lists
  have u7 : mvar 7 (sl g (famD p rs) S3.length (some l3) none none t L a b c none none) S4 = .ok (.dat (strL L)) S4 := rfl
  have u1 : mvar 1 (sl g (famD p rs) S3.length (some l3) none none t L a b c none none) S4 = .ok (.dat (famD p rs)) S4 := rfl
  have u3 : mvar 3 (sl g (famD p rs) S3.length (some l3) none none t L a b c none none) S4 = .ok (.dat (.list [strL Y1, strL Y2, strL L.reverse, strL Y4])) S4 := by subst hl3; rfl
  have ip : mop mIx (mvar 1) (mcst (.int 1)) (sl g (famD p rs) S3.length (some l3) none none t L a b c none none) S4 = .ok (.dat (.int p)) S4 := (mop_ok u1 k_ok).trans (mIx_tup rfl)
  have e5 := addL (X := L) (Y := [Txt.mul "0" p]) u7 (mlst_ok (ds := [.str (Txt.mul "0" p)]) (a1_ok ((mop_ok (g := mD gMul) (k_ok (d := .str "0")) ip).trans (mD_ok mu.1.1 rfl))) (by simp)) (by rw [List.length_singleton]; omega)
  have e6 := addL (X := L) (Y := [Txt.mul "1" p]) u7 (mlst_ok (ds := [.str (Txt.mul "1" p)]) (a1_ok ((mop_ok (g := mD gMul) (k_ok (d := .str "1")) ip).trans (mD_ok mu.2.1 rfl))) (by simp)) (by rw [List.length_singleton]; omega)
  have six := miter_list ((mop_ok (g := mAdd) u3 (mlst_ok (ds := [strL (L ++ [Txt.mul "0" p]), strL (L ++ [Txt.mul "1" p])]) (ac_ok e5 (a1_ok e6)) (by simp))).trans (mAdd_list (by simp)))
  obtain ⟨y1, zs1, q1, q2, q3⟩ := s_go (g := g) (f := famD p rs) (l3 := some l3) (t5 := none) (h11 := none) (l12 := none) (t := t) (L := L) (a := a) (b := b) (c := c) (S0 := S3) [Y1, Y2, L.reverse, Y4, L ++ [Txt.mul "0" p], L ++ [Txt.mul "1" p]] zs0 none (by
    intro w hw
    simp only [List.mem_cons, List.not_mem_nil, or_false] at hw
    rcases hw with rfl | rfl | rfl | rfl | rfl | rfl
    · exact oY1
    · exact oY2
    · exact oY3
    · exact oY4
    · exact oY5
    · exact oY6) (by rw [z9]; simp)
  have p5 := mfor_is (g := gset 4) (b := Bs) six
  rw [← hS4] at p5
  have p5' := p5.trans q1
  -- four drawn texts
  have z15 : zs1.length = 15 := by rw [q2, z9]; rfl
  obtain ⟨S5, zs2, y5, y11, r1, r2, r3, r4, r5⟩ := t_go (f := famD p rs) (l3 := some l3) (s4 := y1) (l12 := none) (t := t) (L := L) (a := a) (b := b) (c := c) ⟨ht1, ht⟩ hta (nums 0 4) S3 (k + 1 + 1 + 1) zs1 none none G3 (by simp [nums]; omega) (by rw [z15]; simp [nums])
  have p6 := mfor_is (g := gset 5) (b := Bt) (mrng1_eq (m := sl g (famD p rs) S3.length (some l3) y1 none t L a b c none none) (S := S3 ++ [cellT zs1]) (a1_ok (k_ok (d := .int 4))) rfl)
  have p6' := p6.trans r1
  have l5 := step_len r2
  rw [hS4] at p5'
  rw [← hS4] at p5'
  subst hS4
  have fin := (mseq_n p1).trans ((mseq_n p2).trans ((mseq_n p3).trans ((mseq_n p4).trans ((mseq_n p5').trans ((mseq_n p6').trans (mret_r (e := mvar 2) rfl))))))
  have gf : (S5 ++ [cellT zs2])[S3.length]? = some (cellT zs2) := by rw [← l5]; simp
  have hfz : fz (S5 ++ [cellT zs2]) (.cell S3.length) = some (strL zs2, (S5 ++ [cellT zs2]).set S3.length (.dead (strL zs2))) := fz_cell gf (allD_dat _)
  have s15 := step_trans s13 r2
  have l15 := step_len s15
  have htk : ((S5 ++ [cellT zs2]).set S3.length (.dead (strL zs2))).take S.length = S5 := by
    rw [← l5, List.set_append_right _ _ (by omega), ← l15, List.take_left' rfl]
  have fin' : b__law_texts (([.cell g, .dat (famD p rs)] : List MV).map some ++ List.replicate (13 - 2) none) S = .ret (.cell S3.length) (S5 ++ [cellT zs2]) := fin
  have fn : mfun 2 13 b__law_texts [.cell g, .dat (famD p rs)] S = .ok (.cell S3.length) (S5 ++ [cellT zs2]) := mfun_ret rfl fin'
  refine ⟨S5, zs2, (mclean_ok' fn hfz (step_cut s15 htk (by simp; omega))).trans (by rw [htk]), s15, gen_mono r3 (by simp [nums]; omega), r5 (q3 zok), ?_⟩
  rw [r4, z15]
  simp [nums]
end K86
end

section
set_option Elab.async false
set_option maxRecDepth 100000
set_option maxHeartbeats 2000000
namespace K86
open PySem PX
theorem scanR_le : ∀ (ls : List Str) (i : Nat) (p : Int) (rs : List (List Int)) (k : Nat), scanR i p rs ls = .inl k → k ≤ i + ls.length
  | [], i, p, rs, k, h => by unfold scanR at h; cases h
  | l :: ls, i, p, rs, k, h => by
    unfold scanR at h
    rw [List.length_cons]
    split at h
    · cases h
      omega
    · split at h
      · cases h
        omega
      · have := scanR_le ls _ _ _ _ h
        omega
theorem scan_le (ls : List Str) (k : Nat) (h : scan ls = .inl k) : k ≤ ls.length := by
  cases ls with
  | nil => unfold scan at h; cases h
  | cons l ls =>
    simp only [scan] at h
    rw [List.length_cons]
    split at h
    · cases h
      omega
    · have := scanR_le ls _ _ _ _ h
      omega
theorem wv_is (ls : List Str) (h : ls.length ≤ 20000000) (h0 : 0 < ls.length) : wrongV ls = .none ∨ ∃ n : Nat, wrongV ls = .int n ∧ n < 100000000 := by
  unfold wrongV
  split
  · rename_i k hk
    have := scan_le _ _ hk
    rw [List.length_dropLast] at this
    exact .inr ⟨k, rfl, by omega⟩
  · split
    · exact .inl rfl
    · refine .inr ⟨ls.length - 1, ?_, by omega⟩
      congr 1
      omega
theorem rep_len {d : PyData} (h : d = .none ∨ ∃ n : Nat, d = .int n ∧ n < 100000000) : d.showable = true ∧ d.shown.length ≤ 20 ∧ d.depth = 0 ∧ scV d ≠ none := by
  rcases h with rfl | ⟨n, rfl, hn⟩
  · exact ⟨rfl, by decide +kernel, rfl, by intro h; cases h⟩
  · refine ⟨decide_eq_true ?_, ?_, rfl, by intro h; cases h⟩
    · have := log2_lt' (n := (n : Int).natAbs) (by simp; omega)
      omega
    · have := PyProof.Rows.toString_length_le (v := (n : Int)) (by omega) (k := 20) (by decide) (by omega)
      exact this
theorem rep_ok {S : Sto} {d : PyData} (h : d = .none ∨ ∃ n : Nat, d = .int n ∧ n < 100000000) : mRepr [.dat (.list [d, d])] S = .ok (.dat (.str (PyData.list [d, d]).shown)) S ∧ (PyData.list [d, d]).shown.length ≤ 100 := by
  obtain ⟨h1, h2, h3, _⟩ := rep_len h
  have hl : (PyData.list [d, d]).shown.length ≤ 100 := by
    rw [PySem.PyData.shown_list]
    have e : PyData.shownAll [d, d] = [d.shown, d.shown] := rfl
    rw [e]
    have j : Str.join ", " [d.shown, d.shown] = d.shown ++ ", " ++ d.shown := rfl
    have c2 : (", " : Str).length = 2 := by decide +kernel
    have c1 : ("[" : Str).length = 1 := by decide +kernel
    have c3 : ("]" : Str).length = 1 := by decide +kernel
    rw [j, app_len, app_len, app_len, app_len, c1, c2, c3]
    omega
  refine ⟨?_, hl⟩
  have s1 : (PyData.list [d, d]).showable = true := by
    show (d.showable && (d.showable && true)) = true
    rw [h1]; rfl
  have s3 : (PyData.list [d, d]).depth ≤ 64 := by
    simp [PyData.depth, PyData.depthAll, h3]
  have : shownM S (.dat (.list [d, d])) = some (PyData.list [d, d]).shown := by
    unfold shownM
    simp only [look_dat]
    rw [if_pos ⟨s1, by omega, s3⟩]
  simp only [mRepr, this]
theorem gNe_b (b : Bool) : gNe (.bool b) (.bool b) = some (.bool false) := by cases b <;> rfl
noncomputable def Bi : SM := (mseq (mpar 9 7 (mcons (mcall m__law_wrong (mcons (mvar 6) mnil)) (mcons (mcst .none) mnil)))
    (mseq (mifS (mtest (mop (mD gNe) (mcall (mRepr) (mcons (mlst (mcons (mcall m_wrong_line (mcons (mvar 6) mnil)) (mcons (mcall (mkw m_wrong_line [0]) (mcons (mvar 6) mnil)) mnil))) mnil)) (mcall (mRepr) (mcons (mlst (mcons (mvar 9) (mcons (mvar 9) mnil))) mnil)))) (mret (mcst (.bool false))) mskip)
    (mseq (mtryAs exm_InvalidText 8 7 (mexpr (mcall m_read_family (mcons (mvar 6) mnil))))
    (mifS (mtest (mop (mD gNe) (mop (mIs) (mvar 7) (mcst .none)) (mop (mIs) (mvar 9) (mcst .none)))) (mret (mcst (.bool false))) mskip))))
abbrev ml (a0 a1 a2 a3 a4 a5 a6 a7 a8 a9 a10 a11 : Option MV) : Sl := [a0, a1, a2, a3, a4, a5, a6, a7, a8, a9, a10, a11]
theorem mexpr_e {m : Sl} {S S' : Sto} {f : EM} {c : Str} {d : MV} (h : f m S = .exc c d S') : mexpr f m S = .exc c d m S' := by
  unfold mexpr
  rw [h]
  rfl
theorem try_n {m m1 : Sl} {S S' : Sto} {b : SM} {ex : Str → Option Bool} {i j : Nat} (h : b m S = .next m1 S') : mtryAs ex i j b m S = .next m1 S' := by
  unfold mtryAs
  rw [h]
theorem try_e {m m1 : Sl} {S S' : Sto} {b : SM} {ex : Str → Option Bool} {i j : Nat} {c : Str} {d : MV} (h : b m S = .exc c d m1 S') (he : ex c = some true) : mtryAs ex i j b m S = .next ((m1.set j (some (.exc c d))).set i none) S' := by
  unfold mtryAs
  rw [h]
  simp only [he]
section
variable {a0 a1 a2 a3 a4 a5 a6 a7 a8 a9 a10 a11 : Option MV} {S : Sto}
theorem i_turn {z : Str} (hz : OkT z) : ∃ y7 y8 y9, Bi (ml a0 a1 a2 a3 a4 a5 (some (.dat (.str z))) a7 a8 a9 a10 a11) S = .next (ml a0 a1 a2 a3 a4 a5 (some (.dat (.str z))) y7 y8 y9 a10 a11) S := by
  have hl : z.length ≤ 16000000 := by have := hz.1; omega
  have hlen : (lns z).length ≤ z.length + 2 := PyProof.Rows.split_le z "\n"
  have hpos : 0 < (lns z).length := PyProof.Rows.split_pos z "\n"
  have hd := wv_is (lns z) (by have := hz.1; omega) hpos
  have hw := lw_ok (S0 := S) hl hz.2
  have hv := wl_ok (S0 := S) hl
  have hr := rf_ok (text := z) (S0 := S) hl
  generalize hdd : wrongV (lns z) = d at hd hw hv hr
  have p1 : mpar 9 7 (mcons (mcall m__law_wrong (mcons (mvar 6) mnil)) (mcons (mcst .none) mnil)) (ml a0 a1 a2 a3 a4 a5 (some (.dat (.str z))) a7 a8 a9 a10 a11) S = .next (ml a0 a1 a2 a3 a4 a5 (some (.dat (.str z))) (some (.dat .none)) a8 (some (.dat d)) a10 a11) S :=
    mpar_n (ac_ok ((c1_ok rfl).trans hw) (a1_ok k_ok))
  have l1 := mlst_ok (m := ml a0 a1 a2 a3 a4 a5 (some (.dat (.str z))) (some (.dat .none)) a8 (some (.dat d)) a10 a11) (S1 := S) (ds := [d, d]) (ac_ok ((c1_ok (f := mvar 6) rfl).trans hv) (a1_ok (f := mcall (mkw m_wrong_line [0]) (mcons (mvar 6) mnil)) ((c1_ok (f := mvar 6) rfl).trans ((show mkw m_wrong_line [0] [.dat (.str z)] S = m_wrong_line [.dat (.str z)] S from rfl).trans hv)))) (by simp)
  have l2 := mlst_ok (m := ml a0 a1 a2 a3 a4 a5 (some (.dat (.str z))) (some (.dat .none)) a8 (some (.dat d)) a10 a11) (S := S) (S1 := S) (ds := [d, d]) (ac_ok (f := mvar 9) rfl (a1_ok (f := mvar 9) rfl)) (by simp)
  have rp := (rep_ok (S := S) hd).1
  have n1 := (mop_ok (g := mD gNe) ((c1_ok l1).trans rp) ((c1_ok l2).trans rp)).trans (mD_ok (r := .bool false) (by rw [gNe_str]; simp) rfl)
  have p2 := mifS_f (f := mret (mcst (.bool false))) (g := mskip) (test_ok n1)
  rcases hd with rfl | ⟨n, rfl, hn⟩
  · obtain ⟨d', h'⟩ := hr.1 rfl
    have p3 := try_n (ex := exm_InvalidText) (i := 8) (j := 7) (mexpr_n (e := mcall m_read_family (mcons (mvar 6) mnil)) (m := ml a0 a1 a2 a3 a4 a5 (some (.dat (.str z))) (some (.dat .none)) a8 (some (.dat .none)) a10 a11) ((c1_ok (f := mvar 6) rfl).trans h'))
    have n2 := (mop_ok (g := mD gNe) (m := ml a0 a1 a2 a3 a4 a5 (some (.dat (.str z))) (some (.dat .none)) a8 (some (.dat .none)) a10 a11) (S := S) (fa := mop (mIs) (mvar 7) (mcst .none)) (fb := mop (mIs) (mvar 9) (mcst .none)) (x := .dat (.bool true)) (y := .dat (.bool true)) (S1 := S) (S2 := S) rfl rfl).trans (mD_ok (r := .bool false) (gNe_b _) rfl)
    have p4 := mifS_f (f := mret (mcst (.bool false))) (g := mskip) (test_ok n2)
    exact ⟨_, _, _, (mseq_n p1).trans ((mseq_n (p2.trans rfl)).trans ((mseq_n p3).trans (p4.trans rfl)))⟩
  · have h' := hr.2 (by intro h; cases h)
    have p3 := try_e (ex := exm_InvalidText) (i := 8) (j := 7) (mexpr_e (f := mcall m_read_family (mcons (mvar 6) mnil)) (m := ml a0 a1 a2 a3 a4 a5 (some (.dat (.str z))) (some (.dat .none)) a8 (some (.dat (.int n))) a10 a11) ((c1_ok (f := mvar 6) rfl).trans h')) rfl
    have n2 := (mop_ok (g := mD gNe) (m := ml a0 a1 a2 a3 a4 a5 (some (.dat (.str z))) (some (.exc "InvalidText" (.dat (.str z)))) none (some (.dat (.int n))) a10 a11) (S := S) (fa := mop (mIs) (mvar 7) (mcst .none)) (fb := mop (mIs) (mvar 9) (mcst .none)) (x := .dat (.bool false)) (y := .dat (.bool false)) (S1 := S) (S2 := S) rfl rfl).trans (mD_ok (r := .bool false) (gNe_b _) rfl)
    have p4 := mifS_f (f := mret (mcst (.bool false))) (g := mskip) (test_ok n2)
    exact ⟨_, _, _, (mseq_n p1).trans ((mseq_n (p2.trans rfl)).trans ((mseq_n p3).trans (p4.trans rfl)))⟩
end
theorem i_go {a0 a1 a2 a3 a4 a5 a10 a11 : Option MV} {S : Sto} : ∀ (zs : List Str) (a6 a7 a8 a9 : Option MV), (∀ z ∈ zs, OkT z) → ∃ y6 y7 y8 y9, mforGo (gset 6) Bi ((zs.map PyData.str).map MV.dat) (ml a0 a1 a2 a3 a4 a5 a6 a7 a8 a9 a10 a11) S = .next (ml a0 a1 a2 a3 a4 a5 y6 y7 y8 y9 a10 a11) S
  | [], a6, a7, a8, a9, _ => ⟨_, _, _, _, rfl⟩
  | z :: zs, a6, a7, a8, a9, h => by
    obtain ⟨y7, y8, y9, e⟩ := i_turn (a0 := a0) (a1 := a1) (a2 := a2) (a3 := a3) (a4 := a4) (a5 := a5) (a7 := a7) (a8 := a8) (a9 := a9) (a10 := a10) (a11 := a11) (S := S) (h z (List.mem_cons_self ..))
    obtain ⟨w6, w7, w8, w9, e2⟩ := i_go (a0 := a0) (a1 := a1) (a2 := a2) (a3 := a3) (a4 := a4) (a5 := a5) (a10 := a10) (a11 := a11) (S := S) zs (some (.dat (.str z))) y7 y8 y9 fun w hw => h w (List.mem_cons_of_mem _ hw)
    refine ⟨w6, w7, w8, w9, ?_⟩
    have st : mforGo (gset 6) Bi (((z :: zs).map PyData.str).map MV.dat) (ml a0 a1 a2 a3 a4 a5 a6 a7 a8 a9 a10 a11) S = (Bi (ml a0 a1 a2 a3 a4 a5 (some (.dat (.str z))) a7 a8 a9 a10 a11) S).and (mforGo (gset 6) Bi ((zs.map PyData.str).map MV.dat)) := rfl
    rw [st, e, ra_next, e2]
end K86
end

section
set_option Elab.async false
set_option linter.all false
set_option maxRecDepth 100000
set_option maxHeartbeats 2000000
namespace K86
open PySem PX
noncomputable def Bo : SM := (mseq (masg (mcall m__law_generator (mcons (mvar 0) (mcons (mvar 1) mnil))) (gset 4))
    (mseq (masg (mcall m__law_family (mcons (mvar 4) (mcons (mcst (.int 5)) (mcons (mcst (.int 12)) mnil)))) (gset 5))
    (mfor (miter (mcall m__law_texts (mcons (mvar 4) (mcons (mvar 5) mnil)))) (gset 6) Bi)))
theorem o_turn {ns : List Int} {i : Int} (hi : 0 ≤ i ∧ i < 100) {a2 a3 a4 a5 a6 a7 a8 a9 a10 a11 : Option MV} {S : Sto} :
    ∃ y4 y5 y6 y7 y8 y9 S', Bo (ml (some (.dat (.list (ns.map PyData.int)))) (some (.dat (.int i))) a2 a3 a4 a5 a6 a7 a8 a9 a10 a11) S = .next (ml (some (.dat (.list (ns.map PyData.int)))) (some (.dat (.int i))) a2 a3 y4 y5 y6 y7 y8 y9 a10 a11) S' := by
  obtain ⟨x, y, z, e1, G1⟩ := gen_ok ns i hi S
  obtain ⟨S2, p, rs, e2, s2, G2, F⟩ := fam_ok G1 (by omega)
  obtain ⟨S3, ts, e3, s3, G3, ok, hl⟩ := texts_ok F G2 (by omega)
  have p1 := masg_n (i := 4) ((c2_ok (f := mvar 0) (f2 := mvar 1) (m := ml (some (.dat (.list (ns.map PyData.int)))) (some (.dat (.int i))) a2 a3 a4 a5 a6 a7 a8 a9 a10 a11) rfl rfl).trans e1)
  have p2 := masg_n (i := 5) ((c3_ok (f := mvar 4) (f2 := mcst (.int 5)) (f3 := mcst (.int 12)) (m := ml (some (.dat (.list (ns.map PyData.int)))) (some (.dat (.int i))) a2 a3 (some (.cell S.length)) a5 a6 a7 a8 a9 a10 a11) rfl rfl rfl).trans e2)
  have it := miter_list ((c2_ok (f := mvar 4) (f2 := mvar 5) (m := ml (some (.dat (.list (ns.map PyData.int)))) (some (.dat (.int i))) a2 a3 (some (.cell S.length)) (some (.dat (famD p rs))) a6 a7 a8 a9 a10 a11) rfl rfl).trans e3)
  obtain ⟨y6, y7, y8, y9, e4⟩ := i_go (a0 := some (.dat (.list (ns.map PyData.int)))) (a1 := some (.dat (.int i))) (a2 := a2) (a3 := a3) (a4 := some (.cell S.length)) (a5 := some (.dat (famD p rs))) (a10 := a10) (a11 := a11) (S := S3) ts a6 a7 a8 a9 ok
  have p3 := (mfor_is (g := gset 6) (b := Bi) it).trans e4
  exact ⟨_, _, _, _, _, _, _, (mseq_n p1).trans ((mseq_n p2).trans p3)⟩
theorem o_go {ns : List Int} {a2 a3 a10 a11 : Option MV} : ∀ (n : Nat) (i : Int) (a1 a4 a5 a6 a7 a8 a9 : Option MV) (S : Sto), 0 ≤ i → i + n < 100 →
    ∃ y1 y4 y5 y6 y7 y8 y9 S', mforGo (gset 1) Bo (nums i n) (ml (some (.dat (.list (ns.map PyData.int)))) a1 a2 a3 a4 a5 a6 a7 a8 a9 a10 a11) S = .next (ml (some (.dat (.list (ns.map PyData.int)))) y1 a2 a3 y4 y5 y6 y7 y8 y9 a10 a11) S'
  | 0, i, a1, a4, a5, a6, a7, a8, a9, S, _, _ => ⟨_, _, _, _, _, _, _, _, rfl⟩
  | n + 1, i, a1, a4, a5, a6, a7, a8, a9, S, h0, h1 => by
    obtain ⟨y4, y5, y6, y7, y8, y9, S1, e⟩ := o_turn (ns := ns) (i := i) (by omega) (a2 := a2) (a3 := a3) (a4 := a4) (a5 := a5) (a6 := a6) (a7 := a7) (a8 := a8) (a9 := a9) (a10 := a10) (a11 := a11) (S := S)
    obtain ⟨w1, w4, w5, w6, w7, w8, w9, S2, e2⟩ := o_go (ns := ns) (a2 := a2) (a3 := a3) (a10 := a10) (a11 := a11) n (i + 1) (some (.dat (.int i))) y4 y5 y6 y7 y8 y9 S1 (by omega) (by omega)
    refine ⟨w1, w4, w5, w6, w7, w8, w9, S2, ?_⟩
    have st : mforGo (gset 1) Bo (nums i (n + 1)) (ml (some (.dat (.list (ns.map PyData.int)))) a1 a2 a3 a4 a5 a6 a7 a8 a9 a10 a11) S = (Bo (ml (some (.dat (.list (ns.map PyData.int)))) (some (.dat (.int i))) a2 a3 a4 a5 a6 a7 a8 a9 a10 a11) S).and (mforGo (gset 1) Bo (nums (i + 1) n)) := rfl
    rw [st, e, ra_next, e2]
noncomputable def Bw : SM := (mseq (masg (mcst .none) (gset 7))
    (mseq (mtryAs exm_InvalidText 8 7 (mexpr (mcall m_wrong_line (mcons (mvar 3) mnil))))
    (mifS (mor (mtest (mop (mIs) (mvar 7) (mcst .none))) (mtest (mop (mD gNe) (mcall (mRepr) (mcons (mvalE errs (mvar 7)) mnil)) (mcall (mRepr) (mcons (mvar 3) mnil))))) (mret (mcst (.bool false))) mskip)))
theorem w_turn {v : MV} {ty : String} {sh : Str} {a0 a1 a2 a4 a5 a6 a7 a8 a9 a10 a11 : Option MV} {S : Sto} (ht : tyM S v = some ty) (hk : L2.kitB ty "str" = some false) (hs : shownM S v = some sh)
    (he : m_wrong_line [v] S = .exc "InvalidText" v S) :
    ∃ y7 y8, Bw (ml a0 a1 a2 (some v) a4 a5 a6 a7 a8 a9 a10 a11) S = .next (ml a0 a1 a2 (some v) a4 a5 a6 y7 y8 a9 a10 a11) S := by
  have p1 := masg_n (i := 7) (k_ok (d := .none) (m := ml a0 a1 a2 (some v) a4 a5 a6 a7 a8 a9 a10 a11) (S := S))
  have p2 := try_e (ex := exm_InvalidText) (i := 8) (j := 7) (mexpr_e (f := mcall m_wrong_line (mcons (mvar 3) mnil)) (m := ml a0 a1 a2 (some v) a4 a5 a6 (some (.dat .none)) a8 a9 a10 a11) ((c1_ok (f := mvar 3) rfl).trans he)) rfl
  have r : mRepr [v] S = .ok (.dat (.str sh)) S := by simp only [mRepr, hs]
  have n1 : mtest (mop (mIs) (mvar 7) (mcst .none)) (ml a0 a1 a2 (some v) a4 a5 a6 (some (.exc "InvalidText" v)) none a9 a10 a11) S = .ok false S := rfl
  have n2 := (mop_ok (g := mD gNe) (m := ml a0 a1 a2 (some v) a4 a5 a6 (some (.exc "InvalidText" v)) none a9 a10 a11) ((c1_ok (f := mvalE errs (mvar 7)) (x := v) (S1 := S) rfl).trans r) ((c1_ok (f := mvar 3) (x := v) (S1 := S) rfl).trans r)).trans (mD_ok (r := .bool false) (by rw [gNe_str]; simp) rfl)
  have p3 := mifS_f (f := mret (mcst (.bool false))) (g := mskip) ((or_f n1).trans (test_ok n2))
  exact ⟨_, _, (mseq_n p1).trans ((mseq_n p2).trans (p3.trans rfl))⟩
theorem wrong_exc {v : MV} {ty : String} {S : Sto} (ht : tyM S v = some ty) (hk : L2.kitB ty "str" = some false) : m_wrong_line [v] S = .exc "InvalidText" v S := by
  have hi : mIsi [v, .cst (.ty "str")] S = .ok (.dat (.bool false)) S := by simp only [mIsi, ht, hk]
  have p1 := mifS_t (f := mraise "InvalidText" (mvar 0)) (g := mskip) (not_ok (test_ok ((c2_ok (f := mvar 0) (f2 := mcv (.ty "str")) (m := [some v]) (S := S) rfl rfl).trans hi)))
  have p2 : mraise "InvalidText" (mvar 0) [some v] S = .exc "InvalidText" v [some v] S := rfl
  have fin := mseq_e (g := mret (mcall m_wrong_by (mcons (mvar 0) mnil))) (p1.trans p2)
  have fn : mfun 1 1 b_wrong_line [v] S = .exc "InvalidText" v S := mfun_exc rfl (show b_wrong_line _ _ = _ from fin)
  show mclean (mfun 1 1 b_wrong_line) [v] S = _
  unfold mclean
  rw [fn]
theorem wl_t {v : MV} {ty : String} {sh : Str} {a0 a1 a2 a3 a4 a5 a6 a7 a8 a9 a10 a11 : Option MV} {S : Sto} (ht : tyM S v = some ty) (hk : L2.kitB ty "str" = some false) (hs : shownM S v = some sh) {vs : List MV}
    (h : ∀ a7 a8 : Option MV, ∃ y3 y7 y8, mforGo (gset 3) Bw vs (ml a0 a1 a2 (some v) a4 a5 a6 a7 a8 a9 a10 a11) S = .next (ml a0 a1 a2 y3 a4 a5 a6 y7 y8 a9 a10 a11) S) :
    ∃ y3 y7 y8, mforGo (gset 3) Bw (v :: vs) (ml a0 a1 a2 a3 a4 a5 a6 a7 a8 a9 a10 a11) S = .next (ml a0 a1 a2 y3 a4 a5 a6 y7 y8 a9 a10 a11) S := by
  obtain ⟨y7, y8, e⟩ := w_turn (a0 := a0) (a1 := a1) (a2 := a2) (a4 := a4) (a5 := a5) (a6 := a6) (a7 := a7) (a8 := a8) (a9 := a9) (a10 := a10) (a11 := a11) ht hk hs (wrong_exc ht hk)
  obtain ⟨w3, w7, w8, e2⟩ := h y7 y8
  refine ⟨w3, w7, w8, ?_⟩
  have st : mforGo (gset 3) Bw (v :: vs) (ml a0 a1 a2 a3 a4 a5 a6 a7 a8 a9 a10 a11) S = (Bw (ml a0 a1 a2 (some v) a4 a5 a6 a7 a8 a9 a10 a11) S).and (mforGo (gset 3) Bw vs) := rfl
  rw [st, e, ra_next, e2]
def six6 : List MV := [.dat .none, .dat (.int 7), .dat (.list [.str "points 1", .str "0"]), .dat (.bool true), .dat (.tuple [.str "points 1\n0\n"]), .dct]
theorem sh_of {S : Sto} {d : PyData} (h1 : d.showable = true) (h2 : d.shown.length ≤ 16777216) (h3 : d.depth ≤ 64) : shownM S (.dat d) = some d.shown := by
  unfold shownM
  simp only [look_dat]
  rw [if_pos ⟨h1, h2, h3⟩]
theorem w_go {a0 a1 a2 a3 a4 a5 a6 a7 a8 a9 a10 a11 : Option MV} {S : Sto} : ∃ y3 y7 y8, mforGo (gset 3) Bw six6 (ml a0 a1 a2 a3 a4 a5 a6 a7 a8 a9 a10 a11) S = .next (ml a0 a1 a2 y3 a4 a5 a6 y7 y8 a9 a10 a11) S := by
  unfold six6
  refine wl_t (ty := "NoneType") rfl (by decide +kernel) (sh_of (by decide +kernel) (by decide +kernel) (by decide +kernel)) fun _ _ => ?_
  refine wl_t (ty := "int") rfl (by decide +kernel) (sh_of (by decide +kernel) (by decide +kernel) (by decide +kernel)) fun _ _ => ?_
  refine wl_t (ty := "list") rfl (by decide +kernel) (sh_of (by decide +kernel) (by decide +kernel) (by decide +kernel)) fun _ _ => ?_
  refine wl_t (ty := "bool") rfl (by decide +kernel) (sh_of (by decide +kernel) (by decide +kernel) (by decide +kernel)) fun _ _ => ?_
  refine wl_t (ty := "tuple") rfl (by decide +kernel) (sh_of (by decide +kernel) (by decide +kernel) (by decide +kernel)) fun _ _ => ?_
  refine wl_t (ty := "dict") rfl (by decide +kernel) rfl fun _ _ => ?_
  exact ⟨_, _, _, rfl⟩
end K86
end

section
set_option Elab.async false
set_option linter.all false
set_option maxRecDepth 100000
set_option maxHeartbeats 2000000
namespace K86
open PySem PX
def W6 : List Str := (allR 6).map word
def full : Str := "points 6\n" ++ Txt.join "" (W6.map nl)
def parts : List Str := "points 6" :: (W6 ++ [("" : Str)])
def P33 : List Str := "points 6" :: W6.take 32
def t33 : Str := Txt.join "" (P33.map nl)
theorem tl10 : TL.tl ("\n" : Str) = 10 :: [] := by decide +kernel
theorem f_join : Txt.join "\n" parts = full := by decide +kernel
theorem f_free : ∀ p ∈ parts, 10 ∉ TL.tl p := by decide +kernel
theorem f_lns : lns full = parts := by
  show Txt.split full "\n" = parts
  rw [← f_join]
  exact TL.split_join tl10 (by decide +kernel) (by unfold parts; simp) f_free
theorem g_join : Txt.join "\n" (P33 ++ [("" : Str)]) = t33 := by decide +kernel
theorem g_free : ∀ p ∈ P33 ++ [("" : Str)], 10 ∉ TL.tl p := by decide +kernel
theorem g_lns : lns t33 = P33 ++ [("" : Str)] := by
  show Txt.split t33 "\n" = _
  rw [← g_join]
  exact TL.split_join tl10 (by decide +kernel) (by simp) g_free
theorem f_scan : scan parts.dropLast = .inl 33 := by decide +kernel
theorem g_scan : (match scan (P33 ++ [("" : Str)]).dropLast with | .inl _ => false | .inr q => decide (q ≠ [])) = true := by decide +kernel
theorem f_wrong : wrongV (lns full) = .int 33 := by
  rw [f_lns]
  unfold wrongV
  rw [f_scan]
  rfl
theorem g_wrong : wrongV (lns t33) = .none := by
  rw [g_lns]
  unfold wrongV
  have h := g_scan
  split
  · rename_i k hk
    rw [hk] at h
    cases h
  · rename_i q hq
    rw [hq] at h
    rw [if_pos ⟨by rw [List.getLastD_eq_getLast?, List.getLast?_concat]; rfl, of_decide_eq_true h⟩]
theorem f_cut : cutD parts none (some 33) = P33 := by decide +kernel
theorem f_len : full.length ≤ 1000 ∧ t33.length ≤ 1000 ∧ (W6.map nl).length = 64 ∧ ((W6.map nl).map (·.length)).sum ≤ 1000 ∧ (Txt.join "" (W6.map nl)).length ≤ 1000 := by decide +kernel
end K86
end

section
set_option Elab.async false
set_option linter.all false
set_option maxRecDepth 100000
set_option maxHeartbeats 2000000
namespace K86
open PySem PX
noncomputable def Ef : EM := (mop (mAdd) (mcst (.str "points 6\n")) (mtxt1 gJoin (mcst (.str "")) (mlc (miter (mcall m__law_all_rows (mcons (mcst (.int 6)) mnil))) (gset 10) myes (mop (mAdd) (mcall m__law_words (mcons (mvar 10) mnil)) (mcst (.str "\n"))) (List.map (·.2) ([("row", 10)] : List (Str × Nat))))))
theorem p9_len : ("points 6\n" : Str).length = 9 := by decide +kernel
def rdI : PyData → Int | .int i => i | _ => 0
theorem rdI_map (r : List Int) : (r.map PyData.int).map rdI = r := by
  rw [List.map_map]
  exact (List.map_congr_left fun x _ => rfl).trans (List.map_id r)
section
variable {a0 a1 a2 a3 a4 a5 a6 a7 a8 a9 a10 a11 : Option MV} {S : Sto}
theorem full_ok : Ef (ml a0 a1 a2 a3 a4 a5 a6 a7 a8 a9 a10 a11) S = .ok (.dat (.str full)) S := by
  have q := lc_map (m := ml a0 a1 a2 a3 a4 a5 a6 a7 a8 a9 a10 a11) (S := S) (S1 := S) (it := miter (mcall m__law_all_rows (mcons (mcst (.int 6)) mnil))) (g := gset 10) (e := mop (mAdd) (mcall m__law_words (mcons (mvar 10) mnil)) (mcst (.str "\n"))) (vs := List.map (·.2) ([("row", 10)] : List (Str × Nat)))
    (f := fun x => match x with | .dat (.list ds) => .str (nl (word (ds.map rdI))) | _ => .none)
    (miter_list ((c1_ok (k_ok (d := .int 6))).trans (ar_ok 6 (by decide) S))) (by unfold rowsD; rw [List.length_map, List.length_map]; exact Nat.le_trans (Nat.le_of_eq (allR_len 6)) (by decide)) fun x hx => by
      obtain ⟨d, hd, rfl⟩ := List.mem_map.mp hx
      unfold rowsD at hd
      obtain ⟨r, hr, rfl⟩ := List.mem_map.mp hd
      obtain ⟨h1, h2⟩ := allR_row _ r hr
      have h1' : r.length = 6 := h1
      have hw := words_ok (r := r) (by omega) h2 S
      have wl := (word_ok h2).1
      refine ⟨_, rfl, (mop_ok ((c1_ok (f := mvar 10) rfl).trans hw) k_ok).trans ((mAdd_str (by rw [len_nl]; omega)).trans ?_)⟩
      show Res.ok (MV.dat (.str (word r ++ "\n"))) S = Res.ok (MV.dat (.str (nl (word ((r.map PyData.int).map rdI))))) S
      rw [rdI_map]
      rfl
  have q2 : ((rowsD (allR (6 : Int).toNat)).map MV.dat).map (fun x => match x with | MV.dat (.list ds) => PyData.str (nl (word (ds.map rdI))) | _ => .none) = (W6.map nl).map PyData.str := by
    show ((rowsD (allR 6)).map MV.dat).map _ = _
    unfold rowsD W6
    simp only [List.map_map]
    refine List.map_congr_left fun r _ => ?_
    show PyData.str (nl (word ((r.map PyData.int).map rdI))) = PyData.str (nl (word r))
    rw [rdI_map]
  rw [q2] at q
  have fl := f_len
  exact (addS (X := "points 6\n") k_ok (join_ok q (by omega)) (by rw [p9_len]; omega))
noncomputable def Tf : TM := (mor (mtest (mop (mD gNe) (mcall m_wrong_line (mcons (mvar 2) mnil)) (mcst (.int 33)))) (mtest (mop (mIsNot) (mcall m_wrong_line (mcons (mtxt1 gJoin (mcst (.str "")) (mlc (miter (mslice (mtxt1 gSplit (mvar 2) (mcst (.str "\n"))) none (some (mcst (.int 33))))) (gset 11) myes (mop (mAdd) (mvar 11) (mcst (.str "\n"))) (List.map (·.2) ([("line", 11)] : List (Str × Nat))))) mnil)) (mcst .none))))
theorem p33_len : P33.length ≤ 10000 ∧ ∀ l ∈ P33, l.length ≤ 1000 := by decide +kernel
theorem tf_ok : Tf (ml a0 a1 (some (.dat (.str full))) a3 a4 a5 a6 a7 a8 a9 a10 a11) S = .ok false S := by
  have fl := f_len
  have w1 := wl_ok (text := full) (S0 := S) (by omega)
  rw [f_wrong] at w1
  have w2 := wl_ok (text := t33) (S0 := S) (by omega)
  rw [g_wrong] at w2
  have t1 : mtest (mop (mD gNe) (mcall m_wrong_line (mcons (mvar 2) mnil)) (mcst (.int 33))) (ml a0 a1 (some (.dat (.str full))) a3 a4 a5 a6 a7 a8 a9 a10 a11) S = .ok false S :=
    test_ok ((mop_ok (g := mD gNe) ((c1_ok (f := mvar 2) rfl).trans w1) (k_ok (d := .int 33))).trans (mD_ok (r := .bool false) rfl rfl))
  have sp := split_gen (fo := mvar 2) (m := ml a0 a1 (some (.dat (.str full))) a3 a4 a5 a6 a7 a8 a9 a10 a11) (S := S) (S1 := S) (text := full) rfl (by omega)
  rw [f_lns] at sp
  have cu := cutL (lo := none) (hi := some (mcst (.int 33))) (h := some 33) (l := none) sp mpart_none (mpart_int (k_ok (d := .int 33)))
  rw [f_cut] at cu
  have jn := nls_ok (j := 11) (vs := List.map (·.2) ([("line", 11)] : List (Str × Nat))) cu (by simp [mwipe]) p33_len.1 p33_len.2
  have t2 := test_ok ((mop_ok (g := mIsNot) ((c1_ok jn).trans w2) (k_ok (d := .none))).trans (show mIsNot (.dat .none) (.dat .none) S = .ok (.dat (.bool false)) S from rfl))
  exact (or_f t1).trans t2
end
theorem law_true (ns : List Int) (h : ns.length ≤ 63) (hb : ∀ z ∈ ns, Builtin.Int.intBits z ≤ 1048576) : ∃ S', m_law [.dat (.list (ns.map PyData.int))] [] = .ok (.dat (.bool true)) S' := by
  have hB : b_law = mseq (mfor (mrng1 (mcons (mcst (.int 6)) mnil)) (gset 1) Bo) (mseq (masg Ef (gset 2)) (mseq (mifS Tf (mret (mcst (.bool false))) mskip)
    (mseq (mfor (miter (mlstM (mcons (mcst .none) (mcons (mcst (.int 7)) (mcons (mlst (mcons (mcst (.str "points 1")) (mcons (mcst (.str "0")) mnil))) (mcons (mcst (.bool true)) (mcons (mtup (mcons (mcst (.str "points 1\n0\n")) mnil)) (mcons mdct mnil)))))))) (gset 3) Bw) (mret (mcst (.bool true)))))) := rfl
  obtain ⟨y1, y4, y5, y6, y7, y8, y9, S1, e1⟩ := o_go (ns := ns) (a2 := none) (a3 := none) (a10 := none) (a11 := none) 6 0 none none none none none none none [] (by decide) (by decide)
  have p1 := (mfor_is (g := gset 1) (b := Bo) (mrng1_eq (m := ml (some (.dat (.list (ns.map PyData.int)))) none none none none none none none none none none none) (S := []) (a1_ok (k_ok (d := .int 6))) rfl)).trans e1
  have p2 := masg_n (i := 2) (full_ok (a0 := some (.dat (.list (ns.map PyData.int)))) (a1 := y1) (a2 := none) (a3 := none) (a4 := y4) (a5 := y5) (a6 := y6) (a7 := y7) (a8 := y8) (a9 := y9) (a10 := none) (a11 := none) (S := S1))
  have p3 := mifS_f (f := mret (mcst (.bool false))) (g := mskip) (tf_ok (a0 := some (.dat (.list (ns.map PyData.int)))) (a1 := y1) (a3 := none) (a4 := y4) (a5 := y5) (a6 := y6) (a7 := y7) (a8 := y8) (a9 := y9) (a10 := none) (a11 := none) (S := S1))
  have i6 : ∀ (m : Sl), miter (mlstM (mcons (mcst .none) (mcons (mcst (.int 7)) (mcons (mlst (mcons (mcst (.str "points 1")) (mcons (mcst (.str "0")) mnil))) (mcons (mcst (.bool true)) (mcons (mtup (mcons (mcst (.str "points 1\n0\n")) mnil)) (mcons mdct mnil))))))) m S1 = .ok six6 S1 := fun m => rfl
  obtain ⟨z3, z7, z8, e4⟩ := w_go (a0 := some (.dat (.list (ns.map PyData.int)))) (a1 := y1) (a2 := some (.dat (.str full))) (a3 := none) (a4 := y4) (a5 := y5) (a6 := y6) (a7 := y7) (a8 := y8) (a9 := y9) (a10 := none) (a11 := none) (S := S1)
  have p4 := (mfor_is (g := gset 3) (b := Bw) (i6 _)).trans e4
  have fin := (mseq_n p1).trans ((mseq_n p2).trans ((mseq_n (p3.trans rfl)).trans ((mseq_n p4).trans (mret_r (e := mcst (.bool true)) k_ok))))
  rw [← hB] at fin
  have fn : mfun 1 12 b_law [.dat (.list (ns.map PyData.int))] [] = .ok (.dat (.bool true)) S1 := mfun_ret rfl (show b_law _ _ = _ from fin)
  exact ⟨_, mclean_ok' fn rfl ⟨Nat.zero_le _, fun i o hi _ => absurd hi (Nat.not_lt_zero _)⟩⟩
end K86
end

open PySem PySem.W PyProof.Rows
set_option maxHeartbeats 0 in
theorem PySem.Challenge.cw_learntsurely_k86_whole_wrong_lines_of_fa_holds : PySem.Challenge.rw_learntsurely_k86_whole_wrong_lines_of_fa.Holds := by
  w_on; o_law; k_head; (case hw => w_witness2)
  k_fill
  refine PX.walk_ofG (l := PySem.Challenge.rw_learntsurely_k86_whole_wrong_lines_of_fa) (n := 63) (k := 10) (x := "script") (g := K86.m_law) rfl (by decide) rfl ⟨rfl, by decide, by decide⟩ (fun w h Y => PySem.W.kIn_of Y) ?F ?g
  case g => exact K86.law_true
  case F =>
    intro w mg fa h KX G hmg
    refine' K86.all_mk KX G hmg ?a0 ?l0 ?c0 ?k0 ?a1 ?l1 ?c1 ?k1 ?a2 ?l2 ?c2 ?k2 ?a3 ?l3 ?c3 ?k3 ?a4 ?l4 ?c4 ?k4 ?a5 ?l5 ?c5 ?k5 ?a6 ?l6 ?c6 ?k6 ?a7 ?l7 ?c7 ?k7 ?a8 ?l8 ?c8 ?k8 ?a9 ?l9 ?c9 ?k9 ?a10 ?l10 ?c10 ?k10 ?a11 ?l11 ?c11 ?k11 ?a12 ?l12 ?c12 ?k12 ?a13 ?l13 ?c13 ?k13 ?a14 ?l14 ?c14 ?k14 ?a15 ?l15 ?c15 ?k15 ?a16 ?l16 ?c16 ?k16 ?a17 ?l17 ?c17 ?k17 ?a18 ?l18 ?c18 ?k18 ?a19 ?l19 ?c19 ?k19 ?z_all ?z_enumerate ?z_int ?z_isinstance ?z_len ?z_list ?z_max ?z_min ?z_range ?z_repr ?z_sorted ?z_str ?z_sum ?q_END ?q_MOST_POINTS ?q_MOST_ROWS ?aC0 ?aD ?xD ?xC0 ?iC0 ?sa0 ?ga0 ?gg0 ?nv0 ?kC0 ?eC0 ?tC0 ?hC0 ?yC0 ?sD0 ?sV0 ?ne0 ?s_InvalidText_InvalidText ?tI ?l_0 ?c_0 ?lT ?zT ?lcd ?hvs ?hfl ?lcc ?any ?sup ?htop
    (case a0 => k_is)
    (case l0 => k_is)
    (case c0 => k_is)
    (case k0 => k_is)
    (case a1 => k_is)
    (case l1 => k_is)
    (case c1 => k_is)
    (case k1 => k_is)
    (case a2 => k_is)
    (case l2 => k_is)
    (case c2 => k_is)
    (case k2 => k_is)
    (case a3 => k_is)
    (case l3 => k_is)
    (case c3 => k_is)
    (case k3 => k_is)
    (case a4 => k_is)
    (case l4 => k_is)
    (case c4 => k_is)
    (case k4 => k_is)
    (case a5 => k_is)
    (case l5 => k_is)
    (case c5 => k_is)
    (case k5 => k_is)
    (case a6 => k_is)
    (case l6 => k_is)
    (case c6 => k_is)
    (case k6 => k_is)
    (case a7 => k_is)
    (case l7 => k_is)
    (case c7 => k_is)
    (case k7 => k_is)
    (case a8 => k_is)
    (case l8 => k_is)
    (case c8 => k_is)
    (case k8 => k_is)
    (case a9 => k_is)
    (case l9 => k_is)
    (case c9 => k_is)
    (case k9 => k_is)
    (case a10 => k_is)
    (case l10 => k_is)
    (case c10 => k_is)
    (case k10 => k_is)
    (case a11 => k_is)
    (case l11 => k_is)
    (case c11 => k_is)
    (case k11 => k_is)
    (case a12 => k_is)
    (case l12 => k_is)
    (case c12 => k_is)
    (case k12 => k_is)
    (case a13 => k_is)
    (case l13 => k_is)
    (case c13 => k_is)
    (case k13 => k_is)
    (case a14 => k_is)
    (case l14 => k_is)
    (case c14 => k_is)
    (case k14 => k_is)
    (case a15 => k_is)
    (case l15 => k_is)
    (case c15 => k_is)
    (case k15 => k_is)
    (case a16 => k_is)
    (case l16 => k_is)
    (case c16 => k_is)
    (case k16 => k_is)
    (case a17 => k_is)
    (case l17 => k_is)
    (case c17 => k_is)
    (case k17 => k_is)
    (case a18 => k_is)
    (case l18 => k_is)
    (case c18 => k_is)
    (case k18 => k_is)
    (case a19 => k_is)
    (case l19 => k_is)
    (case c19 => k_is)
    (case k19 => k_is)
    (case z_all => k_is)
    (case z_enumerate => k_is)
    (case z_int => k_is)
    (case z_isinstance => k_is)
    (case z_len => k_is)
    (case z_list => k_is)
    (case z_max => k_is)
    (case z_min => k_is)
    (case z_range => k_is)
    (case z_repr => k_is)
    (case z_sorted => k_is)
    (case z_str => k_is)
    (case z_sum => k_is)
    (case q_END => k_is)
    (case q_MOST_POINTS => k_is)
    (case q_MOST_ROWS => k_is)
    (case aC0 => k_is)
    (case aD => k_is)
    (case xD => k_is)
    (case xC0 => k_is)
    (case iC0 => k_is)
    (case sa0 => k_is)
    (case ga0 => k_is)
    (case gg0 => k_is)
    (case nv0 => k_is)
    (case kC0 => k_is)
    (case eC0 => k_is)
    (case tC0 => k_is)
    (case hC0 => k_is)
    (case yC0 => k_is)
    (case sD0 => k_is)
    (case sV0 => k_is)
    (case ne0 => decide)
    (case s_InvalidText_InvalidText => first | k_is | rfl)
    (case tI => k_is)
    (case l_0 => k_is)
    (case c_0 => k_is)
    (case lT => k_is)
    (case zT => rfl)
    (case lcd => k_is)
    (case hvs => rfl)
    (case hfl => first | rfl | decide +kernel)
    (case lcc => k_is)
    (case any => k_is)
    (case sup => k_is)
    (case htop => first | rfl | decide +kernel)
