import PyProof.Rows.All
import Wide.All
import OpenK.AllK
import Wide.FinOn
import KE.KStateDown
import HandS.ForMost
import HandS.ForExc
import HandS.Defaults
import HandS.Conv
import HandS.Sort
import HandS.SortRule
import HandS.SortInts
import HandS.IsInst
import HandS.ExcIs
import HandS.Evl
import HandS.TupLen
import HandS.Style
import HandS.Head0
import HandS.Head1
import HandS.Head2
import HandS.HeadEnd
import HandS.HeadHook1
import HandS.HeadHook2
import KE.SortData
import KE.KEqSeq
import PySem.Challenge.RW_waitwheel_k07_in_one_piece
set_option Elab.async false
set_option linter.all false
set_option maxRecDepth 100000
set_option maxHeartbeats 4000000
namespace WW
open PySem PySem.Spec PyProof.Rows L2
/-! ### defs, methods, the class: bundles -/
structure Cl (P : Program) (w : World) (K : PySem.W.Frag) (mg : Str → Option Value) (base : Heap) (k : Nat) (x : Str) (sp : Sp) : Prop where
  ex : ∃ (f : Addr) (fd : FuncData) (ps : List Str), FnOk P w K mg base (L2.CX P w) k f fd ps sp ∧ mg x = some (.ref f) ∧ PySem.W.keepIn K (.ref f) = true ∧ Binds K fd ps []
structure Mt (P : Program) (w : World) (K : PySem.W.Frag) (mg : Str → Option Value) (base : Heap) (k : Nat) (C : Addr) (m : Str) (sp : Sp) : Prop where
  ex : ∃ (f : Addr) (fd : FuncData) (ps : List Str), Cls K C ∧ Meth K C m f ∧ FnOk P w K mg base (L2.CX P w) k f fd ps sp ∧ Binds K fd ps []
structure Mkr (P : Program) (w : World) (K : PySem.W.Frag) (mg : Str → Option Value) (base : Heap) (k : Nat) (x : Str) (C : Addr) (sp : Sp) : Prop where
  ex : ∃ (f : Addr) (fd : FuncData) (ps : List Str), Mk K C f ∧ FnOk P w K mg base (L2.CX P w) k f fd ps sp ∧ mg x = some (.ref C) ∧ Binds K fd ps []
section
variable {X : Cx} {k j : Nat} {C : Addr} {x m : Str} {sp : Sp} {p pos apos : Pos} {e o : Expr} {es : List Expr} {ta : TE} {t : TA} {E : XK}
theorem pcl (c : Cl X.prog X.w X.K X.mg X.base k x sp) (hr : Room j X.A) (hk : k ≤ j) (hx : Passes (L2.CX X.prog X.w) X E) (ha : PA X (e :: es) t) (hg : Gl X x := by rfl)
    (hdb : (x == ("__debug__" : Str)) = false := by decide) (he : starEach (e :: es) X.env = (false, eval e X.env) :: starEach es X.env := by rfl) (hpl : (backTo pos (starEach es X.env)).any (·.1) = false := by rfl) :
    PE X (.Call (.Name x p) (e :: es) [] pos) (tCall sp [] E t) := by
  obtain ⟨f, fd, ps, F, hm, kp, b⟩ := c.ex
  exact pe_call F (hr.mono hk) hg hm kp b .nil hx ha hdb he hpl
theorem pmk (c : Mkr X.prog X.w X.K X.mg X.base k x C sp) (hr : Room j X.A) (hk : k + 1 ≤ j) (hx : Passes (L2.CX X.prog X.w) X E) (ha : PA X (e :: es) t) (hg : Gl X x := by rfl)
    (hdb : (x == ("__debug__" : Str)) = false := by decide) (he : starEach (e :: es) X.env = (false, eval e X.env) :: starEach es X.env := by rfl) (hpl : (backTo pos (starEach es X.env)).any (·.1) = false := by rfl) :
    PE X (.Call (.Name x p) (e :: es) [] pos) (tMake C sp [] E t) := by
  obtain ⟨f, fd, ps, M, F, hm, b⟩ := c.ex
  exact pe_make M F (hr.mono hk) hg hm b .nil hx ha hdb he hpl
theorem pmt {pl : Sem Bool} (c : Mt X.prog X.w X.K X.mg X.base k C m sp) (hr : Room j X.A) (hk : k ≤ j) (hx : Passes (L2.CX X.prog X.w) X E) (he : PE X o ta) (ha : PA X (e :: es) t)
    (hst : starEach (e :: es) X.env = (false, eval e X.env) :: starEach es X.env := by rfl) (hpl : (backTo pos (starEach es X.env)).any (·.1) = false := by rfl)
    (ht : eval (.Call (.Attribute o m apos) (e :: es) [] pos) X.env = (do
      let ov ← eval o X.env
      standAt apos.atName
      let (f, first) ← holding [ov] (getMethod ov m pl)
      callWith pos f first (backTo pos (starEach (e :: es) X.env)) (backToKw pos (keywordEach [] X.env))) := by rfl) :
    PE X (.Call (.Attribute o m apos) (e :: es) [] pos) (tMeth C m sp [] E ta t) := by
  obtain ⟨f, fd, ps, hc, hm, F, b⟩ := c.ex
  exact pe_meth (pl := pl) he hc hm F (hr.mono hk) b .nil hx ha hst hpl ht
theorem pmt0 {pl : Sem Bool} (c : Mt X.prog X.w X.K X.mg X.base k C m sp) (hr : Room j X.A) (hk : k ≤ j) (hx : Passes (L2.CX X.prog X.w) X E) (he : PE X o ta)
    (ht : eval (.Call (.Attribute o m apos) [] [] pos) X.env = (do
      let ov ← eval o X.env
      standAt apos.atName
      let (f, first) ← holding [ov] (getMethod ov m pl)
      callWith pos f first (backTo pos (starEach [] X.env)) (backToKw pos (keywordEach [] X.env))) := by rfl) :
    PE X (.Call (.Attribute o m apos) [] [] pos) (tMeth C m sp [] E ta tNil) := by
  obtain ⟨f, fd, ps, hc, hm, F, b⟩ := c.ex
  exact pe_meth0 (pl := pl) he hc hm F (hr.mono hk) b .nil hx ht
end
/-! the bundles from a def's datum -/
section
variable {P : Program} {w : World} {K : PySem.W.Frag} {mg : Str → Option Value} {base : Heap} {x qual : Str} {params : Arguments} {body : List Stmt} {scope : Scope} {f C : Addr} {fd : FuncData} {N ps : List Str} {k : Nat} {sp : Sp}
abbrev Body (P : Program) (w : World) (K : PySem.W.Frag) (mg : Str → Option Value) (base : Heap) (N : List Str) (qual : Str) (scope : Scope) (body : List Stmt) (f : Addr) (k : Nat) (sp : Sp) : Prop :=
  ∀ (cdv : Value) (A : Around) (outer : List Env) (s : Shared) (H : Hp) (vs : List V) (Q : VK) (E : XK), Room k (A.deeper (envOfC qual scope s.heap.objs.size f cdv)) → sp vs H Q E →
      ∃ t, PSs (cxOf (L2.CX P w) P w K mg base N qual scope f cdv A outer s H E) body t ∧ t { nx := fun _ H' => Q .non H', rt := Q } (start N vs) H
abbrev BindN (params : Arguments) (body : List Stmt) (scope : Scope) (x qual : Str) (ps : List Str) : Prop :=
  ∀ (kV doc pm : Value) (an : Option Addr) (cdv ct : Value) (us : List Value), us.length = ps.length → bindArgs (PySem.W.fnOf x qual params body scope .none kV doc pm an cdv ct) ⟨us, []⟩ = pure (ps.zip us)
theorem fd_binds (F : FunD K x qual params body scope [] [] f fd) (h : BindN params body scope x qual ps) : Binds K fd ps [] := F.bindsN h
theorem cl_of (F : FunD K x x params body scope [] [] f fd) (hm : mg x = some (.ref f)) (b : BindN params body scope x x ps) (S : FnScope N ps scope) (len : ∀ vs H Q E, sp vs H Q E → vs.length = ps.length)
    (hb : Body P w K mg base N x scope body f k sp) : Cl P w K mg base (k + 1) x sp :=
  ⟨f, fd, ps, F.ok S len hb, hm, F.kp, fd_binds F b⟩
theorem mt_of (c : Cls K C) (me : Meth K C x f) (F : FunD K x qual params body scope [] [] f fd) (b : BindN params body scope x qual ps) (S : FnScope N ps scope) (len : ∀ vs H Q E, sp vs H Q E → vs.length = ps.length)
    (hb : Body P w K mg base N qual scope body f k sp) : Mt P w K mg base (k + 1) C x sp :=
  ⟨f, fd, ps, c, me, F.ok S len hb, fd_binds F b⟩
theorem mk_of {y : Str} (M : Mk K C f) (hm : mg y = some (.ref C)) (F : FunD K x qual params body scope [] [] f fd) (b : BindN params body scope x qual ps) (S : FnScope N ps scope) (len : ∀ vs H Q E, sp vs H Q E → vs.length = ps.length)
    (hb : Body P w K mg base N qual scope body f k sp) : Mkr P w K mg base (k + 1) y C sp :=
  ⟨f, fd, ps, M, F.ok S len hb, hm, fd_binds F b⟩
end
/-! ### the head's facts: those of HeadHook2 and one Bool more -/
def obsEG (n : Nat) (fa : List He.Fa) (fn : List He.DefD) (ex : PySem.W.Frag → Bool) (g : Addr → Option Obj) : He.AlD × Bool := (He.obsDG n fa fn g, ex (He.frG g (He.asD g n)))
def hookE (n : Nat) (fa : List He.Fa) (fn : List He.DefD) (ex : PySem.W.Frag → Bool) : PySem.W.Hook where
  α := He.AlD × Bool
  obs := fun s => obsEG n fa fn ex s.heap.get?
  val := fun _ => (He.valD fn, true)
  says := fun _ h => ∃ K : PySem.W.Frag, K.In h ∧ He.SaysD fa fn K ∧ ex K = true
  of := fun _ _ e => ⟨_, He.frG_in, congrArg (fun z : He.AlD × Bool => z.1) e, congrArg (fun z : He.AlD × Bool => z.2) e⟩
  keeps := fun _ _ _ ⟨K, hK, c⟩ k => ⟨K, PySem.W.Frag.In.keeps hK k, c⟩
theorem obsEG_eq {n : Nat} {fa : List He.Fa} {fn : List He.DefD} {ex : PySem.W.Frag → Bool} {g : Addr → Option Obj} {s : Shared} (h : ∀ a, g a = s.heap.get? a) : obsEG n fa fn ex g = (hookE n fa fn ex).obs s := by
  have e : g = s.heap.get? := funext h
  rw [e] <;> rfl
/-! ### tests by what they decide -/
theorem iteD {p A B : Prop} [Decidable p] (h1 : p → A) (h2 : ¬ p → B) : if decide p = true then A else B := by
  by_cases h : p
  · rw [if_pos (decide_eq_true h)]
    exact h1 h
  · rw [if_neg (fun z => h (of_decide_eq_true z))]
    exact h2 h
theorem iteN {p A B : Prop} [Decidable p] (h1 : ¬ p → A) (h2 : p → B) : if (!decide p) = true then A else B := by
  by_cases h : p
  · rw [decide_eq_true h]
    exact iteF (h2 h)
  · rw [decide_eq_false h]
    exact iteT (h1 h)
/-- two ints told apart as values -/
theorem iteI {a b : Int} {A B : Prop} (h1 : a = b → A) (h2 : ¬ a = b → B) : if decide (V.int a = V.int b) = true then A else B :=
  iteD (fun h => h1 (V.int.inj h)) fun h => h2 fun z => h (congrArg V.int z)
theorem iteNI {a b : Int} {A B : Prop} (h1 : ¬ a = b → A) (h2 : a = b → B) : if (!decide (V.int a = V.int b)) = true then A else B :=
  iteN (fun h => h1 fun z => h (congrArg V.int z)) (fun h => h2 (V.int.inj h))
theorem iteB {b : Bool} {A B : Prop} (h1 : b = true → A) (h2 : b = false → B) : if b = true then A else B := by
  cases b with
  | true => exact iteT (h1 rfl)
  | false => exact iteF (h2 rfl)
end WW

namespace WW
open PySem PySem.Spec PyProof.Rows L2
abbrev Ex := Evl.Ex
/-! ### heaps that grow -/
theorem Ex.at {H H' : Hp} (e : Ex H H') {a : Addr} {o : HO} (h : H a = some o) : H' a = some o := e a o h
theorem Ex.sq {K : PySem.W.Frag} {H H' : Hp} {a : Addr} {xs : List V} (e : Ex H H') (h : SqL K H a xs) : SqL K H' a xs := Evl.ex_l e h
theorem Ex.fresh {H H' : Hp} {p : Addr} (e : Ex H H') (h : H' p = none) : H p = none := Evl.fresh_back e h
theorem Ex.more {H H' : Hp} {p : Addr} {o : HO} (e : Ex H H') (h : H' p = none) : Ex H (upd H' p o) := Evl.Ex.trans e (Evl.Ex.new h)
theorem Ex.mutd {H H' : Hp} {p : Addr} {o : HO} (e : Ex H H') (h : H p = none) : Ex H (upd H' p o) := Evl.Ex.mut e h
theorem ex0 (H : Hp) : Ex H H := Evl.Ex.refl H
theorem Ex.tr {H H1 H2 : Hp} (a : Ex H H1) (b : Ex H1 H2) : Ex H H2 := Evl.Ex.trans a b
/-- an object that stands is kept by a store to another kind of thing -/
theorem upd_at {H : Hp} {a p : Addr} {o u : HO} (h : H a = some o) (hp : a ≠ p) : upd H p u a = some o := (upd_ne hp).trans h
theorem upd_new {H : Hp} {a p : Addr} {o u : HO} (h : H a = some o) (hp : H p = none) : upd H p u a = some o := upd_at h (ne_of_none h hp)
theorem sl {K : PySem.W.Frag} {H : Hp} {a : Addr} {xs : List V} (h : H a = some (.lst xs)) : SqL K H a xs := .inl (.inl h)
theorem stp {K : PySem.W.Frag} {H : Hp} {a : Addr} {xs : List V} (h : H a = some (.tup xs)) : SqT K H a xs := .inl (.inl h)
theorem szl {n : Nat} (h : n ≤ 100000) : n ≤ sizeLine := Nat.le_trans h (by decide)
theorem szt {n : Nat} (h : n < 100000) : n < sizeLine := Nat.lt_of_lt_of_le h (by decide)
/-! ### loops over range(n) -/
theorem for_rng {n : Nat} {g : TG} {tb : TS} {D : Ends} {σ : L2.St} {H : Hp} (Pv : Nat → L2.St → Hp → Prop) (h0 : Pv 0 σ H)
    (hs : ∀ i σ H, i < n → Pv i σ H → g (.int (i : Int)) σ H fun σ2 H2 => tb { D with nx := Pv (i + 1), ct := Pv (i + 1), bk := D.nx } σ2 H2) (hd : ∀ σ H, Pv n σ H → D.nx σ H) :
    ∃ W : Nat → Nat → L2.St → Hp → Prop, (∃ m, W 0 m σ H) ∧ ∀ i m σ H, W i m σ H →
      ((Itr 0 n).stop i H ∧ D.nx σ H) ∨ ((Itr 0 n).go i H ∧ ∃ N : L2.St → Hp → Prop, (∀ σ' H', N σ' H' → ∃ m', m' < m ∧ W (i + 1) m' σ' H') ∧ ∀ x H', (Itr 0 n).yld i H x H' → g x σ H' fun σ2 H2 => tb { D with nx := N, ct := N, bk := D.nx } σ2 H2) :=
  for_range (lo := 0) Pv h0 (fun i σ H hi hp => by rw [Int.zero_add]; exact hs i σ H hi hp) hd
theorem lc_rng {n : Nat} {g : TG} {tt : TT} {te : TE} {vs : List Nat} {σ : L2.St} {H1 : Hp} {D : Addr} {Qd : Hp → Prop} (Pv : Nat → Hp → Prop) (h0 : Pv 0 (upd H1 D (.lst [])))
    (hs : ∀ i H, i < n → Pv i H → g (.int (i : Int)) (wipe σ vs) H fun σ2 H2 => wipe σ2 vs = wipe σ vs ∧ tt σ2 H2 fun b H3 =>
      if b = true then te σ2 H3 fun y H4 => ∃ acc, H4 D = some (.lst acc) ∧ acc.length < sizeLine ∧ Pv (i + 1) (upd H4 D (.lst (acc ++ [y]))) else Pv (i + 1) H3) (hd : ∀ H, Pv n H → Qd H) :
    ∃ W : Nat → Nat → Hp → Prop, (∃ m, W 0 m (upd H1 D (.lst []))) ∧ ∀ i m H, W i m H →
      ((Itr 0 n).stop i H ∧ Qd H) ∨ ((Itr 0 n).go i H ∧ ∃ Nx : Hp → Prop, (∀ H', Nx H' → ∃ m', m' < m ∧ W (i + 1) m' H') ∧ ∀ x H', (Itr 0 n).yld i H x H' → g x (wipe σ vs) H' fun σ2 H2 => wipe σ2 vs = wipe σ vs ∧ tt σ2 H2 fun b H3 =>
        if b = true then te σ2 H3 fun y H4 => ∃ acc, H4 D = some (.lst acc) ∧ acc.length < sizeLine ∧ Nx (upd H4 D (.lst (acc ++ [y]))) else Nx H3) :=
  lc_range (lo := 0) Pv h0 (fun i H hi hp => by rw [Int.zero_add]; exact hs i H hi hp) hd
/-! ### lists of tuples -/
abbrev TupsAt (H : Hp) : List Addr → List (List V) → Prop := Paired fun b r => H b = some (.tup r)
theorem TupsAt.mono {H H' : Hp} (e : Ex H H') {bs : List Addr} {rs : List (List V)} (h : TupsAt H bs rs) : TupsAt H' bs rs := Paired.mapP h fun a _ q => e a _ q
theorem TupsAt.get {H : Hp} : ∀ {bs : List Addr} {rs : List (List V)} {i : Nat} {x : V}, TupsAt H bs rs → (bs.map V.ref)[i]? = some x → ∃ b r, x = .ref b ∧ bs[i]? = some b ∧ rs[i]? = some r ∧ H b = some (.tup r)
  | _, _, _, _, .nil, e => by simp at e
  | b :: _, r :: _, 0, x, .cons h _, e => ⟨b, r, (Option.some.inj e).symm, rfl, rfl, h⟩
  | _ :: bs, _ :: rs, i + 1, x, .cons _ t, e => TupsAt.get (i := i) t e
/-- a list of tuples at a -/
def TL (H : Hp) (a : Addr) (rs : List (List V)) : Prop := ∃ bs, H a = some (.lst (bs.map V.ref)) ∧ TupsAt H bs rs
theorem TL.mono {H H' : Hp} (e : Ex H H') {a : Addr} {rs : List (List V)} (h : TL H a rs) : TL H' a rs := by
  obtain ⟨bs, h1, h2⟩ := h
  exact ⟨bs, e _ _ h1, h2.mono e⟩
/-! ### ties -/
abbrev N3 := Nat × Nat × Int
def vN (t : N3) : List V := [.int (t.1 : Int), .int (t.2.1 : Int), .int t.2.2]
/-- a list of ties at a -/
def TieL (H : Hp) (a : Addr) (us : List N3) : Prop := TL H a (us.map vN)
theorem TieL.mono {H H' : Hp} (e : Ex H H') {a : Addr} {us : List N3} (h : TieL H a us) : TieL H' a us := TL.mono e h
theorem TieL.get {H : Hp} {bs : List Addr} {us : List N3} {i : Nat} {x : V} (h : TupsAt H bs (us.map vN)) (e : (bs.map V.ref)[i]? = some x) : ∃ b t, x = .ref b ∧ us[i]? = some t ∧ H b = some (.tup (vN t)) := by
  obtain ⟨b, r, rfl, _, h2, h3⟩ := h.get e
  rw [List.getElem?_map] at h2
  cases q : us[i]? with
  | none => rw [q] at h2; cases h2
  | some t =>
    rw [q] at h2
    cases h2
    exact ⟨b, t, rfl, rfl, h3⟩
def kE (a b : Nat) : List Key := [.inl (a : Int), .inl (b : Int)]
theorem kE_v (a b : Nat) : (kE a b).map kV = [V.int (a : Int), V.int (b : Int)] := rfl
theorem kE_inj {a b c d : Nat} (h : kE a b = kE c d) : a = c ∧ b = d := by
  unfold kE at h
  injection h with h1 h2
  injection h2 with h2 _
  have e1 := Sum.inl.inj h1
  have e2 := Sum.inl.inj h2
  omega
/-- the dict of the ties -/
def encT (us : List N3) : List (List Key × V) := us.map fun t => (kE t.1 t.2.1, V.int t.2.2)
theorem encT_len (us : List N3) : (encT us).length = us.length := List.length_map ..
def lookT (us : List N3) (a b : Nat) : Option Int := (us.find? fun t => decide (t.1 = a ∧ t.2.1 = b)).map (·.2.2)
theorem encT_val (a b : Nat) : ∀ us : List N3, valV (encT us) (kE a b) = (lookT us a b).map V.int
  | [] => rfl
  | t :: r => by
    have ih := encT_val a b r
    show valV ((kE t.1 t.2.1, V.int t.2.2) :: encT r) (kE a b) = _
    by_cases h : t.1 = a ∧ t.2.1 = b
    · rw [valV_pos (p := (kE t.1 t.2.1, V.int t.2.2)) (by rw [h.1, h.2])]
      unfold lookT
      rw [List.find?_cons, decide_eq_true h]
      rfl
    · rw [valV_neg (p := (kE t.1 t.2.1, V.int t.2.2)) (fun z => h (kE_inj z)), ih]
      unfold lookT
      rw [List.find?_cons, decide_eq_false h]
def putT (us : List N3) (a b : Nat) (w : Int) : List N3 :=
  if (us.any fun t => decide (t.1 = a ∧ t.2.1 = b)) = true then us.map (fun t => if t.1 = a ∧ t.2.1 = b then (t.1, t.2.1, w) else t) else us ++ [(a, b, w)]
theorem encT_put (us : List N3) (a b : Nat) (w : Int) : putK (encT us) (kE a b) (.int w) = encT (putT us a b w) := by
  have e1 : ((encT us).any fun kv => decide (kv.1 = kE a b)) = us.any fun t => decide (t.1 = a ∧ t.2.1 = b) := by
    unfold encT
    rw [List.any_map]
    congr 1
    funext t
    show decide (kE t.1 t.2.1 = kE a b) = _
    by_cases h : t.1 = a ∧ t.2.1 = b
    · rw [decide_eq_true h, decide_eq_true (by rw [h.1, h.2])]
    · rw [decide_eq_false h, decide_eq_false (fun z => h (kE_inj z))]
  unfold putK putT
  rw [e1]
  split
  · unfold encT
    rw [List.map_map, List.map_map]
    refine List.map_congr_left fun t _ => ?_
    show (if kE t.1 t.2.1 = kE a b then _ else _) = (fun t : N3 => (kE t.1 t.2.1, V.int t.2.2)) (if t.1 = a ∧ t.2.1 = b then (t.1, t.2.1, w) else t)
    by_cases h : t.1 = a ∧ t.2.1 = b
    · rw [if_pos h, if_pos (by rw [h.1, h.2])]
    · rw [if_neg h, if_neg (fun z => h (kE_inj z))]
  · unfold encT
    rw [List.map_append]
    rfl
theorem putT_len (us : List N3) (a b : Nat) (w : Int) : (putT us a b w).length ≤ us.length + 1 := by
  unfold putT
  split
  · rw [List.length_map]; omega
  · rw [List.length_append]; exact Nat.le_refl _
/-- the pairs of the ties -/
def keyT (t : N3) : Nat × Nat := (t.1, t.2.1)
theorem putT_keys (us : List N3) (a b : Nat) (w : Int) : ((putT us a b w).map keyT = us.map keyT ∧ (a, b) ∈ us.map keyT) ∨ ((putT us a b w).map keyT = us.map keyT ++ [(a, b)] ∧ (a, b) ∉ us.map keyT) := by
  unfold putT
  split
  · rename_i h
    left
    refine ⟨?_, ?_⟩
    · rw [List.map_map]
      refine List.map_congr_left fun t _ => ?_
      show keyT (if t.1 = a ∧ t.2.1 = b then (t.1, t.2.1, w) else t) = keyT t
      split <;> rfl
    · obtain ⟨t, ht, e⟩ := List.any_eq_true.mp h
      have e := of_decide_eq_true e
      exact List.mem_map.mpr ⟨t, ht, by unfold keyT; rw [e.1, e.2]⟩
  · rename_i h
    right
    refine ⟨by rw [List.map_append]; rfl, fun m => h ?_⟩
    obtain ⟨t, ht, e⟩ := List.mem_map.mp m
    refine List.any_eq_true.mpr ⟨t, ht, decide_eq_true ?_⟩
    unfold keyT at e
    injection e with e1 e2
    exact ⟨e1, e2⟩
theorem putT_nd {us : List N3} (a b : Nat) (w : Int) (h : (us.map keyT).Nodup) : ((putT us a b w).map keyT).Nodup := by
  rcases putT_keys us a b w with ⟨e, _⟩ | ⟨e, hn⟩
  · rw [e]; exact h
  · rw [e]; exact nd_snoc h hn
theorem putT_mem {us : List N3} {a b : Nat} {w : Int} {t : N3} (h : t ∈ putT us a b w) : t ∈ us ∨ t = (a, b, w) := by
  unfold putT at h
  split at h
  · obtain ⟨u, hu, e⟩ := List.mem_map.mp h
    by_cases q : u.1 = a ∧ u.2.1 = b
    · rw [if_pos q] at e
      right
      rw [← e, q.1, q.2]
    · rw [if_neg q] at e
      left
      rw [← e]
      exact hu
  · rcases List.mem_append.mp h with h | h
    · exact .inl h
    · exact .inr (List.mem_singleton.mp h)
theorem sz1 : 1 ≤ sizeLine := by decide
theorem sz2 : 2 ≤ sizeLine := by decide
theorem sz3 : 3 ≤ sizeLine := by decide
theorem lookT_mem : ∀ {us : List N3} {t : N3}, (us.map keyT).Nodup → t ∈ us → lookT us t.1 t.2.1 = some t.2.2
  | [], t, _, h => by simp at h
  | u :: r, t, nd, h => by
    have nd' : (keyT u :: r.map keyT).Nodup := nd
    obtain ⟨n1, n2⟩ := List.nodup_cons.mp nd'
    unfold lookT
    rw [List.find?_cons]
    rcases List.mem_cons.mp h with rfl | h
    · rw [decide_eq_true ⟨rfl, rfl⟩]
      rfl
    · have hn : ¬ (u.1 = t.1 ∧ u.2.1 = t.2.1) := fun z => n1 (List.mem_map.mpr ⟨t, h, by unfold keyT; rw [z.1, z.2]⟩)
      rw [decide_eq_false hn]
      exact lookT_mem n2 h
theorem lookT_some {us : List N3} {a b : Nat} {w : Int} (h : lookT us a b = some w) : (a, b, w) ∈ us := by
  unfold lookT at h
  obtain ⟨t, h1, h2⟩ := Option.map_eq_some_iff.mp h
  have h3 : t.1 = a ∧ t.2.1 = b := of_decide_eq_true (p := t.1 = a ∧ t.2.1 = b) (List.find?_some (p := fun t : N3 => decide (t.1 = a ∧ t.2.1 = b)) h1)
  have h4 := List.mem_of_find?_eq_some h1
  rw [← h2, ← h3.1, ← h3.2]
  exact h4
/-- the keys of the ties' dict, as list(..) hands them out -/
theorem keys_tups {H H' : Hp} (e : Ex H H') : ∀ {us : List N3} {bs : List Addr}, IsKeys H (encT us) bs → TupsAt H' bs (us.map fun t => [V.int (t.1 : Int), V.int (t.2.1 : Int)])
  | [], _, h => by
    have h' : Paired (fun (p : List Key × V) b => H b = some (.tup (p.1.map kV))) [] _ := h
    cases h'
    exact .nil
  | t :: r, _, h => by
    have h' : Paired (fun (p : List Key × V) b => H b = some (.tup (p.1.map kV))) ((kE t.1 t.2.1, V.int t.2.2) :: encT r) _ := h
    cases h' with
    | cons h1 h2 => exact .cons (e _ _ h1) (keys_tups e h2)
end WW

namespace WW
open PySem PySem.Spec PyProof.Rows L2
/-! ### rules with the written part named (within a comprehension's block the context is another, the written part the same) -/
def rLenQ (K : PySem.W.Frag) : List V → Hp → VK → Prop := fun xs H Q => ∃ p ys, xs = [.ref p] ∧ (SqL K H p ys ∨ SqT K H p ys) ∧ Q (.int ys.length) H
def rListQ (K : PySem.W.Frag) : List V → Hp → VK → Prop := fun xs H Q => ∃ p ys, xs = [.ref p] ∧ (SqL K H p ys ∨ SqT K H p ys) ∧ ∀ l, H l = none → Q (.ref l) (upd H l (.lst ys))
section
variable {X : Cx} (K : PySem.W.Frag)
theorem ixL (h : X.K = K := by rfl) : IxR X (rIxL K) := by subst h; exact ix_list
theorem ixT (h : X.K = K := by rfl) : IxR X (rIxT K) := by subst h; exact ix_tup
theorem slL (h : X.K = K := by rfl) : SlR X (rSlL K) := by subst h; exact sl_list
theorem opIn (h : X.K = K := by rfl) : OpR X (compareOp .In) (rIn K false) := by subst h; exact op_in_seq
theorem opNotIn (h : X.K = K := by rfl) : OpR X (compareOp .NotIn) (rIn K true) := by subst h; exact op_notIn_seq
theorem opEqD (hu : X.A.units + 64 < cLine) (h : X.K = K := by rfl) : OpR X (compareOp .Eq) (rEqD K) := by subst h; exact op_eqD hu
theorem opNeD (hu : X.A.units + 64 < cLine) (h : X.K = K := by rfl) : OpR X (compareOp .NotEq) (rNeD K) := by subst h; exact op_neD hu
theorem cLen (h : X.K = K := by rfl) : CallR X (.builtin "len") (rLenQ K) := by subst h; exact call_len_seq
theorem cList (h : X.K = K := by rfl) : CallR X (.type "list") (rListQ K) := by subst h; exact call_list_of
theorem cSum (hc : X.calm = true) (h : X.K = K := by rfl) : CallR X (.builtin "sum") (rSum K) := by subst h; exact cr_sum hc
theorem cMax (hc : X.calm = true) (h : X.K = K := by rfl) : CallR X (.builtin "max") (rMax K) := by subst h; exact cr_max hc
theorem cMin (hc : X.calm = true) (h : X.K = K := by rfl) : CallR X (.builtin "min") (rMin K) := by subst h; exact cr_min hc
theorem cSortedPO (h : X.K = K := by rfl) : CallR X (.builtin "sorted") (rSortedPO K) := by subst h; exact cr_sortedPO
theorem cSortedI (h : X.K = K := by rfl) : CallR X (.builtin "sorted") (rSortedI K) := by subst h; exact cr_sortedI
theorem cIsi (h : X.K = K := by rfl) : CallR X (.builtin "isinstance") (rIsi K) := by subst h; exact call_isi
theorem mIndex (h : X.K = K := by rfl) : MtR X "list.index" (rIndex K) := by subst h; exact mt_index
def rListDT : List V → Hp → VK → Prop := fun xs H Q => ∃ d kvs, xs = [V.ref d] ∧ Rd H d (.dT kvs) ∧ ∀ p bs, H p = none → IsKeys H kvs bs → Q (.ref p) (upd H p (.lst (bs.map V.ref)))
theorem cListDT (hc : X.calm = true) : CallR X (.type "list") rListDT := call_list_dT hc
theorem piL {tg l : Expr} {tl : TE} (hl : PE X l tl) (h : X.K = K := by rfl) : PI X tg l (iList K tl) := by subst h; exact pi_list hl
theorem piT {tg l : Expr} {tl : TE} (hl : PE X l tl) (h : X.K = K := by rfl) : PI X tg l (iTup K tl) := by subst h; exact pi_tup hl
theorem pFld {e : Expr} {f : Str} {pos : Pos} {ta : TE} (he : PE X e ta) (hb : attributeBase e f X.env (eval e X.env) = eval e X.env) (h : X.K = K := by rfl) : PE X (.Attribute e f pos) (tFld K ta f) := by subst h; exact pe_fld he hb
theorem pBM {o e : Expr} {es : List Expr} {T id : String} {name : Str} {apos cpos : Pos} {to : TE} {t : TA} {r : V → List V → Hp → VK → Prop} (pa : PlainAttrs T) (slot : Slot T name id) (hty : typeOf (.builtin id) = pure (.type "method_descriptor")) (hm : MtR X id r) (ho : PE X o to) (ha : PA X (e :: es) t) (h : X.K = K := by rfl)
    (hbase : attributeBase o name X.env (eval o X.env) = eval o X.env := by rfl)
    (hfew : ((backTo cpos (starEach (e :: es) X.env)).all (fun x => !x.1) && (backToKw cpos (keywordEach [] X.env)).all (fun x => x.1.isSome)
      && decide ((e :: es).length + ([] : List Keyword).length + (if ([] : List Keyword).isEmpty then 0 else 1) < 30)) = true := by rfl)
    (hline : (apos.endLine == cpos.line) = true := by rfl) (hs : starEach (e :: es) X.env = (false, eval e X.env) :: starEach es X.env := by rfl) (hplain : (backTo cpos (starEach es X.env)).any (·.1) = false := by rfl) :
    PE X (.Call (.Attribute o name apos) (e :: es) [] cpos) (tBM K T r to t) := by subst h; exact pe_bm pa slot hty hm ho ha hbase hfew hline hs hplain
end
/-! ### comprehensions: what each item is, by its turn -/
def del (D : Addr) (H : Hp) : Hp := fun b => if b = D then none else H b
theorem del_ex {D : Addr} {H H' : Hp} (e : Ex H H') : Ex (del D H) (del D H') := fun b o h => by
  unfold del at h ⊢
  by_cases q : b = D
  · rw [if_pos q] at h; cases h
  · rw [if_neg q] at h ⊢; exact e _ _ h
theorem del_upd {D : Addr} {H : Hp} {o : HO} : del D (upd H D o) = del D H := by
  funext b
  unfold del upd
  by_cases q : b = D
  · rw [if_pos q, if_pos q]
  · rw [if_neg q, if_neg q, if_neg q]
theorem del_at {D b : Addr} {H : Hp} {o : HO} (h : H b = some o) (n : b ≠ D) : del D H b = some o := by
  unfold del
  rw [if_neg n]
  exact h
theorem of_del {D b : Addr} {H : Hp} {o : HO} (h : del D H b = some o) : H b = some o ∧ b ≠ D := by
  unfold del at h
  by_cases q : b = D
  · rw [if_pos q] at h; cases h
  · rw [if_neg q] at h; exact ⟨h, q⟩
theorem ex_del {D : Addr} {H : Hp} : Ex (del D H) H := fun b o h => (of_del h).1
theorem del_tup {D b : Addr} {H : Hp} {xs ys : List V} (h : H b = some (.tup xs)) (hD : H D = some (.lst ys)) : del D H b = some (.tup xs) := del_at h (ne_of h hD (by intro z; cases z))
section
variable {K : PySem.W.Frag} {a : Addr} {xs : List V} {n : Nat} {g : TG} {te : TE} {vs : List Nat} {σ : L2.St} {H1 : Hp} {D : Addr} {Qd : Hp → Prop}
/-- [elt for x in list], a turn's item y by R -/
theorem lc_listR (R : Nat → V → Hp → Prop) (mono : ∀ i y H H', Ex H H' → R i y H → R i y H') (hD : H1 D = none) (hs : SqL K H1 a xs) (hz : xs.length ≤ 100000)
    (turn : ∀ i x H' (k : VK), xs[i]? = some x → Ex H1 H' → (∃ acc, H' D = some (.lst acc)) → (∀ y H4, Ex H' H4 → R i y (del D H4) → k y H4) → g x (wipe σ vs) H' fun σ2 H2 => wipe σ2 vs = wipe σ vs ∧ te σ2 H2 k)
    (hd : ∀ H' ys, Ex H1 H' → H' D = some (.lst ys) → ys.length = xs.length → (∀ i y, ys[i]? = some y → R i y (del D H')) → Qd H') :
    ∃ W : Nat → Nat → Hp → Prop, (∃ m, W 0 m (upd H1 D (.lst []))) ∧ ∀ i m H, W i m H →
      ((Itl K a).stop i H ∧ Qd H) ∨ ((Itl K a).go i H ∧ ∃ Nx : Hp → Prop, (∀ H', Nx H' → ∃ m', m' < m ∧ W (i + 1) m' H') ∧ ∀ x H', (Itl K a).yld i H x H' → g x (wipe σ vs) H' fun σ2 H2 => wipe σ2 vs = wipe σ vs ∧ tYes σ2 H2 fun b H3 =>
        if b = true then te σ2 H3 fun y H4 => ∃ acc, H4 D = some (.lst acc) ∧ acc.length < sizeLine ∧ Nx (upd H4 D (.lst (acc ++ [y]))) else Nx H3) := by
  refine lc_list (fun i H' => Ex H1 H' ∧ ∃ ys, H' D = some (.lst ys) ∧ ys.length = i ∧ ∀ j y, ys[j]? = some y → R j y (del D H')) ⟨Evl.Ex.new hD, [], upd_same, rfl, fun j y e => by simp at e⟩ (fun i H' _ p => p.1.sq hs) (fun i x H' hx p => ?_) fun H' p => ?_
  · obtain ⟨e, ys, h1, h2, h3⟩ := p
    have hi : i < xs.length := (List.getElem?_eq_some_iff.mp hx).1
    have z := turn i x H' (fun y H4 => ∃ acc, H4 D = some (.lst acc) ∧ acc.length < sizeLine ∧ (fun H' => Ex H1 H' ∧ ∃ ys, H' D = some (.lst ys) ∧ ys.length = i + 1 ∧ ∀ j y, ys[j]? = some y → R j y (del D H')) (upd H4 D (.lst (acc ++ [y])))) hx e ⟨ys, h1⟩ fun y H4 e4 r4 => ?_
    · exact z
    · refine ⟨ys, e4 _ _ h1, szt (by omega), (e.tr e4).mutd hD, ys ++ [y], upd_same, by rw [List.length_append, h2]; rfl, fun j z ej => ?_⟩
      have ed : Ex (del D H4) (del D (upd H4 D (.lst (ys ++ [y])))) := by
        rw [del_upd]
        exact ex0 _
      by_cases hj : j < ys.length
      · rw [List.getElem?_append_left hj] at ej
        exact mono _ _ _ _ ((del_ex e4).tr ed) (h3 j z ej)
      · rw [List.getElem?_append_right (by omega)] at ej
        have hj2 : j - ys.length = 0 := by
          cases q : j - ys.length with
          | zero => rfl
          | succ n => rw [q] at ej; simp at ej
        rw [hj2] at ej
        have ez : y = z := by simpa using ej
        have ei : j = i := by omega
        rw [← ez, ei]
        exact mono _ _ _ _ ed r4
  · obtain ⟨e, ys, h1, h2, h3⟩ := p
    exact hd H' ys e h1 h2 h3
/-- [elt for k in range(n)] -/
theorem lc_rngR (R : Nat → V → Hp → Prop) (mono : ∀ i y H H', Ex H H' → R i y H → R i y H') (hD : H1 D = none) (hz : n ≤ 100000)
    (turn : ∀ i H' (k : VK), i < n → Ex H1 H' → (∃ acc, H' D = some (.lst acc)) → (∀ y H4, Ex H' H4 → R i y (del D H4) → k y H4) → g (.int (i : Int)) (wipe σ vs) H' fun σ2 H2 => wipe σ2 vs = wipe σ vs ∧ te σ2 H2 k)
    (hd : ∀ H' ys, Ex H1 H' → H' D = some (.lst ys) → ys.length = n → (∀ i y, ys[i]? = some y → R i y (del D H')) → Qd H') :
    ∃ W : Nat → Nat → Hp → Prop, (∃ m, W 0 m (upd H1 D (.lst []))) ∧ ∀ i m H, W i m H →
      ((Itr 0 n).stop i H ∧ Qd H) ∨ ((Itr 0 n).go i H ∧ ∃ Nx : Hp → Prop, (∀ H', Nx H' → ∃ m', m' < m ∧ W (i + 1) m' H') ∧ ∀ x H', (Itr 0 n).yld i H x H' → g x (wipe σ vs) H' fun σ2 H2 => wipe σ2 vs = wipe σ vs ∧ tYes σ2 H2 fun b H3 =>
        if b = true then te σ2 H3 fun y H4 => ∃ acc, H4 D = some (.lst acc) ∧ acc.length < sizeLine ∧ Nx (upd H4 D (.lst (acc ++ [y]))) else Nx H3) := by
  refine lc_rng (fun i H' => Ex H1 H' ∧ ∃ ys, H' D = some (.lst ys) ∧ ys.length = i ∧ ∀ j y, ys[j]? = some y → R j y (del D H')) ⟨Evl.Ex.new hD, [], upd_same, rfl, fun j y e => by simp at e⟩ (fun i H' hi p => ?_) fun H' p => ?_
  · obtain ⟨e, ys, h1, h2, h3⟩ := p
    have z := turn i H' (fun y H4 => ∃ acc, H4 D = some (.lst acc) ∧ acc.length < sizeLine ∧ (fun H' => Ex H1 H' ∧ ∃ ys, H' D = some (.lst ys) ∧ ys.length = i + 1 ∧ ∀ j y, ys[j]? = some y → R j y (del D H')) (upd H4 D (.lst (acc ++ [y])))) hi e ⟨ys, h1⟩ fun y H4 e4 r4 => ?_
    · exact z
    · refine ⟨ys, e4 _ _ h1, szt (by omega), (e.tr e4).mutd hD, ys ++ [y], upd_same, by rw [List.length_append, h2]; rfl, fun j z ej => ?_⟩
      have ed : Ex (del D H4) (del D (upd H4 D (.lst (ys ++ [y])))) := by
        rw [del_upd]
        exact ex0 _
      by_cases hj : j < ys.length
      · rw [List.getElem?_append_left hj] at ej
        exact mono _ _ _ _ ((del_ex e4).tr ed) (h3 j z ej)
      · rw [List.getElem?_append_right (by omega)] at ej
        have hj2 : j - ys.length = 0 := by
          cases q : j - ys.length with
          | zero => rfl
          | succ n => rw [q] at ej; simp at ej
        rw [hj2] at ej
        have ez : y = z := by simpa using ej
        have ei : j = i := by omega
        rw [← ez, ei]
        exact mono _ _ _ _ ed r4
  · obtain ⟨e, ys, h1, h2, h3⟩ := p
    exact hd H' ys e h1 h2 h3
end
/-! what such lists are -/
theorem ys_map {α : Type} {ys : List V} {n : Nat} (f : Nat → α) (v : α → V) (hl : ys.length = n) (h : ∀ (i : Nat) (y : V), ys[i]? = some y → y = v (f i)) : ys = ((List.range n).map f).map v := by
  refine List.ext_getElem? fun i => ?_
  by_cases hi : i < n
  · have e : ys[i]? = some ys[i] := List.getElem?_eq_getElem (by omega)
    rw [e, h i _ e]
    simp [List.getElem?_map, List.getElem?_range, hi]
  · rw [List.getElem?_eq_none (by omega), List.getElem?_eq_none (by simp; omega)]
theorem ys_list {α : Type} {ys : List V} {l : List α} (v : α → V) (hl : ys.length = l.length) (h : ∀ (i : Nat) (y : V) (x : α), ys[i]? = some y → l[i]? = some x → y = v x) : ys = l.map v := by
  refine List.ext_getElem? fun i => ?_
  by_cases hi : i < l.length
  · have e : ys[i]? = some ys[i] := List.getElem?_eq_getElem (by omega)
    have e2 : l[i]? = some l[i] := List.getElem?_eq_getElem hi
    rw [List.getElem?_map, e2, e, h i _ _ e e2]
    rfl
  · rw [List.getElem?_eq_none (by omega), List.getElem?_eq_none (by simp; omega)]
/-- each a new tuple -/
theorem ys_tups {H : Hp} : ∀ {ys : List V} {rs : List (List V)}, ys.length = rs.length → (∀ (i : Nat) (y : V) (r : List V), ys[i]? = some y → rs[i]? = some r → ∃ b, y = V.ref b ∧ H b = some (HO.tup r)) → ∃ bs, ys = bs.map V.ref ∧ TupsAt H bs rs
  | [], [], _, _ => ⟨[], rfl, .nil⟩
  | [], _ :: _, h, _ => by simp at h
  | _ :: _, [], h, _ => by simp at h
  | y :: ys, r :: rs, hl, h => by
    obtain ⟨b, rfl, hb⟩ := h 0 y r rfl rfl
    obtain ⟨bs, rfl, hbs⟩ := ys_tups (ys := ys) (rs := rs) (by simpa using hl) (fun i y r e1 e2 => h (i + 1) y r e1 e2)
    exact ⟨b :: bs, rfl, .cons hb hbs⟩
/-! ### an assignment whose value is told anew -/
def tSetE (te : TE) (i : Nat) : TS := fun D σ H => te σ H fun x H1 => ∃ y, x = y ∧ D.nx (σ.set i (some y)) H1
theorem ps_setE {X : Cx} {i : Nat} {x : Str} {e : Expr} {te : TE} {pos pos' : Pos} (hN : X.N.Nodup) (hi : X.N[i]? = some x) (hx : Loc X.env.scope x) (he : PE X e te) (hs : swapsWith e (some (.Name x pos')) pos.line X.env = pure false := by rfl)
    (hf : X.fn x = true ∨ X.env.scope.names.lookup x = some .local := by first | exact .inl rfl | exact .inr rfl | assumption) : PS X (.Assign [.Name x pos'] e pos) (tSetE te i) := by
  refine ⟨fun pins s σ H D I h => ?_⟩
  refine wpAny_Assign_Name (thn (he.run pins s σ H _ I h) fun v s1 ⟨y, H1, I1, r1, z, e1, q1⟩ => ?_) hs
  subst e1
  exact store_ok I1 hN hi hx r1 (fun s2 I2 => ⟨_, H1, I2, q1⟩) hf
/-! ### comprehensions with an if -/
section
variable {K : PySem.W.Frag} {a : Addr} {xs : List V} {n : Nat} {g : TG} {tt : TT} {te : TE} {vs : List Nat} {σ : L2.St} {H1 : Hp} {D : Addr} {Qd : Hp → Prop}
theorem lc_listF (keep : Nat → Bool) (R : Nat → V → Hp → Prop) (mono : ∀ i y H H', Ex H H' → R i y H → R i y H') (hD : H1 D = none) (hs : SqL K H1 a xs) (hz : xs.length ≤ 100000)
    (turn : ∀ i x H' (kT : VK) (kF : Hp → Prop), xs[i]? = some x → Ex H1 H' → (∃ acc, H' D = some (.lst acc)) → (keep i = true → ∀ y H4, Ex H' H4 → R i y (del D H4) → kT y H4) → (keep i = false → ∀ H4, Ex H' H4 → kF H4) →
      g x (wipe σ vs) H' fun σ2 H2 => wipe σ2 vs = wipe σ vs ∧ tt σ2 H2 fun b H3 => if b = true then te σ2 H3 kT else kF H3)
    (hd : ∀ H' ys, Ex H1 H' → H' D = some (.lst ys) → ys.length = ((List.range xs.length).filter keep).length → (∀ (j : Nat) (y : V) (i : Nat), ys[j]? = some y → ((List.range xs.length).filter keep)[j]? = some i → R i y (del D H')) → Qd H') :
    ∃ W : Nat → Nat → Hp → Prop, (∃ m, W 0 m (upd H1 D (.lst []))) ∧ ∀ i m H, W i m H →
      ((Itl K a).stop i H ∧ Qd H) ∨ ((Itl K a).go i H ∧ ∃ Nx : Hp → Prop, (∀ H', Nx H' → ∃ m', m' < m ∧ W (i + 1) m' H') ∧ ∀ x H', (Itl K a).yld i H x H' → g x (wipe σ vs) H' fun σ2 H2 => wipe σ2 vs = wipe σ vs ∧ tt σ2 H2 fun b H3 =>
        if b = true then te σ2 H3 fun y H4 => ∃ acc, H4 D = some (.lst acc) ∧ acc.length < sizeLine ∧ Nx (upd H4 D (.lst (acc ++ [y]))) else Nx H3) := by
  refine lc_list (fun i H' => Ex H1 H' ∧ ∃ ys, H' D = some (.lst ys) ∧ ys.length = ((List.range i).filter keep).length ∧ ∀ (j : Nat) (y : V) (k : Nat), ys[j]? = some y → ((List.range i).filter keep)[j]? = some k → R k y (del D H')) ⟨Evl.Ex.new hD, [], upd_same, rfl, fun j y k e => by simp at e⟩ (fun i H' _ p => p.1.sq hs) (fun i x H' hx p => ?_) fun H' p => ?_
  · obtain ⟨e, ys, h1, h2, h3⟩ := p
    have hi : i < xs.length := (List.getElem?_eq_some_iff.mp hx).1
    have hyl : ys.length ≤ i := by
      rw [h2]
      exact Nat.le_trans (List.length_filter_le _ _) (Nat.le_of_eq List.length_range)
    refine turn i x H' _ _ hx e ⟨ys, h1⟩ (fun hk y H4 e4 r4 => ?_) fun hk H4 e4 => ?_
    · refine ⟨ys, e4 _ _ h1, szt (by omega), (e.tr e4).mutd hD, ys ++ [y], upd_same, ?_, fun j z k ej ek => ?_⟩
      · rw [List.length_append, h2, List.range_succ, List.filter_append, List.filter_cons, if_pos hk, List.length_append]
        rfl
      have ed : Ex (del D H4) (del D (upd H4 D (.lst (ys ++ [y])))) := by
        rw [del_upd]
        exact ex0 _
      rw [List.range_succ, List.filter_append, List.filter_cons, if_pos hk] at ek
      by_cases hj : j < ys.length
      · rw [List.getElem?_append_left hj] at ej
        rw [List.getElem?_append_left (by omega)] at ek
        exact mono _ _ _ _ ((del_ex e4).tr ed) (h3 j z k ej ek)
      · rw [List.getElem?_append_right (by omega)] at ej ek
        have hj2 : j - ys.length = 0 := by
          cases q : j - ys.length with
          | zero => rfl
          | succ n => rw [q] at ej; simp at ej
        rw [hj2] at ej
        rw [← h2, hj2] at ek
        have ez : y = z := by simpa using ej
        have ei : i = k := by simpa using ek
        rw [← ez, ← ei]
        exact mono _ _ _ _ ed r4
    · refine ⟨e.tr e4, ys, e4 _ _ h1, ?_, fun j z k ej ek => ?_⟩
      · rw [h2, List.range_succ, List.filter_append, List.filter_cons, if_neg (by rw [hk]; exact Bool.false_ne_true)]
        simp
      · rw [List.range_succ, List.filter_append, List.filter_cons, if_neg (by rw [hk]; exact Bool.false_ne_true)] at ek
        have ek2 : ((List.range i).filter keep)[j]? = some k := by simpa using ek
        exact mono _ _ _ _ (del_ex e4) (h3 j z k ej ek2)
  · obtain ⟨e, ys, h1, h2, h3⟩ := p
    exact hd H' ys e h1 h2 h3
theorem lc_rngF (keep : Nat → Bool) (R : Nat → V → Hp → Prop) (mono : ∀ i y H H', Ex H H' → R i y H → R i y H') (hD : H1 D = none) (hz : n ≤ 100000)
    (turn : ∀ i H' (kT : VK) (kF : Hp → Prop), i < n → Ex H1 H' → (∃ acc, H' D = some (.lst acc)) → (keep i = true → ∀ y H4, Ex H' H4 → R i y (del D H4) → kT y H4) → (keep i = false → ∀ H4, Ex H' H4 → kF H4) →
      g (.int (i : Int)) (wipe σ vs) H' fun σ2 H2 => wipe σ2 vs = wipe σ vs ∧ tt σ2 H2 fun b H3 => if b = true then te σ2 H3 kT else kF H3)
    (hd : ∀ H' ys, Ex H1 H' → H' D = some (.lst ys) → ys.length = ((List.range n).filter keep).length → (∀ (j : Nat) (y : V) (i : Nat), ys[j]? = some y → ((List.range n).filter keep)[j]? = some i → R i y (del D H')) → Qd H') :
    ∃ W : Nat → Nat → Hp → Prop, (∃ m, W 0 m (upd H1 D (.lst []))) ∧ ∀ i m H, W i m H →
      ((Itr 0 n).stop i H ∧ Qd H) ∨ ((Itr 0 n).go i H ∧ ∃ Nx : Hp → Prop, (∀ H', Nx H' → ∃ m', m' < m ∧ W (i + 1) m' H') ∧ ∀ x H', (Itr 0 n).yld i H x H' → g x (wipe σ vs) H' fun σ2 H2 => wipe σ2 vs = wipe σ vs ∧ tt σ2 H2 fun b H3 =>
        if b = true then te σ2 H3 fun y H4 => ∃ acc, H4 D = some (.lst acc) ∧ acc.length < sizeLine ∧ Nx (upd H4 D (.lst (acc ++ [y]))) else Nx H3) := by
  refine lc_rng (fun i H' => Ex H1 H' ∧ ∃ ys, H' D = some (.lst ys) ∧ ys.length = ((List.range i).filter keep).length ∧ ∀ (j : Nat) (y : V) (k : Nat), ys[j]? = some y → ((List.range i).filter keep)[j]? = some k → R k y (del D H')) ⟨Evl.Ex.new hD, [], upd_same, rfl, fun j y k e => by simp at e⟩ (fun i H' hi p => ?_) fun H' p => ?_
  · obtain ⟨e, ys, h1, h2, h3⟩ := p
    have hyl : ys.length ≤ i := by
      rw [h2]
      exact Nat.le_trans (List.length_filter_le _ _) (Nat.le_of_eq List.length_range)
    refine turn i H' _ _ hi e ⟨ys, h1⟩ (fun hk y H4 e4 r4 => ?_) fun hk H4 e4 => ?_
    · refine ⟨ys, e4 _ _ h1, szt (by omega), (e.tr e4).mutd hD, ys ++ [y], upd_same, ?_, fun j z k ej ek => ?_⟩
      · rw [List.length_append, h2, List.range_succ, List.filter_append, List.filter_cons, if_pos hk, List.length_append]
        rfl
      have ed : Ex (del D H4) (del D (upd H4 D (.lst (ys ++ [y])))) := by
        rw [del_upd]
        exact ex0 _
      rw [List.range_succ, List.filter_append, List.filter_cons, if_pos hk] at ek
      by_cases hj : j < ys.length
      · rw [List.getElem?_append_left hj] at ej
        rw [List.getElem?_append_left (by omega)] at ek
        exact mono _ _ _ _ ((del_ex e4).tr ed) (h3 j z k ej ek)
      · rw [List.getElem?_append_right (by omega)] at ej ek
        have hj2 : j - ys.length = 0 := by
          cases q : j - ys.length with
          | zero => rfl
          | succ n => rw [q] at ej; simp at ej
        rw [hj2] at ej
        rw [← h2, hj2] at ek
        have ez : y = z := by simpa using ej
        have ei : i = k := by simpa using ek
        rw [← ez, ← ei]
        exact mono _ _ _ _ ed r4
    · refine ⟨e.tr e4, ys, e4 _ _ h1, ?_, fun j z k ej ek => ?_⟩
      · rw [h2, List.range_succ, List.filter_append, List.filter_cons, if_neg (by rw [hk]; exact Bool.false_ne_true)]
        simp
      · rw [List.range_succ, List.filter_append, List.filter_cons, if_neg (by rw [hk]; exact Bool.false_ne_true)] at ek
        have ek2 : ((List.range i).filter keep)[j]? = some k := by simpa using ek
        exact mono _ _ _ _ (del_ex e4) (h3 j z k ej ek2)
  · obtain ⟨e, ys, h1, h2, h3⟩ := p
    exact hd H' ys e h1 h2 h3
end
end WW

namespace WW
open PySem PySem.Spec PyProof.Rows L2
/-! ### sorted of tuples of ints, any sign, any number: the one sorted list -/
def leL (p q : List Int) : Bool := decide (p ≤ q)
def encI (r : List Int) : PyData := .tuple (r.map .int)
theorem dataLe_encI : PySem.W.dataLe false encI = leL := by
  rw [PySem.W.dataLe_eq]
  funext p q
  show (!PySem.W.dataLt (encI q) (encI p)) = decide (p ≤ q)
  have h : PySem.W.dataLt (encI q) (encI p) = decide (q < p) := PySem.W.dataLt_ints q p
  rw [h]
  by_cases e : q < p
  · rw [decide_eq_true e, decide_eq_false (fun z => List.not_le.mpr e z)]
    rfl
  · rw [decide_eq_false e, decide_eq_true (List.not_lt.mp e)]
    rfl
theorem dpAll_ints (K : PySem.W.Frag) (H : Hp) : ∀ r : List Int, DpAll K H (r.map V.int) (r.map PyData.int)
  | [] => .nil
  | x :: r => .cons (.int x) (dpAll_ints K H r)
def rSortT (K : PySem.W.Frag) : List V → Hp → VK → Prop := fun vs H Q => ∃ (a : Addr) (as : List Addr) (rs : List (List Int)) (m : Nat), vs = [V.ref a] ∧ SqL K H a (as.map V.ref) ∧ TupsAt H as (rs.map (·.map V.int)) ∧ (∀ r ∈ rs, r.length = m + 1) ∧
  ∀ p bs, H p = none → TupsAt H bs ((rs.mergeSort leL).map (·.map V.int)) → Q (.ref p) (upd H p (.lst (bs.map V.ref)))
section
variable {X : Cx} {pins : List (Addr × Obj)} {s : Shared} {σ : L2.St} {H : Hp}
theorem each_tups (I : Inv X pins σ H s) : ∀ {as : List Addr} {rs : List (List Int)} {us : List Value}, Vals (as.map V.ref) us → TupsAt H as (rs.map (·.map V.int)) →
    PySem.W.EachIs (fun u r => ∃ a, u = Value.ref a ∧ H a = some (.tup (r.map V.int))) us rs ∧ PySem.W.EachIs (fun v b => ∃ as, Reads s.heap v (encI b) as) us rs
  | [], [], _, r, _ => by
    have r' : Vals [] _ := r
    cases r'
    exact ⟨.nil, .nil⟩
  | [], _ :: _, _, _, h => by cases h
  | _ :: _, [], _, _, h => by cases h
  | a :: as, x :: rs, _, r, h => by
    have r' : Vals (V.ref a :: as.map V.ref) _ := r
    have h' : Paired (fun b r => H b = some (.tup r)) (a :: as) (x.map V.int :: rs.map (·.map V.int)) := h
    cases r' with
    | cons r1 r2 =>
      cases h' with
      | cons h1 h2 =>
        cases r1
        obtain ⟨i1, i2⟩ := each_tups I r2 h2
        have d : Dp X.K H (.ref a) (encI x) := .tup (stp h1) (dpAll_ints _ _ x)
        exact ⟨.cons ⟨a, rfl, h1⟩ i1, .cons (Dp.reads I _ _ _ d rfl) i2⟩
theorem tups_back : ∀ {us : List Value} {rs : List (List Int)}, PySem.W.EachIs (fun u r => ∃ a, u = Value.ref a ∧ H a = some (.tup (r.map V.int))) us rs → ∃ bs : List Addr, us = bs.map Value.ref ∧ Vals (bs.map V.ref) us ∧ TupsAt H bs (rs.map (·.map V.int))
  | _, _, .nil => ⟨[], rfl, .nil, .nil⟩
  | _, _, .cons ⟨a, e, h⟩ t => by
    obtain ⟨bs, e2, v, h2⟩ := tups_back t
    subst e
    exact ⟨a :: bs, by rw [e2]; rfl, .cons rfl v, .cons h h2⟩
theorem alike_encI (a b : List Int) : PySem.W.alike (encI a) (encI b) = true := by
  unfold encI
  rw [PySem.W.alike]
  exact PySem.W.alike_ints a b
theorem cSortT (K : PySem.W.Frag) (hu : X.A.units + 64 < cLine) (hK : X.K = K := by rfl) : CallR X (.builtin "sorted") (rSortT K) := by
  subst hK
  intro pins s σ H vs us Q I r h
  obtain ⟨a, as, rs, m, rfl, hs, ht, hm, q⟩ := h
  obtain ⟨its, rv, hl, hz⟩ := I.list hs
  obtain ⟨u, rfl, ru⟩ := vals1 r
  cases ru
  obtain ⟨e1, e2⟩ := each_tups I rv ht
  have hlen : rs.length = as.length := by
    have := ht.length
    rw [List.length_map] at this
    exact this.symm
  rw [List.length_map] at hz
  refine PySem.W.sorted_data (enc := encI) hl.isList e1 e2 (PySem.W.AllAlike.of alike_encI) ?_ (by rw [hlen]; exact hz) ?_ fun out ho eo => ?_
  · refine .inl fun d hd => ?_
    obtain ⟨b, hb, rfl⟩ := List.mem_map.mp hd
    have z := hm b hb
    cases b with
    | nil => simp at z
    | cons x b => exact ⟨_, _, rfl⟩
  · intro b hb
    have hd : (encI b).depth ≤ 1 := by
      unfold encI
      rw [PyData.depth, PySem.W.depth_ints]
      exact Nat.le_refl _
    omega
  · rw [dataLe_encI] at eo
    obtain ⟨bs, rfl, v, hb⟩ := tups_back eo
    obtain ⟨ep, he'⟩ := PyProof.Rows.sortedAll_at s.heap its (List.toArray (bs.map Value.ref))
    refine ⟨.ref _, upd H (s.heap.objs.size + 1) (.lst (bs.map V.ref)), I.laid (t' := s.toks) (fun _ _ => PyProof.Rows.sortedAll_old) (Nat.le_succ _) ⟨?_, bs.map Value.ref, ep, v, he'⟩, rfl, q _ bs (I.hok.fresh (Nat.le_succ _)) hb⟩
    rw [List.length_map] at ho ⊢
    omega
end
end WW

namespace WW
open PySem PySem.Spec PyProof.Rows L2
/-! ### wheels -/
def kL (t : N3) : List Int := [(t.1 : Int), (t.2.1 : Int)]
/-- the ties, sorted -/
def sortT (us : List N3) : List N3 := us.mergeSort fun x y => leL (kL x) (kL y)
/-- the pairs of whom b waits for -/
def inc (us : List N3) (b : Nat) : List (Nat × Int) := ((sortT us).filter fun t => t.2.1 == b).map fun t => (t.1, t.2.2)
theorem leL_trans (a b c : List Int) (h1 : leL a b = true) (h2 : leL b c = true) : leL a c = true := decide_eq_true (List.le_trans (of_decide_eq_true h1) (of_decide_eq_true h2))
theorem leL_total (a b : List Int) : (leL a b || leL b a) = true := by
  rw [Bool.or_eq_true]
  rcases List.le_total a b with h | h
  · exact .inl (decide_eq_true h)
  · exact .inr (decide_eq_true h)
theorem sortT_perm (us : List N3) : (sortT us).Perm us := List.mergeSort_perm us _
theorem sortT_mem {us : List N3} {t : N3} : t ∈ sortT us ↔ t ∈ us := (sortT_perm us).mem_iff
theorem sortT_len (us : List N3) : (sortT us).length = us.length := (sortT_perm us).length_eq
theorem sortT_keys (us : List N3) : (us.map kL).mergeSort leL = (sortT us).map kL := by
  unfold sortT
  exact (List.map_mergeSort (f := kL) (r := fun x y => leL (kL x) (kL y)) (s := leL) (l := us) (fun a _ b _ => rfl)).symm
theorem inc_mem {us : List N3} {b a : Nat} {w : Int} : (a, w) ∈ inc us b ↔ (a, b, w) ∈ us := by
  unfold inc
  rw [List.mem_map]
  constructor
  · rintro ⟨t, ht, e⟩
    obtain ⟨h1, h2⟩ := List.mem_filter.mp ht
    injection e with e1 e2
    have h3 : t.2.1 = b := by simpa using h2
    rw [← e1, ← e2, ← h3]
    exact sortT_mem.mp h1
  · intro h
    exact ⟨(a, b, w), List.mem_filter.mpr ⟨sortT_mem.mpr h, by simp⟩, rfl⟩
theorem inc_len (us : List N3) (b : Nat) : (inc us b).length ≤ us.length := by
  unfold inc
  rw [List.length_map]
  exact Nat.le_trans (List.length_filter_le _ _) (Nat.le_of_eq (sortT_len us))
structure Good (n : Nat) (us : List N3) : Prop where
  n1 : 1 ≤ n
  n40 : n ≤ 40
  lt : ∀ t ∈ us, t.1 < n ∧ t.2.1 < n
  nd : (us.map keyT).Nodup
  has : ∀ b, b < n → ∃ t ∈ us, t.2.1 = b
  len : us.length ≤ 1000
theorem Good.inc_ne {n : Nat} {us : List N3} (g : Good n us) {b : Nat} (h : b < n) : inc us b ≠ [] := by
  obtain ⟨t, ht, e⟩ := g.has b h
  have : (t.1, t.2.2) ∈ inc us b := inc_mem.mpr (by rw [← e]; exact ht)
  intro z
  rw [z] at this
  simp at this
theorem Good.inc_lt {n : Nat} {us : List N3} (g : Good n us) {b : Nat} {p : Nat × Int} (h : p ∈ inc us b) : p.1 < n := (g.lt _ (inc_mem.mp (show (p.1, p.2) ∈ inc us b from h))).1
/-! ### the object -/
theorem f_km : ¬ (("known" : Str) = "many") := by decide +kernel
theorem f_im : ¬ (("into" : Str) = "many") := by decide +kernel
theorem f_ik : ¬ (("into" : Str) = "known") := by decide +kernel
def wf1 (n : Nat) : List (Str × V) := putF "many" (.int (n : Int)) []
def wf2 (n : Nat) (d : Addr) : List (Str × V) := putF "known" (.ref d) (wf1 n)
def wf (n : Nat) (d l : Addr) : List (Str × V) := putF "into" (.ref l) (wf2 n d)
theorem wf1_many (n : Nat) : (wf1 n).lookup ("many" : Str) = some (.int (n : Int)) := by unfold wf1; rw [lookup_putF, if_pos rfl]
theorem wf1_no (n : Nat) {m : Str} (h1 : ¬ m = "many") : (wf1 n).lookup m = none := by unfold wf1; rw [lookup_putF, if_neg h1]; rfl
theorem wf2_many (n : Nat) (d : Addr) : (wf2 n d).lookup ("many" : Str) = some (.int (n : Int)) := by
  unfold wf2
  rw [lookup_putF, if_neg (fun z => f_km z.symm), wf1_many]
theorem wf2_known (n : Nat) (d : Addr) : (wf2 n d).lookup ("known" : Str) = some (.ref d) := by unfold wf2; rw [lookup_putF, if_pos rfl]
theorem wf2_no (n : Nat) (d : Addr) {m : Str} (h1 : ¬ m = "many") (h2 : ¬ m = "known") : (wf2 n d).lookup m = none := by unfold wf2; rw [lookup_putF, if_neg h2, wf1_no n h1]
theorem wf_many (n : Nat) (d l : Addr) : (wf n d l).lookup ("many" : Str) = some (.int (n : Int)) := by
  unfold wf
  rw [lookup_putF, if_neg (fun z => f_im z.symm), wf2_many]
theorem wf_known (n : Nat) (d l : Addr) : (wf n d l).lookup ("known" : Str) = some (.ref d) := by
  unfold wf
  rw [lookup_putF, if_neg (fun z => f_ik z.symm), wf2_known]
theorem wf_into (n : Nat) (d l : Addr) : (wf n d l).lookup ("into" : Str) = some (.ref l) := by unfold wf; rw [lookup_putF, if_pos rfl]
theorem wf_no (n : Nat) (d l : Addr) {m : Str} (h1 : ¬ m = "many") (h2 : ¬ m = "known") (h3 : ¬ m = "into") : (wf n d l).lookup m = none := by unfold wf; rw [lookup_putF, if_neg h3, wf2_no n d h1 h2]
theorem wf_len (n : Nat) (d l : Addr) : (wf n d l).length < 1000 := by
  have h1 := length_putF "into" (.ref l) (wf2 n d)
  have h2 := length_putF "known" (.ref d) (wf1 n)
  have h3 : (wf1 n).length ≤ 1 := length_putF "many" (.int (n : Int)) []
  show (putF "into" (.ref l) (wf2 n d)).length < 1000
  have h4 : (wf2 n d).length ≤ (wf1 n).length + 1 := h2
  omega
theorem wf2_len (n : Nat) (d : Addr) : (wf2 n d).length < 1000 := by
  have h2 := length_putF "known" (.ref d) (wf1 n)
  have h3 : (wf1 n).length ≤ 1 := length_putF "many" (.int (n : Int)) []
  show (putF "known" (.ref d) (wf1 n)).length < 1000
  omega
def vP (p : Nat × Int) : List V := [.int (p.1 : Int), .int p.2]
/-- a list of pairs (a, w) at r -/
def PairL (H : Hp) (r : Addr) (ps : List (Nat × Int)) : Prop := TL H r (ps.map vP)
structure WheelOb (C : Addr) (H : Hp) (p : Addr) (n : Nat) (us : List N3) (dx d l : Addr) (rows : List Addr) : Prop where
  ob : H p = some (.ins C dx (wf n d l))
  kn : H d = some (.dT (encT us))
  il : H l = some (.lst (rows.map V.ref))
  rl : rows.length = n
  rw : ∀ (b : Nat) (r : Addr), rows[b]? = some r → PairL H r (inc us b)
/-- a wheel stands at p -/
def WheelAt (K : PySem.W.Frag) (H : Hp) (p : Addr) (n : Nat) (us : List N3) : Prop := Good n us ∧ ∃ dx d l rows, WheelOb (He.ga K "Wheel") H p n us dx d l rows
theorem WheelOb.mono {C : Addr} {H H' : Hp} {p dx d l : Addr} {n : Nat} {us : List N3} {rows : List Addr} (e : Ex H H') (h : WheelOb C H p n us dx d l rows) : WheelOb C H' p n us dx d l rows :=
  ⟨e _ _ h.ob, e _ _ h.kn, e _ _ h.il, h.rl, fun b r q => (h.rw b r q).mono e⟩
theorem WheelAt.mono {K : PySem.W.Frag} {H H' : Hp} {p : Addr} {n : Nat} {us : List N3} (e : Ex H H') (h : WheelAt K H p n us) : WheelAt K H' p n us :=
  let ⟨g, dx, d, l, rows, o⟩ := h
  ⟨g, dx, d, l, rows, o.mono e⟩
theorem WheelOb.row {C : Addr} {H : Hp} {p dx d l : Addr} {n : Nat} {us : List N3} {rows : List Addr} (h : WheelOb C H p n us dx d l rows) {b : Nat} (hb : b < n) : ∃ r, rows[b]? = some r ∧ PairL H r (inc us b) := by
  have hb' : b < rows.length := by rw [h.rl]; exact hb
  exact ⟨rows[b], List.getElem?_eq_getElem hb', h.rw b _ (List.getElem?_eq_getElem hb')⟩
end WW

namespace WW
open PySem PySem.Spec PyProof.Rows L2
/-! ### isinstance -/
/-! (the reading: _, _, _, _, true, rfl, .ty _, .base (.bl _), k_bb) -/
section
variable {K : PySem.W.Frag}
theorem k_bb : PySem.W.kitOne K (.type "bool") (.type "bool") = some true := kit_ty (by decide +kernel)
theorem k_bi : PySem.W.kitOne K (.type "bool") (.type "int") = some true := kit_ty (by decide +kernel)
theorem k_ii : PySem.W.kitOne K (.type "int") (.type "int") = some true := kit_ty (by decide +kernel)
theorem k_ib : PySem.W.kitOne K (.type "int") (.type "bool") = some false := kit_ty (by decide +kernel)
theorem k_ni : PySem.W.kitOne K (.type "NoneType") (.type "int") = some false := kit_ty (by decide +kernel)
theorem k_ll : PySem.W.kitOne K (.type "list") (.type "list") = some true := kit_ty (by decide +kernel)
theorem k_tt : PySem.W.kitOne K (.type "tuple") (.type "tuple") = some true := kit_ty (by decide +kernel)
theorem k_ss : PySem.W.kitOne K (.type "str") (.type "str") = some true := kit_ty (by decide +kernel)
end
/-! ### lists compared -/
theorem dp_ints (K : PySem.W.Frag) {H : Hp} {a : Addr} {ns : List Int} (h : H a = some (.lst (ns.map V.int))) : Dp K H (.ref a) (.list (ns.map PyData.int)) := .lst (sl h) (let rec go : ∀ r : List Int, DpAll K H (r.map V.int) (r.map PyData.int)
  | [] => .nil
  | x :: r => .cons (.int x) (go r)
  go ns)
theorem eqvAll_ints : ∀ xs ys : List Int, PyData.eqvAll (xs.map PyData.int) (ys.map PyData.int) = decide (xs = ys)
  | [], [] => by simp [PyData.eqvAll]
  | [], _ :: _ => by simp [PyData.eqvAll]
  | _ :: _, [] => by simp [PyData.eqvAll]
  | x :: xs, y :: ys => by
    show PyData.eqvAll (PyData.int x :: xs.map PyData.int) (PyData.int y :: ys.map PyData.int) = _
    rw [PyData.eqvAll, eqvAll_ints xs ys, PyData.eqv]
    by_cases h : x = y
    · subst h
      simp
    · simp [h]
/-- xs == ys, xs != ys of lists of ints -/
theorem eqL {K : PySem.W.Frag} {H : Hp} {a b : Addr} {xs ys : List Int} {Q : VK} (ha : H a = some (.lst (xs.map V.int))) (hb : H b = some (.lst (ys.map V.int))) (q : Q (.bl (decide (xs = ys))) H) : rEqD K (.ref a) (.ref b) H Q :=
  ⟨_, _, dp_ints K ha, dp_ints K hb, PySem.W.ke_shaped_ints xs, PySem.W.ke_shaped_ints ys, by rw [PyData.eqv, eqvAll_ints]; exact q⟩
theorem neL {K : PySem.W.Frag} {H : Hp} {a b : Addr} {xs ys : List Int} {Q : VK} (ha : H a = some (.lst (xs.map V.int))) (hb : H b = some (.lst (ys.map V.int))) (q : Q (.bl (!decide (xs = ys))) H) : rNeD K (.ref a) (.ref b) H Q :=
  ⟨_, _, dp_ints K ha, dp_ints K hb, PySem.W.ke_shaped_ints xs, PySem.W.ke_shaped_ints ys, by rw [PyData.eqv, eqvAll_ints]; exact q⟩
end WW

namespace WW
open PySem PySem.Spec PyProof.Rows L2
def topS (i : Nat) : Stmt := PySem.Challenge.pw_waitwheel_k07_in_one_piece.main.body.getD i (.Pass ⟨0, 0, 0, 0⟩)
abbrev s_reached : Stmt := topS 1
def d_reached : He.DefD := ⟨("reached", none), "reached", "reached", defArgs s_reached, defBody s_reached, defScope s_reached, [], []⟩
abbrev s_one_piece : Stmt := topS 2
def d_one_piece : He.DefD := ⟨("one_piece", none), "one_piece", "one_piece", defArgs s_one_piece, defBody s_one_piece, defScope s_one_piece, [], []⟩
abbrev s_Winit : Stmt := inClass (topS 10) 0
def d_Winit : He.DefD := ⟨("Wheel", some "__init__"), "__init__", "Wheel.__init__", defArgs s_Winit, defBody s_Winit, defScope s_Winit, [], []⟩
abbrev s_Wsee_deed : Stmt := inClass (topS 10) 1
def d_Wsee_deed : He.DefD := ⟨("Wheel", some "see_deed"), "see_deed", "Wheel.see_deed", defArgs s_Wsee_deed, defBody s_Wsee_deed, defScope s_Wsee_deed, [], []⟩
abbrev s_Wsize : Stmt := inClass (topS 10) 2
def d_Wsize : He.DefD := ⟨("Wheel", some "size"), "size", "Wheel.size", defArgs s_Wsize, defBody s_Wsize, defScope s_Wsize, [], []⟩
abbrev s_Wties : Stmt := inClass (topS 10) 3
def d_Wties : He.DefD := ⟨("Wheel", some "ties"), "ties", "Wheel.ties", defArgs s_Wties, defBody s_Wties, defScope s_Wties, [], []⟩
abbrev s_Wwaits : Stmt := inClass (topS 10) 4
def d_Wwaits : He.DefD := ⟨("Wheel", some "waits"), "waits", "Wheel.waits", defArgs s_Wwaits, defBody s_Wwaits, defScope s_Wwaits, [], []⟩
abbrev s_law_cell_at : Stmt := topS 12
def d_law_cell_at : He.DefD := ⟨("_law_cell_at", none), "_law_cell_at", "_law_cell_at", defArgs s_law_cell_at, defBody s_law_cell_at, defScope s_law_cell_at, [], []⟩
abbrev s_law_number : Stmt := topS 13
def d_law_number : He.DefD := ⟨("_law_number", none), "_law_number", "_law_number", defArgs s_law_number, defBody s_law_number, defScope s_law_number, [], []⟩
abbrev s_law_ties_by : Stmt := topS 14
def d_law_ties_by : He.DefD := ⟨("_law_ties_by", none), "_law_ties_by", "_law_ties_by", defArgs s_law_ties_by, defBody s_law_ties_by, defScope s_law_ties_by, [], []⟩
abbrev s_law_ringed : Stmt := topS 15
def d_law_ringed : He.DefD := ⟨("_law_ringed", none), "_law_ringed", "_law_ringed", defArgs s_law_ringed, defBody s_law_ringed, defScope s_law_ringed, [], []⟩
abbrev s_law_from : Stmt := topS 16
def d_law_from : He.DefD := ⟨("_law_from", none), "_law_from", "_law_from", defArgs s_law_from, defBody s_law_from, defScope s_law_from, [], []⟩
abbrev s_law : Stmt := topS 17
def d_law : He.DefD := ⟨("law", none), "law", "law", defArgs s_law, defBody s_law, defScope s_law, [], []⟩
def fnL : List He.DefD := [d_reached, d_one_piece, d_Winit, d_Wsee_deed, d_Wsize, d_Wties, d_Wwaits, d_law_cell_at, d_law_number, d_law_ties_by, d_law_ringed, d_law_from, d_law]
def faL : List He.Fa := [.glo "reached", .glo "one_piece", .mkr "Wheel", .meth "Wheel" "see_deed", .meth "Wheel" "size", .meth "Wheel" "ties", .meth "Wheel" "waits", .glo "_law_cell_at", .glo "_law_number", .glo "_law_ties_by", .glo "_law_ringed", .glo "_law_from", .glo "law", .glo "WheelError", .exc "WheelError", .glo "NoDeed", .exc "NoDeed", .glo "TieTwice", .exc "TieTwice", .glo "Idle", .exc "Idle", .glo "Wheel", .cls "Wheel", .noat "Wheel" "many", .noat "Wheel" "known", .noat "Wheel" "into", .int "MOST" 40, .free "len", .free "sorted", .free "isinstance", .free "list", .free "bool", .free "range"]
def exL (K : PySem.W.Frag) : Bool := true
structure Tx (K : PySem.W.Frag) (mg : Str → Option Value) : Prop where
  says : He.SaysD faL fnL K
  xs : exL K = true
  hp : ∃ h : Heap, K.In h ∧ h.Ns mainGlobals mg
section
variable {K : PySem.W.Frag} {mg : Str → Option Value}
theorem Tx.f_reached (T : Tx K mg) : ∃ fd, FunD K "reached" "reached" (defArgs s_reached) (defBody s_reached) (defScope s_reached) [] [] (He.ga K "reached") fd := T.says.def_ 0 (d := d_reached) rfl
theorem Tx.g_reached (T : Tx K mg) : mg "reached" = some (.ref (He.ga K "reached")) := let ⟨_, X, G⟩ := T.hp; He.glo_ok X G (T.says.fact 0 rfl)
theorem Tx.f_one_piece (T : Tx K mg) : ∃ fd, FunD K "one_piece" "one_piece" (defArgs s_one_piece) (defBody s_one_piece) (defScope s_one_piece) [] [] (He.ga K "one_piece") fd := T.says.def_ 1 (d := d_one_piece) rfl
theorem Tx.g_one_piece (T : Tx K mg) : mg "one_piece" = some (.ref (He.ga K "one_piece")) := let ⟨_, X, G⟩ := T.hp; He.glo_ok X G (T.says.fact 1 rfl)
theorem Tx.f_Winit (T : Tx K mg) : ∃ fd, FunD K "__init__" "Wheel.__init__" (defArgs s_Winit) (defBody s_Winit) (defScope s_Winit) [] [] (He.ma K (He.ga K "Wheel") "__init__") fd := T.says.def_ 2 (d := d_Winit) rfl
theorem Tx.mk_Wheel (T : Tx K mg) : Mk K (He.ga K "Wheel") (He.ma K (He.ga K "Wheel") "__init__") := He.mkr_ok (T.says.fact 2 rfl)
theorem Tx.f_Wsee_deed (T : Tx K mg) : ∃ fd, FunD K "see_deed" "Wheel.see_deed" (defArgs s_Wsee_deed) (defBody s_Wsee_deed) (defScope s_Wsee_deed) [] [] (He.ma K (He.ga K "Wheel") "see_deed") fd := T.says.def_ 3 (d := d_Wsee_deed) rfl
theorem Tx.m_Wsee_deed (T : Tx K mg) : Meth K (He.ga K "Wheel") "see_deed" (He.ma K (He.ga K "Wheel") "see_deed") := He.meth_ok (T.says.fact 3 rfl)
theorem Tx.f_Wsize (T : Tx K mg) : ∃ fd, FunD K "size" "Wheel.size" (defArgs s_Wsize) (defBody s_Wsize) (defScope s_Wsize) [] [] (He.ma K (He.ga K "Wheel") "size") fd := T.says.def_ 4 (d := d_Wsize) rfl
theorem Tx.m_Wsize (T : Tx K mg) : Meth K (He.ga K "Wheel") "size" (He.ma K (He.ga K "Wheel") "size") := He.meth_ok (T.says.fact 4 rfl)
theorem Tx.f_Wties (T : Tx K mg) : ∃ fd, FunD K "ties" "Wheel.ties" (defArgs s_Wties) (defBody s_Wties) (defScope s_Wties) [] [] (He.ma K (He.ga K "Wheel") "ties") fd := T.says.def_ 5 (d := d_Wties) rfl
theorem Tx.m_Wties (T : Tx K mg) : Meth K (He.ga K "Wheel") "ties" (He.ma K (He.ga K "Wheel") "ties") := He.meth_ok (T.says.fact 5 rfl)
theorem Tx.f_Wwaits (T : Tx K mg) : ∃ fd, FunD K "waits" "Wheel.waits" (defArgs s_Wwaits) (defBody s_Wwaits) (defScope s_Wwaits) [] [] (He.ma K (He.ga K "Wheel") "waits") fd := T.says.def_ 6 (d := d_Wwaits) rfl
theorem Tx.m_Wwaits (T : Tx K mg) : Meth K (He.ga K "Wheel") "waits" (He.ma K (He.ga K "Wheel") "waits") := He.meth_ok (T.says.fact 6 rfl)
theorem Tx.f_law_cell_at (T : Tx K mg) : ∃ fd, FunD K "_law_cell_at" "_law_cell_at" (defArgs s_law_cell_at) (defBody s_law_cell_at) (defScope s_law_cell_at) [] [] (He.ga K "_law_cell_at") fd := T.says.def_ 7 (d := d_law_cell_at) rfl
theorem Tx.g_law_cell_at (T : Tx K mg) : mg "_law_cell_at" = some (.ref (He.ga K "_law_cell_at")) := let ⟨_, X, G⟩ := T.hp; He.glo_ok X G (T.says.fact 7 rfl)
theorem Tx.f_law_number (T : Tx K mg) : ∃ fd, FunD K "_law_number" "_law_number" (defArgs s_law_number) (defBody s_law_number) (defScope s_law_number) [] [] (He.ga K "_law_number") fd := T.says.def_ 8 (d := d_law_number) rfl
theorem Tx.g_law_number (T : Tx K mg) : mg "_law_number" = some (.ref (He.ga K "_law_number")) := let ⟨_, X, G⟩ := T.hp; He.glo_ok X G (T.says.fact 8 rfl)
theorem Tx.f_law_ties_by (T : Tx K mg) : ∃ fd, FunD K "_law_ties_by" "_law_ties_by" (defArgs s_law_ties_by) (defBody s_law_ties_by) (defScope s_law_ties_by) [] [] (He.ga K "_law_ties_by") fd := T.says.def_ 9 (d := d_law_ties_by) rfl
theorem Tx.g_law_ties_by (T : Tx K mg) : mg "_law_ties_by" = some (.ref (He.ga K "_law_ties_by")) := let ⟨_, X, G⟩ := T.hp; He.glo_ok X G (T.says.fact 9 rfl)
theorem Tx.f_law_ringed (T : Tx K mg) : ∃ fd, FunD K "_law_ringed" "_law_ringed" (defArgs s_law_ringed) (defBody s_law_ringed) (defScope s_law_ringed) [] [] (He.ga K "_law_ringed") fd := T.says.def_ 10 (d := d_law_ringed) rfl
theorem Tx.g_law_ringed (T : Tx K mg) : mg "_law_ringed" = some (.ref (He.ga K "_law_ringed")) := let ⟨_, X, G⟩ := T.hp; He.glo_ok X G (T.says.fact 10 rfl)
theorem Tx.f_law_from (T : Tx K mg) : ∃ fd, FunD K "_law_from" "_law_from" (defArgs s_law_from) (defBody s_law_from) (defScope s_law_from) [] [] (He.ga K "_law_from") fd := T.says.def_ 11 (d := d_law_from) rfl
theorem Tx.g_law_from (T : Tx K mg) : mg "_law_from" = some (.ref (He.ga K "_law_from")) := let ⟨_, X, G⟩ := T.hp; He.glo_ok X G (T.says.fact 11 rfl)
theorem Tx.f_law (T : Tx K mg) : ∃ fd, FunD K "law" "law" (defArgs s_law) (defBody s_law) (defScope s_law) [] [] (He.ga K "law") fd := T.says.def_ 12 (d := d_law) rfl
theorem Tx.g_law (T : Tx K mg) : mg "law" = some (.ref (He.ga K "law")) := let ⟨_, X, G⟩ := T.hp; He.glo_ok X G (T.says.fact 12 rfl)
theorem Tx.g_WheelError (T : Tx K mg) : mg "WheelError" = some (.ref (He.ga K "WheelError")) := let ⟨_, X, G⟩ := T.hp; He.glo_ok X G (T.says.fact 13 rfl)
theorem Tx.x_WheelError (T : Tx K mg) : PySem.W.excIn K (He.ga K "WheelError") He.veBase "ValueError.__new__" = true ∧ PySem.W.keepIn K (.ref (He.ga K "WheelError")) = true ∧ PySem.W.subIn K (.ref (He.ga K "WheelError")) (.type "BaseException") = some true ∧ PySem.W.typeIn K (.ref (He.ga K "WheelError")) = some (.type "type") := He.exc_ok (T.says.fact 14 rfl)
theorem Tx.r_WheelError (T : Tx K mg) {X : Cx} (hK : X.K = K) : Raises X (.ref (He.ga K "WheelError")) := by
  subst hK
  exact raises_own T.x_WheelError.2.2.1 T.x_WheelError.2.2.2
theorem Tx.g_NoDeed (T : Tx K mg) : mg "NoDeed" = some (.ref (He.ga K "NoDeed")) := let ⟨_, X, G⟩ := T.hp; He.glo_ok X G (T.says.fact 15 rfl)
theorem Tx.x_NoDeed (T : Tx K mg) : PySem.W.excIn K (He.ga K "NoDeed") He.veBase "ValueError.__new__" = true ∧ PySem.W.keepIn K (.ref (He.ga K "NoDeed")) = true ∧ PySem.W.subIn K (.ref (He.ga K "NoDeed")) (.type "BaseException") = some true ∧ PySem.W.typeIn K (.ref (He.ga K "NoDeed")) = some (.type "type") := He.exc_ok (T.says.fact 16 rfl)
theorem Tx.r_NoDeed (T : Tx K mg) {X : Cx} (hK : X.K = K) : Raises X (.ref (He.ga K "NoDeed")) := by
  subst hK
  exact raises_own T.x_NoDeed.2.2.1 T.x_NoDeed.2.2.2
theorem Tx.g_TieTwice (T : Tx K mg) : mg "TieTwice" = some (.ref (He.ga K "TieTwice")) := let ⟨_, X, G⟩ := T.hp; He.glo_ok X G (T.says.fact 17 rfl)
theorem Tx.x_TieTwice (T : Tx K mg) : PySem.W.excIn K (He.ga K "TieTwice") He.veBase "ValueError.__new__" = true ∧ PySem.W.keepIn K (.ref (He.ga K "TieTwice")) = true ∧ PySem.W.subIn K (.ref (He.ga K "TieTwice")) (.type "BaseException") = some true ∧ PySem.W.typeIn K (.ref (He.ga K "TieTwice")) = some (.type "type") := He.exc_ok (T.says.fact 18 rfl)
theorem Tx.r_TieTwice (T : Tx K mg) {X : Cx} (hK : X.K = K) : Raises X (.ref (He.ga K "TieTwice")) := by
  subst hK
  exact raises_own T.x_TieTwice.2.2.1 T.x_TieTwice.2.2.2
theorem Tx.g_Idle (T : Tx K mg) : mg "Idle" = some (.ref (He.ga K "Idle")) := let ⟨_, X, G⟩ := T.hp; He.glo_ok X G (T.says.fact 19 rfl)
theorem Tx.x_Idle (T : Tx K mg) : PySem.W.excIn K (He.ga K "Idle") He.veBase "ValueError.__new__" = true ∧ PySem.W.keepIn K (.ref (He.ga K "Idle")) = true ∧ PySem.W.subIn K (.ref (He.ga K "Idle")) (.type "BaseException") = some true ∧ PySem.W.typeIn K (.ref (He.ga K "Idle")) = some (.type "type") := He.exc_ok (T.says.fact 20 rfl)
theorem Tx.r_Idle (T : Tx K mg) {X : Cx} (hK : X.K = K) : Raises X (.ref (He.ga K "Idle")) := by
  subst hK
  exact raises_own T.x_Idle.2.2.1 T.x_Idle.2.2.2
theorem Tx.g_Wheel (T : Tx K mg) : mg "Wheel" = some (.ref (He.ga K "Wheel")) := let ⟨_, X, G⟩ := T.hp; He.glo_ok X G (T.says.fact 21 rfl)
theorem Tx.cls (T : Tx K mg) : Cls K (He.ga K "Wheel") := He.cls_ok (T.says.fact 22 rfl)
theorem Tx.no_many (T : Tx K mg) : NoAttr K (He.ga K "Wheel") "many" := He.noat_ok (T.says.fact 23 rfl)
theorem Tx.no_known (T : Tx K mg) : NoAttr K (He.ga K "Wheel") "known" := He.noat_ok (T.says.fact 24 rfl)
theorem Tx.no_into (T : Tx K mg) : NoAttr K (He.ga K "Wheel") "into" := He.noat_ok (T.says.fact 25 rfl)
theorem Tx.g_MOST (T : Tx K mg) : ∃ t, mg "MOST" = some (.int 40 t) := let ⟨_, X, G⟩ := T.hp; He.int_ok X G (T.says.fact 26 rfl)
theorem Tx.n_len (T : Tx K mg) : mg "len" = none := let ⟨_, X, G⟩ := T.hp; He.free_ok X G (T.says.fact 27 rfl)
theorem Tx.n_sorted (T : Tx K mg) : mg "sorted" = none := let ⟨_, X, G⟩ := T.hp; He.free_ok X G (T.says.fact 28 rfl)
theorem Tx.n_isinstance (T : Tx K mg) : mg "isinstance" = none := let ⟨_, X, G⟩ := T.hp; He.free_ok X G (T.says.fact 29 rfl)
theorem Tx.n_list (T : Tx K mg) : mg "list" = none := let ⟨_, X, G⟩ := T.hp; He.free_ok X G (T.says.fact 30 rfl)
theorem Tx.n_bool (T : Tx K mg) : mg "bool" = none := let ⟨_, X, G⟩ := T.hp; He.free_ok X G (T.says.fact 31 rfl)
theorem Tx.n_range (T : Tx K mg) : mg "range" = none := let ⟨_, X, G⟩ := T.hp; He.free_ok X G (T.says.fact 32 rfl)
end
end WW
namespace WW
open PySem PySem.Spec PyProof.Rows L2
section
variable {P : Program} {w : World} {K : PySem.W.Frag} {mg : Str → Option Value} {base : Heap}
/-- the script's item, nought behind its end -/
def cell (ns : List Int) (j : Nat) : Int := ns.getD j 0
def sp_law_cell_at (K : PySem.W.Frag) : Sp := fun vs H Q _ => ∃ (l : Addr) (ns : List Int) (j : Nat), vs = [.ref l, .int (j : Int)] ∧ SqL K H l (ns.map V.int) ∧ Q (.int (cell ns j)) H
theorem sc_law_cell_at : FnScope ["script", "k"] ["script", "k"] (defScope s_law_cell_at) := ⟨rfl, rfl, rfl, by decide +kernel, rfl, by decide +kernel, by decide +kernel⟩
theorem bn_law_cell_at : BindN (defArgs s_law_cell_at) (defBody s_law_cell_at) (defScope s_law_cell_at) "_law_cell_at" "_law_cell_at" ["script", "k"] := fun _ _ _ _ _ _ us hl => match us, hl with | [_, _], _ => rfl
theorem c_law_cell_at (T : Tx K mg) : Cl P w K mg base 1 "_law_cell_at" (sp_law_cell_at K) := by
  obtain ⟨fd, F⟩ := T.f_law_cell_at
  have S := sc_law_cell_at
  refine cl_of F T.g_law_cell_at bn_law_cell_at S (fun vs H Q E h => ?_) (fun cdv A outer s H vs Q E hr h => ?_)
  · obtain ⟨l, ns, j, rfl, _⟩ := h
    rfl
  · obtain ⟨l, ns, j, rfl, hs, q⟩ := h
    have hu := hu_of hr
    have hu2 := hr.units
    refine ⟨_, (pss_cons
      (ps_if (pt_cmpR op_lt (pv 1) (pe_callB (cLen K) rfl T.n_len (by decide +kernel) (pa_cons (pv 0) pa_nil)) (nomark _))
      (pss_one
        (ps_ret (pe_ix (ixL K) (pv 0) (pv 1) (fun _ _ => rfl))))
      pss_nil)
      (pss_one
      (ps_ret pe_int))), ?_⟩
    refine ⟨_, rfl, _, rfl, l, _, rfl, .inl hs, _, _, rfl, rfl, _, rfl, ite2 (fun e => ?_) (fun e => ?_)⟩
    · have hj : j < ns.length := by
        have z := of_decide_eq_true e
        rw [List.length_map] at z
        omega
      refine ⟨_, rfl, _, rfl, l, _, _, _, rfl, rfl, hs, atI_nat (v := .int (cell ns j)) ?_, q⟩
      rw [List.getElem?_map, List.getElem?_eq_getElem hj]
      unfold cell
      rw [List.getD_eq_getElem?_getD, List.getElem?_eq_getElem hj]
      rfl
    · have hj : ¬ j < ns.length := fun z => e (decide_eq_true (by rw [List.length_map]; omega))
      have e0 : cell ns j = 0 := by
        unfold cell
        rw [List.getD_eq_getElem?_getD, List.getElem?_eq_none (by omega)]
        rfl
      rw [e0] at q
      exact q
end
end WW

namespace WW
open PySem PySem.Spec PyProof.Rows L2
section
variable {P : Program} {w : World} {K : PySem.W.Frag} {mg : Str → Option Value} {base : Heap}
/-- a tie's number -/
def numb (c wd : Int) : Int := if wd % 5 = 1 then c % (2 * 10 ^ 30 - 1) - 10 ^ 30 + 1 else c % (2 * (1 + wd % 40) + 1) - 1 - wd % 40
theorem numb_lt (c wd : Int) : -(10 ^ 30) < numb c wd ∧ numb c wd < 10 ^ 30 := by
  unfold numb
  split
  · have h1 := Int.emod_nonneg c (b := 2 * 10 ^ 30 - 1) (by decide)
    have h2 := Int.emod_lt_of_pos c (b := 2 * 10 ^ 30 - 1) (by decide)
    omega
  · have h3 := Int.emod_nonneg wd (b := 40) (by decide)
    have h4 := Int.emod_lt_of_pos wd (b := 40) (by decide)
    have h1 := Int.emod_nonneg c (b := 2 * (1 + wd % 40) + 1) (by omega)
    have h2 := Int.emod_lt_of_pos c (b := 2 * (1 + wd % 40) + 1) (by omega)
    have h5 : (10 : Int) ^ 30 > 1000 := by decide
    omega
def sp_law_number (K : PySem.W.Frag) : Sp := fun vs H Q _ => ∃ (c wd : Int), vs = [.int c, .int wd] ∧ Q (.int (numb c wd)) H
theorem sc_law_number : FnScope ["cell", "wide"] ["cell", "wide"] (defScope s_law_number) := ⟨rfl, rfl, rfl, by decide +kernel, rfl, by decide +kernel, by decide +kernel⟩
theorem bn_law_number : BindN (defArgs s_law_number) (defBody s_law_number) (defScope s_law_number) "_law_number" "_law_number" ["cell", "wide"] := fun _ _ _ _ _ _ us hl => match us, hl with | [_, _], _ => rfl
theorem c_law_number (T : Tx K mg) : Cl P w K mg base 1 "_law_number" (sp_law_number K) := by
  obtain ⟨fd, F⟩ := T.f_law_number
  have S := sc_law_number
  refine cl_of F T.g_law_number bn_law_number S (fun vs H Q E h => ?_) (fun cdv A outer s H vs Q E hr h => ?_)
  · obtain ⟨c, wd, rfl, _⟩ := h
    rfl
  · obtain ⟨c, wd, rfl, q⟩ := h
    have hu := hu_of hr
    have hu2 := hr.units
    refine ⟨_, (pss_cons
      (ps_if (pt_cmpR op_eq (pe_op op_mod (pv 1) pe_int) pe_int (nomark _))
      (pss_one
        (ps_ret (pe_op op_add (pe_op op_sub (pe_op op_mod (pv 0) (pe_op op_sub (pe_op op_mul pe_int (pe_op op_pow pe_int pe_int)) pe_int)) (pe_op op_pow pe_int pe_int)) pe_int)))
      pss_nil)
      (pss_one
      (ps_ret (pe_op op_sub (pe_op op_sub (pe_op op_mod (pv 0) (pe_op op_add (pe_op op_mul pe_int (pe_op op_add pe_int (pe_op op_mod (pv 1) pe_int))) pe_int)) pe_int) (pe_op op_mod (pv 1) pe_int))))), ?_⟩
    have w0 := Int.emod_nonneg wd (b := 40) (by decide)
    have w1 := Int.emod_lt_of_pos wd (b := 40) (by decide)
    refine ⟨_, rfl, _, _, rfl, rfl, (by show (0 : Int) < 5; decide), rfl, _, rfl, iteI (fun e1 => ?_) (fun e1 => ?_)⟩
    · refine ⟨_, rfl, 10, 30, rfl, rfl, ⟨by decide, by decide, by decide⟩, _, _, rfl, rfl, .inl ⟨by decide, by decide⟩, _, _, rfl, rfl, _, _, rfl, rfl, (by show (0 : Int) < _; decide), 10, 30, rfl, rfl, ⟨by decide, by decide, by decide⟩, _, _, rfl, rfl, _, _, rfl, rfl, ?_⟩
      unfold numb at q
      rw [if_pos e1] at q
      exact q
    · refine ⟨_, rfl, _, rfl, _, _, rfl, rfl, (by show (0 : Int) < 40; decide), _, _, rfl, rfl, _, _, rfl, rfl, .inl ⟨by decide, by decide⟩, _, _, rfl, rfl, _, _, rfl, rfl, (by show (0 : Int) < _; omega), _, _, rfl, rfl, _, rfl, _, _, rfl, rfl, (by show (0 : Int) < 40; decide), _, _, rfl, rfl, ?_⟩
      unfold numb at q
      rw [if_neg e1] at q
      exact q
end
end WW

namespace WW
open PySem PySem.Spec PyProof.Rows L2
section
variable {P : Program} {w : World} {K : PySem.W.Frag} {mg : Str → Option Value} {base : Heap}
/-! ### the ties of a script -/
def lcg1 (c : Int) : Int := (c * 48271 + 11) % 2147483647
def tb1 (size : Nat) (wd : Int) (c0 : Int) : Nat → Int × List N3
  | 0 => (c0, [])
  | i + 1 => (lcg1 (tb1 size wd c0 i).1, putT (tb1 size wd c0 i).2 (lcg1 (tb1 size wd c0 i).1 / 7 % (size : Int)).toNat i (numb (lcg1 (tb1 size wd c0 i).1 / 300 * (lcg1 (tb1 size wd c0 i).1 % 10 ^ 9 + 1)) wd))
def tb2 (ns : List Int) (start size : Nat) (wd : Int) (u : List N3) : Nat → List N3
  | 0 => u
  | i + 1 => putT (tb2 ns start size wd u i) (cell ns (start + 1 + i) % (size : Int)).toNat (cell ns (start + 1 + i) / (size : Int) % (size : Int)).toNat (numb (cell ns (start + 1 + i) / ((size : Int) * (size : Int))) wd)
def tiesBy (ns : List Int) (start size count : Nat) (wd : Int) : List N3 := tb2 ns start size wd (tb1 size wd (cell ns start) size).2 count
theorem tb1_len (size : Nat) (wd c0 : Int) : ∀ i, (tb1 size wd c0 i).2.length ≤ i
  | 0 => Nat.le_refl 0
  | i + 1 => Nat.le_trans (putT_len _ _ _ _) (Nat.succ_le_succ (tb1_len size wd c0 i))
theorem tb2_len (ns : List Int) (start size : Nat) (wd : Int) (u : List N3) : ∀ i, (tb2 ns start size wd u i).length ≤ u.length + i
  | 0 => Nat.le_refl _
  | i + 1 => Nat.le_trans (putT_len _ _ _ _) (Nat.succ_le_succ (tb2_len ns start size wd u i))
theorem tiesBy_len (ns : List Int) (start size count : Nat) (wd : Int) : (tiesBy ns start size count wd).length ≤ size + count := by
  have h1 := tb2_len ns start size wd (tb1 size wd (cell ns start) size).2 count
  have h2 := tb1_len size wd (cell ns start) size
  show (tb2 ns start size wd (tb1 size wd (cell ns start) size).2 count).length ≤ _
  omega
theorem mod_nat {c : Int} {n : Nat} (h : 0 < n) : (((c % (n : Int)).toNat : Nat) : Int) = c % (n : Int) ∧ (c % (n : Int)).toNat < n := by
  have h1 := Int.emod_nonneg c (b := (n : Int)) (by omega)
  have h2 := Int.emod_lt_of_pos c (b := (n : Int)) (by omega)
  omega
theorem tb1_nd (size : Nat) (wd c0 : Int) : ∀ i, ((tb1 size wd c0 i).2.map keyT).Nodup
  | 0 => List.nodup_nil
  | i + 1 => putT_nd _ _ _ (tb1_nd size wd c0 i)
theorem tb2_nd (ns : List Int) (start size : Nat) (wd : Int) {u : List N3} (h : (u.map keyT).Nodup) : ∀ i, ((tb2 ns start size wd u i).map keyT).Nodup
  | 0 => h
  | i + 1 => putT_nd _ _ _ (tb2_nd ns start size wd h i)
theorem tiesBy_nd (ns : List Int) (start size count : Nat) (wd : Int) : ((tiesBy ns start size count wd).map keyT).Nodup := tb2_nd _ _ _ _ (tb1_nd _ _ _ _) _
def sp_law_ties_by (K : PySem.W.Frag) : Sp := fun vs H Q _ => ∃ (l : Addr) (ns : List Int) (start size count : Nat) (wd : Int), vs = [.ref l, .int (start : Int), .int (size : Int), .int (count : Int), .int wd] ∧ SqL K H l (ns.map V.int) ∧
  1 ≤ size ∧ size ≤ 40 ∧ count ≤ 100 ∧ ∀ p H', H p = none → Ex H H' → TieL H' p (tiesBy ns start size count wd) → Q (.ref p) H'
theorem sc_law_ties_by : FnScope ["script", "start", "size", "count", "wide", "known", "cell", "b", "k", "pair"] ["script", "start", "size", "count", "wide"] (defScope s_law_ties_by) := ⟨rfl, rfl, rfl, by decide +kernel, rfl, by decide +kernel, by decide +kernel⟩
theorem bn_law_ties_by : BindN (defArgs s_law_ties_by) (defBody s_law_ties_by) (defScope s_law_ties_by) "_law_ties_by" "_law_ties_by" ["script", "start", "size", "count", "wide"] := fun _ _ _ _ _ _ us hl => match us, hl with | [_, _, _, _, _], _ => rfl
theorem c_law_ties_by (T : Tx K mg) : Cl P w K mg base 2 "_law_ties_by" (sp_law_ties_by K) := by
  obtain ⟨fd, F⟩ := T.f_law_ties_by
  have S := sc_law_ties_by
  refine cl_of F T.g_law_ties_by bn_law_ties_by S (fun vs H Q E h => ?_) (fun cdv A outer s H vs Q E hr h => ?_)
  · obtain ⟨l, ns, start, size, count, wd, rfl, _⟩ := h
    rfl
  · obtain ⟨l, ns, start, size, count, wd, rfl, hs, h1, h40, hc, q⟩ := h
    have hu := hu_of hr
    have hu2 := hr.units
    refine ⟨_, (pss_cons
      (ps_set (i := 5) S.nd rfl (Or.inr rfl) pe_dnewT)
      (pss_cons
      (ps_set (i := 6) S.nd rfl (Or.inl rfl) (pcl (c_law_cell_at T) hr (by decide) passL (pa_cons (pv 0) (pa_cons (pv 1) pa_nil))))
      (pss_cons
      (ps_for (passes_of rfl) rfl (pi_range1 rfl T.n_range (pa_cons (pv 2) pa_nil)) (pg_name (i := 7) S.nd rfl (Or.inl rfl))
      (pss_cons
        (ps_set (i := 6) S.nd rfl (Or.inl rfl) (pe_op op_mod (pe_op op_add (pe_op op_mul (pv 6) pe_int) pe_int) pe_int))
        (pss_one
        (ps_dput hu (pv 5) (pe_tup (pa_cons (pe_op op_mod (pe_op op_fdiv (pv 6) pe_int) (pv 2)) (pa_cons (pv 7) pa_nil))) (pcl (c_law_number T) hr (by decide) passL (pa_cons (pe_op op_mul (pe_op op_fdiv (pv 6) pe_int) (pe_op op_add (pe_op op_mod (pv 6) (pe_op op_pow pe_int pe_int)) pe_int)) (pa_cons (pv 4) pa_nil))) rfl))))
      (pss_cons
      (ps_for (passes_of rfl) rfl (pi_range1 rfl T.n_range (pa_cons (pv 3) pa_nil)) (pg_name (i := 8) S.nd rfl (Or.inl rfl))
      (pss_cons
        (ps_set (i := 6) S.nd rfl (Or.inl rfl) (pcl (c_law_cell_at T) hr (by decide) passL (pa_cons (pv 0) (pa_cons (pe_op op_add (pe_op op_add (pv 1) pe_int) (pv 8)) pa_nil))))
        (pss_cons
        (ps_set (i := 9) S.nd rfl (Or.inl rfl) (pe_tup (pa_cons (pe_op op_mod (pv 6) (pv 2)) (pa_cons (pe_op op_mod (pe_op op_fdiv (pv 6) (pv 2)) (pv 2)) pa_nil))))
        (pss_one
        (ps_dput hu (pv 5) (pv 9) (pcl (c_law_number T) hr (by decide) passL (pa_cons (pe_op op_fdiv (pv 6) (pe_op op_mul (pv 2) (pv 2))) (pa_cons (pv 4) pa_nil))) rfl)))))
      (pss_one
      (ps_ret (pe_lc (own := [("pair", 9)]) (g := (gName 9)) (tt := tYes) rfl S.nd (piL K (pe_callTy (cListDT rfl) rfl T.n_list (by decide +kernel) (pa_cons (pv 5) pa_nil))) (blkOk_by (by kernel_rfl)) (fun _ _ _ _ _ => (pg_name (i := 9) S.nd rfl (Or.inl rfl))) (fun _ _ _ _ _ => pts_nil) (fun _ _ _ _ _ => (pe_tup (pa_cons (pe_ix (ixT K) (pv 9) pe_int (fun _ _ => rfl)) (pa_cons (pe_ix (ixT K) (pv 9) pe_int (fun _ _ => rfl)) (pa_cons (pe_dget hu (pv 5) (pv 9) (fun _ _ => rfl)) pa_nil)))))))))))), ?_⟩
    -- known = {}
    intro d hd
    have e1 : Ex H (upd H d (.dT [])) := Evl.Ex.new hd
    -- cell = _law_cell_at(script, start)
    refine ⟨_, rfl, _, rfl, l, ns, start, rfl, e1.sq hs, ?_⟩
    -- for b in range(size)
    refine ⟨_, rfl, (size : Int), rfl, by omega, by omega, for_rng (n := size) (fun i σ H' => ∃ vb, σ = [some (.ref l), some (.int (start : Int)), some (.int (size : Int)), some (.int (count : Int)), some (.int wd), some (.ref d), some (.int (tb1 size wd (cell ns start) i).1), vb, none, none] ∧
      Ex H H' ∧ H' d = some (.dT (encT (tb1 size wd (cell ns start) i).2))) ⟨none, rfl, e1, upd_same⟩ ?_ ?_⟩
    · rintro i σ H1 hi ⟨vb, rfl, e2, hdT⟩
      have c0 := Int.emod_nonneg (lcg1 (tb1 size wd (cell ns start) i).1) (b := 10 ^ 9) (by decide)
      have c1 := Int.emod_lt_of_pos (lcg1 (tb1 size wd (cell ns start) i).1) (b := 10 ^ 9) (by decide)
      have m1 := mod_nat (c := lcg1 (tb1 size wd (cell ns start) i).1 / 7) (n := size) h1
      refine ⟨_, rfl, _, _, rfl, rfl, .inr ⟨by decide, by decide⟩, _, _, rfl, rfl, _, _, rfl, rfl, (by show (0 : Int) < 2147483647; decide), ?_⟩
      refine ⟨_, rfl, _, _, rfl, rfl, ⟨by decide, by decide⟩, _, rfl, 10, 9, rfl, rfl, ⟨by decide, by decide, by decide⟩, _, _, rfl, rfl, (by show (0 : Int) < _; decide), _, _, rfl, rfl, _, _, rfl, rfl, .inr ?_, _, rfl, _, _, rfl, ?_⟩
      · show -(2 ^ 64 : Int) < lcg1 (tb1 size wd (cell ns start) i).1 % 10 ^ 9 + 1 ∧ lcg1 (tb1 size wd (cell ns start) i).1 % 10 ^ 9 + 1 < 2 ^ 64
        omega
      refine ⟨_, rfl, _, rfl, _, _, rfl, rfl, ⟨by decide, by decide⟩, _, rfl, _, _, rfl, rfl, (by show (0 : Int) < (size : Int); omega), _, rfl, sz2, fun t ht => ?_⟩
      have hdT' : (upd H1 t (.tup [V.int (lcg1 (tb1 size wd (cell ns start) i).1 / 7 % (size : Int)), V.int (i : Int)])) d = some (.dT (encT (tb1 size wd (cell ns start) i).2)) := upd_new hdT ht
      refine ⟨d, _, rfl, DPut.t (k := kE (lcg1 (tb1 size wd (cell ns start) i).1 / 7 % (size : Int)).toNat i) hdT' ?_ (szt ?_), ?_⟩
      · rw [kE_v, m1.1]
        exact upd_same
      · rw [encT_len]
        have := tb1_len size wd (cell ns start) i
        omega
      · refine ⟨_, rfl, (e2.more ht).mutd hd, ?_⟩
        rw [upd_same, encT_put]
        rfl
    -- for k in range(count)
    · rintro σ H1 ⟨vb, rfl, e2, hdT⟩
      refine ⟨_, rfl, (count : Int), rfl, by omega, by omega, for_rng (n := count) (fun i σ H' => ∃ vc vk vp, σ = [some (.ref l), some (.int (start : Int)), some (.int (size : Int)), some (.int (count : Int)), some (.int wd), some (.ref d), vc, vb, vk, vp] ∧
        Ex H H' ∧ H' d = some (.dT (encT (tb2 ns start size wd (tb1 size wd (cell ns start) size).2 i)))) ⟨_, _, _, rfl, e2, hdT⟩ ?_ ?_⟩
      · rintro i σ H2 hi ⟨vc, vk, vp, rfl, e3, hdT2⟩
        have m1 := mod_nat (c := cell ns (start + 1 + i)) (n := size) h1
        have m2 := mod_nat (c := cell ns (start + 1 + i) / (size : Int)) (n := size) h1
        -- cell = _law_cell_at(script, start + 1 + k)
        refine ⟨_, rfl, _, rfl, _, _, rfl, rfl, _, rfl, _, _, rfl, rfl, l, ns, start + 1 + i, ?_, e3.sq hs, ?_⟩
        · exact congrArg (fun z : Int => [V.ref l, V.int z]) (by omega)
        -- pair
        refine ⟨_, rfl, _, rfl, _, _, rfl, rfl, (by show (0 : Int) < (size : Int); omega), _, rfl, _, rfl, _, _, rfl, rfl, ⟨by omega, by omega⟩, _, rfl, _, _, rfl, rfl, (by show (0 : Int) < (size : Int); omega), sz2, fun t ht => ?_⟩
        have sz2 : (0 : Int) < (size : Int) * (size : Int) := Int.mul_pos (by omega) (by omega)
        have sz3 : (size : Int) * (size : Int) ≤ 40 * 40 := Int.mul_le_mul (by omega) (by omega) (by omega) (by omega)
        -- known[pair] = _law_number(cell // (size * size), wide)
        refine ⟨_, rfl, _, rfl, _, rfl, _, _, rfl, rfl, .inl ⟨by omega, by omega⟩, _, _, rfl, rfl, ⟨sz2, by omega⟩, _, rfl, _, _, rfl, ?_⟩
        have hdT' : (upd H2 t (.tup [V.int (cell ns (start + 1 + i) % (size : Int)), V.int (cell ns (start + 1 + i) / (size : Int) % (size : Int))])) d = _ := upd_new hdT2 ht
        refine ⟨_, rfl, _, rfl, d, _, rfl, DPut.t (k := kE (cell ns (start + 1 + i) % (size : Int)).toNat (cell ns (start + 1 + i) / (size : Int) % (size : Int)).toNat) hdT' ?_ (szt ?_), ?_⟩
        · rw [kE_v, m1.1, m2.1]
          exact upd_same
        · rw [encT_len]
          have z1 := tb2_len ns start size wd (tb1 size wd (cell ns start) size).2 i
          have z2 := tb1_len size wd (cell ns start) size
          omega
        · refine ⟨_, _, _, rfl, (e3.more ht).mutd hd, ?_⟩
          rw [upd_same, encT_put]
          rfl
      -- return [(pair[0], pair[1], known[pair]) for pair in list(known)]
      · rintro σ H2 ⟨vc, vk, vp, rfl, e3, hdT2⟩
        have hdU : H2 d = some (.dT (encT (tiesBy ns start size count wd))) := hdT2
        have nd := tiesBy_nd ns start size count wd
        have e4 : Ex H H2 := e3
        generalize hU : tiesBy ns start size count wd = us at *
        refine ⟨_, rfl, d, _, rfl, .inl hdU, fun kl bs hkl hbs => ?_⟩
        have hbs2 : TupsAt (upd H2 kl (.lst (bs.map V.ref))) bs (us.map fun t => [V.int (t.1 : Int), V.int (t.2.1 : Int)]) := keys_tups (Evl.Ex.new hkl) hbs
        have hdW : (upd H2 kl (.lst (bs.map V.ref))) d = some (.dT (encT us)) := upd_new hdU hkl
        have bl := hbs2.length
        have ul : us.length ≤ 140 := by
          have := tiesBy_len ns start size count wd
          rw [hU] at this
          omega
        rw [List.length_map] at bl
        refine ⟨kl, rfl, ⟨_, sl upd_same⟩, fun D hD => ?_⟩
        refine lc_listR (xs := bs.map V.ref) (fun i y H => ∀ t, us[i]? = some t → ∃ b, y = .ref b ∧ H b = some (.tup (vN t))) (fun i y H H' e h t ht => let ⟨b, h1, h2⟩ := h t ht; ⟨b, h1, e _ _ h2⟩) hD (sl upd_same) (by rw [List.length_map]; omega) ?_ ?_
        · intro i x H5 k hx e5 hacc hk
          obtain ⟨acc, hacc⟩ := hacc
          obtain ⟨b, r, rfl, _, hr2, hb⟩ := hbs2.get hx
          rw [List.getElem?_map] at hr2
          cases ht : us[i]? with
          | none => rw [ht] at hr2; cases hr2
          | some t =>
            rw [ht] at hr2
            cases hr2
            have hb5 := e5.at hb
            have hd5 := e5.at hdW
            have hv : valV (encT us) (kE t.1 t.2.1) = some (V.int t.2.2) := by
              rw [encT_val, lookT_mem nd (List.mem_of_getElem? ht)]
              rfl
            refine ⟨rfl, _, rfl, b, _, 0, _, rfl, rfl, stp hb5, atI_nat (j := 0) rfl, _, rfl, b, _, 1, _, rfl, rfl, stp hb5, atI_nat (j := 1) rfl, _, rfl, _, rfl, d, _, rfl, (hv ▸ DGet.t (k := kE t.1 t.2.1) hd5 hb5 : DGet H5 d (.ref b) (some (V.int t.2.2))), sz3, fun p hp => ?_⟩
            refine hk _ _ (Evl.Ex.new hp) fun t' ht' => ?_
            rw [ht] at ht'
            cases ht'
            exact ⟨p, rfl, del_tup upd_same (upd_new hacc hp)⟩
        · intro H5 ys e5 hD5 hl hr5
          obtain ⟨cs, rfl, hcs⟩ := ys_tups (H := del D H5) (ys := ys) (rs := us.map vN) (by rw [hl, List.length_map, List.length_map]; omega) fun i y r hy hr6 => by
            rw [List.getElem?_map] at hr6
            cases ht : us[i]? with
            | none => rw [ht] at hr6; cases hr6
            | some t =>
              rw [ht] at hr6
              cases hr6
              exact hr5 i y hy t ht
          refine q D H5 ((e4.more hkl).fresh hD) ((e4.more hkl).tr e5) ⟨cs, hD5, hcs.mono ex_del⟩
end
end WW

namespace WW
open PySem PySem.Spec PyProof.Rows L2
section
variable {P : Program} {w : World} {K : PySem.W.Frag} {mg : Str → Option Value} {base : Heap}
abbrev CW (K : PySem.W.Frag) : Addr := He.ga K "Wheel"
def sp_Wsee_deed (K : PySem.W.Frag) : Sp := fun vs H Q E => ∃ (p dx : Addr) (fs : List (Str × V)) (n : Nat) (a : Int), vs = [.ref p, .int a] ∧ H p = some (.ins (CW K) dx fs) ∧ fs.lookup ("many" : Str) = some (.int (n : Int)) ∧
  (0 ≤ a ∧ a < n → Q .non H) ∧ (¬ (0 ≤ a ∧ a < n) → E (.ref (He.ga K "NoDeed")) none H)
theorem sc_Wsee_deed : FnScope ["self", "a"] ["self", "a"] (defScope s_Wsee_deed) := ⟨rfl, rfl, rfl, by decide +kernel, rfl, by decide +kernel, by decide +kernel⟩
theorem bn_Wsee_deed : BindN (defArgs s_Wsee_deed) (defBody s_Wsee_deed) (defScope s_Wsee_deed) "see_deed" "Wheel.see_deed" ["self", "a"] := fun _ _ _ _ _ _ us hl => match us, hl with | [_, _], _ => rfl
theorem c_Wsee_deed (T : Tx K mg) : Mt P w K mg base 1 (He.ga K "Wheel") "see_deed" (sp_Wsee_deed K) := by
  obtain ⟨fd, F⟩ := T.f_Wsee_deed
  have S := sc_Wsee_deed
  refine mt_of T.cls T.m_Wsee_deed F bn_Wsee_deed S (fun vs H Q E h => ?_) (fun cdv A outer s H vs Q E hr h => ?_)
  · obtain ⟨p, dx, fs, n, a, rfl, _⟩ := h
    rfl
  · obtain ⟨p, dx, fs, n, a, rfl, hp, hm, q1, q2⟩ := h
    have hu := hu_of hr
    have hu2 := hr.units
    refine ⟨_, (pss_one
      (ps_if (PW.pt (pw_or (pt_cmpR op_lt (pv 1) pe_int (nomark _)) (pw_or1 (pt_cmpR op_ge (pv 1) (pFld K (pv 0) rfl) (nomark _)))))
      (pss_one
        (ps_raise rfl (takes_of rfl rfl rfl rfl) (pmk_own PySem.F.excBase_ValueError T.x_NoDeed.1 T.g_NoDeed T.x_NoDeed.2.1 (T.r_NoDeed rfl) rfl)))
      pss_nil)), ?_⟩
    refine ⟨_, rfl, _, _, rfl, rfl, _, rfl, iteD (fun e1 => ?_) (fun e1 => ?_)⟩
    · exact iteT (q2 fun z => by omega)
    · refine ⟨_, rfl, _, rfl, p, _, dx, _, _, rfl, hp, T.cls, T.no_many, hm, _, _, rfl, rfl, _, rfl, iteD (fun e2 => ?_) (fun e2 => ?_)⟩
      · exact q2 fun z => by omega
      · exact q1 ⟨by omega, by omega⟩
end
end WW

namespace WW
open PySem PySem.Spec PyProof.Rows L2
section
variable {P : Program} {w : World} {K : PySem.W.Frag} {mg : Str → Option Value} {base : Heap}
def sp_Wsize (K : PySem.W.Frag) : Sp := fun vs H Q _ => ∃ (p : Addr) (n : Nat) (us : List N3), vs = [.ref p] ∧ WheelAt K H p n us ∧ Q (.int (n : Int)) H
theorem sc_Wsize : FnScope ["self"] ["self"] (defScope s_Wsize) := ⟨rfl, rfl, rfl, by decide +kernel, rfl, by decide +kernel, by decide +kernel⟩
theorem bn_Wsize : BindN (defArgs s_Wsize) (defBody s_Wsize) (defScope s_Wsize) "size" "Wheel.size" ["self"] := fun _ _ _ _ _ _ us hl => match us, hl with | [_], _ => rfl
theorem c_Wsize (T : Tx K mg) : Mt P w K mg base 1 (He.ga K "Wheel") "size" (sp_Wsize K) := by
  obtain ⟨fd, F⟩ := T.f_Wsize
  have S := sc_Wsize
  refine mt_of T.cls T.m_Wsize F bn_Wsize S (fun vs H Q E h => ?_) (fun cdv A outer s H vs Q E hr h => ?_)
  · obtain ⟨p, n, us, rfl, _⟩ := h
    rfl
  · obtain ⟨p, n, us, rfl, hW, q⟩ := h
    have hu := hu_of hr
    have hu2 := hr.units
    refine ⟨_, (pss_one
      (ps_ret (pFld K (pv 0) rfl))), ?_⟩
    obtain ⟨g, dx, d, l, rows, W⟩ := hW
    exact ⟨_, rfl, p, _, dx, _, _, rfl, W.ob, T.cls, T.no_many, wf_many _ _ _, q⟩
end
end WW

namespace WW
open PySem PySem.Spec PyProof.Rows L2
section
variable {P : Program} {w : World} {K : PySem.W.Frag} {mg : Str → Option Value} {base : Heap}
def sp_Wwaits (K : PySem.W.Frag) : Sp := fun vs H Q E => ∃ (p : Addr) (n : Nat) (us : List N3) (b : Int), vs = [.ref p, .int b] ∧ WheelAt K H p n us ∧
  (0 ≤ b ∧ b < n → ∀ r H', H r = none → Ex H H' → PairL H' r (inc us b.toNat) → Q (.ref r) H') ∧ (¬ (0 ≤ b ∧ b < n) → E (.ref (He.ga K "NoDeed")) none H)
theorem sc_Wwaits : FnScope ["self", "b"] ["self", "b"] (defScope s_Wwaits) := ⟨rfl, rfl, rfl, by decide +kernel, rfl, by decide +kernel, by decide +kernel⟩
theorem bn_Wwaits : BindN (defArgs s_Wwaits) (defBody s_Wwaits) (defScope s_Wwaits) "waits" "Wheel.waits" ["self", "b"] := fun _ _ _ _ _ _ us hl => match us, hl with | [_, _], _ => rfl
theorem c_Wwaits (T : Tx K mg) : Mt P w K mg base 2 (He.ga K "Wheel") "waits" (sp_Wwaits K) := by
  obtain ⟨fd, F⟩ := T.f_Wwaits
  have S := sc_Wwaits
  refine mt_of T.cls T.m_Wwaits F bn_Wwaits S (fun vs H Q E h => ?_) (fun cdv A outer s H vs Q E hr h => ?_)
  · obtain ⟨p, n, us, b, rfl, _⟩ := h
    rfl
  · obtain ⟨p, n, us, b, rfl, hW, q1, q2⟩ := h
    have hu := hu_of hr
    have hu2 := hr.units
    refine ⟨_, (pss_cons
      (ps_expr (pmt (c_Wsee_deed T) hr (by decide) (passes_call (W := fun c d _ H => E c d H) (takes_of rfl rfl rfl rfl) fun _ _ _ _ z => z) (pv 0) (pa_cons (pv 1) pa_nil)))
      (pss_one
      (ps_ret (pe_callTy (cList K) rfl T.n_list (by decide +kernel) (pa_cons (pe_ix (ixL K) (pFld K (pv 0) rfl) (pv 1) (fun _ _ => rfl)) pa_nil))))), ?_⟩
    obtain ⟨g, dx, d, l, rows, W⟩ := hW
    refine ⟨_, rfl, p, dx, _, rfl, W.ob, wf_no _ _ _ (by decide +kernel) (by decide +kernel) (by decide +kernel), _, rfl, p, dx, _, n, b, rfl, W.ob, wf_many _ _ _, fun hb => ?_, fun hb => q2 hb⟩
    obtain ⟨r, hr, hP⟩ := W.row (b := b.toNat) (by omega)
    have eb : b = ((b.toNat : Nat) : Int) := by omega
    refine ⟨_, rfl, p, _, dx, _, _, rfl, W.ob, T.cls, T.no_into, wf_into _ _ _, _, rfl, l, _, _, .ref r, rfl, rfl, sl W.il, at_of eb (by rw [List.getElem?_map, hr]; rfl), ?_⟩
    obtain ⟨bs, hP1, hP2⟩ := hP
    refine ⟨r, _, rfl, .inl (sl hP1), fun z hz => ?_⟩
    exact q1 hb z _ hz (Evl.Ex.new hz) ⟨bs, upd_same, hP2.mono (Evl.Ex.new hz)⟩
end
end WW

namespace WW
open PySem PySem.Spec PyProof.Rows L2
section
variable {P : Program} {w : World} {K : PySem.W.Frag} {mg : Str → Option Value} {base : Heap}
theorem dpK (us : List N3) : (us.map fun t => [V.int (t.1 : Int), V.int (t.2.1 : Int)]) = (us.map kL).map (·.map V.int) := by
  rw [List.map_map]
  rfl
def sp_Wties (K : PySem.W.Frag) : Sp := fun vs H Q _ => ∃ (p : Addr) (n : Nat) (us : List N3), vs = [.ref p] ∧ WheelAt K H p n us ∧ ∀ r H', H r = none → Ex H H' → TieL H' r (sortT us) → Q (.ref r) H'
theorem sc_Wties : FnScope ["self", "pair"] ["self"] (defScope s_Wties) := ⟨rfl, rfl, rfl, by decide +kernel, rfl, by decide +kernel, by decide +kernel⟩
theorem bn_Wties : BindN (defArgs s_Wties) (defBody s_Wties) (defScope s_Wties) "ties" "Wheel.ties" ["self"] := fun _ _ _ _ _ _ us hl => match us, hl with | [_], _ => rfl
theorem c_Wties (T : Tx K mg) : Mt P w K mg base 1 (He.ga K "Wheel") "ties" (sp_Wties K) := by
  obtain ⟨fd, F⟩ := T.f_Wties
  have S := sc_Wties
  refine mt_of T.cls T.m_Wties F bn_Wties S (fun vs H Q E h => ?_) (fun cdv A outer s H vs Q E hr h => ?_)
  · obtain ⟨p, n, us, rfl, _⟩ := h
    rfl
  · obtain ⟨p, n, us, rfl, hW, q⟩ := h
    have hu := hu_of hr
    have hu2 := hr.units
    refine ⟨_, (pss_one
      (ps_ret (pe_lc (own := [("pair", 1)]) (g := (gName 1)) (tt := tYes) rfl S.nd (piL K (pe_callB (cSortT K hu2) rfl T.n_sorted (by decide +kernel) (pa_cons (pe_callTy (cListDT rfl) rfl T.n_list (by decide +kernel) (pa_cons (pFld K (pv 0) rfl) pa_nil)) pa_nil))) (blkOk_by (by kernel_rfl)) (fun _ _ _ _ _ => (pg_name (i := 1) S.nd rfl (Or.inl rfl))) (fun _ _ _ _ _ => pts_nil) (fun _ _ _ _ _ => (pe_tup (pa_cons (pe_ix (ixT K) (pv 1) pe_int (fun _ _ => rfl)) (pa_cons (pe_ix (ixT K) (pv 1) pe_int (fun _ _ => rfl)) (pa_cons (pe_dget hu (pFld K (pv 0) rfl) (pv 1) (fun _ _ => rfl)) pa_nil)))))))), ?_⟩
    obtain ⟨g, dx, d, l, rows, W⟩ := hW
    -- sorted(list(self.known))
    refine ⟨_, rfl, p, _, dx, _, _, rfl, W.ob, T.cls, T.no_known, wf_known _ _ _, d, _, rfl, .inl W.kn, fun kl bs hkl hbs => ?_⟩
    have hbs2 := keys_tups (Evl.Ex.new hkl (o := .lst (bs.map V.ref))) hbs
    rw [dpK] at hbs2
    refine ⟨kl, bs, us.map kL, 1, rfl, sl upd_same, hbs2, fun r hr => ?_, fun sl0 cs hsl hcs => ?_⟩
    · obtain ⟨t, _, rfl⟩ := List.mem_map.mp hr
      rfl
    have e1 : Ex H (upd H kl (.lst (bs.map V.ref))) := Evl.Ex.new hkl
    have e2 := Ex.more e1 hsl (o := .lst (cs.map V.ref))
    rw [sortT_keys] at hcs
    have hcs2 := hcs.mono (Evl.Ex.new hsl (o := .lst (cs.map V.ref)))
    have W2 := W.mono e2
    have cl := hcs2.length
    have ul := g.len
    rw [List.length_map, List.length_map, sortT_len] at cl
    refine ⟨sl0, rfl, ⟨_, sl upd_same⟩, fun D hD => ?_⟩
    refine lc_listR (xs := cs.map V.ref) (fun i y H => ∀ t, (sortT us)[i]? = some t → ∃ b, y = .ref b ∧ H b = some (.tup (vN t))) (fun i y H H' e h t ht => let ⟨b, h1, h2⟩ := h t ht; ⟨b, h1, e _ _ h2⟩) hD (sl upd_same) (by rw [List.length_map]; omega) ?_ ?_
    · intro i x H5 k hx e5 hacc hk
      obtain ⟨acc, hacc⟩ := hacc
      obtain ⟨b, r, rfl, _, hr2, hb⟩ := hcs2.get hx
      rw [List.getElem?_map, List.getElem?_map] at hr2
      cases ht : (sortT us)[i]? with
      | none => rw [ht] at hr2; cases hr2
      | some t =>
        rw [ht] at hr2
        cases hr2
        have hb5 := e5.at hb
        have W5 := W2.mono e5
        have hv : valV (encT us) (kE t.1 t.2.1) = some (V.int t.2.2) := by
          rw [encT_val, lookT_mem g.nd (sortT_mem.mp (List.mem_of_getElem? ht))]
          rfl
        refine ⟨rfl, _, rfl, b, _, 0, _, rfl, rfl, stp hb5, atI_nat (j := 0) rfl, _, rfl, b, _, 1, _, rfl, rfl, stp hb5, atI_nat (j := 1) rfl, _, rfl, p, _, dx, _, _, rfl, W5.ob, T.cls, T.no_known, wf_known _ _ _, _, rfl, d, _, rfl, (hv ▸ DGet.t (k := kE t.1 t.2.1) W5.kn hb5 : DGet H5 d (.ref b) (some (V.int t.2.2))), sz3, fun z hz => ?_⟩
        refine hk _ _ (Evl.Ex.new hz) fun t' ht' => ?_
        rw [ht] at ht'
        cases ht'
        exact ⟨z, rfl, del_tup upd_same (upd_new hacc hz)⟩
    · intro H5 ys e5 hD5 hl hr5
      obtain ⟨zs, rfl, hzs⟩ := ys_tups (H := del D H5) (ys := ys) (rs := (sortT us).map vN) (by rw [hl, List.length_map, List.length_map, sortT_len]; omega) fun i y r hy hr6 => by
        rw [List.getElem?_map] at hr6
        cases ht : (sortT us)[i]? with
        | none => rw [ht] at hr6; cases hr6
        | some t =>
          rw [ht] at hr6
          cases hr6
          exact hr5 i y hy t ht
      exact q D H5 (e2.fresh hD) (e2.tr e5) ⟨zs, hD5, hzs.mono ex_del⟩
end
end WW

namespace WW
open PySem PySem.Spec PyProof.Rows L2
section
variable {P : Program} {w : World} {K : PySem.W.Frag} {mg : Str → Option Value} {base : Heap}
/-! ### making a wheel: what is refused -/
abbrev Z3 := Int × Int × Int
def up (t : N3) : Z3 := ((t.1 : Int), (t.2.1 : Int), t.2.2)
def vZ (t : Z3) : List V := [.int t.1, .int t.2.1, .int t.2.2]
inductive Bad where
  | noDeed | twice | idle
def Bad.cls (K : PySem.W.Frag) : Bad → Addr
  | .noDeed => He.ga K "NoDeed"
  | .twice => He.ga K "TieTwice"
  | .idle => He.ga K "Idle"
def scan (n : Int) : List Z3 → List (Int × Int) → Option Bad
  | [], _ => none
  | t :: r, seen => if ¬ (0 ≤ t.1 ∧ t.1 < n) ∨ ¬ (0 ≤ t.2.1 ∧ t.2.1 < n) then some .noDeed else if (t.1, t.2.1) ∈ seen then some .twice else scan n r (seen ++ [(t.1, t.2.1)])
def mkW (size : Int) (ts : List Z3) : Option Bad :=
  if size < 1 ∨ 40 < size then some .noDeed else match scan size ts [] with
    | some e => some e
    | none => if (List.range size.toNat).any (fun b => ts.all fun t => !decide (t.2.1 = (b : Int))) = true then some .idle else none
def ZieL (H : Hp) (a : Addr) (ts : List Z3) : Prop := TL H a (ts.map vZ)
theorem zie_of_tie {H : Hp} {a : Addr} {us : List N3} (h : TieL H a us) : ZieL H a (us.map up) := by
  unfold ZieL
  rw [List.map_map]
  exact h
def keyZ (t : N3) : Int × Int := ((t.1 : Int), (t.2.1 : Int))
theorem drop_cons {α : Type} {l : List α} {i : Nat} {x : α} (h : l[i]? = some x) : l.drop i = x :: l.drop (i + 1) := by
  obtain ⟨hi, e⟩ := List.getElem?_eq_some_iff.mp h
  rw [← e]
  exact List.drop_eq_getElem_cons hi
theorem take_snoc {α : Type} {l : List α} {i : Nat} {x : α} (h : l[i]? = some x) : l.take (i + 1) = l.take i ++ [x] := by
  rw [List.take_add_one, h]
  rfl
theorem inc_row {us : List N3} {b : Nat} : (((sortT us).take (sortT us).length).filter fun t => t.2.1 == b).map (fun t => (t.1, t.2.2)) = inc us b := by
  rw [List.take_length]
  rfl
def rowAt (us : List N3) (i b : Nat) : List (Nat × Int) := (((sortT us).take i).filter fun t => t.2.1 == b).map fun t => (t.1, t.2.2)
theorem rowAt_len (us : List N3) (i b : Nat) : (rowAt us i b).length ≤ us.length := by
  unfold rowAt
  rw [List.length_map]
  refine Nat.le_trans (List.length_filter_le _ _) ?_
  rw [List.length_take, sortT_len]
  exact Nat.min_le_right _ _
theorem rowAt_succ {us : List N3} {i : Nat} {t : N3} (h : (sortT us)[i]? = some t) (b : Nat) : rowAt us (i + 1) b = if t.2.1 = b then rowAt us i b ++ [(t.1, t.2.2)] else rowAt us i b := by
  unfold rowAt
  rw [take_snoc h, List.filter_append, List.map_append]
  by_cases e : t.2.1 = b
  · rw [if_pos e, List.filter_cons, if_pos (by simpa using e)]
    rfl
  · rw [if_neg e, List.filter_cons, if_neg (by simpa using e)]
    simp
theorem nd_get {l : List Addr} (h : l.Nodup) {i j : Nat} {a b : Addr} (hi : l[i]? = some a) (hj : l[j]? = some b) (n : i ≠ j) : a ≠ b := fun e => n (nd_ix h hi (by rw [e]; exact hj))
/-- all that was tracked but p is as it was -/
def But (p : Addr) (H H' : Hp) : Prop := ∀ b o, H b = some o → b ≠ p → H' b = some o
theorem But.more {p : Addr} {H H' H2 : Hp} (h : But p H H') (e : Ex H' H2) : But p H H2 := fun b o q n => e _ _ (h b o q n)
theorem But.mutd {p x : Addr} {H H' : Hp} {o : HO} (h : But p H H') (hx : H x = none ∨ x = p) : But p H (upd H' x o) := fun b u q n => by
  have hb : b ≠ x := by
    rcases hx with hx | rfl
    · exact ne_of_none q hx
    · exact n
  rw [upd_ne hb]
  exact h b u q n
theorem sorted_in {us : List N3} (h : (us.map keyT).Nodup) {i : Nat} {t : N3} (q : (sortT us)[i]? = some t) : lookT us t.1 t.2.1 = some t.2.2 := lookT_mem h (sortT_mem.mp (List.mem_of_getElem? q))
def sp_Winit (K : PySem.W.Frag) : Sp := fun vs H Q E => ∃ (p dx : Addr) (size : Int) (a : Addr) (ts : List Z3), vs = [.ref p, .int size, .ref a] ∧ H p = some (.ins (CW K) dx []) ∧ ZieL H a ts ∧ ts.length ≤ 1000 ∧
  (∀ us H', mkW size ts = none → ts = us.map up → But p H H' → WheelAt K H' p size.toNat us → Q .non H') ∧
  (∀ e H', mkW size ts = some e → But p H H' → E (.ref (e.cls K)) none H')
theorem sc_Winit : FnScope ["self", "size", "ties", "a", "b", "w"] ["self", "size", "ties"] (defScope s_Winit) := ⟨rfl, rfl, rfl, by decide +kernel, rfl, by decide +kernel, by decide +kernel⟩
theorem bn_Winit : BindN (defArgs s_Winit) (defBody s_Winit) (defScope s_Winit) "__init__" "Wheel.__init__" ["self", "size", "ties"] := fun _ _ _ _ _ _ us hl => match us, hl with | [_, _, _], _ => rfl
theorem c_Wheel (T : Tx K mg) : Mkr P w K mg base 2 "Wheel" (He.ga K "Wheel") (sp_Winit K) := by
  obtain ⟨fd, F⟩ := T.f_Winit
  have S := sc_Winit
  refine mk_of T.mk_Wheel T.g_Wheel F bn_Winit S (fun vs H Q E h => ?_) (fun cdv A outer s H vs Q E hr h => ?_)
  · obtain ⟨p, dx, size, a, ts, rfl, _⟩ := h
    rfl
  · obtain ⟨p, dx, size, a, ts, rfl, hp, hts, htl, q1, q2⟩ := h
    have hu := hu_of hr
    have hu2 := hr.units
    refine ⟨_, (pss_cons
      (ps_if (PW.pt (pw_or (pt_cmpR op_lt (pv 1) pe_int (nomark _)) (pw_or1 (pt_cmpR op_gt (pv 1) (pe_glob (v := .int 40) rfl T.g_MOST.choose_spec ⟨_, rfl⟩) (nomark _)))))
      (pss_one
        (ps_raise rfl (takes_of rfl rfl rfl rfl) (pmk_own PySem.F.excBase_ValueError T.x_NoDeed.1 T.g_NoDeed T.x_NoDeed.2.1 (T.r_NoDeed rfl) rfl)))
      pss_nil)
      (pss_cons
      (ps_fld (pv 0) (pv 1) rfl)
      (pss_cons
      (ps_fld (pv 0) pe_dnewT rfl)
      (pss_cons
      (ps_for (passes_of rfl) rfl (piL K (pv 2)) (pg_tup rfl (pgs_cons (pg_name (i := 3) S.nd rfl (Or.inl rfl)) (pgs_cons (pg_name (i := 4) S.nd rfl (Or.inl rfl)) (pgs_cons (pg_name (i := 5) S.nd rfl (Or.inl rfl)) pgs_nil))))
      (pss_cons
        (ps_expr (pmt (c_Wsee_deed T) hr (by decide) (passes_call (W := fun c d _ H => E c d H) (takes_of rfl rfl rfl rfl) fun _ _ _ _ z => z) (pv 0) (pa_cons (pv 3) pa_nil)))
        (pss_cons
        (ps_expr (pmt (c_Wsee_deed T) hr (by decide) (passes_call (W := fun c d _ H => E c d H) (takes_of rfl rfl rfl rfl) fun _ _ _ _ z => z) (pv 0) (pa_cons (pv 4) pa_nil)))
        (pss_cons
        (ps_if (pt_cmp (pc_din hu (pe_tup (pa_cons (pv 3) (pa_cons (pv 4) pa_nil))) (pFld K (pv 0) rfl)))
        (pss_one
          (ps_raise rfl (takes_of rfl rfl rfl rfl) (pmk_own PySem.F.excBase_ValueError T.x_TieTwice.1 T.g_TieTwice T.x_TieTwice.2.1 (T.r_TieTwice rfl) rfl)))
        pss_nil)
        (pss_one
        (ps_dput hu (pFld K (pv 0) rfl) (pe_tup (pa_cons (pv 3) (pa_cons (pv 4) pa_nil))) (pv 5) rfl))))))
      (pss_cons
      (ps_fld (pv 0) (pe_lc (own := [("b", 4)]) (g := (gName 4)) (tt := tYes) rfl S.nd (pi_range1 rfl T.n_range (pa_cons (pv 1) pa_nil)) (blkOk_by (by kernel_rfl)) (fun _ _ _ _ _ => (pg_name (i := 4) S.nd rfl (Or.inl rfl))) (fun _ _ _ _ _ => pts_nil) (fun _ _ _ _ _ => (pe_lst pa_nil))) rfl)
      (pss_cons
      (ps_for (passes_of rfl) rfl (piL K (pe_callB (cSortT K hu2) rfl T.n_sorted (by decide +kernel) (pa_cons (pe_callTy (cListDT rfl) rfl T.n_list (by decide +kernel) (pa_cons (pFld K (pv 0) rfl) pa_nil)) pa_nil))) (pg_tup rfl (pgs_cons (pg_name (i := 3) S.nd rfl (Or.inl rfl)) (pgs_cons (pg_name (i := 4) S.nd rfl (Or.inl rfl)) pgs_nil)))
      (pss_one
        (ps_expr (pBM K PySem.F.plainAttrs_list PySem.F.slot_list_append PySem.F.type_list_append mt_append (pe_ix (ixL K) (pFld K (pv 0) rfl) (pv 4) (fun _ _ => rfl)) (pa_cons (pe_tup (pa_cons (pv 3) (pa_cons (pe_dget hu (pFld K (pv 0) rfl) (pe_tup (pa_cons (pv 3) (pa_cons (pv 4) pa_nil))) (fun _ _ => rfl)) pa_nil))) pa_nil)))))
      (pss_one
      (ps_for (passes_of rfl) rfl (pi_range1 rfl T.n_range (pa_cons (pv 1) pa_nil)) (pg_name (i := 4) S.nd rfl (Or.inl rfl))
      (pss_one
        (ps_if (pt_cmpR op_eq (pe_callB (cLen K) rfl T.n_len (by decide +kernel) (pa_cons (pe_ix (ixL K) (pFld K (pv 0) rfl) (pv 4) (fun _ _ => rfl)) pa_nil)) pe_int (nomark _))
        (pss_one
          (ps_raise rfl (takes_of rfl rfl rfl rfl) (pmk_own PySem.F.excBase_ValueError T.x_Idle.1 T.g_Idle T.x_Idle.2.1 (T.r_Idle rfl) rfl)))
        pss_nil)))))))))), ?_⟩
    -- if size < 1 or size > MOST: raise NoDeed
    have bad : (size < 1 ∨ 40 < size) → E (.ref (He.ga K "NoDeed")) none H := fun z => q2 .noDeed H (by unfold mkW; rw [if_pos z]) fun b o q _ => q
    refine ⟨_, rfl, _, _, rfl, rfl, _, rfl, iteD (fun e1 => iteT (bad (.inl e1))) (fun e1 => ⟨_, rfl, _, _, rfl, rfl, _, rfl, iteD (fun e2 => bad (.inr e2)) (fun e2 => ?_)⟩)⟩
    have hn : size = ((size.toNat : Nat) : Int) := by omega
    generalize hN : size.toNat = n at hn
    subst hn
    have n1 : 1 ≤ n := by omega
    have n40 : n ≤ 40 := by omega
    have emk : mkW (n : Int) ts = match scan (n : Int) ts [] with
        | some e => some e
        | none => if (List.range (n : Int).toNat).any (fun b => ts.all fun t => !decide (t.2.1 = (b : Int))) = true then some .idle else none := by
      unfold mkW
      rw [if_neg (by omega)]
    -- self.many = size; self.known = {}
    refine ⟨_, rfl, _, rfl, p, _, dx, _, rfl, hp, T.cls, T.no_many, (by show 0 < 1000; decide), ?_⟩
    intro d hd
    have pd : d ≠ p := fun z => by rw [z, upd_same] at hd; cases hd
    have hd0 : H d = none := by rw [upd_ne pd] at hd; exact hd
    refine ⟨_, rfl, p, _, dx, _, rfl, (upd_new upd_same hd), T.cls, T.no_known, (by have h3 : (wf1 n).length ≤ 1 := length_putF "many" (.int (n : Int)) []; show (wf1 n).length < 1000; omega), ?_⟩
    obtain ⟨bs, ha, hbs⟩ := hts
    have pa : a ≠ p := ne_of ha hp (by intro z; cases z)
    -- for a, b, w in ties
    refine ⟨_, rfl, a, rfl, ⟨_, sl (by rw [upd_ne pa, upd_ne (ne_of_none ha hd0), upd_ne pa]; exact ha)⟩, for_list (xs := bs.map V.ref) (fun i σ H' => ∃ us va vb vw, σ = [some (.ref p), some (.int (n : Int)), some (.ref a), va, vb, vw] ∧ us.map up = ts.take i ∧ (∀ t ∈ us, t.1 < n ∧ t.2.1 < n) ∧ (us.map keyT).Nodup ∧
      scan n (ts.drop i) (us.map keyZ) = scan n ts [] ∧ H' p = some (.ins (CW K) dx (wf2 n d)) ∧ H' d = some (.dT (encT us)) ∧ But p H H') ?_ ?_ ?_ ?_⟩
    · refine ⟨[], none, none, none, rfl, by rw [List.take_zero]; rfl, fun t ht => by simp at ht, List.nodup_nil, by rw [List.drop_zero]; rfl, upd_same, by rw [upd_ne pd, upd_same]; rfl, ?_⟩
      exact But.mutd (But.mutd (But.mutd (fun b o q _ => q) (.inr rfl)) (.inl hd0)) (.inr rfl)
    · rintro i σ H' _ ⟨us, va, vb, vw, rfl, _, _, _, _, _, _, hB⟩
      exact sl (hB _ _ ha pa)
    · rintro i x σ H' hx ⟨us, va, vb, vw, rfl, h1, h2, h3, h4, h5, h6, hB⟩
      obtain ⟨b, r, rfl, hbi, hr2, hb⟩ := hbs.get hx
      rw [List.getElem?_map] at hr2
      cases ht : ts[i]? with
      | none => rw [ht] at hr2; cases hr2
      | some t =>
        rw [ht] at hr2
        cases hr2
        have pb : b ≠ p := ne_of hb hp (by intro z; cases z)
        have hb' := hB _ _ hb pb
        have usl : us.length ≤ 1000 := by
          have := congrArg List.length h1
          rw [List.length_map, List.length_take] at this
          omega
        rw [drop_cons ht] at h4
        have raise : ∀ e, scan (n : Int) (t :: ts.drop (i + 1)) (us.map keyZ) = some e → ∀ H2, But p H H2 → E (.ref (e.cls K)) none H2 := fun e he H2 hk => q2 e H2 (by rw [emk, ← h4, he]) hk
        refine ⟨b, _, rfl, stp hb', rfl, _, _, rfl, _, _, rfl, _, _, rfl, rfl, ?_⟩
        have many := wf2_many n d
        refine ⟨_, rfl, p, dx, _, rfl, h5, wf2_no n d (by decide +kernel) (by decide +kernel), _, rfl, p, dx, _, n, t.1, rfl, h5, many, fun c1 => ?_, fun c1 => raise .noDeed (by unfold scan; rw [if_pos (.inl c1)]) _ hB⟩
        refine ⟨_, rfl, p, dx, _, rfl, h5, wf2_no n d (by decide +kernel) (by decide +kernel), _, rfl, p, dx, _, n, t.2.1, rfl, h5, many, fun c2 => ?_, fun c2 => raise .noDeed (by unfold scan; rw [if_pos (.inr c2)]) _ hB⟩
        have ea : t.1 = ((t.1.toNat : Nat) : Int) := by omega
        have eb : t.2.1 = ((t.2.1.toNat : Nat) : Int) := by omega
        have lt1 : t.1.toNat < n := by omega
        have lt2 : t.2.1.toNat < n := by omega
        -- if (a, b) in self.known
        refine ⟨_, rfl, _, rfl, sz2, fun z hz => ?_⟩
        have h5z := upd_new h5 hz (u := .tup [V.int t.1, V.int t.2.1])
        have h6z := upd_new h6 hz (u := .tup [V.int t.1, V.int t.2.1])
        have hBz := hB.more (Evl.Ex.new hz (o := .tup [V.int t.1, V.int t.2.1]))
        have hkz : (upd H' z (.tup [V.int t.1, V.int t.2.1])) z = some (.tup ((kE t.1.toNat t.2.1.toNat).map kV)) := by
          rw [upd_same, kE_v, ← ea, ← eb]
        refine ⟨_, rfl, p, _, dx, _, _, rfl, h5z, T.cls, T.no_known, wf2_known n d, d, _, rfl, DGet.t h6z hkz, _, rfl, ?_⟩
        have kin : ((t.1, t.2.1) ∈ us.map keyZ) ↔ ((t.1.toNat, t.2.1.toNat) ∈ us.map keyT) := by
          constructor
          · intro m
            obtain ⟨u, hu, e⟩ := List.mem_map.mp m
            unfold keyZ at e
            injection e with e1 e2
            exact List.mem_map.mpr ⟨u, hu, by unfold keyT; rw [← e1, ← e2]; rfl⟩
          · intro m
            obtain ⟨u, hu, e⟩ := List.mem_map.mp m
            unfold keyT at e
            injection e with e1 e2
            exact List.mem_map.mpr ⟨u, hu, by unfold keyZ; rw [e1, e2, ← ea, ← eb]⟩
        rw [encT_val]
        cases hl : lookT us t.1.toNat t.2.1.toNat with
        | some w0 =>
          refine iteT ?_
          refine raise .twice ?_ _ hBz
          unfold scan
          rw [if_neg (fun z => z.elim (fun z => z c1) fun z => z c2), if_pos (kin.mpr (List.mem_map.mpr ⟨_, lookT_some hl, rfl⟩))]
        | none =>
          refine iteF ?_
          have kn : (t.1.toNat, t.2.1.toNat) ∉ us.map keyT := fun m => by
            obtain ⟨u, hu, e⟩ := List.mem_map.mp m
            unfold keyT at e
            injection e with e1 e2
            have := lookT_mem h3 hu
            rw [e1, e2, hl] at this
            cases this
          -- self.known[(a, b)] = w
          refine ⟨_, rfl, _, rfl, p, _, dx, _, _, rfl, h5z, T.cls, T.no_known, wf2_known n d, _, rfl, _, rfl, sz2, fun y hy => ?_⟩
          have h5y := upd_new h5z hy (u := .tup [V.int t.1, V.int t.2.1])
          have h6y := upd_new h6z hy (u := .tup [V.int t.1, V.int t.2.1])
          have hBy := hBz.more (Evl.Ex.new hy (o := .tup [V.int t.1, V.int t.2.1]))
          have hky : (upd (upd H' z (.tup [V.int t.1, V.int t.2.1])) y (.tup [V.int t.1, V.int t.2.1])) y = some (.tup ((kE t.1.toNat t.2.1.toNat).map kV)) := by
            rw [upd_same, kE_v, ← ea, ← eb]
          refine ⟨d, _, rfl, DPut.t h6y hky (szt (by rw [encT_len]; omega)), us ++ [(t.1.toNat, t.2.1.toNat, t.2.2)], _, _, _, rfl, ?_, ?_, ?_, ?_, ?_, ?_, ?_⟩
          · rw [take_snoc ht, List.map_append, h1]
            refine congrArg _ (congrArg (fun z => [z]) ?_)
            show ((t.1.toNat : Int), (t.2.1.toNat : Int), t.2.2) = t
            rw [← ea, ← eb]
          · intro u hu
            rcases List.mem_append.mp hu with hu | hu
            · exact h2 u hu
            · rw [List.mem_singleton.mp hu]
              exact ⟨lt1, lt2⟩
          · rw [List.map_append]
            exact nd_snoc h3 kn
          · rw [← h4, List.map_append]
            conv => rhs; unfold scan
            rw [if_neg (fun z => z.elim (fun z => z c1) fun z => z c2), if_neg (fun m => kn (kin.mp m))]
            refine congrArg _ (congrArg _ ?_)
            show [((t.1.toNat : Int), (t.2.1.toNat : Int))] = _
            rw [← ea, ← eb]
          · rw [upd_ne (ne_of h5y h6y (by intro z; cases z))]
            exact h5y
          · rw [upd_same, encT_put]
            refine congrArg (fun l => some (HO.dT (encT l))) ?_
            unfold putT
            rw [if_neg]
            intro z
            obtain ⟨u, hu, e⟩ := List.any_eq_true.mp z
            have e := of_decide_eq_true e
            exact kn (List.mem_map.mpr ⟨u, hu, by unfold keyT; rw [e.1, e.2]⟩)
          · exact hBy.mutd (.inl hd0)
    · rintro σ H' ⟨us, va, vb, vw, rfl, h1, h2, h3, h4, h5, h6, hB⟩
      have bl := hbs.length
      rw [List.length_map] at bl
      rw [List.length_map, bl] at h1 h4
      rw [List.take_length] at h1
      rw [List.drop_length] at h4
      have hsc : scan (n : Int) ts [] = none := by rw [← h4]; rfl
      have usl : us.length ≤ 1000 := by
        have := congrArg List.length h1
        rw [List.length_map] at this
        omega
      -- self.into = [[] for b in range(size)]
      refine ⟨_, rfl, (n : Int), rfl, by omega, by omega, fun D hD => ?_⟩
      refine lc_rng (n := n) (fun i H2 => ∃ rows, Ex H' H2 ∧ H2 D = some (.lst (rows.map V.ref)) ∧ rows.length = i ∧ rows.Nodup ∧ ∀ r ∈ rows, H2 r = some (.lst []) ∧ r ≠ D ∧ H' r = none) ⟨[], Evl.Ex.new hD, upd_same, rfl, List.nodup_nil, fun r hr => by simp at hr⟩ ?_ ?_
      · rintro i H2 hi ⟨rows, e2, hD2, hl, hnd, hr⟩
        refine ⟨rfl, Nat.zero_le _, fun l hl2 => ?_⟩
        have nl : l ≠ D := fun z => by rw [z, hD2] at hl2; cases hl2
        refine ⟨rows.map V.ref, upd_new hD2 hl2, szt (by rw [List.length_map]; omega), rows ++ [l], (e2.more hl2).mutd hD, ?_, by rw [List.length_append, hl]; rfl, ?_, ?_⟩
        · rw [upd_same, List.map_append]
          rfl
        · exact nd_snoc hnd fun m => by
            have := (hr l m).1
            rw [hl2] at this
            cases this
        · intro r m
          rcases List.mem_append.mp m with m | m
          · obtain ⟨z1, z2, z3⟩ := hr r m
            exact ⟨by rw [upd_ne z2]; exact upd_new z1 hl2, z2, z3⟩
          · rw [List.mem_singleton.mp m]
            exact ⟨by rw [upd_ne nl, upd_same], nl, e2.fresh hl2⟩
      · rintro H2 ⟨rows, e2, hD2, hrl, hnd, hrr⟩
        have h5b := e2 _ _ h5
        have h6b := e2 _ _ h6
        have hD0 : H D = none := by
          cases z : H D with
          | none => rfl
          | some o =>
            by_cases zp : D = p
            · rw [zp, h5] at hD; cases hD
            · rw [hB _ _ z zp] at hD; cases hD
        have hfr : ∀ r, H' r = none → H r = none := fun r hr => by
          cases z : H r with
          | none => rfl
          | some o =>
            by_cases zp : r = p
            · rw [zp, h5] at hr; cases hr
            · rw [hB _ _ z zp] at hr; cases hr
        refine ⟨_, rfl, p, _, dx, _, rfl, h5b, T.cls, T.no_into, wf2_len n d, ?_⟩
        have pD : D ≠ p := ne_of hD2 h5b (by intro z; cases z)
        have dp : d ≠ p := ne_of h6b h5b (by intro z; cases z)
        have h5c : (upd H2 p (.ins (CW K) dx (putF "into" (.ref D) (wf2 n d)))) p = some (.ins (CW K) dx (wf n d D)) := upd_same
        have h6c := upd_at h6b dp (u := .ins (CW K) dx (putF "into" (.ref D) (wf2 n d)))
        have hDc := upd_at hD2 pD (u := .ins (CW K) dx (putF "into" (.ref D) (wf2 n d)))
        have hBc : But p H (upd H2 p (.ins (CW K) dx (putF "into" (.ref D) (wf2 n d)))) := (hB.more e2).mutd (.inr rfl)
        have hrc : ∀ r ∈ rows, (upd H2 p (.ins (CW K) dx (putF "into" (.ref D) (wf2 n d)))) r = some (.lst []) ∧ r ≠ D ∧ H r = none := fun r hr => by
          obtain ⟨z1, z2, z3⟩ := hrr r hr
          exact ⟨upd_at z1 (ne_of z1 h5b (by intro z; cases z)), z2, hfr r z3⟩
        generalize (upd H2 p (.ins (CW K) dx (putF "into" (.ref D) (wf2 n d)))) = H3 at h5c h6c hDc hBc hrc
        -- for a, b in sorted(list(self.known))
        refine ⟨_, rfl, p, _, dx, _, _, rfl, h5c, T.cls, T.no_known, wf_known _ _ _, d, _, rfl, .inl h6c, fun kl ks hkl hks => ?_⟩
        have hks2 := keys_tups (Evl.Ex.new hkl (o := .lst (ks.map V.ref))) hks
        rw [dpK] at hks2
        refine ⟨kl, ks, us.map kL, 1, rfl, sl upd_same, hks2, fun r hr => ?_, fun sl0 cs hsl hcs => ?_⟩
        · obtain ⟨t, _, rfl⟩ := List.mem_map.mp hr
          rfl
        have e3 : Ex H3 (upd H3 kl (.lst (ks.map V.ref))) := Evl.Ex.new hkl
        have e4 := Ex.more e3 hsl (o := .lst (cs.map V.ref))
        rw [sortT_keys] at hcs
        have hcs2 := hcs.mono (Evl.Ex.new hsl (o := .lst (cs.map V.ref)))
        have cl := hcs2.length
        rw [List.length_map, List.length_map, sortT_len] at cl
        have hsl0 : (upd (upd H3 kl (.lst (ks.map V.ref))) sl0 (.lst (cs.map V.ref))) sl0 = some (.lst (cs.map V.ref)) := upd_same
        have hslN : H3 sl0 = none := e3.fresh hsl
        generalize (upd (upd H3 kl (.lst (ks.map V.ref))) sl0 (.lst (cs.map V.ref))) = H4 at e4 hcs2 hsl0
        refine ⟨sl0, rfl, ⟨_, sl hsl0⟩, for_list (xs := cs.map V.ref) (fun i σ H' => ∃ va vb vw, σ = [some (.ref p), some (.int (n : Int)), some (.ref a), va, vb, vw] ∧ H' p = some (.ins (CW K) dx (wf n d D)) ∧ H' d = some (.dT (encT us)) ∧ H' D = some (.lst (rows.map V.ref)) ∧ H' sl0 = some (.lst (cs.map V.ref)) ∧
          TupsAt H' cs ((sortT us).map fun t => [V.int (t.1 : Int), V.int (t.2.1 : Int)]) ∧ But p H H' ∧ ∀ b r, rows[b]? = some r → PairL H' r (rowAt us i b)) ?_ ?_ ?_ ?_⟩
        · refine ⟨_, _, _, rfl, e4 _ _ h5c, e4 _ _ h6c, e4 _ _ hDc, hsl0, ?_, hBc.more e4, fun b r hr => ⟨[], e4 _ _ (hrc r (List.mem_of_getElem? hr)).1, ?_⟩⟩
          · rw [List.map_map] at hcs2
            exact hcs2
          · exact .nil
        · rintro i σ H' _ ⟨va, vb, vw, rfl, _, _, _, hq, _⟩
          exact sl hq
        · rintro i x σ H5 hx ⟨va, vb, vw, rfl, g1, g2, g3, g4, g5, g6, g7⟩
          obtain ⟨b, r, rfl, hbi, hr2, hb⟩ := g5.get hx
          rw [List.getElem?_map] at hr2
          cases ht : (sortT us)[i]? with
          | none => rw [ht] at hr2; cases hr2
          | some t =>
            rw [ht] at hr2
            cases hr2
            obtain ⟨lt1, lt2⟩ := h2 t (sortT_mem.mp (List.mem_of_getElem? ht))
            have hrw : rows[t.2.1]? = some rows[t.2.1] := List.getElem?_eq_getElem (by omega)
            obtain ⟨ps, hps, hpt⟩ := g7 _ _ hrw
            refine ⟨b, _, rfl, stp hb, rfl, _, _, rfl, _, _, rfl, rfl, ?_⟩
            have hv : valV (encT us) (kE t.1 t.2.1) = some (V.int t.2.2) := by
              rw [encT_val, sorted_in h3 ht]
              rfl
            refine ⟨_, rfl, p, _, dx, _, _, rfl, g1, T.cls, T.no_into, wf_into _ _ _, _, rfl, D, _, _, .ref rows[t.2.1], rfl, rfl, sl g3, atI_nat (by rw [List.getElem?_map, hrw]; rfl), .inl ⟨rfl, _, sl hps⟩, ?_⟩
            refine ⟨_, rfl, _, rfl, p, _, dx, _, _, rfl, g1, T.cls, T.no_known, wf_known _ _ _, _, rfl, _, rfl, sz2, fun z hz => ?_⟩
            have e5 := Evl.Ex.new hz (o := .tup [V.int (t.1 : Int), V.int (t.2.1 : Int)])
            refine ⟨d, _, rfl, (hv ▸ DGet.t (k := kE t.1 t.2.1) (e5 _ _ g2) upd_same : DGet _ d (.ref z) (some (V.int t.2.2))), sz2, fun y hy => ?_⟩
            have e6 := Ex.more e5 hy (o := .tup [V.int (t.1 : Int), V.int t.2.2])
            have hyy : (upd (upd H5 z (.tup [V.int (t.1 : Int), V.int (t.2.1 : Int)])) y (.tup [V.int (t.1 : Int), V.int t.2.2])) y = some (.tup (vP (t.1, t.2.2))) := upd_same
            generalize (upd (upd H5 z (.tup [V.int (t.1 : Int), V.int (t.2.1 : Int)])) y (.tup [V.int (t.1 : Int), V.int t.2.2])) = H6 at e6 hyy
            have rlen := rowAt_len us i t.2.1
            have pl := hpt.length
            rw [List.length_map] at pl
            have hrn := hrc _ (List.mem_of_getElem? hrw)
            refine ⟨rows[t.2.1], _, _, rfl, rfl, e6 _ _ hps, szt (by rw [List.length_map]; omega), _, _, _, rfl, ?_, ?_, ?_, ?_, ?_, ?_, ?_⟩
            · exact upd_at (e6 _ _ g1) (ne_of g1 hps (by intro z; cases z))
            · exact upd_at (e6 _ _ g2) (ne_of g2 hps (by intro z; cases z))
            · exact upd_at (e6 _ _ g3) hrn.2.1.symm
            · exact upd_at (e6 _ _ g4) fun z => by
                have := hrn.1
                rw [← z, hslN] at this
                cases this
            · exact L2.Paired.mapP g5 fun c rr hc => upd_at (e6 _ _ hc) (ne_of hc hps (by intro z; cases z))
            · exact (g6.more e6).mutd (.inl hrn.2.2)
            · intro b' r' hr'
              rw [rowAt_succ ht]
              by_cases eb : t.2.1 = b'
              · subst eb
                rw [hrw] at hr'
                cases hr'
                rw [if_pos rfl]
                refine ⟨ps ++ [y], by rw [upd_same, List.map_append]; rfl, ?_⟩
                rw [List.map_append]
                exact Paired.snoc (L2.Paired.mapP hpt fun c rr hc => upd_at (e6 _ _ hc) (ne_of hc hps (by intro z; cases z))) (upd_at hyy (ne_of hyy (e6 _ _ hps) (by intro z; cases z)))
              · rw [if_neg eb]
                obtain ⟨ps', hps', hpt'⟩ := g7 _ _ hr'
                have nr : r' ≠ rows[t.2.1] := nd_get hnd hr' hrw fun z => eb z.symm
                exact ⟨ps', upd_at (e6 _ _ hps') nr, L2.Paired.mapP hpt' fun c rr hc => upd_at (e6 _ _ hc) (ne_of hc hps (by intro z; cases z))⟩
        · rintro σ H5 ⟨va, vb, vw, rfl, g1, g2, g3, g4, g5, g6, g7⟩
          rw [List.length_map] at g7
          have hrow : ∀ b, rowAt us cs.length b = inc us b := fun b => by
            have : cs.length = (sortT us).length := by rw [sortT_len]; exact cl
            unfold rowAt
            rw [this]
            exact inc_row
          -- for b in range(size)
          refine ⟨_, rfl, (n : Int), rfl, by omega, by omega, for_rng (n := n) (fun i σ H' => ∃ vb, σ = [some (.ref p), some (.int (n : Int)), some (.ref a), va, vb, vw] ∧ H' = H5 ∧ ∀ b, b < i → inc us b ≠ []) ⟨_, rfl, rfl, fun b hb => by omega⟩ ?_ ?_⟩
          · rintro i σ H' hi ⟨vb, rfl, rfl, hne⟩
            have hrw : rows[i]? = some rows[i] := List.getElem?_eq_getElem (by omega)
            obtain ⟨ps, hps, hpt⟩ := g7 _ _ hrw
            rw [hrow] at hpt
            have pl := hpt.length
            rw [List.length_map] at pl
            refine ⟨_, rfl, p, _, dx, _, _, rfl, g1, T.cls, T.no_into, wf_into _ _ _, _, rfl, D, _, _, .ref rows[i], rfl, rfl, sl g3, atI_nat (by rw [List.getElem?_map, hrw]; rfl), rows[i], _, rfl, .inl (sl hps), rfl, _, rfl, iteI (fun e => ?_) (fun e => ?_)⟩
            · -- idle
              refine q2 .idle _ ?_ g6
              rw [emk, hsc]
              refine if_pos (List.any_eq_true.mpr ⟨i, List.mem_range.mpr (by omega), List.all_eq_true.mpr fun t ht => ?_⟩)
              rw [decide_eq_false]
              · rfl
              intro z
              rw [← h1] at ht
              obtain ⟨u, hu, rfl⟩ := List.mem_map.mp ht
              have hu2 : u.2.1 = i := by
                have : ((u.2.1 : Nat) : Int) = (i : Int) := z
                omega
              have hm : (u.1, u.2.2) ∈ inc us i := inc_mem.mpr (by rw [← hu2]; exact hu)
              have h0 : (inc us i).length = 0 := by
                rw [List.length_map] at e
                omega
              rw [List.length_eq_zero_iff.mp h0] at hm
              simp at hm
            · refine ⟨_, rfl, rfl, fun b hb => ?_⟩
              by_cases hbi : b = i
              · rw [hbi]
                intro z
                apply e
                rw [List.length_map, pl, z]
                rfl
              · exact hne b (by omega)
          · rintro σ H' ⟨vb, rfl, rfl, hne⟩
            have hGood : Good n us := ⟨n1, n40, h2, h3, fun b hb => by
              cases z : inc us b with
              | nil => exact absurd z (hne b hb)
              | cons q r =>
                have : q ∈ inc us b := by rw [z]; exact List.mem_cons_self
                exact ⟨_, inc_mem.mp (show (q.1, q.2) ∈ inc us b from this), rfl⟩, usl⟩
            refine q1 us _ ?_ h1.symm g6 ⟨hGood, dx, d, D, rows, g1, g2, g3, hrl, fun b r hr => ?_⟩
            · rw [emk, hsc]
              refine if_neg fun z => ?_
              obtain ⟨b, hb, hall⟩ := List.any_eq_true.mp z
              have hb := List.mem_range.mp hb
              obtain ⟨t, ht, e⟩ := hGood.has b (by omega)
              have hz := List.all_eq_true.mp hall (up t) (by rw [← h1]; exact List.mem_map.mpr ⟨t, ht, rfl⟩)
              rw [decide_eq_true (show (up t).2.1 = (b : Int) by show ((t.2.1 : Nat) : Int) = _; rw [e])] at hz
              cases hz
            · have := g7 b r hr
              rw [hrow] at this
              exact this
end
end WW

namespace WW
open PySem PySem.Spec PyProof.Rows L2
/-! ### a script's ties make a wheel -/
theorem putT_has {us : List N3} {a b : Nat} {w : Int} {k : Nat × Nat} (h : k ∈ us.map keyT) : k ∈ (putT us a b w).map keyT := by
  rcases putT_keys us a b w with ⟨e, _⟩ | ⟨e, _⟩
  · rw [e]; exact h
  · rw [e]; exact List.mem_append_left _ h
theorem putT_new {us : List N3} {a b : Nat} {w : Int} : (a, b) ∈ (putT us a b w).map keyT := by
  rcases putT_keys us a b w with ⟨e, h⟩ | ⟨e, _⟩
  · rw [e]; exact h
  · rw [e]; exact List.mem_append_right _ List.mem_cons_self
theorem tb1_has (size : Nat) (wd c0 : Int) : ∀ i b, b < i → ∃ a, (a, b) ∈ ((tb1 size wd c0 i).2).map keyT
  | 0, b, h => by omega
  | i + 1, b, h => by
    by_cases e : b = i
    · subst e
      exact ⟨_, putT_new⟩
    · obtain ⟨a, ha⟩ := tb1_has size wd c0 i b (by omega)
      exact ⟨a, putT_has ha⟩
theorem tb2_has (ns : List Int) (start size : Nat) (wd : Int) {u : List N3} {k : Nat × Nat} (h : k ∈ u.map keyT) : ∀ i, k ∈ (tb2 ns start size wd u i).map keyT
  | 0 => h
  | i + 1 => putT_has (tb2_has ns start size wd h i)
/-- what holds of each tie -/
def TieP (size : Nat) (t : N3) : Prop := (t.1 < size ∧ t.2.1 < size) ∧ -(10 ^ 30) < t.2.2 ∧ t.2.2 < 10 ^ 30
theorem tb1_all (size : Nat) (wd c0 : Int) (h1 : 1 ≤ size) : ∀ i, i ≤ size → ∀ t ∈ (tb1 size wd c0 i).2, TieP size t
  | 0, _, t, h => by simp [tb1] at h
  | i + 1, hi, t, h => by
    rcases putT_mem h with h | rfl
    · exact tb1_all size wd c0 h1 i (by omega) t h
    · exact ⟨⟨(mod_nat (c := lcg1 (tb1 size wd c0 i).1 / 7) h1).2, hi⟩, numb_lt _ _⟩
theorem tb2_all (ns : List Int) (start size : Nat) (wd : Int) (h1 : 1 ≤ size) {u : List N3} (hu : ∀ t ∈ u, TieP size t) : ∀ i, ∀ t ∈ tb2 ns start size wd u i, TieP size t
  | 0, t, h => hu t h
  | i + 1, t, h => by
    rcases putT_mem h with h | rfl
    · exact tb2_all ns start size wd h1 hu i t h
    · exact ⟨⟨(mod_nat (c := cell ns (start + 1 + i)) h1).2, (mod_nat (c := cell ns (start + 1 + i) / (size : Int)) h1).2⟩, numb_lt _ _⟩
theorem tiesBy_all (ns : List Int) (start : Nat) {size : Nat} (count : Nat) (wd : Int) (h1 : 1 ≤ size) : ∀ t ∈ tiesBy ns start size count wd, TieP size t :=
  tb2_all ns start size wd h1 (tb1_all size wd _ h1 size (Nat.le_refl _)) count
theorem tiesBy_good (ns : List Int) (start : Nat) {size count : Nat} (wd : Int) (h1 : 1 ≤ size) (h40 : size ≤ 40) (hc : count ≤ 100) : Good size (tiesBy ns start size count wd) where
  n1 := h1
  n40 := h40
  lt := fun t ht => (tiesBy_all ns start count wd h1 t ht).1
  nd := tiesBy_nd ns start size count wd
  has := fun b hb => by
    obtain ⟨a, ha⟩ := tb1_has size wd (cell ns start) size b hb
    have := tb2_has ns start size wd ha count
    obtain ⟨t, ht, e⟩ := List.mem_map.mp this
    unfold keyT at e
    injection e with e1 e2
    exact ⟨t, ht, e2⟩
  len := Nat.le_trans (tiesBy_len ns start size count wd) (by omega)
theorem up_inj {t u : N3} (h : up t = up u) : t = u := by
  obtain ⟨a, b, w⟩ := t
  obtain ⟨c, d, v⟩ := u
  unfold up at h
  injection h with h1 h2
  injection h2 with h2 h3
  have e1 : a = c := by have : (a : Int) = (c : Int) := h1; omega
  have e2 : b = d := by have : (b : Int) = (d : Int) := h2; omega
  have e3 : w = v := h3
  rw [e1, e2, e3]
theorem ups_inj : ∀ {us vs : List N3}, us.map up = vs.map up → us = vs
  | [], [], _ => rfl
  | [], _ :: _, h => by simp at h
  | _ :: _, [], h => by simp at h
  | t :: us, u :: vs, h => by
    have h' : up t :: us.map up = up u :: vs.map up := h
    injection h' with h1 h2
    rw [up_inj h1, ups_inj h2]
theorem scan_good (n : Nat) : ∀ (us : List N3) (seen : List (Int × Int)), (∀ t ∈ us, t.1 < n ∧ t.2.1 < n) → (us.map keyT).Nodup → (∀ t ∈ us, keyZ t ∉ seen) → scan (n : Int) (us.map up) seen = none
  | [], _, _, _, _ => rfl
  | t :: r, seen, h1, h2, h3 => by
    have h2' : (keyT t :: r.map keyT).Nodup := h2
    obtain ⟨n1, n2⟩ := List.nodup_cons.mp h2'
    obtain ⟨l1, l2⟩ := h1 t List.mem_cons_self
    show scan (n : Int) (up t :: r.map up) seen = none
    unfold scan
    rw [if_neg, if_neg]
    · refine scan_good n r _ (fun u hu => h1 u (List.mem_cons_of_mem _ hu)) n2 fun u hu m => ?_
      rcases List.mem_append.mp m with m | m
      · exact h3 u (List.mem_cons_of_mem _ hu) m
      · have e : keyZ u = keyZ t := List.mem_singleton.mp m
        refine n1 (List.mem_map.mpr ⟨u, hu, ?_⟩)
        unfold keyZ at e
        injection e with e1 e2
        unfold keyT
        have e1' : (u.1 : Int) = (t.1 : Int) := e1
        have e2' : (u.2.1 : Int) = (t.2.1 : Int) := e2
        rw [show u.1 = t.1 by omega, show u.2.1 = t.2.1 by omega]
    · exact h3 t List.mem_cons_self
    · have a1 : (up t).1 = (t.1 : Int) := rfl
      have a2 : (up t).2.1 = (t.2.1 : Int) := rfl
      rw [a1, a2]
      omega
theorem mkW_good {n : Nat} {us : List N3} (g : Good n us) : mkW (n : Int) (us.map up) = none := by
  unfold mkW
  rw [if_neg (by have := g.n1; have := g.n40; omega), scan_good n us [] g.lt g.nd (fun t _ => by simp)]
  refine if_neg fun z => ?_
  obtain ⟨b, hb, hall⟩ := List.any_eq_true.mp z
  have hb := List.mem_range.mp hb
  obtain ⟨t, ht, e⟩ := g.has b (by omega)
  have hz := List.all_eq_true.mp hall (up t) (List.mem_map.mpr ⟨t, ht, rfl⟩)
  rw [decide_eq_true (show (up t).2.1 = (b : Int) by show ((t.2.1 : Nat) : Int) = _; rw [e])] at hz
  cases hz
theorem But.ex {H H' : Hp} {x dx C : Addr} {u : HO} (hx : H x = none) (hdx : H dx = none) (h : But x (upd (upd H dx u) x (.ins C dx [])) H') : Ex H H' := fun b o q =>
  h b o (by rw [upd_ne (ne_of_none q hx), upd_ne (ne_of_none q hdx)]; exact q) (ne_of_none q hx)
/-- Wheel(size, ties) of good ties -/
theorem mk_wheel {K : PySem.W.Frag} {H : Hp} {x dx a : Addr} {n : Nat} {us : List N3} {Q : VK} {E : XK} (hx : H x = none) (hdx : H dx = none) (g : Good n us) (ht : TieL H a us)
    (k : ∀ H', Ex H H' → WheelAt K H' x n us → Q .non H') :
    sp_Winit K [.ref x, .int (n : Int), .ref a] (upd (upd H dx (.own x)) x (.ins (He.ga K "Wheel") dx [])) Q E := by
  have e1 : Ex H (upd (upd H dx (.own x)) x (.ins (He.ga K "Wheel") dx [])) := fun b o q => by rw [upd_ne (ne_of_none q hx), upd_ne (ne_of_none q hdx)]; exact q
  refine ⟨x, dx, (n : Int), a, us.map up, rfl, upd_same, zie_of_tie (ht.mono e1), by rw [List.length_map]; exact g.len, fun us' H' _ h2 h3 h4 => ?_, fun e H' h1 _ => ?_⟩
  · have e2 := ups_inj h2
    subst e2
    exact k H' (h3.ex hx hdx) h4
  · rw [mkW_good g] at h1
    cases h1
end WW

namespace WW
open PySem PySem.Spec PyProof.Rows L2
/-! ### small facts of lists -/
theorem nd_len : ∀ {n : Nat} {l : List Nat}, l.Nodup → (∀ x ∈ l, x < n) → l.length ≤ n
  | 0, l, _, h => by
    cases l with
    | nil => exact Nat.le_refl 0
    | cons a r => exact absurd (h a List.mem_cons_self) (Nat.not_lt_zero a)
  | n + 1, l, nd, h => by
    by_cases m : n ∈ l
    · have h1 : (l.erase n).length ≤ n := nd_len (nd.erase n) fun x hx => by
        have h2 := h x (List.mem_of_mem_erase hx)
        have h3 : x ≠ n := fun z => by
          rw [z] at hx
          exact (List.Nodup.not_mem_erase nd) hx
        omega
      rw [List.length_erase_of_mem m] at h1
      omega
    · refine Nat.le_succ_of_le (nd_len nd fun x hx => ?_)
      have h2 := h x hx
      have h3 : x ≠ n := fun z => m (z ▸ hx)
      omega
theorem nd_full {n : Nat} {l : List Nat} (nd : l.Nodup) (h : ∀ x ∈ l, x < n) (hl : n ≤ l.length) {x : Nat} (hx : x < n) : x ∈ l := by
  refine Classical.byContradiction fun m => ?_
  have h1 : (x :: l).length ≤ n := nd_len (List.nodup_cons.mpr ⟨m, nd⟩) fun y hy => by
    rcases List.mem_cons.mp hy with rfl | hy
    · exact hx
    · exact h y hy
  rw [List.length_cons] at h1
  omega
theorem sub_len : ∀ {l m : List Nat}, l.Nodup → (∀ x ∈ l, x ∈ m) → l.length ≤ m.length
  | [], m, _, _ => Nat.zero_le _
  | a :: r, m, nd, h => by
    obtain ⟨n1, n2⟩ := List.nodup_cons.mp nd
    have ha := h a List.mem_cons_self
    have h1 : r.length ≤ (m.erase a).length := sub_len n2 fun x hx => by
      have hne : x ≠ a := fun z => n1 (z ▸ hx)
      exact (List.mem_erase_of_ne hne).mpr (h x (List.mem_cons_of_mem _ hx))
    rw [List.length_erase_of_mem ha] at h1
    have h2 : 0 < m.length := List.length_pos_of_mem ha
    rw [List.length_cons]
    omega
theorem map_eraseIdx {α β : Type} (f : α → β) : ∀ (l : List α) (i : Nat), (l.map f).eraseIdx i = (l.eraseIdx i).map f
  | [], _ => rfl
  | _ :: _, 0 => rfl
  | a :: r, i + 1 => by
    show f a :: (r.map f).eraseIdx i = f a :: (r.eraseIdx i).map f
    rw [map_eraseIdx f r i]
theorem split_at {α : Type} {l : List α} {i : Nat} {x : α} (h : l[i]? = some x) : l = l.take i ++ x :: l.drop (i + 1) := by
  rw [← drop_cons h, List.take_append_drop]
/-- how many of a list's items, by their places -/
theorem range_filter {α : Type} (p : α → Bool) (d : α) : ∀ l : List α, ((List.range l.length).filter fun i => p (l.getD i d)).length = (l.filter p).length := fun l => by
  have e : l = (List.range l.length).map fun i => l.getD i d := by
    refine List.ext_getElem? fun i => ?_
    rw [List.getElem?_map]
    by_cases h : i < l.length
    · rw [List.getElem?_range h, List.getElem?_eq_getElem h]
      show some l[i] = some (l.getD i d)
      rw [List.getD_eq_getElem?_getD, List.getElem?_eq_getElem h]
      rfl
    · rw [List.getElem?_eq_none (by omega), List.getElem?_eq_none (by rw [List.length_range]; omega)]
      rfl
  conv => rhs; rw [e]
  rw [List.filter_map, List.length_map]
  rfl
/-! ### deeds as values -/
def vn (x : Nat) : V := .int (x : Int)
theorem inV_nat (x : Nat) : ∀ l : List Nat, inV (vn x) (l.map vn) = decide (x ∈ l)
  | [] => by simp [inV]
  | y :: r => by
    have ih := inV_nat x r
    unfold inV at ih ⊢
    show (eqV (vn y) (vn x) || (r.map vn).any fun z => eqV z (vn x)) = _
    rw [ih]
    have e : eqV (vn y) (vn x) = decide (y = x) := by
      show ((y : Int) == (x : Int)) = _
      by_cases h : y = x
      · rw [h]; simp
      · rw [decide_eq_false h]
        exact beq_eq_false_iff_ne.mpr fun z => h (by omega)
    rw [e]
    have e2 : decide (x ∈ y :: r) = (decide (y = x) || decide (x ∈ r)) := by
      by_cases h1 : y = x
      · rw [decide_eq_true h1, decide_eq_true (show x ∈ y :: r from List.mem_cons.mpr (.inl h1.symm))]
        rfl
      · by_cases h2 : x ∈ r
        · rw [decide_eq_true h2, decide_eq_true (List.mem_cons_of_mem y h2), Bool.or_true]
        · rw [decide_eq_false h1, decide_eq_false h2, decide_eq_false (fun z => (List.mem_cons.mp z).elim (fun z => h1 z.symm) h2)]
          rfl
    exact e2.symm
theorem flat_nat (l : List Nat) : (l.map vn).all flatV = true := List.all_eq_true.mpr fun v hv => by
  obtain ⟨x, _, rfl⟩ := List.mem_map.mp hv
  rfl
theorem at_nat {l : List Nat} {j x : Nat} (h : l[j]? = some x) : atI (l.map vn) (j : Int) = some (vn x) := atI_nat (by rw [List.getElem?_map, h]; rfl)
/-! ### who leads to whom -/
/-- a walk leads from a to b -/
inductive Rch (us : List N3) : Nat → Nat → Prop
  | refl (a : Nat) : Rch us a a
  | step {a c b : Nat} {w : Int} (h : (a, c, w) ∈ us) (r : Rch us c b) : Rch us a b
theorem Rch.trans {us : List N3} {a b c : Nat} (h : Rch us a b) (k : Rch us b c) : Rch us a c := by
  induction h with
  | refl a => exact k
  | step h r ih => exact .step h (ih k)
theorem Rch.snoc {us : List N3} {a c b : Nat} {w : Int} (h : Rch us a c) (k : (c, b, w) ∈ us) : Rch us a b := h.trans (.step k (.refl b))
/-- the deeds that lead to b: a list closed backwards -/
theorem Rch.closed {us : List N3} {l : List Nat} (h : ∀ b ∈ l, ∀ a w, (a, b, w) ∈ us → a ∈ l) {x b : Nat} (r : Rch us x b) (hb : b ∈ l) : x ∈ l := by
  induction r with
  | refl a => exact hb
  | step e r ih => exact h _ (ih hb) _ _ e
theorem Rch.closedF {us : List N3} {l : List Nat} (h : ∀ a ∈ l, ∀ b w, (a, b, w) ∈ us → b ∈ l) {x b : Nat} (r : Rch us x b) (hb : x ∈ l) : b ∈ l := by
  induction r with
  | refl a => exact hb
  | step e r ih => exact ih (h _ hb _ _ e)
/-- all deeds that lead to b -/
structure Into (us : List N3) (n b : Nat) (fs : List Nat) : Prop where
  nd : fs.Nodup
  lt : ∀ x ∈ fs, x < n
  mem : ∀ x, x ∈ fs ↔ Rch us x b
/-- all deeds to which a leads -/
structure From (us : List N3) (n a : Nat) (fs : List Nat) : Prop where
  nd : fs.Nodup
  lt : ∀ x ∈ fs, x < n
  mem : ∀ x, x ∈ fs ↔ Rch us a x
def OnePiece (us : List N3) (n : Nat) : Prop := ∀ a b, a < n → b < n → Rch us a b
theorem Into.all {us : List N3} {n b : Nat} {fs : List Nat} (h : Into us n b fs) : n ≤ fs.length ↔ ∀ a, a < n → Rch us a b :=
  ⟨fun l a ha => (h.mem a).mp (nd_full h.nd h.lt l ha), fun k => by
    have h1 : (List.range n).length ≤ fs.length := by
      refine sub_len List.nodup_range fun x hx => ?_
      exact (h.mem x).mpr (k x (List.mem_range.mp hx))
    rw [List.length_range] at h1
    exact h1⟩
theorem From.all {us : List N3} {n a : Nat} {fs : List Nat} (h : From us n a fs) : n ≤ fs.length ↔ ∀ b, b < n → Rch us a b :=
  ⟨fun l b hb => (h.mem b).mp (nd_full h.nd h.lt l hb), fun k => by
    have h1 : (List.range n).length ≤ fs.length := by
      refine sub_len List.nodup_range fun x hx => ?_
      exact (h.mem x).mpr (k x (List.mem_range.mp hx))
    rw [List.length_range] at h1
    exact h1⟩
end WW

namespace WW
open PySem PySem.Spec PyProof.Rows L2
section
variable {P : Program} {w : World} {K : PySem.W.Frag} {mg : Str → Option Value} {base : Heap}
def sp_reached (K : PySem.W.Frag) : Sp := fun vs H Q _ => ∃ (p : Addr) (n : Nat) (us : List N3) (b : Nat), vs = [.ref p, .int (b : Int)] ∧ WheelAt K H p n us ∧ b < n ∧ ∀ r H' fs, H r = none → Ex H H' → H' r = some (.lst (fs.map vn)) → Into us n b fs → Q (.ref r) H'
theorem sc_reached : FnScope ["wheel", "start", "found", "at", "a", "w"] ["wheel", "start"] (defScope s_reached) := ⟨rfl, rfl, rfl, by decide +kernel, rfl, by decide +kernel, by decide +kernel⟩
theorem bn_reached : BindN (defArgs s_reached) (defBody s_reached) (defScope s_reached) "reached" "reached" ["wheel", "start"] := fun _ _ _ _ _ _ us hl => match us, hl with | [_, _], _ => rfl
theorem c_reached (T : Tx K mg) : Cl P w K mg base 3 "reached" (sp_reached K) := by
  obtain ⟨fd, F⟩ := T.f_reached
  have S := sc_reached
  refine cl_of F T.g_reached bn_reached S (fun vs H Q E h => ?_) (fun cdv A outer s H vs Q E hr h => ?_)
  · obtain ⟨p, n, us, b, rfl, _⟩ := h
    rfl
  · obtain ⟨p, n, us, b, rfl, hW, hb, q⟩ := h
    have hu := hu_of hr
    have hu2 := hr.units
    refine ⟨_, (pss_cons
      (ps_set (i := 2) S.nd rfl (Or.inl rfl) (pe_lst (pa_cons (pv 1) pa_nil)))
      (pss_cons
      (ps_set (i := 3) S.nd rfl (Or.inl rfl) pe_int)
      (pss_cons
      (ps_while (passes_of rfl) (pt_cmpR op_lt (pv 3) (pe_callB (cLen K) rfl T.n_len (by decide +kernel) (pa_cons (pv 2) pa_nil)) (nomark _))
      (pss_cons
        (ps_for (passes_of rfl) rfl (piL K (pmt (c_Wwaits T) hr (by decide) passL (pv 0) (pa_cons (pe_ix (ixL K) (pv 2) (pv 3) (fun _ _ => rfl)) pa_nil))) (pg_tup rfl (pgs_cons (pg_name (i := 4) S.nd rfl (Or.inl rfl)) (pgs_cons (pg_name (i := 5) S.nd rfl (Or.inl rfl)) pgs_nil)))
        (pss_one
          (ps_if (pt_cmpR (opNotIn K) (pv 4) (pv 2) rfl)
          (pss_one
            (ps_expr (pBM K PySem.F.plainAttrs_list PySem.F.slot_list_append PySem.F.type_list_append mt_append (pv 2) (pa_cons (pv 4) pa_nil))))
          pss_nil)))
        (pss_one
        (ps_set (i := 3) S.nd rfl (Or.inl rfl) (pe_op op_add (pv 3) pe_int)))))
      (pss_one
      (ps_ret (pv 2)))))), ?_⟩
    have g := hW.1
    refine ⟨_, rfl, sz1, fun o ho => ?_⟩
    -- while at < len(found)
    refine ⟨fun m σ H' => ∃ (fs : List Nat) (i : Nat) (va vw : Option V), σ = [some (.ref p), some (.int (b : Int)), some (.ref o), some (.int (i : Int)), va, vw] ∧ m = n - i ∧ i ≤ fs.length ∧ Ex H H' ∧ H' o = some (.lst (fs.map vn)) ∧ fs.Nodup ∧ (∀ x ∈ fs, x < n ∧ Rch us x b) ∧ b ∈ fs ∧
      ∀ j x, j < i → fs[j]? = some x → ∀ a w, (a, x, w) ∈ us → a ∈ fs, ⟨n, [b], 0, none, none, rfl, rfl, Nat.zero_le _, Evl.Ex.new ho, upd_same, by simp, fun x hx => by rw [List.mem_singleton.mp hx]; exact ⟨hb, .refl b⟩, List.mem_cons_self, fun j x hj => by omega⟩, ?_⟩
    rintro m σ H1 ⟨fs, i, va, vw, rfl, hm, hi, e1, h1, nd, hlt, hbm, hcl⟩
    refine ⟨_, rfl, _, rfl, o, _, rfl, .inl (sl h1), _, _, rfl, rfl, _, rfl, iteD (fun e => ?_) (fun e => ?_)⟩
    · rw [List.length_map] at e
      have hi2 : i < fs.length := by omega
      have hx : fs[i]? = some fs[i] := List.getElem?_eq_getElem hi2
      have hxl := (hlt fs[i] (List.getElem_mem hi2)).1
      have fl : fs.length ≤ n := nd_len nd fun x hx => (hlt x hx).1
      have n40 := g.n40
      refine ⟨fun σ' H' => ∃ (gs : List Nat) (va vw : Option V), σ' = [some (.ref p), some (.int (b : Int)), some (.ref o), some (.int ((i : Int) + 1)), va, vw] ∧ i + 1 ≤ gs.length ∧ Ex H H' ∧ H' o = some (.lst (gs.map vn)) ∧ gs.Nodup ∧ (∀ x ∈ gs, x < n ∧ Rch us x b) ∧ b ∈ gs ∧
        ∀ j x, j < i + 1 → gs[j]? = some x → ∀ a w, (a, x, w) ∈ us → a ∈ gs, ?_, ?_⟩
      · rintro σ' H' ⟨gs, va, vw, rfl, k1, k2, k3, k4, k5, k6, k7⟩
        exact ⟨n - (i + 1), by omega, gs, i + 1, va, vw, rfl, rfl, k1, k2, k3, k4, k5, k6, k7⟩
      -- for a, w in wheel.waits(found[at])
      have W1 := hW.mono e1
      obtain ⟨_, dx, d, l, rows, W0⟩ := id W1
      refine ⟨_, rfl, p, dx, _, rfl, W0.ob, wf_no _ _ _ (by decide +kernel) (by decide +kernel) (by decide +kernel), _, rfl, _, rfl, o, _, _, _, rfl, rfl, sl h1, at_nat hx, p, n, us, (fs[i] : Int), rfl, W1, fun hb2 r H2 hr e2 hP => ?_, fun hb2 => absurd ⟨by omega, by omega⟩ hb2⟩
      rw [Int.toNat_natCast] at hP
      obtain ⟨bs, hP1, hP2⟩ := hP
      have bl := hP2.length
      rw [List.length_map] at bl
      have ro : o ≠ r := ne_of_none h1 hr
      refine ⟨r, rfl, ⟨_, sl hP1⟩, for_list (xs := bs.map V.ref) (fun j σ' H' => ∃ (gs : List Nat) (va vw : Option V), σ' = [some (.ref p), some (.int (b : Int)), some (.ref o), some (.int (i : Int)), va, vw] ∧ Ex H H' ∧ H' r = some (.lst (bs.map V.ref)) ∧ TupsAt H' bs ((inc us fs[i]).map vP) ∧ H' o = some (.lst (gs.map vn)) ∧ gs.Nodup ∧ (∀ x ∈ gs, x < n ∧ Rch us x b) ∧ b ∈ gs ∧
        (∃ more, gs = fs ++ more) ∧ ∀ a w, (a, w) ∈ (inc us fs[i]).take j → a ∈ gs) ?_ ?_ ?_ ?_⟩
      · exact ⟨fs, _, _, rfl, e1.tr e2, hP1, hP2, e2 _ _ h1, nd, hlt, hbm, ⟨[], (List.append_nil fs).symm⟩, fun a w h => by rw [List.take_zero] at h; cases h⟩
      · rintro j σ' H' _ ⟨gs, va, vw, rfl, _, h3, _⟩
        exact sl h3
      · rintro j y σ' H' hy ⟨gs, va, vw, rfl, e3, h3, h4, h5, k1, k2, k3, ⟨more, k4⟩, k5⟩
        obtain ⟨c, rr, rfl, _, hr2, hc⟩ := h4.get hy
        rw [List.getElem?_map] at hr2
        cases ht : (inc us fs[i])[j]? with
        | none => rw [ht] at hr2; cases hr2
        | some t =>
          rw [ht] at hr2
          cases hr2
          have hmem := List.mem_of_getElem? ht
          have htu : (t.1, fs[i], t.2) ∈ us := inc_mem.mp hmem
          have gl : gs.length ≤ n := nd_len k1 fun x hx => (k2 x hx).1
          refine ⟨c, _, rfl, stp hc, rfl, _, _, rfl, _, _, rfl, rfl, ?_⟩
          refine ⟨_, rfl, _, rfl, o, _, rfl, .inl (sl h5), rfl, flat_nat gs, _, rfl, ?_⟩
          rw [show (V.int (t.1 : Int)) = vn t.1 from rfl, inV_nat]
          refine iteN (fun hn => ?_) (fun hn => ?_)
          · refine ⟨_, rfl, .inl ⟨rfl, _, sl h5⟩, _, rfl, o, _, _, rfl, rfl, h5, szt (by rw [List.length_map]; omega), gs ++ [t.1], _, _, rfl, e3.mutd ho, upd_at h3 ro.symm, ?_, ?_, ?_, ?_, List.mem_append_left _ k3, ⟨more ++ [t.1], by rw [k4, List.append_assoc]⟩, ?_⟩
            · exact L2.Paired.mapP h4 fun b' rr hc => upd_at hc (ne_of hc h5 (by intro z; cases z))
            · rw [upd_same, List.map_append]
              rfl
            · exact nd_snoc k1 hn
            · intro x hx
              rcases List.mem_append.mp hx with hx | hx
              · exact k2 x hx
              · rw [List.mem_singleton.mp hx]
                exact ⟨g.inc_lt hmem, .step htu (hlt fs[i] (List.getElem_mem hi2)).2⟩
            · intro a w haw
              rw [take_snoc ht] at haw
              rcases List.mem_append.mp haw with haw | haw
              · exact List.mem_append_left _ (k5 a w haw)
              · have e5 : (a, w) = t := List.mem_singleton.mp haw
                rw [← e5]
                exact List.mem_append_right _ List.mem_cons_self
          · refine ⟨gs, _, _, rfl, e3, h3, h4, h5, k1, k2, k3, ⟨more, k4⟩, fun a w haw => ?_⟩
            rw [take_snoc ht] at haw
            rcases List.mem_append.mp haw with haw | haw
            · exact k5 a w haw
            · have e5 : (a, w) = t := List.mem_singleton.mp haw
              rw [← e5] at hn
              exact hn
      · rintro σ' H' ⟨gs, va, vw, rfl, e3, h3, h4, h5, k1, k2, k3, ⟨more, k4⟩, k5⟩
        rw [List.length_map, bl, List.take_length] at k5
        refine ⟨_, rfl, _, _, rfl, rfl, gs, _, _, rfl, by rw [k4, List.length_append]; omega, e3, h5, k1, k2, k3, fun j x hj hx2 a w haw => ?_⟩
        by_cases hji : j = i
        · subst hji
          have : x = fs[j] := by
            rw [k4, List.getElem?_append_left hi2, hx] at hx2
            exact (Option.some.inj hx2).symm
          rw [this] at haw
          exact k5 a w (inc_mem.mpr haw)
        · have : fs[j]? = some x := by
            rw [k4, List.getElem?_append_left (by omega)] at hx2
            exact hx2
          rw [k4]
          exact List.mem_append_left _ (hcl j x (by omega) this a w haw)
    · rw [List.length_map] at e
      have hil : i = fs.length := by omega
      refine ⟨_, rfl, q o H1 fs ho e1 h1 ⟨nd, fun x hx => (hlt x hx).1, fun x => ⟨fun hx => (hlt x hx).2, fun hr => ?_⟩⟩⟩
      refine Rch.closed (l := fs) (fun y hy a w haw => ?_) hr hbm
      obtain ⟨j, hj, ej⟩ := List.mem_iff_getElem.mp hy
      exact hcl j y (by omega) (by rw [List.getElem?_eq_getElem hj, ej]) a w haw
end
end WW

namespace WW
open PySem PySem.Spec PyProof.Rows L2
section
variable {P : Program} {w : World} {K : PySem.W.Frag} {mg : Str → Option Value} {base : Heap}
def sp_one_piece (K : PySem.W.Frag) : Sp := fun vs H Q _ => ∃ (p : Addr) (n : Nat) (us : List N3), vs = [.ref p] ∧ WheelAt K H p n us ∧ ∀ (c : Bool) H', (c = true ↔ OnePiece us n) → Ex H H' → Q (.bl c) H'
theorem sc_one_piece : FnScope ["wheel", "b"] ["wheel"] (defScope s_one_piece) := ⟨rfl, rfl, rfl, by decide +kernel, rfl, by decide +kernel, by decide +kernel⟩
theorem bn_one_piece : BindN (defArgs s_one_piece) (defBody s_one_piece) (defScope s_one_piece) "one_piece" "one_piece" ["wheel"] := fun _ _ _ _ _ _ us hl => match us, hl with | [_], _ => rfl
theorem c_one_piece (T : Tx K mg) : Cl P w K mg base 4 "one_piece" (sp_one_piece K) := by
  obtain ⟨fd, F⟩ := T.f_one_piece
  have S := sc_one_piece
  refine cl_of F T.g_one_piece bn_one_piece S (fun vs H Q E h => ?_) (fun cdv A outer s H vs Q E hr h => ?_)
  · obtain ⟨p, n, us, rfl, _⟩ := h
    rfl
  · obtain ⟨p, n, us, rfl, hW, q⟩ := h
    have hu := hu_of hr
    have hu2 := hr.units
    refine ⟨_, (pss_cons
      (ps_for (passes_of rfl) rfl (pi_range1 rfl T.n_range (pa_cons (pmt0 (c_Wsize T) hr (by decide) passL (pv 0)) pa_nil)) (pg_name (i := 1) S.nd rfl (Or.inl rfl))
      (pss_one
        (ps_if (pt_cmpR op_lt (pe_callB (cLen K) rfl T.n_len (by decide +kernel) (pa_cons (pcl (c_reached T) hr (by decide) passL (pa_cons (pv 0) (pa_cons (pv 1) pa_nil))) pa_nil)) (pmt0 (c_Wsize T) hr (by decide) passL (pv 0)) (nomark _))
        (pss_one
          (ps_ret pe_bl))
        pss_nil)))
      (pss_one
      (ps_ret pe_bl))), ?_⟩
    have g := hW.1
    have n40 := g.n40
    obtain ⟨_, dx, d, l, rows, W0⟩ := id hW
    refine ⟨_, rfl, p, dx, _, rfl, W0.ob, wf_no _ _ _ (by decide +kernel) (by decide +kernel) (by decide +kernel), p, n, us, rfl, hW, (n : Int), rfl, by omega, by omega, for_rng (n := n) (fun i σ H' => ∃ vb, σ = [some (.ref p), vb] ∧ Ex H H' ∧ ∀ b, b < i → ∀ a, a < n → Rch us a b) ⟨_, rfl, ex0 _, fun b hb => by omega⟩ ?_ ?_⟩
    · rintro i σ H1 hi ⟨vb, rfl, e1, h1⟩
      refine ⟨_, rfl, _, rfl, p, n, us, i, rfl, hW.mono e1, hi, fun r H2 fs hr e2 hf hI => ?_⟩
      have W2 := hW.mono (e1.tr e2)
      obtain ⟨_, dx, d, l, rows, W0⟩ := id W2
      refine ⟨r, _, rfl, .inl (sl hf), _, rfl, p, dx, _, rfl, W0.ob, wf_no _ _ _ (by decide +kernel) (by decide +kernel) (by decide +kernel), p, n, us, rfl, W2, _, _, rfl, rfl, _, rfl, iteD (fun e => ?_) (fun e => ?_)⟩
      · rw [List.length_map] at e
        refine q false H2 ⟨fun z => Bool.noConfusion z, fun z => ?_⟩ (e1.tr e2)
        have := hI.all.mpr fun a ha => z a i ha hi
        omega
      · rw [List.length_map] at e
        refine ⟨_, rfl, e1.tr e2, fun b hb a ha => ?_⟩
        by_cases hbi : b = i
        · rw [hbi]
          exact hI.all.mp (by omega) a ha
        · exact h1 b (by omega) a ha
    · rintro σ H1 ⟨vb, rfl, e1, h1⟩
      exact q true H1 ⟨fun _ a b ha hb => h1 b hb a ha, fun _ => rfl⟩ e1
end
end WW

namespace WW
open PySem PySem.Spec PyProof.Rows L2
section
variable {P : Program} {w : World} {K : PySem.W.Frag} {mg : Str → Option Value} {base : Heap}
def sp_law_from (K : PySem.W.Frag) : Sp := fun vs H Q _ => ∃ (c : Addr) (n : Nat) (us : List N3) (a : Nat), vs = [.ref c, .int (a : Int)] ∧ TieL H c us ∧ (∀ t ∈ us, t.1 < n ∧ t.2.1 < n) ∧ n ≤ 40 ∧ a < n ∧ ∀ H' fs, Ex H H' → From us n a fs → Q (.int (fs.length : Int)) H'
theorem sc_law_from : FnScope ["ties", "a", "found", "at", "x", "b", "w"] ["ties", "a"] (defScope s_law_from) := ⟨rfl, rfl, rfl, by decide +kernel, rfl, by decide +kernel, by decide +kernel⟩
theorem bn_law_from : BindN (defArgs s_law_from) (defBody s_law_from) (defScope s_law_from) "_law_from" "_law_from" ["ties", "a"] := fun _ _ _ _ _ _ us hl => match us, hl with | [_, _], _ => rfl
theorem c_law_from (T : Tx K mg) : Cl P w K mg base 1 "_law_from" (sp_law_from K) := by
  obtain ⟨fd, F⟩ := T.f_law_from
  have S := sc_law_from
  refine cl_of F T.g_law_from bn_law_from S (fun vs H Q E h => ?_) (fun cdv A outer s H vs Q E hr h => ?_)
  · obtain ⟨c, n, us, a, rfl, _⟩ := h
    rfl
  · obtain ⟨c, n, us, a, rfl, hT, glt, n40, ha, q⟩ := h
    have hu := hu_of hr
    have hu2 := hr.units
    refine ⟨_, (pss_cons
      (ps_set (i := 2) S.nd rfl (Or.inl rfl) (pe_lst (pa_cons (pv 1) pa_nil)))
      (pss_cons
      (ps_set (i := 3) S.nd rfl (Or.inl rfl) pe_int)
      (pss_cons
      (ps_while (passes_of rfl) (pt_cmpR op_lt (pv 3) (pe_callB (cLen K) rfl T.n_len (by decide +kernel) (pa_cons (pv 2) pa_nil)) (nomark _))
      (pss_cons
        (ps_for (passes_of rfl) rfl (piL K (pv 0)) (pg_tup rfl (pgs_cons (pg_name (i := 4) S.nd rfl (Or.inl rfl)) (pgs_cons (pg_name (i := 5) S.nd rfl (Or.inl rfl)) (pgs_cons (pg_name (i := 6) S.nd rfl (Or.inl rfl)) pgs_nil))))
        (pss_one
          (ps_if (PW.pt (pw_and (pt_cmpR op_eq (pv 4) (pe_ix (ixL K) (pv 2) (pv 3) (fun _ _ => rfl)) (nomark _)) (pw_and1 (pt_cmpR (opNotIn K) (pv 5) (pv 2) rfl))))
          (pss_one
            (ps_expr (pBM K PySem.F.plainAttrs_list PySem.F.slot_list_append PySem.F.type_list_append mt_append (pv 2) (pa_cons (pv 5) pa_nil))))
          pss_nil)))
        (pss_one
        (ps_set (i := 3) S.nd rfl (Or.inl rfl) (pe_op op_add (pv 3) pe_int)))))
      (pss_one
      (ps_ret (pe_callB (cLen K) rfl T.n_len (by decide +kernel) (pa_cons (pv 2) pa_nil))))))), ?_⟩
    obtain ⟨bs, hT1, hT2⟩ := hT
    have bl := hT2.length
    rw [List.length_map] at bl
    refine ⟨_, rfl, sz1, fun o ho => ?_⟩
    have co : c ≠ o := ne_of_none hT1 ho
    refine ⟨fun m σ H' => ∃ (fs : List Nat) (i : Nat) (vx vb vw : Option V), σ = [some (.ref c), some (.int (a : Int)), some (.ref o), some (.int (i : Int)), vx, vb, vw] ∧ m = n - i ∧ i ≤ fs.length ∧ Ex H H' ∧ H' o = some (.lst (fs.map vn)) ∧ fs.Nodup ∧ (∀ x ∈ fs, x < n ∧ Rch us a x) ∧ a ∈ fs ∧
      ∀ j x, j < i → fs[j]? = some x → ∀ b w, (x, b, w) ∈ us → b ∈ fs, ⟨n, [a], 0, none, none, none, rfl, rfl, Nat.zero_le _, Evl.Ex.new ho, upd_same, by simp, fun x hx => by rw [List.mem_singleton.mp hx]; exact ⟨ha, .refl a⟩, List.mem_cons_self, fun j x hj => by omega⟩, ?_⟩
    rintro m σ H1 ⟨fs, i, vx, vb, vw, rfl, hm, hi, e1, h1, nd, hlt, hbm, hcl⟩
    refine ⟨_, rfl, _, rfl, o, _, rfl, .inl (sl h1), _, _, rfl, rfl, _, rfl, iteD (fun e => ?_) (fun e => ?_)⟩
    · rw [List.length_map] at e
      have hi2 : i < fs.length := by omega
      have hx : fs[i]? = some fs[i] := List.getElem?_eq_getElem hi2
      have fl : fs.length ≤ n := nd_len nd fun x hx => (hlt x hx).1
      refine ⟨fun σ' H' => ∃ (gs : List Nat) (vx vb vw : Option V), σ' = [some (.ref c), some (.int (a : Int)), some (.ref o), some (.int ((i : Int) + 1)), vx, vb, vw] ∧ i + 1 ≤ gs.length ∧ Ex H H' ∧ H' o = some (.lst (gs.map vn)) ∧ gs.Nodup ∧ (∀ x ∈ gs, x < n ∧ Rch us a x) ∧ a ∈ gs ∧
        ∀ j x, j < i + 1 → gs[j]? = some x → ∀ b w, (x, b, w) ∈ us → b ∈ gs, ?_, ?_⟩
      · rintro σ' H' ⟨gs, vx, vb, vw, rfl, k1, k2, k3, k4, k5, k6, k7⟩
        exact ⟨n - (i + 1), by omega, gs, i + 1, vx, vb, vw, rfl, rfl, k1, k2, k3, k4, k5, k6, k7⟩
      refine ⟨_, rfl, c, rfl, ⟨_, sl (e1 _ _ hT1)⟩, for_list (xs := bs.map V.ref) (fun j σ' H' => ∃ (gs : List Nat) (vx vb vw : Option V), σ' = [some (.ref c), some (.int (a : Int)), some (.ref o), some (.int (i : Int)), vx, vb, vw] ∧ Ex H H' ∧ H' o = some (.lst (gs.map vn)) ∧ gs.Nodup ∧ (∀ x ∈ gs, x < n ∧ Rch us a x) ∧ a ∈ gs ∧
        (∃ more, gs = fs ++ more) ∧ ∀ t ∈ us.take j, t.1 = fs[i] → t.2.1 ∈ gs) ?_ ?_ ?_ ?_⟩
      · exact ⟨fs, _, _, _, rfl, e1, h1, nd, hlt, hbm, ⟨[], (List.append_nil fs).symm⟩, fun t h => by rw [List.take_zero] at h; cases h⟩
      · rintro j σ' H' _ ⟨gs, vx, vb, vw, rfl, e3, _⟩
        exact sl (e3 _ _ hT1)
      · rintro j y σ' H' hy ⟨gs, vx, vb, vw, rfl, e3, h5, k1, k2, k3, ⟨more, k4⟩, k5⟩
        obtain ⟨b, t, rfl, ht, hb⟩ := TieL.get hT2 hy
        have hmem := List.mem_of_getElem? ht
        have gl : gs.length ≤ n := nd_len k1 fun x hx => (k2 x hx).1
        have gi : gs[i]? = some fs[i] := by rw [k4, List.getElem?_append_left hi2]; exact hx
        have step : ∀ {hs : List Nat}, t.2.1 ∈ hs ∨ ¬ t.1 = fs[i] → (∀ t ∈ us.take j, t.1 = fs[i] → t.2.1 ∈ hs) → ∀ t ∈ us.take (j + 1), t.1 = fs[i] → t.2.1 ∈ hs := fun {hs} h0 h1 u hu hux => by
          rw [take_snoc ht] at hu
          rcases List.mem_append.mp hu with hu | hu
          · exact h1 u hu hux
          · have e5 : u = t := List.mem_singleton.mp hu
            subst e5
            exact h0.resolve_right fun z => z hux
        refine ⟨b, _, rfl, stp (e3 _ _ hb), rfl, _, _, rfl, _, _, rfl, _, _, rfl, rfl, ?_⟩
        -- if x == found[at] and b not in found
        refine ⟨_, rfl, _, rfl, _, rfl, o, _, _, _, rfl, rfl, sl h5, at_nat gi, rfl, _, rfl, iteI (fun hx1 => ?_) (fun hx1 => ?_)⟩
        · have hx1' : t.1 = fs[i] := by omega
          refine ⟨_, rfl, _, rfl, o, _, rfl, .inl (sl h5), rfl, flat_nat gs, _, rfl, ?_⟩
          rw [show (V.int (t.2.1 : Int)) = vn t.2.1 from rfl, inV_nat]
          refine iteN (fun hn => ?_) (fun hn => ?_)
          · refine ⟨_, rfl, .inl ⟨rfl, _, sl h5⟩, _, rfl, o, _, _, rfl, rfl, h5, szt (by rw [List.length_map]; omega), gs ++ [t.2.1], _, _, _, rfl, e3.mutd ho, ?_, ?_, ?_, List.mem_append_left _ k3, ⟨more ++ [t.2.1], by rw [k4, List.append_assoc]⟩, ?_⟩
            · rw [upd_same, List.map_append]
              rfl
            · exact nd_snoc k1 hn
            · intro x hx
              rcases List.mem_append.mp hx with hx | hx
              · exact k2 x hx
              · rw [List.mem_singleton.mp hx]
                exact ⟨(glt t hmem).2, (hlt fs[i] (List.getElem_mem hi2)).2.snoc (w := t.2.2) (by rw [← hx1']; exact hmem)⟩
            · exact step (.inl (List.mem_append_right _ List.mem_cons_self)) fun u hu hux => List.mem_append_left _ (k5 u hu hux)
          · exact ⟨gs, _, _, _, rfl, e3, h5, k1, k2, k3, ⟨more, k4⟩, step (.inl hn) k5⟩
        · exact ⟨gs, _, _, _, rfl, e3, h5, k1, k2, k3, ⟨more, k4⟩, step (.inr fun z => hx1 (by omega)) k5⟩
      · rintro σ' H' ⟨gs, vx, vb, vw, rfl, e3, h5, k1, k2, k3, ⟨more, k4⟩, k5⟩
        rw [List.length_map, bl, List.take_length] at k5
        refine ⟨_, rfl, _, _, rfl, rfl, gs, _, _, _, rfl, by rw [k4, List.length_append]; omega, e3, h5, k1, k2, k3, fun j x hj hx2 b w haw => ?_⟩
        by_cases hji : j = i
        · subst hji
          have : x = fs[j] := by
            rw [k4, List.getElem?_append_left hi2, hx] at hx2
            exact (Option.some.inj hx2).symm
          exact k5 _ haw this
        · have : fs[j]? = some x := by
            rw [k4, List.getElem?_append_left (by omega)] at hx2
            exact hx2
          rw [k4]
          exact List.mem_append_left _ (hcl j x (by omega) this b w haw)
    · rw [List.length_map] at e
      have hil : i = fs.length := by omega
      refine ⟨_, rfl, o, _, rfl, .inl (sl h1), ?_⟩
      rw [List.length_map]
      refine q H1 fs e1 ⟨nd, fun x hx => (hlt x hx).1, fun x => ⟨fun hx => (hlt x hx).2, fun hr => ?_⟩⟩
      refine Rch.closedF (l := fs) (fun y hy b w haw => ?_) hr hbm
      obtain ⟨j, hj, ej⟩ := List.mem_iff_getElem.mp hy
      exact hcl j y (by omega) (by rw [List.getElem?_eq_getElem hj, ej]) b w haw
end
end WW

namespace WW
open PySem PySem.Spec PyProof.Rows L2
section
variable {P : Program} {w : World} {K : PySem.W.Frag} {mg : Str → Option Value} {base : Heap}
/-! ### ties with a ring through all deeds -/
/-- ties of a wheel, numbers below 10 ** 30 -/
structure TG (n : Nat) (us : List N3) : Prop where
  g : Good n us
  p : ∀ t ∈ us, TieP n t
theorem good_more {n : Nat} {us vs : List N3} (g : Good n us) (hk : ∀ k, k ∈ us.map keyT → k ∈ vs.map keyT) (nd : (vs.map keyT).Nodup) (p : ∀ t ∈ vs, TieP n t) (hl : vs.length ≤ 1000) : TG n vs :=
  ⟨⟨g.n1, g.n40, fun t ht => (p t ht).1, nd, fun b hb => by
    obtain ⟨t, ht, e⟩ := g.has b hb
    obtain ⟨u, hu, e2⟩ := List.mem_map.mp (hk _ (List.mem_map.mpr ⟨t, ht, rfl⟩))
    unfold keyT at e2
    injection e2 with e3 e4
    exact ⟨u, hu, e4.trans e⟩, hl⟩, p⟩
theorem lookT_none {us : List N3} {a b : Nat} (h : (a, b) ∉ us.map keyT) : lookT us a b = none := by
  cases e : lookT us a b with
  | none => rfl
  | some w => exact absurd (List.mem_map.mpr ⟨_, lookT_some e, rfl⟩) h
theorem putT_fresh {us : List N3} {a b : Nat} (w : Int) (h : (a, b) ∉ us.map keyT) : putT us a b w = us ++ [(a, b, w)] := by
  unfold putT
  rw [if_neg]
  intro z
  obtain ⟨u, hu, e⟩ := List.any_eq_true.mp z
  have e := of_decide_eq_true e
  exact h (List.mem_map.mpr ⟨u, hu, by unfold keyT; rw [e.1, e.2]⟩)
theorem fresh_at {us : List N3} (nd : (us.map keyT).Nodup) {i : Nat} {t : N3} (h : us[i]? = some t) : (t.1, t.2.1) ∉ (us.take i).map keyT := fun m => by
  obtain ⟨u, hu, e⟩ := List.mem_map.mp m
  obtain ⟨j, hj, ej⟩ := List.mem_iff_getElem.mp hu
  rw [List.length_take] at hj
  have h1 : us[j]? = some u := by
    rw [List.getElem_take] at ej
    rw [List.getElem?_eq_getElem (by omega), ej]
  have k1 : (us.map keyT)[j]? = some (keyT t) := by
    rw [List.getElem?_map, h1]
    exact congrArg some e
  have k2 : (us.map keyT)[i]? = some (keyT t) := by
    rw [List.getElem?_map, h]
    rfl
  have := nd_ix nd k1 k2
  omega
def sp_law_ringed (K : PySem.W.Frag) : Sp := fun vs H Q _ => ∃ (c : Addr) (us : List N3) (n : Nat) (cl wd : Int), vs = [.ref c, .int (n : Int), .int cl, .int wd] ∧ TieL H c us ∧ TG n us ∧ us.length ≤ 200 ∧
  ∀ r H' us', H r = none → Ex H H' → TieL H' r us' → TG n us' → us'.length ≤ us.length + n → Q (.ref r) H'
theorem sc_law_ringed : FnScope ["ties", "size", "cell", "wide", "known", "a", "b", "w", "rest", "order", "k", "pair"] ["ties", "size", "cell", "wide"] (defScope s_law_ringed) := ⟨rfl, rfl, rfl, by decide +kernel, rfl, by decide +kernel, by decide +kernel⟩
theorem bn_law_ringed : BindN (defArgs s_law_ringed) (defBody s_law_ringed) (defScope s_law_ringed) "_law_ringed" "_law_ringed" ["ties", "size", "cell", "wide"] := fun _ _ _ _ _ _ us hl => match us, hl with | [_, _, _, _], _ => rfl
theorem c_law_ringed (T : Tx K mg) : Cl P w K mg base 2 "_law_ringed" (sp_law_ringed K) := by
  obtain ⟨fd, F⟩ := T.f_law_ringed
  have S := sc_law_ringed
  refine cl_of F T.g_law_ringed bn_law_ringed S (fun vs H Q E h => ?_) (fun cdv A outer s H vs Q E hr h => ?_)
  · obtain ⟨c, us, n, cl, wd, rfl, _⟩ := h
    rfl
  · obtain ⟨c, us, n, cl, wd, rfl, hT, tg, ul, q⟩ := h
    have hu := hu_of hr
    have hu2 := hr.units
    refine ⟨_, (pss_cons
      (ps_set (i := 4) S.nd rfl (Or.inr rfl) pe_dnewT)
      (pss_cons
      (ps_for (passes_of rfl) rfl (piL K (pv 0)) (pg_tup rfl (pgs_cons (pg_name (i := 5) S.nd rfl (Or.inl rfl)) (pgs_cons (pg_name (i := 6) S.nd rfl (Or.inl rfl)) (pgs_cons (pg_name (i := 7) S.nd rfl (Or.inl rfl)) pgs_nil))))
      (pss_one
        (ps_dput hu (pv 4) (pe_tup (pa_cons (pv 5) (pa_cons (pv 6) pa_nil))) (pv 7) rfl)))
      (pss_cons
      (ps_setLc (i := 8) (own := [("a", 5)]) (g := (gName 5)) (tt := tYes) rfl S.nd rfl rfl (sw_true rfl rfl rfl (by decide +kernel)) (pi_range1 rfl T.n_range (pa_cons (pv 1) pa_nil)) (blkOk_by (by kernel_rfl)) (fun _ _ _ _ _ => (pg_name (i := 5) S.nd rfl (Or.inl rfl))) (fun _ _ _ _ _ => pts_nil) (fun _ _ _ _ _ => (pv 5)))
      (pss_cons
      (ps_set (i := 9) S.nd rfl (Or.inl rfl) (pe_lst pa_nil))
      (pss_cons
      (ps_while (passes_of rfl) (pt_cmpR op_gt (pe_callB (cLen K) rfl T.n_len (by decide +kernel) (pa_cons (pv 8) pa_nil)) pe_int (nomark _))
      (pss_cons
        (ps_set (i := 2) S.nd rfl (Or.inl rfl) (pe_op op_mod (pe_op op_add (pe_op op_mul (pv 2) pe_int) pe_int) pe_int))
        (pss_one
        (ps_expr (pBM K PySem.F.plainAttrs_list PySem.F.slot_list_append PySem.F.type_list_append mt_append (pv 9) (pa_cons (pBM K PySem.F.plainAttrs_list PySem.F.slot_list_pop PySem.F.type_list_pop mt_popAt (pv 8) (pa_cons (pe_op op_mod (pe_op op_fdiv (pv 2) pe_int) (pe_callB (cLen K) rfl T.n_len (by decide +kernel) (pa_cons (pv 8) pa_nil))) pa_nil)) pa_nil))))))
      (pss_cons
      (ps_for (passes_of rfl) rfl (pi_range1 rfl T.n_range (pa_cons (pv 1) pa_nil)) (pg_name (i := 10) S.nd rfl (Or.inl rfl))
      (pss_cons
        (ps_set (i := 11) S.nd rfl (Or.inl rfl) (pe_tup (pa_cons (pe_ix (ixL K) (pv 9) (pv 10) (fun _ _ => rfl)) (pa_cons (pe_ix (ixL K) (pv 9) (pe_op op_mod (pe_op op_add (pv 10) pe_int) (pv 1)) (fun _ _ => rfl)) pa_nil))))
        (pss_one
        (ps_if (pt_cmp (pc_dnotin hu (pv 11) (pv 4)))
        (pss_one
          (ps_dput hu (pv 4) (pv 11) (pcl (c_law_number T) hr (by decide) passL (pa_cons (pe_op op_add (pe_op op_fdiv (pv 2) pe_int) (pe_op op_mul pe_int (pv 10))) (pa_cons (pv 3) pa_nil))) rfl))
        pss_nil))))
      (pss_one
      (ps_ret (pe_lc (own := [("pair", 11)]) (g := (gName 11)) (tt := tYes) rfl S.nd (piL K (pe_callTy (cListDT rfl) rfl T.n_list (by decide +kernel) (pa_cons (pv 4) pa_nil))) (blkOk_by (by kernel_rfl)) (fun _ _ _ _ _ => (pg_name (i := 11) S.nd rfl (Or.inl rfl))) (fun _ _ _ _ _ => pts_nil) (fun _ _ _ _ _ => (pe_tup (pa_cons (pe_ix (ixT K) (pv 11) pe_int (fun _ _ => rfl)) (pa_cons (pe_ix (ixT K) (pv 11) pe_int (fun _ _ => rfl)) (pa_cons (pe_dget hu (pv 4) (pv 11) (fun _ _ => rfl)) pa_nil)))))))))))))), ?_⟩
    have g := tg.g
    have n1 := g.n1
    have n40 := g.n40
    obtain ⟨bs, hT1, hT2⟩ := hT
    have bl := hT2.length
    rw [List.length_map] at bl
    intro d hd
    have cd : c ≠ d := ne_of_none hT1 hd
    -- known = {}; for a, b, w in ties: known[(a, b)] = w
    refine ⟨_, rfl, c, rfl, ⟨_, sl (upd_at hT1 cd)⟩, for_list (xs := bs.map V.ref) (fun i σ H' => ∃ (va vb vw : Option V), σ = [some (.ref c), some (.int (n : Int)), some (.int cl), some (.int wd), some (.ref d), va, vb, vw, none, none, none, none] ∧ Ex H H' ∧ H' d = some (.dT (encT (us.take i)))) ⟨_, _, _, rfl, Evl.Ex.new hd, by rw [upd_same, List.take_zero]; rfl⟩ ?_ ?_ ?_⟩
    · rintro i σ H' _ ⟨va, vb, vw, rfl, e1, _⟩
      exact sl (e1 _ _ hT1)
    · rintro i x σ H1 hx ⟨va, vb, vw, rfl, e1, h1⟩
      obtain ⟨b, t, rfl, ht, hb⟩ := TieL.get hT2 hx
      refine ⟨b, _, rfl, stp (e1 _ _ hb), rfl, _, _, rfl, _, _, rfl, _, _, rfl, rfl, ?_⟩
      refine ⟨_, rfl, _, rfl, _, rfl, _, rfl, sz2, fun z hz => ?_⟩
      refine ⟨d, _, rfl, DPut.t (k := kE t.1 t.2.1) (upd_new h1 hz) upd_same (szt (by rw [encT_len, List.length_take]; omega)), _, _, _, rfl, (e1.more hz).mutd hd, ?_⟩
      rw [upd_same, encT_put, putT_fresh _ (fresh_at g.nd ht), take_snoc ht]
    rintro σ H1 ⟨va, vb, vw, rfl, e1, h1⟩
    rw [List.length_map, bl, List.take_length] at h1
    -- rest = [a for a in range(size)]
    refine ⟨_, rfl, (n : Int), rfl, by omega, by omega, fun D hD => ?_⟩
    refine lc_rngR (n := n) (fun i y _ => y = vn i) (fun _ _ _ _ _ h => h) hD (by omega) (fun i H2 k hi e2 _ hk => ⟨rfl, _, rfl, hk _ _ (ex0 _) rfl⟩) fun H2 ys e2 hD2 hl hR => ?_
    have ey : ys = (List.range n).map vn := by
      have := ys_map (n := n) (fun i => i) vn hl hR
      rw [this, List.map_id']
    rw [ey] at hD2
    have h2 := e2 _ _ h1
    have e12 := e1.tr e2
    have hDn : H D = none := e1.fresh hD
    have dD : d ≠ D := ne_of_none h1 hD
    -- order = []
    refine ⟨Nat.zero_le _, fun o ho => ?_⟩
    have hon : H o = none := e12.fresh ho
    have od : d ≠ o := ne_of_none h2 ho
    have oD : D ≠ o := ne_of_none hD2 ho
    -- while len(rest) > 0
    refine ⟨fun m σ H' => ∃ (ps qs : List Nat) (c' : Int), σ = [some (.ref c), some (.int (n : Int)), some (.int c'), some (.int wd), some (.ref d), va, vb, vw, some (.ref D), some (.ref o), none, none] ∧ m = ps.length ∧ Ex H H' ∧ H' d = some (.dT (encT us)) ∧ H' D = some (.lst (ps.map vn)) ∧ H' o = some (.lst (qs.map vn)) ∧ ps.length + qs.length = n ∧ (∀ x ∈ ps, x < n) ∧ ∀ x ∈ qs, x < n,
      ⟨_, List.range n, [], cl, rfl, rfl, e12.more ho, upd_at h2 od, upd_at hD2 oD, upd_same, by rw [List.length_range]; rfl, fun x hx => List.mem_range.mp hx, fun x hx => by cases hx⟩, ?_⟩
    rintro m σ H3 ⟨ps, qs, c', rfl, rfl, e3, k1, k2, k3, k4, k5, k6⟩
    refine ⟨_, rfl, D, _, rfl, .inl (sl k2), _, _, rfl, rfl, _, rfl, iteD (fun e => ?_) (fun e => ?_)⟩
    · rw [List.length_map] at e
      have hp : 0 < (ps.map vn).length := by rw [List.length_map]; omega
      refine ⟨fun σ' H' => ∃ (ps' qs : List Nat) (c' : Int), ps'.length < ps.length ∧ σ' = [some (.ref c), some (.int (n : Int)), some (.int c'), some (.int wd), some (.ref d), va, vb, vw, some (.ref D), some (.ref o), none, none] ∧ Ex H H' ∧ H' d = some (.dT (encT us)) ∧ H' D = some (.lst (ps'.map vn)) ∧ H' o = some (.lst (qs.map vn)) ∧ ps'.length + qs.length = n ∧ (∀ x ∈ ps', x < n) ∧ ∀ x ∈ qs, x < n, ?_, ?_⟩
      · rintro σ' H' ⟨ps', qs', c2, hlt, rfl, r1, r2, r3, r4, r5, r6, r7⟩
        exact ⟨ps'.length, hlt, ps', qs', c2, rfl, rfl, r1, r2, r3, r4, r5, r6, r7⟩
      refine ⟨_, rfl, _, _, rfl, rfl, .inr ⟨by decide, by decide⟩, _, _, rfl, rfl, _, _, rfl, rfl, (by show (0 : Int) < 2147483647; decide), ?_⟩
      generalize hcc : (c' * 48271 + 29) % 2147483647 = cc
      have md := mod_nat (c := (c' * 48271 + 29) % 2147483647 / 3) hp
      have lm : (ps.map vn).length = ps.length := List.length_map ..
      have md2 := md.2
      have hk : (c' * 48271 + 29) % 2147483647 / 3 % ((ps.map vn).length : Int) < 2 ^ 63 := by rw [← md.1]; omega
      have hk0 : 0 ≤ (c' * 48271 + 29) % 2147483647 / 3 % ((ps.map vn).length : Int) := by rw [← md.1]; omega
      have hki : (((c' * 48271 + 29) % 2147483647 / 3 % ((ps.map vn).length : Int)).toNat) < ps.length := by
        omega
      have hy : (ps.map vn)[(((c' * 48271 + 29) % 2147483647 / 3 % ((ps.map vn).length : Int)).toNat)]? = some (vn ps[(((c' * 48271 + 29) % 2147483647 / 3 % ((ps.map vn).length : Int)).toNat)]) := by
        rw [List.getElem?_map, List.getElem?_eq_getElem hki]
        rfl
      refine ⟨_, rfl, .inl ⟨rfl, _, sl k3⟩, _, rfl, .inl ⟨rfl, _, sl k2⟩, _, rfl, _, _, rfl, rfl, ⟨by decide, by decide⟩, _, rfl, D, _, rfl, .inl (sl k2), _, _, rfl, rfl, (by show (0 : Int) < ((ps.map vn).length : Int); omega), ?_⟩
      refine ⟨D, _, _, _, _, rfl, rfl, k2, by omega, hk, PySem.StrLaws.seqIndex_nonneg hk0 (by rw [← md.1]; have := md.2; omega), hy, ?_⟩
      refine ⟨o, _, _, rfl, rfl, upd_at k3 oD.symm, szt (by rw [List.length_map]; omega), ps.eraseIdx (((c' * 48271 + 29) % 2147483647 / 3 % ((ps.map vn).length : Int)).toNat), qs ++ [ps[(((c' * 48271 + 29) % 2147483647 / 3 % ((ps.map vn).length : Int)).toNat)]], (c' * 48271 + 29) % 2147483647, ?_, rfl, (e3.mutd hDn).mutd hon, ?_, ?_, ?_, ?_, ?_, ?_⟩
      · rw [List.length_eraseIdx_of_lt hki]
        omega
      · exact upd_at (upd_at k1 dD) od
      · rw [upd_ne oD, upd_same, map_eraseIdx]
      · rw [upd_same, List.map_append]
        rfl
      · rw [List.length_eraseIdx_of_lt hki, List.length_append]
        simp only [List.length_cons, List.length_nil]
        omega
      · exact fun x hx => k5 x (List.mem_of_mem_eraseIdx hx)
      · intro x hx
        rcases List.mem_append.mp hx with hx | hx
        · exact k6 x hx
        · rw [List.mem_singleton.mp hx]
          exact k5 _ (List.getElem_mem hki)
    · rw [List.length_map] at e
      have ql : qs.length = n := by omega
      -- for k in range(size)
      refine ⟨_, rfl, (n : Int), rfl, by omega, by omega, for_rng (n := n) (fun i σ H' => ∃ (us' : List N3) (vk vp : Option V), σ = [some (.ref c), some (.int (n : Int)), some (.int c'), some (.int wd), some (.ref d), va, vb, vw, some (.ref D), some (.ref o), vk, vp] ∧ Ex H H' ∧ H' d = some (.dT (encT us')) ∧ H' o = some (.lst (qs.map vn)) ∧ (us'.map keyT).Nodup ∧ (∀ t ∈ us', TieP n t) ∧ (∀ k, k ∈ us.map keyT → k ∈ us'.map keyT) ∧ us'.length ≤ us.length + i) ⟨us, _, _, rfl, e3, k1, k3, g.nd, tg.p, fun k hk => hk, Nat.le_refl _⟩ ?_ ?_⟩
      · rintro i σ H4 hi ⟨us', vk, vp, rfl, e4, r1, r2, r3, r4, r5, r6⟩
        have m1 := mod_nat (c := (i : Int) + 1) (n := n) (by omega)
        have x1 : qs[i]? = some qs[i] := List.getElem?_eq_getElem (by omega)
        have x2 : qs[(((i : Int) + 1) % (n : Int)).toNat]? = some qs[(((i : Int) + 1) % (n : Int)).toNat] := List.getElem?_eq_getElem (by omega)
        generalize hX : qs[i] = X at x1
        generalize hY : qs[(((i : Int) + 1) % (n : Int)).toNat] = Y at x2
        have lX : X < n := k6 X (List.mem_of_getElem? x1)
        have lY : Y < n := k6 Y (List.mem_of_getElem? x2)
        refine ⟨_, rfl, _, rfl, o, _, _, _, rfl, rfl, sl r2, at_nat x1, _, rfl, _, rfl, _, _, rfl, rfl, _, rfl, _, _, rfl, rfl, (by show (0 : Int) < (n : Int); omega), o, _, _, _, rfl, rfl, sl r2, (by show atI _ (((i : Int) + 1) % (n : Int)) = _; rw [← m1.1]; exact at_nat x2), sz2, fun z hz => ?_⟩
        have hzz : (upd H4 z (.tup [vn X, vn Y])) z = some (.tup ((kE X Y).map kV)) := upd_same
        have hdz := upd_new r1 hz (u := .tup [vn X, vn Y])
        have hoz := upd_new r2 hz (u := .tup [vn X, vn Y])
        have e5 := e4.more hz (o := .tup [vn X, vn Y])
        refine ⟨_, rfl, _, rfl, d, _, rfl, DGet.t hdz hzz, _, rfl, ?_⟩
        rw [encT_val]
        cases hl2 : lookT us' X Y with
        | some w0 => exact iteF ⟨us', _, _, rfl, e5, hdz, hoz, r3, r4, r5, by omega⟩
        | none =>
          refine iteT ⟨_, rfl, _, _, rfl, rfl, ⟨by decide, by decide⟩, _, rfl, _, _, rfl, rfl, .inl ⟨by decide, by decide⟩, _, _, rfl, rfl, _, rfl, _, _, rfl, ?_⟩
          refine ⟨_, rfl, _, rfl, d, _, rfl, DPut.t hdz hzz (szt (by rw [encT_len]; omega)), putT us' X Y (numb (c' / 7 + 13 * (i : Int)) wd), _, _, rfl, e5.mutd hd, ?_, ?_, putT_nd _ _ _ r3, ?_, fun k hk => putT_has (r5 k hk), ?_⟩
          · rw [upd_same, encT_put]
          · exact upd_at hoz od.symm
          · intro t ht
            rcases putT_mem ht with ht | rfl
            · exact r4 t ht
            · exact ⟨⟨lX, lY⟩, numb_lt _ _⟩
          · have := putT_len us' X Y (numb (c' / 7 + 13 * (i : Int)) wd)
            omega
      · rintro σ H2 ⟨us', vk, vp, rfl, e4, hdU, r2, r3, r4, r5, r6⟩
        have tg' : TG n us' := good_more g r5 r3 r4 (by omega)
        refine ⟨_, rfl, d, _, rfl, .inl hdU, fun kl bs hkl hbs => ?_⟩
        have hbs2 : TupsAt (upd H2 kl (.lst (bs.map V.ref))) bs (us'.map fun t => [V.int (t.1 : Int), V.int (t.2.1 : Int)]) := keys_tups (Evl.Ex.new hkl) hbs
        have hdW : (upd H2 kl (.lst (bs.map V.ref))) d = some (.dT (encT us')) := upd_new hdU hkl
        have bl := hbs2.length
        rw [List.length_map] at bl
        refine ⟨kl, rfl, ⟨_, sl upd_same⟩, fun D hD => ?_⟩
        refine lc_listR (xs := bs.map V.ref) (fun i y H => ∀ t, us'[i]? = some t → ∃ b, y = .ref b ∧ H b = some (.tup (vN t))) (fun i y H H' e h t ht => let ⟨b, h1, h2⟩ := h t ht; ⟨b, h1, e _ _ h2⟩) hD (sl upd_same) (by rw [List.length_map]; omega) ?_ ?_
        · intro i x H5 k hx e5 hacc hk
          obtain ⟨acc, hacc⟩ := hacc
          obtain ⟨b, r, rfl, _, hr2, hb⟩ := hbs2.get hx
          rw [List.getElem?_map] at hr2
          cases ht : us'[i]? with
          | none => rw [ht] at hr2; cases hr2
          | some t =>
            rw [ht] at hr2
            cases hr2
            have hb5 := e5.at hb
            have hd5 := e5.at hdW
            have hv : valV (encT us') (kE t.1 t.2.1) = some (V.int t.2.2) := by
              rw [encT_val, lookT_mem r3 (List.mem_of_getElem? ht)]
              rfl
            refine ⟨rfl, _, rfl, b, _, 0, _, rfl, rfl, stp hb5, atI_nat (j := 0) rfl, _, rfl, b, _, 1, _, rfl, rfl, stp hb5, atI_nat (j := 1) rfl, _, rfl, _, rfl, d, _, rfl, (hv ▸ DGet.t (k := kE t.1 t.2.1) hd5 hb5 : DGet H5 d (.ref b) (some (V.int t.2.2))), sz3, fun p hp => ?_⟩
            refine hk _ _ (Evl.Ex.new hp) fun t' ht' => ?_
            rw [ht] at ht'
            cases ht'
            exact ⟨p, rfl, del_tup upd_same (upd_new hacc hp)⟩
        · intro H5 ys e5 hD5 hl hr5
          obtain ⟨cs, rfl, hcs⟩ := ys_tups (H := del D H5) (ys := ys) (rs := us'.map vN) (by rw [hl, List.length_map, List.length_map]; omega) fun i y r hy hr6 => by
            rw [List.getElem?_map] at hr6
            cases ht : us'[i]? with
            | none => rw [ht] at hr6; cases hr6
            | some t =>
              rw [ht] at hr6
              cases hr6
              exact hr5 i y hy t ht
          exact q D H5 us' ((e4.more hkl).fresh hD) ((e4.more hkl).tr e5) ⟨cs, hD5, hcs.mono ex_del⟩ tg' r6
end
end WW

namespace WW
open PySem PySem.Spec PyProof.Rows L2
section
variable {P : Program} {w : World} {K : PySem.W.Frag} {mg : Str → Option Value} {base : Heap}
/-- a tie gone whose deed waits for another one too -/
theorem TG.pop {n : Nat} {us : List N3} (tg : TG n us) {i : Nat} {t : N3} (h : us[i]? = some t) (h2 : 1 < (us.filter fun u => u.2.1 == t.2.1).length) : TG n (us.eraseIdx i) := by
  have sub : ∀ u, u ∈ us.eraseIdx i → u ∈ us := fun u hu => List.mem_of_mem_eraseIdx hu
  have e : us.eraseIdx i = us.take i ++ us.drop (i + 1) := List.eraseIdx_eq_take_drop_succ us i
  refine ⟨⟨tg.g.n1, tg.g.n40, fun u hu => tg.g.lt u (sub u hu), ?_, fun b hb => ?_, Nat.le_trans (List.length_eraseIdx_le _ _) tg.g.len⟩, fun u hu => tg.p u (sub u hu)⟩
  · rw [← map_eraseIdx]
    exact tg.g.nd.eraseIdx i
  · obtain ⟨u, hu, eu⟩ := tg.g.has b hb
    rw [split_at h] at hu
    by_cases hb2 : b = t.2.1
    · subst hb2
      rw [split_at h, List.filter_append, List.filter_cons, if_pos (by simp), List.length_append, List.length_cons] at h2
      rw [e]
      by_cases h3 : 0 < ((us.take i).filter fun u => u.2.1 == t.2.1).length
      · obtain ⟨v, hv⟩ := List.exists_mem_of_length_pos h3
        obtain ⟨v1, v2⟩ := List.mem_filter.mp hv
        exact ⟨v, List.mem_append_left _ v1, by simpa using v2⟩
      · have h4 : 0 < ((us.drop (i + 1)).filter fun u => u.2.1 == t.2.1).length := by omega
        obtain ⟨v, hv⟩ := List.exists_mem_of_length_pos h4
        obtain ⟨v1, v2⟩ := List.mem_filter.mp hv
        exact ⟨v, List.mem_append_right _ v1, by simpa using v2⟩
    · refine ⟨u, ?_, eu⟩
      rw [e]
      rcases List.mem_append.mp hu with hu | hu
      · exact List.mem_append_left _ hu
      · rcases List.mem_cons.mp hu with rfl | hu
        · exact absurd eu.symm hb2
        · exact List.mem_append_right _ hu
theorem tiesBy_TG (ns : List Int) (start : Nat) {size count : Nat} (wd : Int) (h1 : 1 ≤ size) (h40 : size ≤ 40) (hc : count ≤ 100) : TG size (tiesBy ns start size count wd) :=
  ⟨tiesBy_good ns start wd h1 h40 hc, tiesBy_all ns start count wd h1⟩
def sp_law (K : PySem.W.Frag) : Sp := fun vs H Q _ => ∃ (l : Addr) (ns : List Int), vs = [.ref l] ∧ SqL K H l (ns.map V.int) ∧ ∀ H', Q (.bl true) H'
theorem sc_law : FnScope ["script", "size", "ties", "cell", "gone", "due", "a", "found", "tie"] ["script"] (defScope s_law) := ⟨rfl, rfl, rfl, by decide +kernel, rfl, by decide +kernel, by decide +kernel⟩
theorem c_law {f : Addr} {fd : FuncData} (T : Tx K mg) (F : FunD K "law" "law" (defArgs s_law) (defBody s_law) (defScope s_law) [] [] f fd) : FnOk P w K mg base CX0 10 f fd ["script"] (sp_law K) := by
  have S := sc_law
  refine F.ok (CX := CX0) S (fun vs H Q E h => ?_) (fun cdv A outer s H vs Q E hr h => ?_)
  · obtain ⟨l, ns, rfl, _⟩ := h
    rfl
  · obtain ⟨l, ns, rfl, hs, q⟩ := h
    have hu := hu_of hr
    have hu2 := hr.units
    refine ⟨_, (pss_cons
      (ps_setE (i := 1) S.nd rfl (Or.inl rfl) (pe_op op_add pe_int (pe_op op_mod (pcl (c_law_cell_at T) hr (by decide) passL (pa_cons (pv 0) (pa_cons pe_int pa_nil))) pe_int)))
      (pss_cons
      (ps_set (i := 2) S.nd rfl (Or.inr rfl) (pcl (c_law_ties_by T) hr (by decide) passL (pa_cons (pv 0) (pa_cons pe_int (pa_cons (pv 1) (pa_cons (pe_op op_mod (pcl (c_law_cell_at T) hr (by decide) passL (pa_cons (pv 0) (pa_cons pe_int pa_nil))) pe_int) (pa_cons (pcl (c_law_cell_at T) hr (by decide) passL (pa_cons (pv 0) (pa_cons pe_int pa_nil))) pa_nil)))))))
      (pss_cons
      (ps_set (i := 3) S.nd rfl (Or.inl rfl) (pcl (c_law_cell_at T) hr (by decide) passL (pa_cons (pv 0) (pa_cons pe_int pa_nil))))
      (Evl.pss_cut
      (ps_if (pt_cmpR op_eq (pe_op op_mod (pv 3) pe_int) pe_int (nomark _))
      (pss_one
        (ps_set (i := 2) S.nd rfl (Or.inr rfl) (pcl (c_law_ringed T) hr (by decide) passL (pa_cons (pv 2) (pa_cons (pv 1) (pa_cons (pe_op op_fdiv (pv 3) pe_int) (pa_cons (pcl (c_law_cell_at T) hr (by decide) passL (pa_cons (pv 0) (pa_cons pe_int pa_nil))) pa_nil)))))))
      pss_nil)
      (Evl.pss_cut
      (ps_if (pt_cmpR op_eq (pe_op op_mod (pv 3) pe_int) pe_int (nomark _))
      (pss_cons
        (ps_set (i := 4) S.nd rfl (Or.inr rfl) (pe_op op_mod (pe_op op_fdiv (pv 3) pe_int) (pe_callB (cLen K) rfl T.n_len (by decide +kernel) (pa_cons (pv 2) pa_nil))))
        (pss_one
        (ps_if (pt_cmpR op_gt (pe_callB (cLen K) rfl T.n_len (by decide +kernel) (pa_cons (pe_lc (own := [("tie", 8)]) (g := (gName 8)) rfl S.nd (piL K (pv 2)) (blkOk_by (by kernel_rfl)) (fun _ _ _ _ _ => (pg_name (i := 8) S.nd rfl (Or.inl rfl))) (fun _ _ _ _ _ => pts_one (pt_cmpR op_eq (pe_ix (ixT K) (pv 8) pe_int (fun _ _ => rfl)) (pe_ix (ixT K) (pe_ix (ixL K) (pv 2) (pv 4) (fun _ _ => rfl)) pe_int (fun _ _ => rfl)) (nomark _))) (fun _ _ _ _ _ => (pv 8))) pa_nil)) pe_int (nomark _))
        (pss_one
          (ps_expr (pBM K PySem.F.plainAttrs_list PySem.F.slot_list_pop PySem.F.type_list_pop mt_popAt (pv 2) (pa_cons (pv 4) pa_nil))))
        pss_nil)))
      pss_nil)
      (pss_cons
      (ps_set (i := 5) S.nd rfl (Or.inl rfl) pe_bl)
      (pss_cons
      (ps_for (passes_of rfl) rfl (pi_range1 rfl T.n_range (pa_cons (pv 1) pa_nil)) (pg_name (i := 6) S.nd rfl (Or.inl rfl))
      (pss_one
        (ps_if (pt_cmpR op_lt (pcl (c_law_from T) hr (by decide) passL (pa_cons (pv 2) (pa_cons (pv 6) pa_nil))) (pv 1) (nomark _))
        (pss_one
          (ps_set (i := 5) S.nd rfl (Or.inl rfl) pe_bl))
        pss_nil)))
      (pss_cons
      (ps_set (i := 7) S.nd rfl (Or.inl rfl) (pcl (c_one_piece T) hr (by decide) passL (pa_cons (pmk (c_Wheel T) hr (by decide) passL (pa_cons (pv 1) (pa_cons (pv 2) pa_nil))) pa_nil)))
      (pss_one
      (ps_ret (pe_and (pe_callB (cIsi K) rfl T.n_isinstance (by decide +kernel) (pa_cons (pv 7) (pa_cons (pe_bltn (v := .ty "bool") (u := .type "bool") rfl T.n_bool (by decide +kernel) rfl) pa_nil))) (pe_one (pe_cmpR op_eq (pv 7) (pv 5) (nomark _)))))))))))))), ?_⟩
    have h8 := mod_nat (c := cell ns 0) (n := 12) (by decide)
    have h13 := mod_nat (c := cell ns 1) (n := 13) (by decide)
    obtain ⟨size, hsz⟩ : ∃ z : Nat, (1 : Int) + cell ns 0 % 12 = (z : Int) := ⟨1 + (cell ns 0 % 12).toNat, by omega⟩
    have s1 : 1 ≤ size := by omega
    have s2 : size ≤ 12 := by omega
    have e13 : cell ns 1 % 13 = (((cell ns 1 % 13).toNat : Nat) : Int) := by omega
    refine ⟨_, rfl, l, ns, 0, rfl, hs, _, _, rfl, rfl, (by show (0 : Int) < 12; decide), _, _, rfl, rfl, _, congrArg V.int hsz, ?_⟩
    refine ⟨_, rfl, _, rfl, _, rfl, l, ns, 1, rfl, hs, _, _, rfl, rfl, (by show (0 : Int) < 13; decide), _, rfl, l, ns, 2, rfl, hs, ?_⟩
    have tg := tiesBy_TG ns 4 (count := (cell ns 1 % 13).toNat) (cell ns 2) s1 (by omega) (by omega)
    have tlen := tiesBy_len ns 4 size (cell ns 1 % 13).toNat (cell ns 2)
    refine ⟨l, ns, 4, size, (cell ns 1 % 13).toNat, cell ns 2, ?_, hs, s1, by omega, by omega, fun tp H1 htp e1 hT => ?_⟩
    · rw [← e13]
      rfl
    generalize tiesBy ns 4 size (cell ns 1 % 13).toNat (cell ns 2) = us at tg tlen hT
    have hs1 := e1.sq hs
    refine ⟨_, rfl, l, ns, 3, rfl, hs1, ?_⟩
    -- the ring
    refine ⟨fun σ' H' => ∃ (tp : Addr) (us : List N3), σ' = [some (.ref l), some (.int (size : Int)), some (.ref tp), some (.int (cell ns 3)), none, none, none, none, none] ∧ Ex H H' ∧ H tp = none ∧ TieL H' tp us ∧ TG size us ∧ us.length ≤ 60, ?_, ?_⟩
    · refine ⟨_, rfl, _, _, rfl, rfl, (by show (0 : Int) < 2; decide), rfl, _, rfl, iteI (fun e => ?_) (fun e => ?_)⟩
      · refine ⟨_, rfl, _, rfl, _, rfl, _, _, rfl, rfl, ⟨by decide, by decide⟩, _, rfl, l, ns, 2, rfl, hs1, tp, us, size, _, _, rfl, hT, tg, by omega, fun r H2 us2 hr e2 hT2 tg2 hl2 => ?_⟩
        exact ⟨r, us2, rfl, e1.tr e2, e1.fresh hr, hT2, tg2, by omega⟩
      · exact ⟨tp, us, rfl, e1, htp, hT, tg, by omega⟩
    clear hT tg tlen htp hs1 e1
    rintro σ' H2 ⟨tp, us, rfl, e1, htp, hT, tg, tlen⟩
    -- a tie gone
    refine ⟨fun σ' H' => ∃ (vg : Option V) (us : List N3), σ' = [some (.ref l), some (.int (size : Int)), some (.ref tp), some (.int (cell ns 3)), vg, none, none, none, none] ∧ Ex H H' ∧ TieL H' tp us ∧ TG size us, ?_, ?_⟩
    · refine ⟨_, rfl, _, _, rfl, rfl, (by show (0 : Int) < 4; decide), rfl, _, rfl, iteI (fun e => ?_) (fun e => ?_)⟩
      · obtain ⟨bs, hT1, hT2⟩ := id hT
        have bl := hT2.length
        rw [List.length_map] at bl
        have ul : 0 < us.length := by
          obtain ⟨t, ht, _⟩ := tg.g.has 0 tg.g.n1
          exact List.length_pos_of_mem ht
        have lm : (bs.map V.ref).length = us.length := by rw [List.length_map, bl]
        have m1 := mod_nat (c := cell ns 3 / 4) (n := (bs.map V.ref).length) (by omega)
        obtain ⟨j, ej⟩ : ∃ j : Nat, cell ns 3 / 4 % ((bs.map V.ref).length : Int) = (j : Int) := ⟨_, m1.1.symm⟩
        have jl : j < us.length := by have := m1.2; omega
        have hj : us[j]? = some us[j] := List.getElem?_eq_getElem jl
        refine ⟨_, rfl, _, _, rfl, rfl, ⟨by decide, by decide⟩, _, rfl, tp, _, rfl, .inl (sl hT1), _, _, rfl, rfl, (by show (0 : Int) < ((bs.map V.ref).length : Int); omega), ?_⟩
        refine ⟨_, rfl, tp, rfl, ⟨_, sl hT1⟩, fun D hD => ?_⟩
        generalize hX : us[j] = t0 at hj
        have hjb : ∃ b, (bs.map V.ref)[j]? = some (V.ref b) ∧ H2 b = some (.tup (vN t0)) := by
          have hb : (bs.map V.ref)[j]? = some (bs.map V.ref)[j] := List.getElem?_eq_getElem (by omega)
          obtain ⟨b, t, e5, e6, e7⟩ := TieL.get hT2 hb
          rw [hj] at e6
          cases e6
          exact ⟨b, by rw [hb, e5], e7⟩
        obtain ⟨b0, hb0, hb0t⟩ := hjb
        refine lc_listF (fun i => (us.getD i (0, 0, 0)).2.1 == t0.2.1) (fun _ _ _ => True) (fun _ _ _ _ _ h => h) hD (sl hT1) (by omega) ?_ ?_
        · intro i x H3 kT kF hx e3 _ hT' hF'
          obtain ⟨b, t, rfl, ht, hb⟩ := TieL.get hT2 hx
          have hg : us.getD i (0, 0, 0) = t := by rw [List.getD_eq_getElem?_getD, ht]; rfl
          refine ⟨rfl, _, rfl, b, _, 1, _, rfl, rfl, stp (e3 _ _ hb), atI_nat (j := 1) rfl, _, rfl, _, rfl, tp, _, _, _, rfl, rfl, sl (e3 _ _ hT1), (by show atI _ (cell ns 3 / 4 % ((bs.map V.ref).length : Int)) = _; rw [ej]; exact atI_nat hb0), b0, _, 1, _, rfl, rfl, stp (e3 _ _ hb0t), atI_nat (j := 1) rfl, rfl, _, rfl, iteI (fun e5 => ?_) (fun e5 => ?_)⟩
          · refine ⟨_, rfl, hT' ?_ _ _ (ex0 _) trivial⟩
            show (us.getD i (0, 0, 0)).2.1 == t0.2.1
            rw [hg]
            have : t.2.1 = t0.2.1 := by omega
            simpa using this
          · refine hF' ?_ _ (ex0 _)
            show ((us.getD i (0, 0, 0)).2.1 == t0.2.1) = false
            rw [hg]
            exact beq_eq_false_iff_ne.mpr fun z => e5 (by rw [z])
        · intro H3 ys e3 hD3 hl _
          rw [lm, range_filter (fun u : N3 => u.2.1 == t0.2.1) (0, 0, 0) us] at hl
          refine ⟨D, _, rfl, .inl (sl hD3), _, _, rfl, rfl, _, rfl, iteD (fun e5 => ?_) (fun e5 => ?_)⟩
          · have hl0 : (us.filter fun u => u.2.1 == t0.2.1).length > 1 := by omega
            refine ⟨_, rfl, .inl ⟨rfl, _, sl (e3 _ _ hT1)⟩, _, rfl, tp, _, _, j, _, rfl, rfl, e3 _ _ hT1, ?_, ?_, ?_, hb0, ?_⟩
            · show -(2 ^ 63) ≤ cell ns 3 / 4 % ((bs.map V.ref).length : Int)
              omega
            · show cell ns 3 / 4 % ((bs.map V.ref).length : Int) < 2 ^ 63
              omega
            · show seqIndex? (cell ns 3 / 4 % ((bs.map V.ref).length : Int)) _ = some j
              rw [ej]
              exact PySem.StrLaws.seqIndex_nonneg (by omega) (by omega)
            · refine ⟨_, us.eraseIdx j, rfl, (e1.tr e3).mutd htp, ⟨bs.eraseIdx j, by rw [upd_same, map_eraseIdx], ?_⟩, tg.pop hj hl0⟩
              rw [← map_eraseIdx]
              have gen : ∀ {as : List Addr} {rs : List (List V)} (i : Nat), TupsAt H3 as rs → TupsAt (upd H3 tp (.lst ((bs.map V.ref).eraseIdx j))) (as.eraseIdx i) (rs.eraseIdx i) := by
                intro as rs i hh
                have k : ∀ a r, H3 a = some (.tup r) → upd H3 tp (.lst ((bs.map V.ref).eraseIdx j)) a = some (.tup r) := fun a r hc => upd_at hc (ne_of hc (e3 _ _ hT1) (by intro z; cases z))
                induction hh generalizing i with
                | nil => exact .nil
                | cons h t ih =>
                  cases i with
                  | zero => exact L2.Paired.mapP t k
                  | succ i => exact .cons (k _ _ h) (ih i)
              exact gen j (hT2.mono e3)
          · exact ⟨_, us, rfl, e1.tr e3, hT.mono e3, tg⟩
      · exact ⟨_, us, rfl, e1, hT, tg⟩
    clear hT tg tlen e1
    rintro σ' H3 ⟨vg, us, rfl, e1, hT, tg⟩
    have g := tg.g
    -- due
    refine ⟨_, rfl, (size : Int), rfl, by omega, by omega, for_rng (n := size) (fun i σ' H' => ∃ (c : Bool) (va : Option V), σ' = [some (.ref l), some (.int (size : Int)), some (.ref tp), some (.int (cell ns 3)), vg, some (.bl c), va, none, none] ∧ Ex H3 H' ∧ (c = true ↔ ∀ a, a < i → ∀ b, b < size → Rch us a b)) ⟨true, _, rfl, ex0 _, ⟨fun _ a ha => by omega, fun _ => rfl⟩⟩ ?_ ?_⟩
    · rintro i σ' H4 hi ⟨c, va, rfl, e4, hc⟩
      refine ⟨_, rfl, _, rfl, tp, size, us, i, rfl, hT.mono e4, g.lt, by omega, hi, fun H5 fs e5 hF => ⟨_, rfl, _, _, rfl, rfl, _, rfl, iteD (fun e => ?_) (fun e => ?_)⟩⟩
      · refine ⟨false, _, rfl, e4.tr e5, ⟨fun z => Bool.noConfusion z, fun z => ?_⟩⟩
        have := hF.all.mpr (z i (by omega))
        omega
      · refine ⟨c, _, rfl, e4.tr e5, hc.trans ⟨fun z a ha b hb => ?_, fun z a ha => z a (by omega)⟩⟩
        by_cases hai : a = i
        · rw [hai]
          exact hF.all.mp (by omega) b hb
        · exact z a (by omega) b hb
    rintro σ' H4 ⟨c, va, rfl, e4, hc⟩
    refine ⟨_, rfl, _, rfl, fun x dx hx hdx _ => mk_wheel hx hdx g (hT.mono e4) fun H5 e5 hW => ⟨rfl, ?_⟩⟩
    refine ⟨x, size, us, rfl, hW, fun c2 H6 hc2 e6 => ?_⟩
    have ecc : c2 = c := Bool.eq_iff_iff.mpr (hc2.trans ((show OnePiece us size ↔ _ from ⟨fun z a ha b hb => z a b ha hb, fun z a b ha hb => z a ha b hb⟩).trans hc.symm))
    refine ⟨_, rfl, _, _, _, _, true, rfl, .ty _, .base (.bl _), k_bb, true, rfl, iteT ⟨_, rfl, _, rfl, rfl, ?_⟩⟩
    rw [ecc, decide_eq_true rfl]
    exact q _
end
end WW

namespace WW
open PySem PySem.Spec PyProof.Rows L2
def loose0 : List Str := ["reached", "one_piece", "WheelError", "NoDeed", "TieTwice", "Idle", "MOST", "Wheel", "_law_cell_at", "_law_number", "_law_ties_by", "_law_ringed", "_law_from"]
def looseL : List Str := loose0
abbrev RL : PySem.W.OpenRow := PySem.W.OpenLaw.row PySem.Challenge.rw_waitwheel_k07_in_one_piece
abbrev hkL : PySem.W.Hook := hookE 5 faL fnL exL
def obL (s : PySem.W.SharedT) : He.AlD × Bool := obsEG 5 faL fnL exL (HandSHeadRun.getT s)
theorem obL_eq (s : PySem.W.SharedT) : obL s = hkL.obs s.abs := obsEG_eq (HandSHeadRun.getT_eq s)
theorem runL (w : World) : HandSHeadRun.RunEq RL (PySem.W.view RL.prog [17]) hkL obL 4000 looseL w := by
  intro os
  kernel_rfl
end WW


open PySem PySem.W PySem.Calls PyProof.Rows
set_option maxRecDepth 100000 in
set_option maxHeartbeats 0 in
theorem PySem.Challenge.cw_waitwheel_k07_in_one_piece_holds : PySem.Challenge.rw_waitwheel_k07_in_one_piece.Holds := by
  w_on; o_law
  refine HandSHeadRun.head_any (r := OpenLaw.row PySem.Challenge.rw_waitwheel_k07_in_one_piece) (q := view (OpenLaw.row PySem.Challenge.rw_waitwheel_k07_in_one_piece).prog [17]) (H := WW.hkL) (ob := WW.obL) (M := 4000) (loose := WW.looseL) (d := HandSHeadRun.topDef (OpenLaw.row PySem.Challenge.rw_waitwheel_k07_in_one_piece).prog 17) (kwd := []) WW.obL_eq
    (by kernel_rfl) (fun s => by kernel_rfl) WW.runL (by kernel_rfl) (by kernel_rfl) (by kernel_rfl) (by rfl) (by first | assumption | decide +kernel) (by decide +kernel) ⟨rfl, rfl, rfl, rfl, rfl, by decide +kernel⟩ ?hw ?hc
  case hw => w_witness2
  case hc =>
    refine L2.walk_ofE (l := PySem.Challenge.rw_waitwheel_k07_in_one_piece) (n := 63) (k := 10) (x := "script") (CX := L2.CX0) rfl (by decide) (by kernel_rfl) ⟨rfl, by decide, by decide⟩ ?F (fun _ _ _ _ z => z)
    intro w mg fa h Y G hmg0
    obtain ⟨K, KX, c, ex⟩ := Y
    have hmg : mg ("law" : PySem.Str) = some (.ref fa) := by
      have e : (HandSHeadRun.topDef (OpenLaw.row PySem.Challenge.rw_waitwheel_k07_in_one_piece).prog 17).name = ("law" : PySem.Str) := by kernel_rfl
      rw [← e]
      exact hmg0
    have T : WW.Tx K mg := ⟨c, ex, ⟨h, KX, G⟩⟩
    obtain ⟨fd, F⟩ := T.f_law
    have e := hmg.symm.trans T.g_law
    cases e
    have b := L2.FunD.bindsA (ps := ["script"]) F fun _ _ _ _ _ _ us hl => match us, hl with | [_], _ => rfl
    exact ⟨K, fd, WW.sp_law K, KX, fun s v => b s [v] rfl, fun H a ns hl _ hS => ⟨a, ns, rfl, hS, fun _ => rfl⟩, fun base _ _ => WW.c_law T F⟩

