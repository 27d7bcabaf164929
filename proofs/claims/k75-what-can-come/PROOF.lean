import PyProof.Rows.All
import Wide.All
import OpenK.AllK
import Wide.FinOn
import HandS.ForMost
import HandS.Exc
import HandS.TryOnly
import HandS.ExcOwn
import HandS.ExcInit
import HandS.ExcField
import HandS.WordsExc
import HandS.IsInst
import PySem.Challenge.RW_nodoubt_k75_whole_what_can_come
set_option Elab.async false
set_option linter.all false
set_option maxRecDepth 100000
set_option maxHeartbeats 3900000
/-! The text by places; short words for calls; three rules that the layer lacks. -/
namespace N75
open PySem PySem.Spec PyProof.Rows L2

/-! ### 1. the text by places -/
def top (i : Nat) : Stmt := PySem.Challenge.pw_nodoubt_k75_whole_what_can_come.main.body.getD i (.Pass ⟨0, 0, 0, 0⟩)
abbrev sTextI : Stmt := inClass (top 3) 0
abbrev sCheck : Stmt := top 16
abbrev sKindOf : Stmt := top 17
abbrev sScan : Stmt := top 18
abbrev sOpened : Stmt := top 20
abbrev sRowOf : Stmt := top 21
abbrev sShown : Stmt := top 26
abbrev sInOrder : Stmt := top 27
abbrev sJoined : Stmt := top 28
abbrev sAheadI : Stmt := inClass (top 29) 0
abbrev sParI : Stmt := inClass (top 30) 0
abbrev sLook : Stmt := inClass (top 30) 1
abbrev sTake : Stmt := inClass (top 30) 2
abbrev sItem : Stmt := inClass (top 30) 3
abbrev sWhole : Stmt := inClass (top 30) 4
abbrev sWord : Stmt := inClass (top 30) 5
abbrev sNext : Stmt := top 31
abbrev sMeasures : Stmt := top 32
abbrev sWithin : Stmt := top 33
abbrev sReadE : Stmt := top 34
abbrev sReadL : Stmt := top 35
abbrev sReadW : Stmt := top 36
abbrev sStream : Stmt := top 38
abbrev sDraw : Stmt := top 39
abbrev sIsInt : Stmt := top 40
abbrev sEqual : Stmt := top 41
abbrev sPick : Stmt := top 42
abbrev sLaid : Stmt := top 43
abbrev sLShown : Stmt := top 44
abbrev sKinds : Stmt := top 45
abbrev sListed : Stmt := top 46
abbrev sOptions : Stmt := top 47
abbrev sStep : Stmt := top 48
abbrev sDue : Stmt := top 49
abbrev sTold : Stmt := top 50
abbrev sToken : Stmt := top 51
abbrev sIsRight : Stmt := top 52
abbrev sGoesOn : Stmt := top 53
abbrev sLaw : Stmt := top 54

/-! ### 2. a def as it stands, a def that keeps a promise -/
/-- the def x of the module stands there with the body of st -/
def Dfn (K : PySem.W.Frag) (mg : Str → Option Value) (x : Str) (st : Stmt) (ps : List Str) : Prop := ∃ f fd, mg x = some (.ref f) ∧ Fun K x x st f fd ∧ Binds K fd ps []
/-- the method m of the class at C stands there -/
def DfnM (K : PySem.W.Frag) (C : Addr) (m qual : Str) (st : Stmt) (ps : List Str) : Prop := ∃ f fd, Meth K C m f ∧ Fun K m qual st f fd ∧ Binds K fd ps []
/-- the def x keeps sp -/
def Cal (P : Program) (w : World) (K : PySem.W.Frag) (mg : Str → Option Value) (base : Heap) (CX : CXT) (k : Nat) (x : Str) (ps : List Str) (sp : Sp) : Prop :=
  ∃ f fd, FnOk P w K mg base CX k f fd ps sp ∧ mg x = some (.ref f) ∧ PySem.W.keepIn K (.ref f) = true ∧ Binds K fd ps []
/-- the method m keeps sp -/
def CalM (P : Program) (w : World) (K : PySem.W.Frag) (mg : Str → Option Value) (base : Heap) (CX : CXT) (k : Nat) (C : Addr) (m : Str) (ps : List Str) (sp : Sp) : Prop :=
  ∃ f fd, FnOk P w K mg base CX k f fd ps sp ∧ Meth K C m f ∧ Binds K fd ps []
theorem Cal.mono {P : Program} {w : World} {K : PySem.W.Frag} {mg : Str → Option Value} {base : Heap} {CX : CXT} {j k : Nat} {x : Str} {ps : List Str} {sp : Sp} (c : Cal P w K mg base CX j x ps sp) (h : j ≤ k) : Cal P w K mg base CX k x ps sp := by
  obtain ⟨f, fd, F, r⟩ := c
  exact ⟨f, fd, F.mono h, r⟩
theorem CalM.mono {P : Program} {w : World} {K : PySem.W.Frag} {mg : Str → Option Value} {base : Heap} {CX : CXT} {j k : Nat} {C : Addr} {x : Str} {ps : List Str} {sp : Sp} (c : CalM P w K mg base CX j C x ps sp) (h : j ≤ k) : CalM P w K mg base CX k C x ps sp := by
  obtain ⟨f, fd, F, r⟩ := c
  exact ⟨f, fd, F.mono h, r⟩
section
variable {X : Cx} {CX : CXT} {k : Nat} {C : Addr} {ps : List Str} {sp : Sp} {E : XK} {x m : Str} {p pos apos : Pos} {e o : Expr} {es : List Expr} {te ta : TE} {t : TA}
theorem pe_cal (c : Cal X.prog X.w X.K X.mg X.base CX k x ps sp) (hr : Room k X.A) (hx : Passes CX X E) (ha : PA X (e :: es) t) (hg : Gl X x := by rfl) (hdb : (x == ("__debug__" : Str)) = false := by decide) (he : starEach (e :: es) X.env = (false, eval e X.env) :: starEach es X.env := by rfl)
    (hpl : (backTo pos (starEach es X.env)).any (·.1) = false := by rfl) :
    PE X (.Call (.Name x p) (e :: es) [] pos) (tCall sp [] E t) := by
  obtain ⟨f, fd, F, hm, hk, hb⟩ := c
  exact pe_call F hr hg hm hk hb .nil hx ha hdb he hpl
theorem pe_cal0 (c : Cal X.prog X.w X.K X.mg X.base CX k x ps sp) (hr : Room k X.A) (hx : Passes CX X E) (hg : Gl X x := by rfl)
    (hdb : (x == ("__debug__" : Str)) = false := by decide) : PE X (.Call (.Name x p) [] [] pos) (tCall sp [] E tNil) := by
  obtain ⟨f, fd, F, hm, hk, hb⟩ := c
  exact pe_call0 F hr hg hm hk hb .nil hx hdb
theorem pe_cm {pl : Sem Bool} (c : CalM X.prog X.w X.K X.mg X.base CX k C m ps sp) (cl : Cls X.K C) (hr : Room k X.A) (hx : Passes CX X E) (ho : PE X o ta) (ha : PA X (e :: es) t)
    (hst : starEach (e :: es) X.env = (false, eval e X.env) :: starEach es X.env := by rfl)
    (hpl : (backTo pos (starEach es X.env)).any (·.1) = false := by rfl) (ht : eval (.Call (.Attribute o m apos) (e :: es) [] pos) X.env = (do let ov ← eval o X.env; standAt apos.atName; let (f, first) ← holding [ov] (getMethod ov m pl); callWith pos f first (backTo pos (starEach (e :: es) X.env)) (backToKw pos (keywordEach [] X.env))) := by rfl) :
    PE X (.Call (.Attribute o m apos) (e :: es) [] pos) (tMeth C m sp [] E ta t) := by
  obtain ⟨f, fd, F, hm, hb⟩ := c
  exact pe_meth ho cl hm F hr hb .nil hx ha hst hpl ht
theorem pe_cm0 {pl : Sem Bool} (c : CalM X.prog X.w X.K X.mg X.base CX k C m ps sp) (cl : Cls X.K C) (hr : Room k X.A) (hx : Passes CX X E) (ho : PE X o ta)
    (ht : eval (.Call (.Attribute o m apos) [] [] pos) X.env = (do let ov ← eval o X.env; standAt apos.atName; let (f, first) ← holding [ov] (getMethod ov m pl); callWith pos f first (backTo pos (starEach [] X.env)) (backToKw pos (keywordEach [] X.env))) := by rfl) :
    PE X (.Call (.Attribute o m apos) [] [] pos) (tMeth C m sp [] E ta tNil) := by
  obtain ⟨f, fd, F, hm, hb⟩ := c
  exact pe_meth0 ho cl hm F hr hb .nil hx ht
end

/-! ### 3. a constant of the module -/
/-- the module's name x holds v -/
def GlV (mg : Str → Option Value) (x : Str) (v : V) : Prop := ∃ u, mg x = some u ∧ RelV v u
theorem pe_g {X : Cx} {x : Str} {v : V} {pos : Pos} (g : GlV X.mg x v) (hg : Gl X x := by rfl) (hd : (x == ("__debug__" : Str)) = false := by decide) : PE X (.Name x pos) (tC v) := by
  obtain ⟨u, hm, r⟩ := g
  exact pe_glob hg hm r hd
/-- a tuple of the written part -/
def KTup (K : PySem.W.Frag) (a : Addr) (xs : List V) : Prop := ∃ (o : Obj) (its : Array Value) (n : Nat), K.lookup a = some o ∧ o.cls = .type "tuple" ∧ o.data = .seq its n ∧ its.size ≤ sizeLine ∧ Vals xs its.toList
theorem KTup.sq {K : PySem.W.Frag} {a : Addr} {xs : List V} (h : KTup K a xs) (H : Hp) : SqT K H a xs := .inr h
theorem ktup_mk {K : PySem.W.Frag} {a : Addr} {xs : List V} {us : List Value} {od : Option Addr} {n : Nat} {sl : Array (Option Value)} (l : K.lookup a = some ⟨.type "tuple", od, .seq us.toArray n, sl⟩) (r : Vals xs us) (h : us.length ≤ 1000) : KTup K a xs :=
  ⟨_, _, _, l, rfl, rfl, by rw [List.size_toArray]; exact Nat.le_of_lt (small1000 h), by simpa using r⟩
theorem SqT.grow {K : PySem.W.Frag} {H H' : Hp} {a : Addr} {xs : List V} (e : Same H H') : SqT K H a xs → SqT K H' a xs
  | .inl (.inl z) => .inl (.inl (e _ _ z))
  | .inl (.inr ⟨o, z⟩) => .inl (.inr ⟨o, e _ _ z⟩)
  | .inr z => .inr z

/-! ### 4. list.extend(a tuple) -/
theorem ext_tup_run (l b : Addr) (us ws : Array Value) (n m : Nat) (bd : Option Addr) (bs : Array (Option Value)) (short : ¬(!us.isEmpty && Builtin.List.listTooLong (us.size + ws.size)) = true) (z1 : us.size ≤ sizeLine) (z2 : us.size + ws.size ≤ sizeLine + 1) :
    Meets (Builtin.«list.extend» ⟨[.ref l, .ref b], []⟩) (fun _ R s => s.heap.get? l = some { cls := .type "list", dict := none, data := .seq us n, slots := #[] } ∧ s.heap.get? b = some { cls := .type "tuple", dict := bd, data := .seq ws m, slots := bs } ∧ R (.ok (.ret Value.none)) { s with heap := s.heap.update l (Obj.mapSeq fun x => x ++ ws), toks := s.toks }) := by
  refine .of_wp fun prog w A R s0 pre => ?_
  obtain ⟨hp, g, d, tk, os⟩ := s0
  obtain ⟨hl, hb, q⟩ := pre
  have z3 : (us ++ ws).size ≤ sizeLine + 1 := by
    rw [Array.size_append]
    exact z2
  have subs := And.intro AutoSeq1.sub_tuple_tuple (And.intro AutoSeq1.sub_list_list (And.intro AutoSeq1.sub_tuple_list AutoSeq1.sub_list_tuple))
  obtain ⟨f2, f3, f4, f5⟩ := subs
  have f1 := AutoSeq1.idx_int
  wp_walk using (wpAny_updateSeq hl rfl (hz := z1) (_hz' := z3)), AutoSeq1.wpAny_loadPart' hl, AutoSeq1.wpAny_loadPart' hb
  exact ⟨_, rfl, q⟩
section
variable {X : Cx}
def rExtT (K : PySem.W.Frag) : V → List V → Hp → VK → Prop := fun x vs H Q => ∃ l b xs zs, x = .ref l ∧ vs = [.ref b] ∧ H l = some (.lst xs) ∧ SqT K H b zs ∧ xs.length + zs.length ≤ sizeLine ∧ Q .non (upd H l (.lst (xs ++ zs)))
theorem mt_extendT : MtM X "list.extend" (rExtT X.K) := fun pins s σ H x vs v us Q I rx rv ask => by
  obtain ⟨l, b, xs, zs, rfl, rfl, atL, atB, few, k⟩ := ask
  cases rx
  obtain ⟨u, rfl, ru⟩ := rv.one
  cases ru
  obtain ⟨_, ls, n, r, len1, at1⟩ := I.lstM atL
  obtain ⟨bs, r2, ⟨⟨bc, bd, bdat, bsl⟩, at2, c2, m, d2⟩, _⟩ := I.tuple atB
  dsimp only at c2 d2
  subst c2 d2
  have len2 := r2.length
  have two : ls.toArray.size + bs.toArray.size ≤ sizeLine := by
    rw [List.size_toArray, List.size_toArray, ← len1, ← len2]
    exact few
  have short : ¬ (!ls.toArray.isEmpty && Builtin.List.listTooLong (ls.toArray.size + bs.toArray.size)) = true := fun z => by
    rw [notLongL two, Bool.and_false] at z
    cases z
  have run := ext_tup_run l b ls.toArray bs.toArray n m bd bsl short (Nat.le_trans (Nat.le_add_right _ _) two) (Nat.le_succ_of_le two)
  refine call_meets F.slot_list_extend ⟨_, at1, rfl⟩ F.entry_list_extend (F.args_list_extend_2 _ _) run ⟨at1, at2, .non, _, I.lset (its' := ls ++ bs) atL at1 (by simp) (r.append r2) ?_, rfl, k⟩
  rw [List.length_append]
  exact few
end

/-! ### 5. enumerate(a text) -/
/-- the signs of the text x, each in a new pair with its place -/
def Itx (x : Str) : It := ⟨fun i _ => i < x.cps.size, fun i H v H' => ∃ T c, v = .ref T ∧ H T = none ∧ x.cps[i]? = some c ∧ H' = upd H T (.tup [.int (i : Nat), .str ⟨#[c]⟩]), fun i _ => x.cps.size ≤ i⟩
theorem draws_str {prog : Program} {w : World} {A : Around} (hh : A.handled = none) (si : Addr) (x : Str) (t : Tok) : Draws prog w A si [si] x.cps.size (fun i v => ∃ c u, x.cps[i]? = some c ∧ v = .str ⟨#[c]⟩ u) (fun i h => h.IsStrIter si (strIterType x) x t i) := by
  by_cases ha : x.cps.all (· < 128) = true
  · have e : strIterType x = "str_ascii_iterator" := if_pos ha
    rw [e]
    exact Draws.strAscii hh si x t
  · have e : strIterType x = "str_iterator" := if_neg ha
    rw [e]
    exact Draws.strWide hh si x t
/-- which of the two objects of an enumerate an address is -/
theorem two_of {a b c : Addr} (h : c ∈ [a, b]) {Pr : Addr → Prop} (ha : Pr a) (hb : Pr b) : Pr c := by
  rcases List.mem_cons.mp h with z | h2
  · rw [z]
    exact ha
  · rw [List.mem_singleton.mp h2]
    exact hb
/-- how an enumerate at en over a text's iterator at si stands before its turn i -/
structure EnS (x : Str) (t : Tok) (en si : Addr) (i : Nat) (h : Heap) : Prop where
  enu : ∃ old, IsEnum h en si ((i : Nat) : Int) old
  ite : h.IsStrIter si (strIterType x) x t i
  ne : en ≠ si
  le : i ≤ x.cps.size
theorem EnS.old {x : Str} {t : Tok} {en si : Addr} {i : Nat} {s : Heap} (z : EnS x t en si i s) : en < s.objs.size ∧ si < s.objs.size := by
  obtain ⟨_, z1⟩ := z.enu
  obtain ⟨_, z2, _⟩ := z.ite
  exact ⟨Heap.lt_size z1, Heap.lt_size z2⟩
theorem turn_enumS {P : Program} {w : World} {K : PySem.W.Frag} {elts : List Expr} {kk : Nat} {tpos : Pos} (x : Str) (t : Tok) (en si : Addr) : Turn P w K (.Tuple elts kk tpos) (Itx x) [en, si] en (fun i h => EnS x t en si i h) where
  mem := List.mem_cons_self
  obj := fun i h st b hb => by
    obtain ⟨_, z1⟩ := st.enu
    obtain ⟨o, z2, _, z3⟩ := st.ite
    exact two_of (Pr := fun b => ∃ o, h.get? b = some o ∧ ∀ v : Option Value, o.data ≠ Data.cell v) hb ⟨_, z1, fun v q => nomatch q⟩ ⟨o, z2, fun v q => by rw [z3] at q; cases q⟩
  keep := fun i h h' st k => by
    obtain ⟨old, z1⟩ := st.enu
    obtain ⟨o, z2, z3⟩ := st.ite
    exact ⟨⟨old, k en List.mem_cons_self _ z1⟩, ⟨o, k si (List.mem_cons_of_mem _ List.mem_cons_self) o z2, z3⟩, st.ne, st.le⟩
  item := by
    rintro X rfl rfl rfl calm i pins s σ H E I free st more
    obtain ⟨lt1, lt2⟩ := st.old
    obtain ⟨old, z1⟩ := st.enu
    refine wpAny_pyNext_enum_itemD (draws_str (A := X.A.in1) (I.ok.hd calm) si x t) z1 st.ite more st.ne (fun z => st.ne (List.mem_singleton.mp z)) fun u h1 tk pu z4 si1 new1 _ kept => ?_
    obtain ⟨c, t2, hcx, rfl⟩ := pu
    refine ⟨_, rfl, wpAny_letOwnedTupleGo_enum (s := { s with heap := h1, toks := tk + 1 }) z4 fun h2 z5 sb => ?_⟩
    have at2 : h2.get? s.heap.objs.size = some { cls := .type "tuple", data := .seq #[.int i tk, .str ⟨#[c]⟩ t2] } := Eq.trans (sb.2 _ (Nat.ne_of_gt lt1)) new1
    have pair : ObjOk X.prog X.w (upd H s.heap.objs.size (.tup [.int (i : Nat), .str ⟨#[c]⟩])) h2 s.heap.objs.size (.tup [.int (i : Nat), .str ⟨#[c]⟩]) :=
      ⟨by show 2 ≤ sizeLine; decide, [.int i tk, .str ⟨#[c]⟩ t2], .cons ⟨_, rfl⟩ (.cons ⟨_, rfl⟩ .nil), ⟨_, at2, rfl, _, rfl⟩⟩
    have same : ∀ b o, ¬ b ∈ [en, si] → s.heap.get? b = some o → b ∈ [en, si] ∨ h2.get? b = some o := fun b o nb q => by
      have n1 : b ≠ en := fun z => nb (by rw [z]; exact List.mem_cons_self)
      have n2 : b ≠ si := fun z => nb (by rw [z]; exact List.mem_cons_of_mem _ List.mem_cons_self)
      exact .inr ((sb.2 b n1).trans (kept b o n1 n2 q))
    have I1 : Inv X pins σ (upd H s.heap.objs.size (.tup [.int (i : Nat), .str ⟨#[c]⟩])) { s with heap := h2, toks := tk + 1 } :=
      I.turnedNew (ch := [en, si]) (fun b o nb q => (same b o nb q).resolve_left nb) free (Nat.le_refl _) pair
    refine ⟨.ref s.heap.objs.size, _, I1, rfl, ⟨_, c, rfl, I.hok.fresh (Nat.le_refl _), hcx, rfl⟩, ⟨⟨.str ⟨#[c]⟩ t2, ?_⟩, ?_, st.ne, more⟩, fun b hb => ?_⟩
    · rw [show (((i + 1 : Nat)) : Int) = ((i : Nat) : Int) + 1 from by omega]
      exact z5
    · obtain ⟨o, z6, z7⟩ := si1
      exact ⟨o, (sb.2 si (Ne.symm st.ne)).trans z6, z7⟩
    · have lt3 : b < s.heap.objs.size := two_of (Pr := fun b => b < s.heap.objs.size) hb lt1 lt2
      rw [upd_ne (fun z => Nat.lt_irrefl _ (by rw [z] at lt3; exact lt3))]
      exact (free b hb).1
  done := by
    rintro X rfl rfl rfl calm i pins s σ H E I free st out
    obtain ⟨old, z1⟩ := st.enu
    have all : i = x.cps.size := Nat.le_antisymm st.le out
    subst all
    obtain ⟨g0, g1, g2, g3, g4, g5⟩ := free si (List.mem_cons_of_mem _ List.mem_cons_self)
    exact wpAny_pyNext_enum_endD (draws_str (A := X.A.in1) (I.ok.hd calm) si x t) z1 st.ite fun h' kept => ⟨rfl, I.turned (t' := s.toks) (fun b o nb q => kept b o nb q) g0 g1 g3 g4 g5⟩
  self := fun _ _ _ _ _ st q => Exists.elim st.enu fun _ z1 => wpAny_pyIter_enum z1 q
def iEnumS (ta : TA) : TI := fun σ H R => ta σ H fun vs H1 => ∃ x, vs = [.str x] ∧ R (Itx x) H1
theorem pi_enumS {X : Cx} {e : Expr} {ta : TA} {p pos tpos : Pos} {elts : List Expr} {kk : Nat} (hg : Gl X "enumerate") (hm : X.mg "enumerate" = none) (ha : PA X [e] ta) (hs : starEach [e] X.env = [(false, eval e X.env)] := by rfl) : PI X (.Tuple elts kk tpos) (.Call (.Name "enumerate" p) [e] [] pos) (iEnumS ta) :=
  ⟨fun pins s σ H R I ask => Call_ (ld_blt I hg hm boot_enumerate (PyProof.Rows.callWith_type1 (thn (ha.run pos pins s σ H _ I ask) fun us s1 got => by
    obtain ⟨vs, H1, I1, r1, x, rfl, q⟩ := got
    cases r1 with
    | cons r rr =>
      cases rr
      obtain ⟨t, rfl⟩ := r
      refine call_enumerate_str fun h' z1 z2 _ kept => wpAny_pyIter_enum z1 ?_
      have old : ∀ b ∈ [s1.heap.objs.size + 1, s1.heap.objs.size], s1.heap.objs.size ≤ b := fun b hb => two_of (Pr := fun b => s1.heap.objs.size ≤ b) hb (Nat.le_succ _) (Nat.le_refl _)
      exact ⟨s1.heap.objs.size + 1, [s1.heap.objs.size + 1, s1.heap.objs.size], _, _, H1, rfl, I1.kept (t' := s1.toks) kept, turn_enumS x t (s1.heap.objs.size + 1) s1.heap.objs.size,
        ⟨⟨.none, z1⟩, z2, Nat.succ_ne_self _, Nat.zero_le _⟩, fun b hb => I1.fpOk (old b hb) (I1.hok.fresh (old b hb)), q⟩) hs rfl))⟩
/-- over enumerate(x): Pv by the turn -/
theorem for_enumS {x : Str} {g : TG} {tb : TS} {D : Ends} {σ : L2.St} {H : Hp} (Pv : Nat → L2.St → Hp → Prop) (h0 : Pv 0 σ H)
    (hs : ∀ i c σ H T, x.cps[i]? = some c → Pv i σ H → H T = none → g (.ref T) σ (upd H T (.tup [.int (i : Nat), .str ⟨#[c]⟩])) fun σ2 H2 => tb { D with nx := Pv (i + 1), ct := Pv (i + 1), bk := D.nx } σ2 H2) (hd : ∀ σ H, Pv x.cps.size σ H → D.nx σ H) : ∃ W : Nat → Nat → L2.St → Hp → Prop, (∃ m, W 0 m σ H) ∧ ∀ i m σ H, W i m σ H →
      ((Itx x).stop i H ∧ D.nx σ H) ∨ ((Itx x).go i H ∧ ∃ N : L2.St → Hp → Prop, (∀ σ' H', N σ' H' → ∃ m', m' < m ∧ W (i + 1) m' σ' H') ∧ ∀ v H', (Itx x).yld i H v H' → g v σ H' fun σ2 H2 => tb { D with nx := N, ct := N, bk := D.nx } σ2 H2) := by
  refine ⟨fun i m σ H => m + i = x.cps.size ∧ Pv i σ H, ⟨x.cps.size, Nat.add_zero _, h0⟩, fun i m σ H stand => ?_⟩
  obtain ⟨sum, p⟩ := stand
  rcases Nat.lt_or_ge i x.cps.size with lt | ge
  · refine .inr ⟨lt, Pv (i + 1), fun σ' H' p' => ⟨m - 1, by omega, by omega, p'⟩, fun v H' y => ?_⟩
    obtain ⟨T, c, rfl, free, at_, rfl⟩ := y
    exact hs i c σ H T at_ p free
  · have e : x.cps.size = i := by omega
    exact .inl ⟨ge, hd σ H (by rw [e]; exact p)⟩
end N75
/-! Mathematics: kinds, tokens, the machine of what can come, marks of a text. -/
namespace N75
open PySem L2

inductive Kd where
  | ltr | lp | rp | bar | qm | star | dot | fin
  deriving DecidableEq
/-- how a kind is told -/
def Kd.shown : Kd → Str
  | .ltr => "a letter" | .lp => "\"(\"" | .rp => "\")\"" | .bar => "\"|\"" | .qm => "\"?\"" | .star => "\"*\"" | .dot => "\".\"" | .fin => "the end"
/-- its name in the law -/
def Kd.nm : Kd → Str
  | .ltr => "letter" | .lp => "(" | .rp => ")" | .bar => "|" | .qm => "?" | .star => "*" | .dot => "." | .fin => "end"
/-- the first item of its token -/
def Kd.sort : Kd → Str
  | .ltr => "letter" | .fin => "end" | _ => "sign"
def allK : List Kd := [.ltr, .lp, .rp, .bar, .qm, .star, .dot, .fin]
def ordd (os : List Kd) : List Kd := allK.filter fun k => os.contains k
abbrev shV (k : Kd) : V := .str k.shown
abbrev nmV (k : Kd) : V := .str k.nm

structure Tk where
  k : Kd
  f : _root_.Fin 4
  col : Int
def sOf (k : Kd) (f : _root_.Fin 4) : Str := match k with
  | .ltr => ⟨#[97 + f.val]⟩
  | .lp => "(" | .rp => ")" | .bar => "|" | .qm => "?" | .star => "*" | .dot => "." | .fin => ""
def Tk.s (t : Tk) : Str := sOf t.k t.f
def Tk.vs (t : Tk) : List V := [.str t.k.sort, .str t.s, .int t.col]
theorem fin4 : ∀ f : _root_.Fin 4, f = 0 ∨ f = 1 ∨ f = 2 ∨ f = 3 := by decide
theorem shown_inj : ∀ a b : Kd, a.shown = b.shown → a = b := by
  intro a b h
  cases a <;> cases b <;> first | rfl | exact absurd h (by decide +kernel)
theorem nm_inj : ∀ a b : Kd, a.nm = b.nm → a = b := by
  intro a b h
  cases a <;> cases b <;> first | rfl | exact absurd h (by decide +kernel)
theorem sort_sign (k : Kd) : k.sort = ("sign" : Str) ↔ (k ≠ .ltr ∧ k ≠ .fin) := by
  cases k <;> decide +kernel
theorem sort_end (k : Kd) : k.sort = ("end" : Str) ↔ k = .fin := by
  cases k <;> decide +kernel
theorem sort_letter (k : Kd) : k.sort = ("letter" : Str) ↔ k = .ltr := by
  cases k <;> decide +kernel
theorem s_dot (t : Tk) : t.s = ("." : Str) ↔ t.k = .dot := by
  obtain ⟨k, f, c⟩ := t
  show sOf k f = ("." : Str) ↔ k = .dot
  rcases fin4 f with rfl | rfl | rfl | rfl <;> cases k <;> decide +kernel
theorem s_lp (t : Tk) : t.s = ("(" : Str) ↔ t.k = .lp := by
  obtain ⟨k, f, c⟩ := t
  show sOf k f = ("(" : Str) ↔ k = .lp
  rcases fin4 f with rfl | rfl | rfl | rfl <;> cases k <;> decide +kernel
theorem s_bar (t : Tk) : t.s = ("|" : Str) ↔ t.k = .bar := by
  obtain ⟨k, f, c⟩ := t
  show sOf k f = ("|" : Str) ↔ k = .bar
  rcases fin4 f with rfl | rfl | rfl | rfl <;> cases k <;> decide +kernel
theorem s_qm (t : Tk) : t.s = ("?" : Str) ↔ t.k = .qm := by
  obtain ⟨k, f, c⟩ := t
  show sOf k f = ("?" : Str) ↔ k = .qm
  rcases fin4 f with rfl | rfl | rfl | rfl <;> cases k <;> decide +kernel
theorem s_len (t : Tk) : t.s.length ≤ 1 := by
  obtain ⟨k, f, c⟩ := t
  show (sOf k f).length ≤ 1
  rcases fin4 f with rfl | rfl | rfl | rfl <;> cases k <;> decide +kernel
theorem s_shown (t : Tk) (h1 : t.k ≠ .ltr) (h2 : t.k ≠ .fin) : ("\"" : Str) ++ t.s ++ ("\"" : Str) = t.k.shown := by
  obtain ⟨k, f, c⟩ := t
  show ("\"" : Str) ++ sOf k f ++ ("\"" : Str) = k.shown
  rcases fin4 f with rfl | rfl | rfl | rfl <;> cases k <;> first | exact absurd rfl h1 | exact absurd rfl h2 | decide +kernel
theorem shown_len (k : Kd) : k.shown.length ≤ 8 := by cases k <;> decide +kernel

/-! ### is x among them -/
theorem inV_shown (k : Kd) (os : List Kd) : inV (shV k) (os.map shV) = os.contains k := by
  induction os with
  | nil => rfl
  | cons o r ih =>
    have e : eqV (shV o) (shV k) = (k == o) := by
      show (o.shown == k.shown) = (k == o)
      by_cases h : k = o
      · subst h; simp
      · have h2 : o.shown ≠ k.shown := fun z => h (shown_inj _ _ z).symm
        rw [beq_eq_false_iff_ne.mpr h2, beq_eq_false_iff_ne.mpr h]
    show (eqV (shV o) (shV k) || inV (shV k) (r.map shV)) = (o :: r).contains k
    rw [e, ih, List.contains_cons]
theorem inV_nm (k : Kd) (os : List Kd) : inV (nmV k) (os.map nmV) = os.contains k := by
  induction os with
  | nil => rfl
  | cons o r ih =>
    have e : eqV (nmV o) (nmV k) = (k == o) := by
      show (o.nm == k.nm) = (k == o)
      by_cases h : k = o
      · subst h; simp
      · have h2 : o.nm ≠ k.nm := fun z => h (nm_inj _ _ z).symm
        rw [beq_eq_false_iff_ne.mpr h2, beq_eq_false_iff_ne.mpr h]
    show (eqV (nmV o) (nmV k) || inV (nmV k) (r.map nmV)) = (o :: r).contains k
    rw [e, ih, List.contains_cons]
theorem flat_shown (os : List Kd) : (os.map shV).all flatV = true := by
  induction os with
  | nil => rfl
  | cons o r ih => rw [List.map_cons, List.all_cons, ih]; rfl
theorem flat_nm (os : List Kd) : (os.map nmV).all flatV = true := by
  induction os with
  | nil => rfl
  | cons o r ih => rw [List.map_cons, List.all_cons, ih]; rfl

/-! ### the words of a list -/
def comma : Str := ", "
def orS : Str := " or "
/-- one alone, or several with commas and an or -/
def lstS (ss : List Str) : Str := if ss.length = 1 then ss.headD "" else Txt.join comma ss.dropLast ++ orS ++ ss.getLastD ""
def expected : Str := "expected "
/-- the words of the problem -/
def words (os : List Kd) : Str := expected ++ lstS ((ordd os).map Kd.shown)

/-! ### the machine -/
inductive Stt where
  | begin | item | word | letters | empty
  deriving DecidableEq
def Stt.nm : Stt → Str
  | .begin => "begin" | .item => "item" | .word => "word" | .letters => "letters" | .empty => "empty"
def opts : Stt → Int → List Kd
  | .begin, _ => [.ltr, .lp, .dot]
  | .item, d => [.ltr, .lp, .dot, .qm, .star, .bar, if d > 0 then .rp else .fin]
  | .word, _ => [.ltr, .dot]
  | .letters, _ => [.ltr, .fin]
  | .empty, _ => [.fin]
def stp : Stt × Int → Kd → Stt × Int
  | (.word, d), k => (if k = .ltr then .letters else .empty, d)
  | (.letters, d), _ => (.letters, d)
  | (s, d), .lp => (.begin, d + 1)
  | (s, d), .rp => (.item, d - 1)
  | (s, d), k => (if k = .bar then .begin else .item, d)

/-! ### a text's marks: its signs but blanks, with their columns -/
def marks : List Nat → Nat → List (Nat × Int)
  | [], _ => []
  | c :: r, i => if c = 32 then marks r (i + 1) else (c, ((i : Nat) : Int) + 1) :: marks r (i + 1)
theorem marks_app : ∀ (l m : List Nat) (i : Nat), marks (l ++ m) i = marks l i ++ marks m (i + l.length)
  | [], m, i => by simp [marks]
  | c :: r, m, i => by
    have e : i + (c :: r).length = (i + 1) + r.length := by rw [List.length_cons]; omega
    have ih := marks_app r m (i + 1)
    rw [e]
    show (if c = 32 then marks (r ++ m) (i + 1) else (c, ((i : Nat) : Int) + 1) :: marks (r ++ m) (i + 1)) = (if c = 32 then marks r (i + 1) else (c, ((i : Nat) : Int) + 1) :: marks r (i + 1)) ++ marks m ((i + 1) + r.length)
    by_cases h : c = 32
    · rw [if_pos h, if_pos h, ih]
    · rw [if_neg h, if_neg h, ih, List.cons_append]
/-- the kind of a sign -/
def kc (c : Nat) : Option (Kd × _root_.Fin 4) :=
  if c = 97 then some (.ltr, 0) else if c = 98 then some (.ltr, 1) else if c = 99 then some (.ltr, 2) else if c = 100 then some (.ltr, 3)
  else if c = 40 then some (.lp, 0) else if c = 41 then some (.rp, 0) else if c = 124 then some (.bar, 0) else if c = 63 then some (.qm, 0)
  else if c = 42 then some (.star, 0) else if c = 46 then some (.dot, 0) else none
theorem kc_cases {c : Nat} {P : Nat → Prop} (h97 : P 97) (h98 : P 98) (h99 : P 99) (h100 : P 100) (h40 : P 40) (h41 : P 41) (h124 : P 124) (h63 : P 63) (h42 : P 42) (h46 : P 46)
    (h : kc c = none → c ∉ [97, 98, 99, 100] → c ∉ [40, 41, 124, 63, 42, 46] → P c) : P c := by
  by_cases e : c = 97
  · rw [e]; exact h97
  by_cases e1 : c = 98
  · rw [e1]; exact h98
  by_cases e2 : c = 99
  · rw [e2]; exact h99
  by_cases e3 : c = 100
  · rw [e3]; exact h100
  by_cases e4 : c = 40
  · rw [e4]; exact h40
  by_cases e5 : c = 41
  · rw [e5]; exact h41
  by_cases e6 : c = 124
  · rw [e6]; exact h124
  by_cases e7 : c = 63
  · rw [e7]; exact h63
  by_cases e8 : c = 42
  · rw [e8]; exact h42
  by_cases e9 : c = 46
  · rw [e9]; exact h46
  refine h ?_ ?_ ?_
  · unfold kc
    rw [if_neg e, if_neg e1, if_neg e2, if_neg e3, if_neg e4, if_neg e5, if_neg e6, if_neg e7, if_neg e8, if_neg e9]
  · simp only [List.mem_cons, List.not_mem_nil, or_false]
    omega
  · simp only [List.mem_cons, List.not_mem_nil, or_false]
    omega
def tkOf (m : Nat × Int) : Tk := match kc m.1 with
  | some (k, f) => ⟨k, f, m.2⟩
  | none => ⟨.fin, 0, m.2⟩
/-- the parentheses open -/
def dep (l : List Nat) : Nat := l.foldl (fun d c => if c = 40 then d + 1 else if c = 41 then d - 1 else d) 0
theorem dep_snoc (l : List Nat) (c : Nat) : dep (l ++ [c]) = if c = 40 then dep l + 1 else if c = 41 then dep l - 1 else dep l := by
  unfold dep
  rw [List.foldl_append]
  rfl
end N75
/-! Small defs of the program. -/
namespace N75
open PySem L2

/-- what the top holds: built-in names that are still the built-ins, constants -/
structure Txt (K : PySem.W.Frag) (mg : Str → Option Value) : Prop where
  isi : mg "isinstance" = none
  str : mg "str" = none
  len : mg "len" = none
  enm : mg "enumerate" = none
  max : mg "max" = none
  tup : mg "tuple" = none
  list : mg "list" = none
  int : mg "int" = none
  bool : mg "bool" = none
  abs : mg "abs" = none
  all : mg "all" = none
  range : mg "range" = none
  gLETTERS : GlV mg "LETTERS" (.str "abcd")
  gSIGNS : GlV mg "SIGNS" (.str "()|?*.")
  gLT : GlV mg "LONGEST_TEXT" (.int 400)
  gDO : GlV mg "DEEPEST_OPEN" (.int 20)
  gLW : GlV mg "LONGEST_WORD" (.int 24)
  gML : GlV mg "MOST_LETTERS" (.int 8)
  gD : GlV mg "DEEPEST" (.int 6)
  gMP : GlV mg "MOST_PARTS" (.int 24)
  gMLL : GlV mg "MOST_LONG_LETTERS" (.int 40)
  gDL : GlV mg "DEEPEST_LONG" (.int 40)
  gMLP : GlV mg "MOST_LONG_PARTS" (.int 200)
  gKINDS : ∃ a, mg "KINDS" = some (.ref a) ∧ KTup K a [.str "expression", .str "word"]
  gBEG : ∃ a, mg "BEGINNINGS" = some (.ref a) ∧ KTup K a [shV .ltr, shV .lp, shV .dot]
  gBEH : ∃ a, mg "BEHIND" = some (.ref a) ∧ KTup K a [shV .qm, shV .star]

theorem szl {n : Nat} (h : n ≤ 1000) : n ≤ sizeLine := Nat.le_of_lt (small1000 h)
theorem same_new {H : Hp} {p : Addr} (h : H p = none) (o : HO) : Same H (upd H p o) := fun b u q => by rw [upd_ne (ne_of_none q h)]; exact q

section
variable {P : Program} {w : World} {K : PySem.W.Frag} {mg : Str → Option Value} {base : Heap}

/-! ### check_text -/
def spCheck : Sp := fun vs H Q _ => ∃ t : Str, vs = [.str t] ∧ t.length ≤ 400 ∧ 10 ∉ t.cps.toList ∧ Q .non H
theorem scCheck : FnScope ["text"] ["text"] (defScope sCheck) := ⟨rfl, rfl, rfl, by decide +kernel, rfl, by decide +kernel, by decide +kernel⟩
theorem ok_check (D : Dfn K mg "check_text" sCheck ["text"]) (T : Txt K mg) : Cal P w K mg base CX0 1 "check_text" ["text"] spCheck := by
  obtain ⟨f, fd, hm, F, hb⟩ := D
  refine ⟨f, fd, F.ok scCheck (fun vs H Q E h => ?_) (fun cdv A outer s H vs Q E hr h => ?_), hm, F.kp, hb⟩
  · obtain ⟨t, rfl, _⟩ := h
    rfl
  obtain ⟨t, rfl, hl, hn, q⟩ := h
  refine ⟨_, pss_one (ps_if (PW.pt (pw_or (pt_not (pt_val (pe_callB call_isi rfl T.isi PyProof.Rows.boot_isinstance (pa_cons (pv 0) (pa_cons (pe_bltn (v := .ty "str") rfl T.str PyProof.Rows.boot_str rfl) pa_nil)))))
    (pw_or (pt_cmpR op_gt (pe_callB call_len_str rfl T.len PySem.boot_len (pa_cons (pv 0) pa_nil)) (pe_g T.gLT) (nomark _))
    (pw_or1 (pt_cmpR op_in_sign pe_str (pv 0) rfl))))) pss_never pss_nil), ?_⟩
  refine ⟨_, rfl, _, _, _, _, true, rfl, .ty "str", .base (.str _), kit_ty (by decide +kernel), true, rfl, ?_⟩
  refine iteF ?_
  refine ⟨_, rfl, _, rfl, szl (by omega), _, _, rfl, rfl, false, ?_, iteF ?_⟩
  · exact congrArg V.bl (decide_eq_false (by omega))
  refine ⟨_, rfl, 10, t, congrArg V.str (by decide +kernel), rfl, false, ?_, iteF q⟩
  exact congrArg V.bl (decide_eq_false hn)

/-! ### kind_of -/
def kindV (c : Nat) : V := match kc c with
  | some (k, _) => .str k.sort
  | none => .non
def spKindOf : Sp := fun vs H Q _ => ∃ c : Nat, vs = [.str ⟨#[c]⟩] ∧ Q (kindV c) H
theorem scKindOf : FnScope ["char"] ["char"] (defScope sKindOf) := ⟨rfl, rfl, rfl, by decide +kernel, rfl, by decide +kernel, by decide +kernel⟩
theorem kindV_eq (c : Nat) : kindV c = if c ∈ [97, 98, 99, 100] then .str "letter" else if c ∈ [40, 41, 124, 63, 42, 46] then .str "sign" else .non := by
  refine kc_cases (c := c) (P := fun c => kindV c = if c ∈ [97, 98, 99, 100] then .str "letter" else if c ∈ [40, 41, 124, 63, 42, 46] then .str "sign" else .non) ?_ ?_ ?_ ?_ ?_ ?_ ?_ ?_ ?_ ?_ (fun h h1 h2 => ?_)
  any_goals decide +kernel
  unfold kindV
  rw [h, if_neg h1, if_neg h2]
theorem lettersL : (("abcd" : Str)).cps.toList = [97, 98, 99, 100] := by decide +kernel
theorem signsL : (("()|?*." : Str)).cps.toList = [40, 41, 124, 63, 42, 46] := by decide +kernel
theorem ok_kindOf (D : Dfn K mg "kind_of" sKindOf ["char"]) (T : Txt K mg) : Cal P w K mg base CX0 1 "kind_of" ["char"] spKindOf := by
  obtain ⟨f, fd, hm, F, hb⟩ := D
  refine ⟨f, fd, F.ok scKindOf (fun vs H Q E h => ?_) (fun cdv A outer s H vs Q E hr h => ?_), hm, F.kp, hb⟩
  · obtain ⟨t, rfl, _⟩ := h
    rfl
  obtain ⟨c, rfl, q⟩ := h
  refine ⟨_, pss_cons (ps_if (pt_cmpR op_in_sign (pv 0) (pe_g T.gLETTERS) rfl) (pss_one (ps_ret pe_str)) pss_nil)
    (pss_one (ps_ret (pe_ifExp (pt_cmpR op_in_sign (pv 0) (pe_g T.gSIGNS) rfl) pe_str pe_non))), ?_⟩
  rw [kindV_eq] at q
  refine ⟨_, rfl, c, _, rfl, rfl, _, rfl, ite2 (fun h => ?_) (fun h => ?_)⟩
  · have h' := of_decide_eq_true h
    rw [lettersL] at h'
    rw [if_pos h'] at q
    exact q
  · have h' := of_decide_eq_false (Bool.eq_false_iff.mpr h)
    rw [lettersL] at h'
    rw [if_neg h'] at q
    refine ⟨_, rfl, c, _, rfl, rfl, _, rfl, ite2 (fun h => ?_) (fun h => ?_)⟩
    · have h' := of_decide_eq_true h
      rw [signsL] at h'
      rw [if_pos h'] at q
      exact q
    · have h' := of_decide_eq_false (Bool.eq_false_iff.mpr h)
      rw [signsL] at h'
      rw [if_neg h'] at q
      exact q

/-! ### shown -/
def spShown : Sp := fun vs H Q _ => ∃ (a : Addr) (t : Tk), vs = [.ref a] ∧ H a = some (.tup t.vs) ∧ ∀ H', Same H H' → Q (shV t.k) H'
theorem scShown : FnScope ["token"] ["token"] (defScope sShown) := ⟨rfl, rfl, rfl, by decide +kernel, rfl, by decide +kernel, by decide +kernel⟩
theorem q_len : (("\"" : Str)).length = 1 := by decide +kernel
theorem app_len (a b : Str) : (a ++ b).length = a.length + b.length := by
  show (a.cps ++ b.cps).size = a.cps.size + b.cps.size
  exact Array.size_append
theorem ok_shown (D : Dfn K mg "shown" sShown ["token"]) : Cal P w K mg base CX0 1 "shown" ["token"] spShown := by
  obtain ⟨f, fd, hm, F, hb⟩ := D
  refine ⟨f, fd, F.ok scShown (fun vs H Q E h => ?_) (fun cdv A outer s H vs Q E hr h => ?_), hm, F.kp, hb⟩
  · obtain ⟨a, t, rfl, _⟩ := h
    rfl
  obtain ⟨a, t, rfl, ha, q⟩ := h
  have hu := hu_of hr
  refine ⟨_, pss_cons (ps_if (pt_cmpR op_eq (pe_ix ix_tup (pv 0) pe_int (fun _ _ => rfl)) pe_str (nomark _)) (pss_one (ps_ret (pe_op op_add_str (pe_op op_add_str pe_str (pe_ix ix_tup (pv 0) pe_int (fun _ _ => rfl))) pe_str))) pss_nil)
    (pss_one (ps_ret (pe_dget hu (pe_disp (pps_cons pe_str pe_str (pps_cons pe_str pe_str pps_nil)) (by rfl) (by rfl) (fun z => by cases z) (by decide)) (pe_ix ix_tup (pv 0) pe_int (fun _ _ => rfl)) (fun _ _ => rfl)))), ?_⟩
  refine ⟨_, rfl, a, _, 0, _, rfl, rfl, SqT.of ha, atI_nat (j := 0) rfl, rfl, _, rfl, ite2 (fun h => ?_) (fun h => ?_)⟩
  · have h' : t.k.sort = ("sign" : Str) := by
      have h2 := of_decide_eq_true h
      injection h2
    obtain ⟨h1, h2⟩ := (sort_sign t.k).mp h'
    have e := s_shown t h1 h2
    have l1 := s_len t
    refine ⟨_, rfl, a, _, 1, _, rfl, rfl, SqT.of ha, atI_nat (j := 1) rfl, _, _, rfl, rfl, szl (by rw [q_len]; omega), _, _, rfl, rfl, szl (by rw [app_len, q_len]; omega), ?_⟩
    have e' : V.str (("\"" : Str) ++ t.s ++ ("\"" : Str)) = shV t.k := congrArg V.str e
    show Q (V.str (("\"" : Str) ++ t.s ++ ("\"" : Str))) H
    rw [e']
    exact q _ (Same.refl _)
  · have h' : ¬ t.k.sort = ("sign" : Str) := fun z => by
      have h2 := of_decide_eq_false (Bool.eq_false_iff.mpr h)
      exact h2 (congrArg V.str z)
    intro p np
    refine ⟨upd_same, [(.inr "letter", .str "a letter"), (.inr "end", .str "the end")], rfl, by decide, ?_⟩
    have hk : t.k = .ltr ∨ t.k = .fin := by
      cases e : t.k <;> first | exact .inl rfl | exact .inr rfl | (exfalso; rw [e] at h'; revert h'; decide +kernel)
    have np2 : a ≠ p := ne_of_none ha np
    refine ⟨_, rfl, a, _, 0, _, rfl, rfl, SqT.of (by rw [upd_ne np2, upd_ne np2]; exact ha), atI_nat (j := 0) rfl, p, shV t.k, rfl, ?_, ?_⟩
    · have g := DGet.k (H := upd (upd H p (.dK [])) p (.dK (mergeK [] [(.inr "letter", .str "a letter"), (.inr "end", .str "the end")]))) (a := p) (k := .inr t.k.sort) upd_same
      rcases hk with e | e
      · rw [e] at g ⊢
        exact g
      · rw [e] at g ⊢
        exact g
    · exact q _ fun b o hb => by rw [upd_ne (ne_of_none hb np), upd_ne (ne_of_none hb np)]; exact hb
end
end N75
/-! in_order, joined, opened, row_of. -/
namespace N75
open PySem L2

/-- one turn of a comprehension whose element joins the list at D, or not -/
abbrev lcTurn (tt : TT) (te : TE) (vs : List Nat) (σ : L2.St) (D : Addr) (Nx : Hp → Prop) (σ2 : L2.St) (H2 : Hp) : Prop := wipe σ2 vs = wipe σ vs ∧ tt σ2 H2 fun b H3 => if b = true then te σ2 H3 fun y H4 => ∃ acc, H4 D = some (.lst acc) ∧ acc.length < sizeLine ∧ Nx (upd H4 D (.lst (acc ++ [y]))) else Nx H3
/-- a comprehension over a text -/
theorem lc_str {x : Str} {g : TG} {tt : TT} {te : TE} {vs : List Nat} {σ : L2.St} {H1 : Hp} {D : Addr} {Qd : Hp → Prop} (Pv : Nat → Hp → Prop) (h0 : Pv 0 (upd H1 D (.lst []))) (hs : ∀ i c H, x.cps[i]? = some c → Pv i H → g (.str ⟨#[c]⟩) (wipe σ vs) H (lcTurn tt te vs σ D (Pv (i + 1)))) (hd : ∀ H, Pv x.cps.size H → Qd H) :
    ∃ W : Nat → Nat → Hp → Prop, (∃ m, W 0 m (upd H1 D (.lst []))) ∧ ∀ i m H, W i m H → ((Its x).stop i H ∧ Qd H) ∨ ((Its x).go i H ∧ ∃ Nx : Hp → Prop, (∀ H', Nx H' → ∃ m', m' < m ∧ W (i + 1) m' H') ∧ ∀ x' H', (Its x).yld i H x' H' → g x' (wipe σ vs) H' (lcTurn tt te vs σ D Nx)) := by
  refine ⟨fun i m H => m + i = x.cps.size ∧ Pv i H, ⟨x.cps.size, Nat.add_zero _, h0⟩, fun i m H stand => ?_⟩
  obtain ⟨sum, p⟩ := stand
  rcases Nat.lt_or_ge i x.cps.size with lt | ge
  · refine .inr ⟨lt, Pv (i + 1), fun H' p' => ⟨m - 1, by omega, by omega, p'⟩, fun x' H' y => ?_⟩
    obtain ⟨rfl, c, at_, rfl⟩ := y
    exact hs i c _ at_ p
  · have e : x.cps.size = i := by omega
    exact .inl ⟨ge, hd H (by rw [e]; exact p)⟩
theorem take_snoc {α : Type} {l : List α} {i : Nat} {x : α} (h : l[i]? = some x) : l.take (i + 1) = l.take i ++ [x] := by
  rw [List.take_succ, h]
  rfl
theorem filter_one {α : Type} (p : α → Bool) (k : α) : [k].filter p = if p k = true then [k] else [] := by
  cases h : p k <;> simp [List.filter, h]
/-- all that was tracked is as it was, but at D -/
def But (D : Addr) (H H' : Hp) : Prop := ∀ b o, b ≠ D → H b = some o → H' b = some o
theorem But.refl {D : Addr} {H : Hp} : But D H H := fun _ _ _ h => h
theorem But.of {D : Addr} {H H' : Hp} (e : Same H H') : But D H H' := fun b o _ h => e b o h
theorem But.upd {D : Addr} {H H' : Hp} (e : But D H H') (o : HO) : But D H (upd H' D o) := fun b u n h => by rw [upd_ne n]; exact e b u n h
theorem But.trans {D : Addr} {H H1 H2 : Hp} (a : But D H H1) (b : But D H1 H2) : But D H H2 := fun c o n h => b c o n (a c o n h)
theorem But.same {D : Addr} {H H' : Hp} (e : But D H H') (n : H D = none) : Same H H' := fun b o h => e b o (ne_of_none h n) h

/-! ### in_order -/
def sg6 : List Kd := [.lp, .rp, .bar, .qm, .star, .dot]
theorem sg_at : ∀ (i c : Nat), (("()|?*." : Str)).cps[i]? = some c → ∃ k, sg6[i]? = some k ∧ ("\"" : Str) ++ (⟨#[c]⟩ : Str) ++ ("\"" : Str) = k.shown := by
  intro i c h
  have e : (("()|?*." : Str)).cps = #[40, 41, 124, 63, 42, 46] := by decide +kernel
  rw [e] at h
  match i, h with
  | 0, h => cases h; exact ⟨.lp, rfl, by decide +kernel⟩
  | 1, h => cases h; exact ⟨.rp, rfl, by decide +kernel⟩
  | 2, h => cases h; exact ⟨.bar, rfl, by decide +kernel⟩
  | 3, h => cases h; exact ⟨.qm, rfl, by decide +kernel⟩
  | 4, h => cases h; exact ⟨.star, rfl, by decide +kernel⟩
  | 5, h => cases h; exact ⟨.dot, rfl, by decide +kernel⟩
  | i + 6, h => simp at h
theorem sg_size : (("()|?*." : Str)).cps.size = 6 := by decide +kernel
section
variable {P : Program} {w : World} {K : PySem.W.Frag} {mg : Str → Option Value} {base : Heap}
def spInOrder (K : PySem.W.Frag) : Sp := fun vs H Q _ => ∃ (o : Addr) (os : List Kd), vs = [.ref o] ∧ SqT K H o (os.map shV) ∧ ∀ p H', H p = none → Same H H' → H' p = some (.lst ((ordd os).map shV)) → Q (.ref p) H'
theorem scInOrder : FnScope ["options", "order", "sign", "option"] ["options"] (defScope sInOrder) := ⟨rfl, rfl, rfl, by decide +kernel, rfl, by decide +kernel, by decide +kernel⟩
theorem ok_inOrder (D : Dfn K mg "in_order" sInOrder ["options"]) (T : Txt K mg) : Cal P w K mg base CX0 1 "in_order" ["options"] (spInOrder K) := by
  obtain ⟨f, fd, hm, F, hb⟩ := D
  refine ⟨f, fd, F.ok scInOrder (fun vs H Q E h => ?_) (fun cdv A outer s H vs Q E hr h => ?_), hm, F.kp, hb⟩
  · obtain ⟨t, _, rfl, _⟩ := h
    rfl
  obtain ⟨o, os, rfl, hS, q⟩ := h
  refine ⟨_, pss_cons (ps_set (i := 1) scInOrder.nd rfl (Or.inl rfl) (pe_op op_cat (pe_op op_cat (pe_lst (pa_cons pe_str pa_nil))
      (pe_lc (own := [("sign", 2)]) (g := gName 2) (tt := tYes) rfl scInOrder.nd (pi_str (pe_g T.gSIGNS)) (blkOk_by (own := [("sign", 2)]) (N := ["options", "order", "sign", "option"]) (sc := defScope sInOrder) (by decide +kernel)) (fun _ _ _ _ _ => pg_name (i := 2) scInOrder.nd rfl (Or.inl rfl)) (fun _ _ _ _ _ => pts_nil)
        (fun _ _ _ _ _ => pe_op op_add_str (pe_op op_add_str pe_str (pv 2)) pe_str)))
      (pe_lst (pa_cons pe_str pa_nil))))
    (pss_one (ps_ret (pe_lc (own := [("option", 3)]) (g := gName 3) (tt := tTest (tOp (rIn K false) (tVar 3) (tVar 0))) rfl scInOrder.nd (pi_list (pv 1)) (blkOk_by (own := [("option", 3)]) (N := ["options", "order", "sign", "option"]) (sc := defScope sInOrder) (by decide +kernel)) (fun _ _ _ _ _ => pg_name (i := 3) scInOrder.nd rfl (Or.inl rfl))
        (fun _ _ _ _ _ => pts_one (pt_cmpR op_in_seq (pv 3) (pv 0) (by rfl))) (fun _ _ _ _ _ => pv 3)))), ?_⟩
  refine ⟨(by show 1 ≤ sizeLine; decide), fun p1 n1 => ?_⟩
  refine ⟨_, rfl, fun D nD => ?_⟩
  refine lc_str (fun i H' => But D (upd H p1 (.lst [.str "a letter"])) H' ∧ H' D = some (.lst ((sg6.take i).map shV)) ∧ i ≤ 6) ⟨But.refl.upd _, upd_same, Nat.zero_le _⟩ ?_ ?_
  · rintro i c H1 hc ⟨s1, d1, hi⟩
    obtain ⟨k, hk, hs⟩ := sg_at i c hc
    have hi2 : i < 6 := (List.getElem?_eq_some_iff.mp hk).1
    refine ⟨rfl, ?_⟩
    refine ⟨_, rfl, _, _, rfl, rfl, szl (by rw [q_len]; show 1 + 1 ≤ 1000; decide), _, _, rfl, rfl, szl ?_, _, d1, szl ?_, s1.upd _, ?_, hi2⟩
    · rw [app_len, q_len]
      show 1 + 1 + 1 ≤ 1000
      decide
    · rw [List.length_map, List.length_take]
      omega
    · rw [upd_same, take_snoc hk, List.map_append, hs]
      rfl
  · rintro H1 ⟨s1, d1, _⟩
    have np1 : p1 ≠ D := ne_of_none upd_same nD
    rw [sg_size] at d1
    refine ⟨p1, D, _, _, rfl, rfl, s1 _ _ np1 upd_same, d1, (by show 7 ≤ sizeLine; decide), fun p2 n2 => ?_⟩
    refine ⟨(by show 1 ≤ sizeLine; decide), fun p3 n3 => ?_⟩
    have n23 : p2 ≠ p3 := ne_of_none upd_same n3
    refine ⟨p2, p3, _, _, rfl, rfl, (by rw [upd_ne n23]; exact upd_same), upd_same, (by show 8 ≤ sizeLine; decide), fun p4 n4 => ?_⟩
    have S1 : Same H H1 := (same_new n1 _).trans (s1.same nD)
    have S4 : Same H (upd (upd (upd H1 p2 (.lst ([.str "a letter"] ++ (sg6.take 6).map shV))) p3 (.lst [.str "the end"])) p4 (.lst (([.str "a letter"] ++ (sg6.take 6).map shV) ++ [.str "the end"]))) :=
      ((S1.trans (same_new n2 _)).trans (same_new n3 _)).trans (same_new n4 _)
    have e8 : ([V.str "a letter"] ++ (sg6.take 6).map shV) ++ [V.str "the end"] = allK.map shV := by decide +kernel
    rw [e8] at S4
    have h4 : (upd (upd (upd H1 p2 (.lst ([.str "a letter"] ++ (sg6.take 6).map shV))) p3 (.lst [.str "the end"])) p4 (.lst (allK.map shV))) p4 = some (.lst (allK.map shV)) := upd_same
    revert S4 h4
    rw [e8]
    generalize (upd (upd (upd H1 p2 (.lst ([.str "a letter"] ++ (sg6.take 6).map shV))) p3 (.lst [.str "the end"])) p4 (.lst (allK.map shV))) = H4
    intro S4 h4
    refine ⟨_, rfl, p4, rfl, ⟨_, SqL.of h4⟩, fun D2 nD2 => ?_⟩
    have n42 : p4 ≠ D2 := ne_of_none h4 nD2
    refine lc_list (K := K) (a := p4) (xs := allK.map shV) (fun i H' => But D2 H4 H' ∧ H' D2 = some (.lst (((allK.take i).filter fun k => os.contains k).map shV)) ∧ i ≤ 8) ⟨But.refl.upd _, upd_same, Nat.zero_le _⟩
      (fun i H' _ h => SqL.of (h.1 _ _ n42 h4)) ?_ ?_
    · rintro i x H5 hx ⟨s5, d5, hi⟩
      rw [List.getElem?_map] at hx
      cases hk : allK[i]? with
      | none => rw [hk] at hx; cases hx
      | some k =>
        rw [hk] at hx
        have hx2 : shV k = x := Option.some.inj hx
        subst hx2
        have hi2 : i < 8 := (List.getElem?_eq_some_iff.mp hk).1
        have n0 : H D2 = none := S4.free nD2
        have S5 : Same H H5 := S4.trans (s5.same nD2)
        refine ⟨rfl, ?_⟩
        refine ⟨_, rfl, _, rfl, o, _, rfl, .inr (SqT.grow S5 hS), rfl, flat_shown os, _, rfl, ?_⟩
        rw [inV_shown]
        have e1 : ((allK.take (i + 1)).filter fun k => os.contains k) = ((allK.take i).filter fun k => os.contains k) ++ (if os.contains k = true then [k] else []) := by
          rw [take_snoc hk, List.filter_append, filter_one]
        refine ite2 (fun hc => ?_) (fun hc => ?_)
        · have hc2 : os.contains k = true := hc
          refine ⟨_, rfl, _, d5, szl ?_, s5.upd _, ?_, hi2⟩
          · rw [List.length_map]
            refine Nat.le_trans (Nat.succ_le_succ (List.length_filter_le _ _)) ?_
            rw [List.length_take]
            omega
          · rw [upd_same, e1, if_pos hc2, List.map_append]
            rfl
        · have hc2 : ¬ os.contains k = true := hc
          refine ⟨s5, ?_, hi2⟩
          rw [e1, if_neg hc2, List.append_nil]
          exact d5
    · rintro H5 ⟨s5, d5, _⟩
      exact q D2 H5 (S4.free nD2) (S4.trans (s5.same nD2)) d5

/-! ### joined, _law_listed -/
theorem split_last : ∀ {ss : List Str}, 1 ≤ ss.length → ∃ pre l, ss = pre ++ [l]
  | [], h => absurd h (by decide)
  | [x], _ => ⟨[], x, rfl⟩
  | x :: y :: r, _ => by
    obtain ⟨p, l, e⟩ := split_last (ss := y :: r) (by simp)
    exact ⟨x :: p, l, by rw [e]; rfl⟩
theorem cut_last (pre : List V) (l : V) : cutV (pre ++ [l]) none (some (-1)) = pre := by
  unfold cutV
  have e1 : HT.sIx (pre ++ [l]).length 0 none = 0 := rfl
  have e2 : HT.sIx (pre ++ [l]).length (pre ++ [l]).length (some (-1)) = pre.length := by
    show (if (-1 : Int) < 0 then ((-1 : Int) + ((pre ++ [l]).length : Int)).toNat else min (-1 : Int).toNat (pre ++ [l]).length) = pre.length
    rw [if_pos (by decide), List.length_append, List.length_singleton]
    omega
  rw [e1, e2, List.drop_zero, Nat.sub_zero]
  exact List.take_left
theorem sum_len {ss : List Str} (h : ∀ x ∈ ss, x.length ≤ 8) : (ss.map (·.length)).sum ≤ 8 * ss.length := by
  induction ss with
  | nil => exact Nat.le_refl _
  | cons a r ih =>
    have h1 := h a (List.mem_cons_self ..)
    have h2 := ih fun x hx => h x (List.mem_cons_of_mem _ hx)
    rw [List.map_cons, List.sum_cons, List.length_cons]
    omega
theorem comma_len : comma.length = 2 := by decide +kernel
theorem or_len : orS.length = 4 := by decide +kernel
theorem exp_len : expected.length = 9 := by decide +kernel
theorem lstS_snoc {pre : List Str} {l : Str} (h : pre ≠ []) : lstS (pre ++ [l]) = Txt.join comma pre ++ orS ++ l := by
  unfold lstS
  have hl : ¬ (pre ++ [l]).length = 1 := by
    rw [List.length_append]
    rw [List.length_singleton]
    have := List.length_pos_iff.mpr h
    omega
  rw [if_neg hl, List.dropLast_concat, List.getLastD_concat]
theorem join_le (ss : List Str) (h : ∀ x ∈ ss, x.length ≤ 8) (h8 : ss.length ≤ 8) : (Txt.join comma ss).length ≤ 80 := by
  show (PySem.Builtin.Str.glued comma ss).length ≤ 80
  rw [PySem.StrLaws.glued_eq_join]
  have h1 := PySem.StrLaws.join_length_le comma ss
  have h2 := sum_len h
  rw [comma_len] at h1
  omega
theorem lstS_le (ss : List Str) (h : ∀ x ∈ ss, x.length ≤ 8) (h8 : ss.length ≤ 8) (h1 : 1 ≤ ss.length) : (lstS ss).length ≤ 100 := by
  obtain ⟨pre, l, rfl⟩ := split_last h1
  have hl := h l (List.mem_append_right _ (List.mem_singleton.mpr rfl))
  by_cases hz : pre = []
  · subst hz
    show l.length ≤ 100
    omega
  · rw [lstS_snoc hz, app_len, app_len, or_len]
    rw [List.length_append] at h8
    have h3 := join_le pre (fun x hx => h x (List.mem_append_left _ hx)) (by omega)
    omega
def spJoined (K : PySem.W.Frag) : Sp := fun vs H Q _ => ∃ (o : Addr) (ss : List Str), vs = [.ref o] ∧ SqL K H o (ss.map V.str) ∧ 1 ≤ ss.length ∧ ss.length ≤ 8 ∧ (∀ x ∈ ss, x.length ≤ 8) ∧ ∀ H', Same H H' → Q (.str (lstS ss)) H'
theorem scJoined : FnScope ["options"] ["options"] (defScope sJoined) := ⟨rfl, rfl, rfl, by decide +kernel, rfl, by decide +kernel, by decide +kernel⟩
theorem scListed : FnScope ["_law_words"] ["_law_words"] (defScope sListed) := ⟨rfl, rfl, rfl, by decide +kernel, rfl, by decide +kernel, by decide +kernel⟩
theorem ok_joined (D : Dfn K mg "joined" sJoined ["options"]) (T : Txt K mg) : Cal P w K mg base CX0 1 "joined" ["options"] (spJoined K) := by
  obtain ⟨f, fd, hm, F, hb⟩ := D
  refine ⟨f, fd, F.ok scJoined (fun vs H Q E h => ?_) (fun cdv A outer s H vs Q E hr h => ?_), hm, F.kp, hb⟩
  · obtain ⟨t, _, rfl, _⟩ := h
    rfl
  obtain ⟨o, ss, rfl, hS, h1, h8, hl, q⟩ := h
  refine ⟨_, pss_cons (ps_if (pt_cmpR op_eq (pe_callB call_len_seq rfl T.len PySem.boot_len (pa_cons (pv 0) pa_nil)) pe_int (nomark _)) (pss_one (ps_ret (pe_ix ix_list (pv 0) pe_int (fun _ _ => rfl)))) pss_nil)
    (pss_one (ps_ret (pe_op op_add_str (pe_op op_add_str (pe_join pe_str (pe_slice sl_list (pv 0) po_none (po_some (pe_un un_neg pe_int)))) pe_str) (pe_ix ix_list (pv 0) (pe_un un_neg pe_int) (fun _ _ => rfl))))), ?_⟩
  obtain ⟨pre, l, rfl⟩ := split_last h1
  rw [List.map_append] at hS
  refine ⟨_, rfl, o, _, rfl, .inl hS, rfl, _, rfl, ite2 (fun h => ?_) (fun h => ?_)⟩
  · have h' := of_decide_eq_true h
    have hz : pre = [] := by
      injection h' with h'
      rw [List.length_append, List.length_map, List.length_map, List.length_singleton] at h'
      exact (List.length_eq_zero_iff.mp (by omega))
    subst hz
    refine ⟨_, rfl, o, _, 0, _, rfl, rfl, hS, atI_nat (j := 0) rfl, ?_⟩
    exact q _ (Same.refl _)
  · have h' := of_decide_eq_false (Bool.eq_false_iff.mpr h)
    have hz : pre ≠ [] := fun z => h' (by rw [z]; rfl)
    have hlp : ∀ x ∈ pre, x.length ≤ 8 := fun x hx => hl x (List.mem_append_left _ hx)
    have hp8 : pre.length ≤ 8 := by rw [List.length_append] at h8; omega
    refine ⟨⟨_, rfl⟩, _, rfl, 1, rfl, _, rfl, o, _, rfl, hS, fun p np => ?_⟩
    have hcut : cutV (pre.map V.str ++ [l].map V.str) none (some (-1)) = pre.map V.str := cut_last _ _
    refine ⟨comma, p, pre, rfl, rfl, .inl (SqL.of (by rw [upd_same]; exact congrArg (fun z => some (HO.lst z)) hcut)), ?_, ?_⟩
    · have h1 := sum_len hlp
      rw [comma_len]
      omega
    have hj := join_le pre hlp hp8
    refine ⟨_, _, rfl, rfl, szl (by have := or_len; unfold orS at this; rw [this]; omega), ?_⟩
    refine ⟨_, rfl, 1, rfl, o, _, -1, V.str l, rfl, rfl, (same_new np _).seq hS, atI_last _ _, _, _, rfl, rfl, szl ?_, ?_⟩
    · have h2 := hl l (List.mem_append_right _ (List.mem_singleton.mpr rfl))
      rw [app_len]
      have := or_len
      unfold orS at this
      rw [this]
      omega
    · have e := lstS_snoc (l := l) hz
      have q' := q _ (same_new np (.lst (cutV (pre.map V.str ++ [l].map V.str) none (some (-1)))))
      rw [e] at q'
      exact q'
theorem ok_listed (D : Dfn K mg "_law_listed" sListed ["_law_words"]) (T : Txt K mg) : Cal P w K mg base CX0 1 "_law_listed" ["_law_words"] (spJoined K) := by
  obtain ⟨f, fd, hm, F, hb⟩ := D
  refine ⟨f, fd, F.ok scListed (fun vs H Q E h => ?_) (fun cdv A outer s H vs Q E hr h => ?_), hm, F.kp, hb⟩
  · obtain ⟨t, _, rfl, _⟩ := h
    rfl
  obtain ⟨o, ss, rfl, hS, h1, h8, hl, q⟩ := h
  refine ⟨_, pss_cons (ps_if (pt_cmpR op_eq (pe_callB call_len_seq rfl T.len PySem.boot_len (pa_cons (pv 0) pa_nil)) pe_int (nomark _)) (pss_one (ps_ret (pe_ix ix_list (pv 0) pe_int (fun _ _ => rfl)))) pss_nil)
    (pss_one (ps_ret (pe_op op_add_str (pe_op op_add_str (pe_join pe_str (pe_slice sl_list (pv 0) po_none (po_some (pe_un un_neg pe_int)))) pe_str) (pe_ix ix_list (pv 0) (pe_un un_neg pe_int) (fun _ _ => rfl))))), ?_⟩
  obtain ⟨pre, l, rfl⟩ := split_last h1
  rw [List.map_append] at hS
  refine ⟨_, rfl, o, _, rfl, .inl hS, rfl, _, rfl, ite2 (fun h => ?_) (fun h => ?_)⟩
  · have h' := of_decide_eq_true h
    have hz : pre = [] := by
      injection h' with h'
      rw [List.length_append, List.length_map, List.length_map, List.length_singleton] at h'
      exact (List.length_eq_zero_iff.mp (by omega))
    subst hz
    refine ⟨_, rfl, o, _, 0, _, rfl, rfl, hS, atI_nat (j := 0) rfl, ?_⟩
    exact q _ (Same.refl _)
  · have h' := of_decide_eq_false (Bool.eq_false_iff.mpr h)
    have hz : pre ≠ [] := fun z => h' (by rw [z]; rfl)
    have hlp : ∀ x ∈ pre, x.length ≤ 8 := fun x hx => hl x (List.mem_append_left _ hx)
    have hp8 : pre.length ≤ 8 := by rw [List.length_append] at h8; omega
    refine ⟨⟨_, rfl⟩, _, rfl, 1, rfl, _, rfl, o, _, rfl, hS, fun p np => ?_⟩
    have hcut : cutV (pre.map V.str ++ [l].map V.str) none (some (-1)) = pre.map V.str := cut_last _ _
    refine ⟨comma, p, pre, rfl, rfl, .inl (SqL.of (by rw [upd_same]; exact congrArg (fun z => some (HO.lst z)) hcut)), ?_, ?_⟩
    · have h1 := sum_len hlp
      rw [comma_len]
      omega
    have hj := join_le pre hlp hp8
    refine ⟨_, _, rfl, rfl, szl (by have := or_len; unfold orS at this; rw [this]; omega), ?_⟩
    refine ⟨_, rfl, 1, rfl, o, _, -1, V.str l, rfl, rfl, (same_new np _).seq hS, atI_last _ _, _, _, rfl, rfl, szl ?_, ?_⟩
    · have h2 := hl l (List.mem_append_right _ (List.mem_singleton.mpr rfl))
      rw [app_len]
      have := or_len
      unfold orS at this
      rw [this]
      omega
    · have e := lstS_snoc (l := l) hz
      have q' := q _ (same_new np (.lst (cutV (pre.map V.str ++ [l].map V.str) none (some (-1)))))
      rw [e] at q'
      exact q'
end
end N75
/-! Trees; opened, row_of, measures. -/
namespace N75
open PySem L2

abbrev sJn : Str := "join"
abbrev sOr : Str := "or"
abbrev sMb : Str := "maybe"
abbrev sMn : Str := "many"
/-! at v an expression with n parts stands -/
mutual
inductive TrAt (H : Hp) : V → Nat → Prop
  | leaf (s : Str) : TrAt H (.str s) 1
  | one {a : Addr} {w : Str} {x : V} {n : Nat} (hw : w = sMb ∨ w = sMn) (ha : H a = some (.tup [.str w, x])) (t : TrAt H x n) : TrAt H (.ref a) (n + 1)
  | row {a b : Addr} {w : Str} {xs : List V} {n : Nat} (hw : w = sJn ∨ w = sOr) (ha : H a = some (.tup [.str w, .ref b])) (hb : H b = some (.tup xs)) (t : TrsAt H xs n) : TrAt H (.ref a) (n + 1)
inductive TrsAt (H : Hp) : List V → Nat → Prop
  | nil : TrsAt H [] 0
  | cons {x : V} {xs : List V} {n m : Nat} (t : TrAt H x n) (r : TrsAt H xs m) : TrsAt H (x :: xs) (n + m)
end
mutual
theorem TrAt.grow {H H' : Hp} (e : Same H H') : ∀ {v : V} {n : Nat}, TrAt H v n → TrAt H' v n
  | _, _, .leaf s => .leaf s
  | _, _, .one hw ha t => .one hw (e _ _ ha) (TrAt.grow e t)
  | _, _, .row hw ha hb t => .row hw (e _ _ ha) (e _ _ hb) (TrsAt.grow e t)
theorem TrsAt.grow {H H' : Hp} (e : Same H H') : ∀ {xs : List V} {n : Nat}, TrsAt H xs n → TrsAt H' xs n
  | _, _, .nil => .nil
  | _, _, .cons t r => .cons (TrAt.grow e t) (TrsAt.grow e r)
end
/-- .. where the tuples stand -/
def TupsK (H H' : Hp) : Prop := ∀ b xs, H b = some (.tup xs) → H' b = some (.tup xs)
mutual
theorem TrAt.keep {H H' : Hp} (e : TupsK H H') : ∀ {v : V} {n : Nat}, TrAt H v n → TrAt H' v n
  | _, _, .leaf s => .leaf s
  | _, _, .one hw ha t => .one hw (e _ _ ha) (TrAt.keep e t)
  | _, _, .row hw ha hb t => .row hw (e _ _ ha) (e _ _ hb) (TrsAt.keep e t)
theorem TrsAt.keep {H H' : Hp} (e : TupsK H H') : ∀ {xs : List V} {n : Nat}, TrsAt H xs n → TrsAt H' xs n
  | _, _, .nil => .nil
  | _, _, .cons t r => .cons (TrAt.keep e t) (TrsAt.keep e r)
end
theorem TrAt.pos {H : Hp} {v : V} {n : Nat} (t : TrAt H v n) : 1 ≤ n := by
  cases t <;> omega
theorem TrsAt.len {H : Hp} : ∀ {xs : List V} {n : Nat}, TrsAt H xs n → xs.length ≤ n
  | _, _, .nil => Nat.le_refl _
  | _, _, .cons t r => by
    have h1 := t.pos
    have h2 := TrsAt.len r
    rw [List.length_cons]
    omega
theorem TrsAt.app {H : Hp} : ∀ {xs ys : List V} {n m : Nat}, TrsAt H xs n → TrsAt H ys m → TrsAt H (xs ++ ys) (n + m)
  | _, _, _, _, .nil, s => by rw [Nat.zero_add]; exact s
  | _, _, _, _, .cons t r, s => by
    rw [Nat.add_assoc]
    exact .cons t (TrsAt.app r s)
theorem TrsAt.snoc {H : Hp} {xs : List V} {n m : Nat} {x : V} (s : TrsAt H xs n) (t : TrAt H x m) : TrsAt H (xs ++ [x]) (n + m) := s.app (.cons (m := 0) t .nil)
/-- the first i of them have as many parts as k, the next one m of the rest -/
theorem TrsAt.split {H : Hp} : ∀ {xs : List V} {n : Nat} (i : Nat) {x : V}, TrsAt H xs n → xs[i]? = some x → ∃ m, TrAt H x m
  | _, _, 0, _, .cons t _, h => by
    cases h
    exact ⟨_, t⟩
  | _, _, i + 1, _, .cons _ r, h => TrsAt.split i r (by simpa using h)
/-- the number of the parts of the rest from i on -/
theorem TrsAt.drop {H : Hp} : ∀ {xs : List V} {n : Nat} (i : Nat), TrsAt H xs n → ∃ m, m ≤ n ∧ TrsAt H (xs.drop i) m
  | _, n, 0, s => ⟨n, Nat.le_refl _, s⟩
  | _, _, _ + 1, .nil => ⟨0, Nat.le_refl _, .nil⟩
  | _, _, i + 1, .cons t r => by
    obtain ⟨m, h1, h2⟩ := TrsAt.drop i r
    exact ⟨m, by omega, h2⟩

section
variable {P : Program} {w : World} {K : PySem.W.Frag} {mg : Str → Option Value} {base : Heap}
/-! ### opened -/
def spOpened : Sp := fun vs H Q _ => ∃ (wd : Str) (l : Addr) (xs : List V) (n : Nat), vs = [.str wd, .ref l] ∧ (wd = sJn ∨ wd = sOr) ∧ H l = some (.lst xs) ∧ TrsAt H xs n ∧ n ≤ 1000 ∧
  ∀ p H' ys m, H p = none → Same H H' → H' p = some (.lst ys) → TrsAt H' ys m → m ≤ n → Q (.ref p) H'
theorem scOpened : FnScope ["word", "parts", "found", "part"] ["word", "parts"] (defScope sOpened) := ⟨rfl, rfl, rfl, by decide +kernel, rfl, by decide +kernel, by decide +kernel⟩
theorem mb_no {w wd : Str} (h : w = sMb ∨ w = sMn) (h2 : wd = sJn ∨ wd = sOr) : ¬ w = wd := by
  rcases h with rfl | rfl <;> rcases h2 with rfl | rfl <;> decide +kernel
theorem ok_opened (D : Dfn K mg "opened" sOpened ["word", "parts"]) (T : Txt K mg) : Cal P w K mg base CX0 1 "opened" ["word", "parts"] spOpened := by
  obtain ⟨f, fd, hm, F, hb⟩ := D
  refine ⟨f, fd, F.ok scOpened (fun vs H Q E h => ?_) (fun cdv A outer s H vs Q E hr h => ?_), hm, F.kp, hb⟩
  · obtain ⟨t, _, _, _, rfl, _⟩ := h
    rfl
  obtain ⟨wd, l, xs, n, rfl, hw, hl, ht, hn, q⟩ := h
  refine ⟨_, pss_cons (ps_set (i := 2) scOpened.nd rfl (Or.inl rfl) (pe_lst pa_nil))
    (pss_cons (ps_for PassesOwn.never rfl (pi_list (pv 1)) (pg_name (i := 3) scOpened.nd rfl (Or.inl rfl))
      (pss_one (ps_if (PW.pt (pw_and (pt_val (pe_callB call_isi rfl T.isi PyProof.Rows.boot_isinstance (pa_cons (pv 3) (pa_cons (pe_bltn (v := .ty "tuple") rfl T.tup PyProof.Rows.boot_tuple rfl) pa_nil))))
          (pw_and1 (pt_cmpR op_eq (pe_ix ix_tup (pv 3) pe_int (fun _ _ => rfl)) (pv 0) (nomark _)))))
        (pss_one (ps_expr (pe_bm PySem.F.plainAttrs_list PySem.F.slot_list_extend PySem.F.type_list_extend mt_extendT (pv 2) (pa_cons (pe_ix ix_tup (pv 3) pe_int (fun _ _ => rfl)) pa_nil))))
        (pss_one (ps_expr (pe_bm PySem.F.plainAttrs_list PySem.F.slot_list_append PySem.F.type_list_append mt_append (pv 2) (pa_cons (pv 3) pa_nil)))))))
    (pss_one (ps_ret (pv 2)))), ?_⟩
  refine ⟨Nat.zero_le _, fun p np => ?_⟩
  have nlp : l ≠ p := ne_of_none hl np
  refine ⟨_, rfl, l, rfl, ⟨_, SqL.of (by rw [upd_ne nlp]; exact hl)⟩, ?_⟩
  refine for_list (K := K) (a := l) (xs := xs) (fun i σ H' => ∃ (v : Option V) (ys : List V) (m k : Nat), σ = [some (.str wd), some (.ref l), some (.ref p), v] ∧ But p H H' ∧ H' p = some (.lst ys) ∧ TrsAt H' ys m ∧ TrsAt H (xs.drop i) k ∧ m + k ≤ n)
    ⟨none, [], 0, n, rfl, But.refl.upd _, upd_same, .nil, ht, by omega⟩ (fun i σ H' _ ⟨_, _, _, _, _, s1, _⟩ => SqL.of (s1 _ _ nlp hl)) ?_ ?_
  · rintro i x σ H1 hx ⟨v, ys, m, k, rfl, s1, hp, t1, t2, hk⟩
    have hd : xs.drop i = x :: xs.drop (i + 1) := by
      obtain ⟨h1, h2⟩ := List.getElem?_eq_some_iff.mp hx
      rw [← h2]
      exact List.drop_eq_getElem_cons h1
    rw [hd] at t2
    have s0 := s1.same np
    have ly := t1.len
    have app : ∀ {a : Nat} {b : Nat}, TrAt H x a → TrsAt H (xs.drop (i + 1)) b → a + b = k → ∃ (v : Option V) (ys' : List V) (m' k' : Nat), [some (V.str wd), some (.ref l), some (.ref p), some x] = [some (V.str wd), some (.ref l), some (.ref p), v] ∧ But p H (upd H1 p (.lst (ys ++ [x]))) ∧ (upd H1 p (.lst (ys ++ [x]))) p = some (.lst ys') ∧ TrsAt (upd H1 p (.lst (ys ++ [x]))) ys' m' ∧ TrsAt H (xs.drop (i + 1)) k' ∧ m' + k' ≤ n := fun {a b} ta tb e =>
      ⟨some x, ys ++ [x], m + a, b, rfl, s1.upd _, upd_same, (t1.snoc (ta.grow s0)).keep (fun c zs hc => by rw [upd_ne (ne_of hc hp (by intro z; cases z))]; exact hc), tb, by omega⟩
    cases t2 with
    | @cons _ _ a b ta tb =>
      have h1 := ta.pos
      cases ta with
      | leaf st =>
        refine ⟨_, rfl, _, _, _, _, false, rfl, .ty "tuple", .base (.str _), kit_ty (by decide +kernel), false, rfl, iteF ?_⟩
        refine ⟨_, rfl, .inl ⟨rfl, _, SqL.of hp⟩, _, rfl, p, ys, _, rfl, rfl, hp, small1000 (by omega), ?_⟩
        exact app (.leaf st) tb rfl
      | @one c w2 y c2 hw2 hc tc =>
        refine ⟨_, rfl, _, _, _, _, true, rfl, .ty "tuple", .base (.tup (s0 _ _ hc)), kit_ty (by decide +kernel), true, rfl, iteT ?_⟩
        refine ⟨_, rfl, c, _, 0, _, rfl, rfl, SqT.of (s0 _ _ hc), atI_nat (j := 0) rfl, _, rfl, rfl, false, ?_, iteF ?_⟩
        · exact congrArg V.bl (decide_eq_false fun z => by injection z with z; exact mb_no hw2 hw z)
        refine ⟨_, rfl, .inl ⟨rfl, _, SqL.of hp⟩, _, rfl, p, ys, _, rfl, rfl, hp, small1000 (by omega), ?_⟩
        exact app (.one hw2 hc tc) tb rfl
      | @row c d w2 zs c2 hw2 hc hd2 tc =>
        refine ⟨_, rfl, _, _, _, _, true, rfl, .ty "tuple", .base (.tup (s0 _ _ hc)), kit_ty (by decide +kernel), true, rfl, iteT ?_⟩
        refine ⟨_, rfl, c, _, 0, _, rfl, rfl, SqT.of (s0 _ _ hc), atI_nat (j := 0) rfl, _, rfl, rfl, _, rfl, ite2 (fun h => ?_) (fun h => ?_)⟩
        · have lz := tc.len
          refine ⟨_, rfl, .inl ⟨rfl, _, SqL.of hp⟩, _, rfl, c, _, 1, _, rfl, rfl, SqT.of (s0 _ _ hc), atI_nat (j := 1) rfl, p, d, ys, zs, rfl, rfl, hp, SqT.of (s0 _ _ hd2), szl (by omega), ?_⟩
          exact ⟨some (.ref c), ys ++ zs, m + c2, b, rfl, s1.upd _, upd_same, (t1.app (tc.grow s0)).keep (fun c zs hc => by rw [upd_ne (ne_of hc hp (by intro z; cases z))]; exact hc), tb, by omega⟩
        · refine ⟨_, rfl, .inl ⟨rfl, _, SqL.of hp⟩, _, rfl, p, ys, _, rfl, rfl, hp, small1000 (by omega), ?_⟩
          exact app (.row hw2 hc hd2 tc) tb rfl
  · rintro σ H1 ⟨v, ys, m, k, rfl, s1, hp, t1, t2, hk⟩
    refine ⟨_, rfl, ?_⟩
    exact q p H1 ys m np (s1.same np) hp t1 (by omega)

/-! ### row_of -/
def spRowOf : Sp := fun vs H Q _ => ∃ (wd : Str) (l : Addr) (xs : List V) (n : Nat), vs = [.str wd, .ref l] ∧ (wd = sJn ∨ wd = sOr) ∧ H l = some (.lst xs) ∧ TrsAt H xs n ∧ n ≤ 1000 ∧
  ∀ v H' m, Same H H' → TrAt H' v m → m ≤ n + 1 → Q v H'
theorem scRowOf : FnScope ["word", "parts"] ["word", "parts"] (defScope sRowOf) := ⟨rfl, rfl, rfl, by decide +kernel, rfl, by decide +kernel, by decide +kernel⟩
theorem ok_rowOf (D : Dfn K mg "row_of" sRowOf ["word", "parts"]) (T : Txt K mg) : Cal P w K mg base CX0 1 "row_of" ["word", "parts"] spRowOf := by
  obtain ⟨f, fd, hm, F, hb⟩ := D
  refine ⟨f, fd, F.ok scRowOf (fun vs H Q E h => ?_) (fun cdv A outer s H vs Q E hr h => ?_), hm, F.kp, hb⟩
  · obtain ⟨t, _, _, _, rfl, _⟩ := h
    rfl
  obtain ⟨wd, l, xs, n, rfl, hw, hl, ht, hn, q⟩ := h
  refine ⟨_, pss_cons (ps_if (pt_cmpR op_eq (pe_callB call_len_seq rfl T.len PySem.boot_len (pa_cons (pv 1) pa_nil)) pe_int (nomark _)) (pss_one (ps_ret pe_str)) pss_nil)
    (pss_one (ps_ret (pe_ifExp (pt_cmpR op_eq (pe_callB call_len_seq rfl T.len PySem.boot_len (pa_cons (pv 1) pa_nil)) pe_int (nomark _)) (pe_ix ix_list (pv 1) pe_int (fun _ _ => rfl))
      (pe_tup (pa_cons (pv 0) (pa_cons (pe_callTy call_tuple_of rfl T.tup PyProof.Rows.boot_tuple (pa_cons (pv 1) pa_nil)) pa_nil)))))), ?_⟩
  refine ⟨_, rfl, l, _, rfl, .inl (SqL.of hl), rfl, _, rfl, ite2 (fun h => ?_) (fun h => ?_)⟩
  · exact q _ _ 1 (Same.refl _) (.leaf _) (by omega)
  refine ⟨_, rfl, l, _, rfl, .inl (SqL.of hl), rfl, _, rfl, ite2 (fun h => ?_) (fun h => ?_)⟩
  · have h' := of_decide_eq_true h
    injection h' with h'
    match xs, h', ht with
    | [x], _, .cons (n := a) (m := b) t r =>
      refine ⟨_, rfl, l, _, 0, _, rfl, rfl, SqL.of hl, atI_nat (j := 0) rfl, ?_⟩
      exact q _ _ a (Same.refl _) t (by omega)
  · refine ⟨_, rfl, _, rfl, l, _, rfl, .inl ⟨SqL.of hl, fun p np => ?_⟩⟩
    refine ⟨(by show 2 ≤ sizeLine; decide), fun p2 np2 => ?_⟩
    have s2 : Same H (upd (upd H p (.tup xs)) p2 (.tup [.str wd, .ref p])) := (same_new np _).trans (same_new np2 _)
    refine q _ _ (n + 1) s2 (.row hw upd_same ?_ (ht.grow s2)) (Nat.le_refl _)
    rw [upd_ne (ne_of_none upd_same np2)]
    exact upd_same
end
end N75
/-! measures. -/
namespace N75
open PySem L2
/-- a point between an expression and what follows it -/
def tCutE (t : TE) : TE := fun σ H Q => ∃ R : VK, t σ H R ∧ ∀ v H', R v H' → Q v H'
theorem pe_cutE {X : Cx} {e : Expr} {t : TE} (h : PE X e t) : PE X e (tCutE t) := by
  refine ⟨fun pins s0 σ H Q I hw => ?_⟩
  obtain ⟨R, h1, h2⟩ := hw
  exact thn (h.run pins s0 σ H R I h1) fun u s' ⟨v, H', I', r, q⟩ => ⟨v, H', I', r, h2 v H' q⟩
def tCutT (t : TT) : TT := fun σ H Q => ∃ R : Bool → Hp → Prop, t σ H R ∧ ∀ v H', R v H' → Q v H'
theorem pt_cutT {X : Cx} {e : Expr} {t : TT} (h : PT X e t) : PT X e (tCutT t) := by
  refine ⟨fun pins s0 σ H Q I hw => ?_⟩
  obtain ⟨R, h1, h2⟩ := hw
  exact thn (h.run pins s0 σ H R I h1) fun u s' ⟨H', I', q⟩ => ⟨H', I', h2 u H' q⟩
/-- a point between a statement and what follows it -/
def tCutS (t : TS) : TS := fun D σ H => ∃ M : L2.St → Hp → Prop, t { D with nx := M } σ H ∧ ∀ σ' H', M σ' H' → D.nx σ' H'
theorem ps_cutS {X : Cx} {st : Stmt} {t : TS} (h : PS X st t) : PS X st (tCutS t) := by
  refine ⟨fun pins s0 σ H D I hw => ?_⟩
  obtain ⟨M, h1, h2⟩ := hw
  refine thn (h.run pins s0 σ H { D with nx := M } I h1) fun f s' q => ?_
  cases f with
  | next =>
    obtain ⟨σ', H', I', q⟩ := q
    exact ⟨σ', H', I', h2 _ _ q⟩
  | ret v => exact q
  | brk => exact q
  | cont => exact q

/-- what waits: pairs of an expression and a level, n parts in all -/
inductive WtAt (H : Hp) : List Addr → Nat → Prop
  | nil : WtAt H [] 0
  | cons {p : Addr} {ps : List Addr} {v : V} {lv : Int} {n m : Nat} (hp : H p = some (.tup [v, .int lv])) (t : TrAt H v n) (r : WtAt H ps m) : WtAt H (p :: ps) (n + m)
theorem WtAt.keep {H H' : Hp} (e : TupsK H H') : ∀ {ps : List Addr} {n : Nat}, WtAt H ps n → WtAt H' ps n
  | _, _, .nil => .nil
  | _, _, .cons hp t r => .cons (e _ _ hp) (t.keep e) (WtAt.keep e r)
theorem WtAt.app {H : Hp} : ∀ {xs ys : List Addr} {n m : Nat}, WtAt H xs n → WtAt H ys m → WtAt H (xs ++ ys) (n + m)
  | _, _, _, _, .nil, s => by rw [Nat.zero_add]; exact s
  | _, _, _, _, .cons hp t r, s => by
    rw [Nat.add_assoc]
    exact .cons hp t (WtAt.app r s)
theorem WtAt.last {H : Hp} {p : Addr} : ∀ {ps : List Addr} {n : Nat}, WtAt H (ps ++ [p]) n → ∃ a b v lv, n = a + b ∧ WtAt H ps a ∧ H p = some (.tup [v, .int lv]) ∧ TrAt H v b
  | [], _, .cons (n := b) hp t .nil => ⟨0, b, _, _, by omega, .nil, hp, t⟩
  | q :: ps, _, .cons (n := c) hp t r => by
    obtain ⟨a, b, v, lv, e, h1, h2, h3⟩ := WtAt.last (ps := ps) r
    exact ⟨c + a, b, v, lv, by omega, .cons hp t h1, h2, h3⟩
theorem WtAt.len {H : Hp} : ∀ {ps : List Addr} {n : Nat}, WtAt H ps n → ps.length ≤ n
  | _, _, .nil => Nat.le_refl _
  | _, _, .cons hp t r => by
    have h1 := t.pos
    have h2 := WtAt.len r
    rw [List.length_cons]
    omega
theorem node_of {H : Hp} {v : V} {n : Nat} (t : TrAt H v n) : (∃ st, v = .str st ∧ n = 1) ∨ ∃ (a : Addr) (w : Str) (y : V) (c : Nat), v = .ref a ∧ n = c + 1 ∧ H a = some (.tup [.str w, y]) ∧
    (((w = sMb ∨ w = sMn) ∧ TrAt H y c) ∨ ((w = sJn ∨ w = sOr) ∧ ∃ (d : Addr) (zs : List V), y = .ref d ∧ H d = some (.tup zs) ∧ TrsAt H zs c)) := by
  cases t with
  | leaf st => exact .inl ⟨st, rfl, rfl⟩
  | one hw ha t => exact .inr ⟨_, _, _, _, rfl, rfl, ha, .inl ⟨hw, t⟩⟩
  | row hw ha hb t => exact .inr ⟨_, _, _, _, rfl, rfl, ha, .inr ⟨hw, _, _, rfl, hb, t⟩⟩
theorem addr_last : ∀ {ss : List Addr}, ss ≠ [] → ∃ pre l, ss = pre ++ [l]
  | [], h => absurd rfl h
  | [x], _ => ⟨[], x, rfl⟩
  | x :: y :: r, _ => by
    obtain ⟨p, l, e⟩ := addr_last (ss := y :: r) (by simp)
    exact ⟨x :: p, l, by rw [e]; rfl⟩
theorem TupsK.of {H H' : Hp} (e : Same H H') : TupsK H H' := fun b xs h => e b _ h
theorem TupsK.trans {H H1 H2 : Hp} (a : TupsK H H1) (b : TupsK H1 H2) : TupsK H H2 := fun c xs h => b c xs (a c xs h)
theorem TupsK.upd {H : Hp} {p : Addr} {xs : List V} (h : H p = some (.lst xs)) (o : HO) : TupsK H (L2.upd H p o) := fun b ys e => by rw [upd_ne (ne_of e h (by intro z; cases z))]; exact e
theorem TupsK.new {H : Hp} {p : Addr} (h : H p = none) (o : HO) : TupsK H (L2.upd H p o) := .of (same_new h o)
section
variable {P : Program} {w : World} {K : PySem.W.Frag} {mg : Str → Option Value} {base : Heap}
def spMeasures : Sp := fun vs H Q _ => ∃ (v : V) (n : Nat), vs = [v] ∧ TrAt H v n ∧ n ≤ 1000 ∧ ∀ p H' (i j : Int), Same H H' → H' p = some (.tup [.int i, .int j]) → Q (.ref p) H'
theorem scMeasures : FnScope ["expression", "waiting", "levels", "part", "level", "inner", "one"] ["expression"] (defScope sMeasures) := ⟨rfl, rfl, rfl, by decide +kernel, rfl, by decide +kernel, by decide +kernel⟩
/-- what holds between two turns -/
structure MesW (H0 : Hp) (N : Nat) (wa la : Addr) (tot : Nat) (H : Hp) : Prop where
  wt : ∃ ps, H wa = some (.lst (ps.map V.ref)) ∧ WtAt H ps tot
  lv : ∃ lvs : List Int, H la = some (.lst (lvs.map V.int)) ∧ lvs.length + tot = N
  kp : Same H0 H
theorem ok_measures (D : Dfn K mg "measures" sMeasures ["expression"]) (T : Txt K mg) : Cal P w K mg base CX0 1 "measures" ["expression"] spMeasures := by
  obtain ⟨f, fd, hm, F, hb⟩ := D
  refine ⟨f, fd, F.ok scMeasures (fun vs H Q E h => ?_) (fun cdv A outer s H vs Q E hr h => ?_), hm, F.kp, hb⟩
  · obtain ⟨t, _, rfl, _⟩ := h
    rfl
  obtain ⟨v, N, rfl, ht, hN, q⟩ := h
  have nd := scMeasures.nd
  refine ⟨_, pss_cons (ps_set (i := 1) nd rfl (Or.inl rfl) (pe_lst (pa_cons (pe_tup (pa_cons (pv 0) (pa_cons pe_int pa_nil))) pa_nil)))
    (pss_cons (ps_set (i := 2) nd rfl (Or.inl rfl) (pe_lst pa_nil))
    (pss_cons (ps_while PassesOwn.never (pt_cmpR op_gt (pe_callB call_len_seq rfl T.len PySem.boot_len (pa_cons (pv 1) pa_nil)) pe_int (nomark _))
      (pss_cons (ps_asg (pe_bm0 PySem.F.plainAttrs_list PySem.F.slot_list_pop PySem.F.type_list_pop mt_pop (pv 1)) (pg_tup rfl (pgs_cons (pg_name (i := 3) nd rfl (Or.inl rfl)) (pgs_cons (pg_name (i := 4) nd rfl (Or.inr rfl)) pgs_nil))))
      (pss_cons (ps_expr (pe_bm PySem.F.plainAttrs_list PySem.F.slot_list_append PySem.F.type_list_append mt_append (pv 2) (pa_cons (pv 4) pa_nil)))
      (pss_one (ps_if (pt_val (pe_callB call_isi rfl T.isi PyProof.Rows.boot_isinstance (pa_cons (pv 3) (pa_cons (pe_bltn (v := .ty "tuple") rfl T.tup PyProof.Rows.boot_tuple rfl) pa_nil))))
        (pss_cons (ps_cutS (ps_set (i := 5) nd rfl (Or.inl rfl) (pe_ifExp (pt_cmpR op_in_seq (pe_ix ix_tup (pv 3) pe_int (fun _ _ => rfl)) (pe_tup (pa_cons pe_str (pa_cons pe_str pa_nil))) (by rfl)) (pe_tup (pa_cons (pe_ix ix_tup (pv 3) pe_int (fun _ _ => rfl)) pa_nil)) (pe_ix ix_tup (pv 3) pe_int (fun _ _ => rfl)))))
        (pss_one (ps_expr (pe_bm PySem.F.plainAttrs_list PySem.F.slot_list_extend PySem.F.type_list_extend mt_extend (pv 1) (pa_cons
          (pe_lc (own := [("one", 6)]) (g := gName 6) (tt := tYes) rfl nd (pi_tup (pv 5)) (blkOk_by (own := [("one", 6)]) (N := ["expression", "waiting", "levels", "part", "level", "inner", "one"]) (sc := defScope sMeasures) (by decide +kernel)) (fun _ _ _ _ _ => pg_name (i := 6) nd rfl (Or.inl rfl)) (fun _ _ _ _ _ => pts_nil)
            (fun _ _ _ _ _ => pe_tup (pa_cons (pv 6) (pa_cons (pe_op op_add (pv 4) pe_int) pa_nil)))) pa_nil)))))
        pss_nil)))))
    (pss_one (ps_ret (pe_tup (pa_cons (pe_callB call_len_seq rfl T.len PySem.boot_len (pa_cons (pv 2) pa_nil)) (pa_cons (pe_callB (cr_max rfl) rfl T.max PyProof.Rows.boot_max (pa_cons (pv 2) pa_nil)) pa_nil))))))), ?_⟩
  refine ⟨_, rfl, (by show 2 ≤ sizeLine; decide), fun p1 n1 => ?_⟩
  refine ⟨(by show 1 ≤ sizeLine; decide), fun wa n2 => ?_⟩
  refine ⟨Nat.zero_le _, fun la n3 => ?_⟩
  have n12 : p1 ≠ wa := ne_of_none upd_same n2
  have nwl : wa ≠ la := ne_of_none upd_same n3
  have n13 : p1 ≠ la := ne_of_none (by rw [upd_ne n12]; exact upd_same) n3
  have S0 : Same H (upd (upd (upd H p1 (.tup [v, .int 0])) wa (.lst [.ref p1])) la (.lst [])) := ((same_new n1 _).trans (same_new n2 _)).trans (same_new n3 _)
  refine ⟨fun m σ H1 => ∃ (a b c d : Option V), σ = [some v, some (.ref wa), some (.ref la), a, b, c, d] ∧ MesW H N wa la m H1, ⟨N, none, none, none, none, rfl, ?_⟩, ?_⟩
  · refine ⟨⟨[p1], ?_, ?_⟩, ⟨[], upd_same, by simp⟩, S0⟩
    · rw [upd_ne nwl]
      exact upd_same
    · refine WtAt.cons (n := N) (m := 0) (lv := 0) (v := v) ?_ (ht.grow S0) .nil
      rw [upd_ne n13, upd_ne n12]
      exact upd_same
  rintro m σ H1 ⟨a, b, c, d, rfl, ⟨ps, hw, hwt⟩, ⟨lvs, hl, hlen⟩, kp⟩
  have e1 : wa ≠ la := nwl
  refine ⟨_, rfl, wa, _, rfl, .inl (SqL.of hw), _, _, rfl, rfl, _, rfl, ite2 (fun h => ?_) (fun h => ?_)⟩
  · have h' := of_decide_eq_true h
    have hne : ps ≠ [] := fun z => by rw [z] at h'; exact absurd h' (by decide)
    obtain ⟨pre, l, rfl⟩ := addr_last hne
    obtain ⟨ma, mb, x, lv, em, wpre, hp, tx⟩ := hwt.last
    have wl := hwt.len
    refine ⟨fun σ H1 => ∃ m', m' < m ∧ ∃ (a b c d : Option V), σ = [some v, some (.ref wa), some (.ref la), a, b, c, d] ∧ MesW H N wa la m' H1, fun σ' H' z => z, ?_⟩
    have px := tx.pos
    refine ⟨_, rfl, .inl ⟨rfl, _, SqL.of hw⟩, wa, _, .ref l, rfl, rfl, hw, ?_, ?_⟩
    · rw [List.map_append, List.length_append]
      simp
    have k2 : TupsK H1 (upd H1 wa (.lst (((pre ++ [l]).map V.ref).dropLast))) := .upd hw _
    refine ⟨l, _, rfl, SqT.of (k2 _ _ hp), rfl, _, _, rfl, _, _, rfl, rfl, ?_⟩
    have hl2 : (upd H1 wa (.lst (((pre ++ [l]).map V.ref).dropLast))) la = some (.lst (lvs.map V.int)) := by rw [upd_ne e1.symm]; exact hl
    refine ⟨_, rfl, .inl ⟨rfl, _, SqL.of hl2⟩, _, rfl, la, _, _, rfl, rfl, hl2, small1000 (by rw [List.length_map]; omega), ?_⟩
    have ed : ((pre ++ [l]).map V.ref).dropLast = pre.map V.ref := by rw [List.map_append]; exact List.dropLast_concat
    have el : lvs.map V.int ++ [V.int lv] = (lvs ++ [lv]).map V.int := by rw [List.map_append]; rfl
    rw [ed] at k2 hl2
    rw [ed, el]
    have k3 : TupsK H1 (upd (upd H1 wa (.lst (pre.map V.ref))) la (.lst ((lvs ++ [lv]).map V.int))) := k2.trans (.upd hl2 _)
    have nw0 : H wa = none := (same_new n1 _).free n2
    have nl0 : H la = none := ((same_new n1 _).trans (same_new n2 _)).free n3
    have kp3 : Same H (upd (upd H1 wa (.lst (pre.map V.ref))) la (.lst ((lvs ++ [lv]).map V.int))) := fun z o hz => by
      rw [upd_ne (ne_of_none hz nl0), upd_ne (ne_of_none hz nw0)]
      exact kp z o hz
    have hw3 : (upd (upd H1 wa (.lst (pre.map V.ref))) la (.lst ((lvs ++ [lv]).map V.int))) wa = some (.lst (pre.map V.ref)) := by rw [upd_ne e1]; exact upd_same
    have hl3 : (upd (upd H1 wa (.lst (pre.map V.ref))) la (.lst ((lvs ++ [lv]).map V.int))) la = some (.lst ((lvs ++ [lv]).map V.int)) := upd_same
    have tx3 := tx.keep k3
    have wp3 := wpre.keep k3
    revert kp3 hw3 hl3 tx3 wp3
    generalize (upd (upd H1 wa (.lst (pre.map V.ref))) la (.lst ((lvs ++ [lv]).map V.int))) = H3
    intro kp3 hw3 hl3 tx3 wp3
    rcases node_of tx3 with ⟨st, rfl, rfl⟩ | ⟨t2, w2, y, cc, rfl, ec, hc, hy⟩
    · refine ⟨_, rfl, _, _, _, _, false, rfl, .ty "tuple", .base (.str _), kit_ty (by decide +kernel), false, rfl, iteF ?_⟩
      exact ⟨ma, by omega, _, _, _, _, rfl, ⟨pre, hw3, wp3⟩, ⟨lvs ++ [lv], hl3, by rw [List.length_append, List.length_singleton]; omega⟩, kp3⟩
    refine ⟨_, rfl, _, _, _, _, true, rfl, .ty "tuple", .base (.tup hc), kit_ty (by decide +kernel), true, rfl, iteT ?_⟩
    refine ⟨fun σ' H' => ∃ (t : Addr) (zs : List V), σ' = [some v, some (.ref wa), some (.ref la), some (.ref t2), some (.int lv), some (.ref t), d] ∧ Same H3 H' ∧ H' t = some (.tup zs) ∧ TrsAt H' zs cc, ?_, ?_⟩
    · refine ⟨_, rfl, t2, _, 0, _, rfl, rfl, SqT.of hc, atI_nat (j := 0) rfl, (by show 2 ≤ sizeLine; decide), fun p5 n5 => ?_⟩
      refine ⟨p5, _, rfl, .inr (SqT.of upd_same), rfl, rfl, _, rfl, ?_⟩
      have hc5 := same_new n5 (.tup [.str sMb, .str sMn]) _ _ hc
      rcases hy with ⟨hw2, ty⟩ | ⟨hw2, dd, zs, rfl, hd, tz⟩
      · have ev : inV (.str w2) [.str sMb, .str sMn] = true := by rcases hw2 with rfl | rfl <;> decide +kernel
        show (if inV (.str w2) [.str sMb, .str sMn] = true then _ else _)
        rw [ev]
        refine iteT ?_
        refine ⟨_, rfl, t2, _, 1, _, rfl, rfl, SqT.of hc5, atI_nat (j := 1) rfl, (by show 1 ≤ sizeLine; decide), fun p6 n6 => ?_⟩
        have s6 : Same H3 (upd (upd H3 p5 (.tup [.str sMb, .str sMn])) p6 (.tup [y])) := (same_new n5 _).trans (same_new n6 _)
        exact ⟨p6, [y], rfl, s6, upd_same, .cons (m := 0) (ty.grow s6) .nil⟩
      · have ev : inV (.str w2) [.str sMb, .str sMn] = false := by rcases hw2 with rfl | rfl <;> decide +kernel
        show (if inV (.str w2) [.str sMb, .str sMn] = true then _ else _)
        rw [ev]
        refine iteF ?_
        refine ⟨_, rfl, t2, _, 1, _, rfl, rfl, SqT.of hc5, atI_nat (j := 1) rfl, ?_⟩
        exact ⟨dd, zs, rfl, same_new n5 _, same_new n5 _ _ _ hd, tz.grow (same_new n5 _)⟩
    · rintro σ' H4 ⟨t, zs, rfl, s4, ht4, tz4⟩
      have hw4 := s4 _ _ hw3
      have hl4 := s4 _ _ hl3
      refine ⟨_, rfl, .inl ⟨rfl, _, SqL.of hw4⟩, _, rfl, t, rfl, ⟨_, SqT.of ht4⟩, fun D nD => ?_⟩
      have nwD : wa ≠ D := ne_of_none hw4 nD
      have nlD : la ≠ D := ne_of_none hl4 nD
      have ntD : t ≠ D := ne_of_none ht4 nD
      refine lc_tup (K := K) (a := t) (xs := zs) (fun i H' => But D H4 H' ∧ ∃ (qs : List Addr) (k1 k2 : Nat), H' D = some (.lst (qs.map V.ref)) ∧ WtAt H' qs k1 ∧ TrsAt H' (zs.drop i) k2 ∧ k1 + k2 = cc)
        ⟨But.refl.upd _, [], 0, cc, upd_same, .nil, tz4.grow (same_new nD _), by omega⟩ (fun i H' _ h => SqT.of (h.1 _ _ ntD ht4)) ?_ ?_
      · rintro i x H5 hx ⟨s5, qs, k1, k2, hD, wq, tq, hk⟩
        have hdz : zs.drop i = x :: zs.drop (i + 1) := by
          obtain ⟨h1, h2⟩ := List.getElem?_eq_some_iff.mp hx
          rw [← h2]
          exact List.drop_eq_getElem_cons h1
        rw [hdz] at tq
        cases tq with
        | @cons _ _ b1 b2 tb tr =>
          have lq := wq.len
          refine ⟨rfl, ?_⟩
          refine ⟨_, rfl, _, rfl, _, _, rfl, rfl, (by show 2 ≤ sizeLine; decide), fun p6 n6 => ?_⟩
          have nDp : D ≠ p6 := ne_of_none hD n6
          refine ⟨_, (by rw [upd_ne nDp]; exact hD), small1000 (by rw [List.length_map]; omega), ?_⟩
          have k6 : TupsK H5 (upd (upd H5 p6 (.tup [x, .int (lv + 1)])) D (.lst (qs.map V.ref ++ [.ref p6]))) := (TupsK.new n6 _).trans (.upd (by rw [upd_ne nDp]; exact hD) _)
          refine ⟨(s5.trans (But.of (same_new n6 _))).upd _, qs ++ [p6], k1 + b1, b2, ?_, ?_, tr.keep k6, by omega⟩
          · rw [upd_same, List.map_append]
            rfl
          · refine (wq.keep k6).app (.cons (m := 0) (lv := lv + 1) (v := x) ?_ (tb.keep k6) .nil)
            rw [upd_ne nDp.symm]
            exact upd_same
      · rintro H5 ⟨s5, qs, k1, k2, hD, wq, tq, hk⟩
        rw [List.drop_length] at tq
        cases tq
        have hw5 := s5 _ _ nwD hw4
        have hl5 := s5 _ _ nlD hl4
        have s45 : Same H4 H5 := s5.same nD
        have lq := wq.len
        have lp := (wp3.keep (TupsK.of s4)).len
        refine ⟨wa, D, _, _, rfl, rfl, hw5, hD, szl (by rw [List.length_map, List.length_map]; omega), ?_⟩
        have k6 : TupsK H5 (upd H5 wa (.lst (pre.map V.ref ++ qs.map V.ref))) := .upd hw5 _
        refine ⟨ma + k1, by omega, _, _, _, _, rfl, ⟨pre ++ qs, ?_, ?_⟩, ⟨lvs ++ [lv], ?_, by rw [List.length_append, List.length_singleton]; omega⟩, ?_⟩
        · rw [upd_same, List.map_append]
        · exact ((wp3.keep (TupsK.of (s4.trans s45))).app wq).keep k6
        · rw [upd_ne e1.symm]
          exact hl5
        · intro z o hz
          rw [upd_ne (ne_of_none hz nw0)]
          exact s45 _ _ (s4 _ _ (kp3 z o hz))
  · have h' := of_decide_eq_false (Bool.eq_false_iff.mpr h)
    have hz : ps = [] := by
      cases ps with
      | nil => rfl
      | cons p ps => exact absurd (by rw [List.map_cons, List.length_cons]; omega) h'
    subst hz
    cases hwt
    have hN1 := ht.pos
    refine ⟨_, rfl, la, _, rfl, .inl (SqL.of hl), _, rfl, la, lvs, rfl, SqL.of hl, by omega, fun mx _ _ => ?_⟩
    refine ⟨(by show 2 ≤ sizeLine; decide), fun pr npr => ?_⟩
    exact q pr _ _ _ (kp.trans (same_new npr _)) upd_same
end
end N75
/-! The errors, the parser's object, look, take. -/
namespace N75
open PySem L2

/-- what the top says of the three classes -/
structure Cl (K : PySem.W.Frag) (mg : Str → Option Value) (cT cA cP : Addr) : Prop where
  oT : OexC K cT
  oA : OexC K cA
  tT : ∃ f fd, PySem.W.findIn K (.ref cT) "__init__" = some (some (.ref f)) ∧ PySem.W.typeIn K (.ref f) = some (.type "function") ∧ Fun K "__init__" "TextError.__init__" sTextI f fd ∧ Binds K fd ["self", "column", "words"] []
  tA : ∃ f fd, PySem.W.findIn K (.ref cA) "__init__" = some (some (.ref f)) ∧ PySem.W.typeIn K (.ref f) = some (.type "function") ∧ Fun K "__init__" "Ahead.__init__" sAheadI f fd ∧ Binds K fd ["self", "options"] []
  nCol : PySem.W.findIn K (.ref cT) "column" = some none
  nWor : PySem.W.findIn K (.ref cT) "words" = some none
  nOpt : PySem.W.findIn K (.ref cA) "options" = some none
  gT : mg "TextError" = some (.ref cT)
  gA : mg "Ahead" = some (.ref cA)
  xT : XfC K cT
  xA : XfC K cA
  eTT : PySem.W.exmOne K (.ref cT) (.ref cT) = some true
  eAA : PySem.W.exmOne K (.ref cA) (.ref cA) = some true
  eTA : PySem.W.exmOne K (.ref cT) (.ref cA) = some false
  clP : Cls K cP
  nTok : NoAttr K cP "tokens"
  nSto : NoAttr K cP "stops"
  nAt : NoAttr K cP "at"
  gP : mg "Parser" = some (.ref cP)
  mP : ∃ f fd, Mk K cP f ∧ Fun K "__init__" "Parser.__init__" sParI f fd ∧ Binds K fd ["self", "tokens", "stops"] []

/-! ### the errors -/
section
variable {P : Program} {w : World} {K : PySem.W.Frag} {mg : Str → Option Value} {base : Heap} {cT cA cP : Addr}
def spTI (cT : Addr) (K : PySem.W.Frag) : Sp := fun vs H Q _ => ∃ (a : Addr) (c wd : V), vs = [.ref a, c, wd] ∧ H a = some (exo a cT none) ∧
  ∀ dx, H dx = none → dx ≠ a → Q .non (upd (upd (upd H dx (exd dx [(("column" : Str), c)])) a (exo a cT (some dx))) dx (exd dx [(("words" : Str), wd), (("column" : Str), c)]))
theorem scTI : FnScope ["self", "column", "words"] ["self", "column", "words"] (defScope sTextI) := ⟨rfl, rfl, rfl, by decide +kernel, rfl, by decide +kernel, by decide +kernel⟩
theorem ok_ti {f : Addr} {fd : FuncData} (F : Fun K "__init__" "TextError.__init__" sTextI f fd) (C : Cl K mg cT cA cP) : FnOk P w K mg base CX0 1 f fd ["self", "column", "words"] (spTI cT K) := by
  refine F.ok scTI (fun vs H Q E h => ?_) (fun cdv A outer s H vs Q E hr h => ?_)
  · obtain ⟨a, c, wd, rfl, _⟩ := h
    rfl
  obtain ⟨a, c, wd, rfl, ha, q⟩ := h
  refine ⟨_, pss_cons (ps_ost (pv 0) (pv 1)) (pss_one (ps_ost (pv 0) (pv 2))), ?_⟩
  refine ⟨_, rfl, _, rfl, a, cT, rfl, C.oT, C.nCol, .inl ⟨ha, fun dx ndx ne => ?_⟩⟩
  refine ⟨_, rfl, _, rfl, a, cT, rfl, C.oT, C.nWor, .inr ⟨dx, _, upd_same, (by rw [upd_ne ne]; exact upd_same), (by show 1 ≤ 900; decide), ?_⟩⟩
  exact q dx ndx ne
def spAI (cA : Addr) (K : PySem.W.Frag) : Sp := fun vs H Q _ => ∃ (a : Addr) (c : V), vs = [.ref a, c] ∧ H a = some (exo a cA none) ∧
  ∀ dx, H dx = none → dx ≠ a → Q .non (upd (upd H dx (exd dx [(("options" : Str), c)])) a (exo a cA (some dx)))
theorem scAI : FnScope ["self", "options"] ["self", "options"] (defScope sAheadI) := ⟨rfl, rfl, rfl, by decide +kernel, rfl, by decide +kernel, by decide +kernel⟩
theorem ok_ai {f : Addr} {fd : FuncData} (F : Fun K "__init__" "Ahead.__init__" sAheadI f fd) (C : Cl K mg cT cA cP) : FnOk P w K mg base CX0 1 f fd ["self", "options"] (spAI cA K) := by
  refine F.ok scAI (fun vs H Q E h => ?_) (fun cdv A outer s H vs Q E hr h => ?_)
  · obtain ⟨a, c, rfl, _⟩ := h
    rfl
  obtain ⟨a, c, rfl, ha, q⟩ := h
  refine ⟨_, pss_one (ps_ost (pv 0) (pv 1)), ?_⟩
  refine ⟨_, rfl, _, rfl, a, cA, rfl, C.oA, C.nOpt, .inl ⟨ha, fun dx ndx ne => ?_⟩⟩
  exact q dx ndx ne
/-- the dict of a TextError -/
def teD (c : Int) (wd : Str) : HO := .xd [(("words" : Str), .str wd), (("column" : Str), .int c)]
/-- raise TextError(c, wd) -/
theorem pmk_te {X : Cx} {e : Expr} {es : List Expr} {ta : TA} {p pos : Pos} (C : Cl X.K X.mg cT cA cP) (hr : Room 2 X.A) (ha : PA X (e :: es) ta) (hg : Gl X "TextError" := by rfl) (he : starEach (e :: es) X.env = (false, eval e X.env) :: starEach es X.env := by rfl) (hpl : (backTo pos (starEach es X.env)).any (·.1) = false := by rfl) :
    PMk X (.Call (.Name "TextError" p) (e :: es) [] pos) (tMkO cT (spTI cT X.K) [] ta) := by
  obtain ⟨f, fd, iC, tI, F, hb⟩ := C.tT
  exact pmk_oex C.oT iC tI (ok_ti F C) hr hb .nil pass0 hg C.gT ha (by decide) he hpl
theorem te_end {H1 : Hp} {c wd : V} {Q : XK} (q : ∀ d H', H1 d = none → Same H1 H' → H' d = some (.xd [(("words" : Str), wd), (("column" : Str), c)]) → Q (.ref cT) (some d) H') :
    ([c, wd] : List V).length ≤ 1000 ∧ ∀ a, H1 a = none → spTI cT K (.ref a :: ([c, wd] ++ [])) (upd H1 a (exo a cT none))
      (fun v H2 => v = .non ∧ ∃ (d : Addr) (fs : List (Str × V)), H2 a = some (exo a cT (some d)) ∧ H2 d = some (exd d fs) ∧ H1 d = none ∧ Q (.ref cT) (some d) (upd (del H2 a) d (.xd fs))) (fun _ _ _ => False) := by
  refine ⟨(by show 2 ≤ 1000; decide), fun a na => ⟨a, c, wd, rfl, upd_same, fun dx ndx ne => ⟨rfl, dx, _, (by rw [upd_ne ne.symm]; exact upd_same), upd_same, ?_, ?_⟩⟩⟩
  · rw [upd_ne ne] at ndx
    exact ndx
  · rw [upd_ne ne] at ndx
    refine q dx _ ndx (fun b o hb => ?_) upd_same
    have n1 : b ≠ a := ne_of_none hb na
    have n2 : b ≠ dx := ne_of_none hb ndx
    rw [upd_ne n2, del_ne n1, upd_ne n2, upd_ne n1, upd_ne n2, upd_ne n1]
    exact hb
theorem pmk_ah {X : Cx} {e : Expr} {es : List Expr} {ta : TA} {p pos : Pos} (C : Cl X.K X.mg cT cA cP) (hr : Room 2 X.A) (ha : PA X (e :: es) ta) (hg : Gl X "Ahead" := by rfl) (he : starEach (e :: es) X.env = (false, eval e X.env) :: starEach es X.env := by rfl) (hpl : (backTo pos (starEach es X.env)).any (·.1) = false := by rfl) :
    PMk X (.Call (.Name "Ahead" p) (e :: es) [] pos) (tMkO cA (spAI cA X.K) [] ta) := by
  obtain ⟨f, fd, iC, tI, F, hb⟩ := C.tA
  exact pmk_oex C.oA iC tI (ok_ai F C) hr hb .nil pass0 hg C.gA ha (by decide) he hpl
theorem ah_end {H1 : Hp} {c : V} {Q : XK} (q : ∀ d H', H1 d = none → Same H1 H' → H' d = some (.xd [(("options" : Str), c)]) → Q (.ref cA) (some d) H') :
    ([c] : List V).length ≤ 1000 ∧ ∀ a, H1 a = none → spAI cA K (.ref a :: ([c] ++ [])) (upd H1 a (exo a cA none))
      (fun v H2 => v = .non ∧ ∃ (d : Addr) (fs : List (Str × V)), H2 a = some (exo a cA (some d)) ∧ H2 d = some (exd d fs) ∧ H1 d = none ∧ Q (.ref cA) (some d) (upd (del H2 a) d (.xd fs))) (fun _ _ _ => False) := by
  refine ⟨(by show 1 ≤ 1000; decide), fun a na => ⟨a, c, rfl, upd_same, fun dx ndx ne => ⟨rfl, dx, _, upd_same, (by rw [upd_ne ne]; exact upd_same), ?_, ?_⟩⟩⟩
  · rw [upd_ne ne] at ndx
    exact ndx
  · rw [upd_ne ne] at ndx
    refine q dx _ ndx (fun b o hb => ?_) upd_same
    have n1 : b ≠ a := ne_of_none hb na
    have n2 : b ≠ dx := ne_of_none hb ndx
    rw [upd_ne n2, del_ne n1, upd_ne n1, upd_ne n2, upd_ne n1]
    exact hb

/-! ### the parser's object -/
def pf (l : Addr) (b : Bool) (k : Int) : List (Str × V) := putF "at" (.int k) (putF "stops" (.bl b) (putF "tokens" (.ref l) []))
theorem pne1 : ¬ (("tokens" : Str) = "at") := by decide +kernel
theorem pne2 : ¬ (("stops" : Str) = "at") := by decide +kernel
theorem pne3 : ¬ (("tokens" : Str) = "stops") := by decide +kernel
theorem pf_tokens (l : Addr) (b : Bool) (k : Int) : (pf l b k).lookup ("tokens" : Str) = some (.ref l) := by
  unfold pf
  rw [lookup_putF, if_neg pne1, lookup_putF, if_neg pne3, lookup_putF, if_pos rfl]
theorem pf_stops (l : Addr) (b : Bool) (k : Int) : (pf l b k).lookup ("stops" : Str) = some (.bl b) := by
  unfold pf
  rw [lookup_putF, if_neg pne2, lookup_putF, if_pos rfl]
theorem pf_at (l : Addr) (b : Bool) (k : Int) : (pf l b k).lookup ("at" : Str) = some (.int k) := by
  unfold pf
  rw [lookup_putF, if_pos rfl]
theorem pf_no (l : Addr) (b : Bool) (k : Int) {m : Str} (h1 : ¬ m = "at") (h2 : ¬ m = "stops") (h3 : ¬ m = "tokens") : (pf l b k).lookup m = none := by
  unfold pf
  rw [lookup_putF, if_neg h1, lookup_putF, if_neg h2, lookup_putF, if_neg h3]
  rfl
theorem pf_eq (l : Addr) (b : Bool) (k : Int) : pf l b k = [(("tokens" : Str), V.ref l), (("stops" : Str), V.bl b), (("at" : Str), V.int k)] := by
  have e1 : putF "stops" (.bl b) (putF "tokens" (.ref l) []) = [(("tokens" : Str), V.ref l), (("stops" : Str), V.bl b)] := by
    show (if ("tokens" : Str) = "stops" then _ else (("tokens" : Str), V.ref l) :: putF "stops" (.bl b) []) = _
    rw [if_neg pne3]
    rfl
  unfold pf
  rw [e1]
  show (if ("tokens" : Str) = "at" then _ else (("tokens" : Str), V.ref l) :: (if ("stops" : Str) = "at" then _ else (("stops" : Str), V.bl b) :: putF "at" (.int k) [])) = _
  rw [if_neg pne1, if_neg pne2]
  rfl
theorem pf_put (l : Addr) (b : Bool) (k y : Int) : putF "at" (.int y) (pf l b k) = pf l b y := by
  rw [pf_eq, pf_eq]
  show (if ("tokens" : Str) = "at" then _ else (("tokens" : Str), V.ref l) :: (if ("stops" : Str) = "at" then _ else (("stops" : Str), V.bl b) :: (if ("at" : Str) = "at" then [(("at" : Str), V.int y)] else _))) = _
  rw [if_neg pne1, if_neg pne2, if_pos rfl]
/-- a parser at x, over the tokens at l, at the token k -/
def PAt (cP : Addr) (H : Hp) (x l : Addr) (b : Bool) (k : Nat) : Prop := ∃ dx, H x = some (.ins cP dx (pf l b (k : Int)))
def spPI (cP : Addr) : Sp := fun vs H Q _ => ∃ (x dx l : Addr) (b : Bool), vs = [.ref x, .ref l, .bl b] ∧ H x = some (.ins cP dx []) ∧ ∀ H', PAt cP H' x l b 0 → But x H H' → Q .non H'
theorem scPI : FnScope ["self", "tokens", "stops"] ["self", "tokens", "stops"] (defScope sParI) := ⟨rfl, rfl, rfl, by decide +kernel, rfl, by decide +kernel, by decide +kernel⟩
theorem ok_pi {f : Addr} {fd : FuncData} (F : Fun K "__init__" "Parser.__init__" sParI f fd) (C : Cl K mg cT cA cP) : FnOk P w K mg base CX0 1 f fd ["self", "tokens", "stops"] (spPI cP) := by
  refine F.ok scPI (fun vs H Q E h => ?_) (fun cdv A outer s H vs Q E hr h => ?_)
  · obtain ⟨x, dx, l, b, rfl, _⟩ := h
    rfl
  obtain ⟨x, dx, l, b, rfl, hx, q⟩ := h
  refine ⟨_, pss_cons (ps_fld (pv 0) (pv 1) rfl) (pss_cons (ps_fld (pv 0) (pv 2) rfl) (pss_one (ps_fld (pv 0) pe_int rfl))), ?_⟩
  refine ⟨_, rfl, _, rfl, x, cP, dx, _, rfl, hx, C.clP, C.nTok, (by show 0 < 1000; decide), ?_⟩
  refine ⟨_, rfl, _, rfl, x, cP, dx, _, rfl, upd_same, C.clP, C.nSto, (by show 1 < 1000; decide), ?_⟩
  refine ⟨_, rfl, x, cP, dx, _, rfl, upd_same, C.clP, C.nAt, ?_, ?_⟩
  · have h1 := length_putF "stops" (.bl b) (putF "tokens" (.ref l) [])
    have h2 := length_putF "tokens" (.ref l) []
    rw [List.length_nil] at h2
    omega
  · exact q _ ⟨dx, upd_same⟩ (((But.refl.upd _).upd _).upd _)

/-! ### look -/
/-- the tokens at l -/
def TokL (H : Hp) (l : Addr) (toks : List Tk) : Prop := ∃ ps : List Addr, H l = some (.lst (ps.map V.ref)) ∧ ps.length = toks.length ∧ ∀ (i : Nat) (p : Addr) (t : Tk), ps[i]? = some p → toks[i]? = some t → H p = some (.tup t.vs)
theorem TokL.grow {H H' : Hp} {l : Addr} {toks : List Tk} (e : Same H H') (h : TokL H l toks) : TokL H' l toks := by
  obtain ⟨ps, h1, h2, h3⟩ := h
  exact ⟨ps, e _ _ h1, h2, fun i p t a b => e _ _ (h3 i p t a b)⟩
theorem TokL.at_ {H : Hp} {l : Addr} {toks : List Tk} (h : TokL H l toks) {k : Nat} {t : Tk} (e : toks[k]? = some t) : ∃ p xs, H l = some (.lst xs) ∧ xs[k]? = some (.ref p) ∧ H p = some (.tup t.vs) := by
  obtain ⟨ps, h1, h2, h3⟩ := h
  have hk : k < ps.length := by rw [h2]; exact (List.getElem?_eq_some_iff.mp e).1
  refine ⟨ps[k], _, h1, ?_, h3 k ps[k] t (List.getElem?_eq_getElem hk) e⟩
  rw [List.getElem?_map, List.getElem?_eq_getElem hk]
  rfl
/-- what is raised where t cannot come, or stands at the end -/
def Stops (cT cA : Addr) (os : List Kd) (t : Tk) (b : Bool) (R : Hp → Hp → Prop) (H : Hp) (E : XK) : Prop :=
  (t.k = .fin ∧ b = true → ∀ d p H', R H H' → H' p = some (.lst ((ordd os).map shV)) → H' d = some (.xd [(("options" : Str), .ref p)]) → E (.ref cA) (some d) H') ∧
  (¬ (t.k = .fin ∧ b = true) → os.contains t.k = false → ∀ d H', R H H' → H' d = some (teD t.col (words os)) → E (.ref cT) (some d) H')
def spLook (K : PySem.W.Frag) (cT cA cP : Addr) : Sp := fun vs H Q E => ∃ (x o l : Addr) (b : Bool) (k : Nat) (os : List Kd) (toks : List Tk) (t : Tk), vs = [.ref x, .ref o] ∧ PAt cP H x l b k ∧ SqT K H o (os.map shV) ∧ TokL H l toks ∧ toks[k]? = some t ∧
  1 ≤ (ordd os).length ∧ Stops cT cA os t b Same H E ∧
  (¬ (t.k = .fin ∧ b = true) → os.contains t.k = true → ∀ a H', Same H H' → H' a = some (.tup t.vs) → Q (.ref a) H')
theorem scLook : FnScope ["self", "options", "token"] ["self", "options"] (defScope sLook) := ⟨rfl, rfl, rfl, by decide +kernel, rfl, by decide +kernel, by decide +kernel⟩
theorem ordd_le (os : List Kd) : (ordd os).length ≤ 8 := List.length_filter_le _ _
theorem ok_look (D : DfnM K cP "look" "Parser.look" sLook ["self", "options"]) (T : Txt K mg) (C : Cl K mg cT cA cP)
    (G1 : Cal P w K mg base CX0 1 "in_order" ["options"] (spInOrder K)) (G2 : Cal P w K mg base CX0 1 "joined" ["options"] (spJoined K)) (G3 : Cal P w K mg base CX0 1 "shown" ["token"] spShown) :
    CalM P w K mg base (L2.CX P w) 3 cP "look" ["self", "options"] (spLook K cT cA cP) := by
  obtain ⟨f, fd, hm, F, hb⟩ := D
  refine ⟨f, fd, F.okX scLook (fun vs H Q E h => ?_) (fun cdv A outer s H vs Q E hr h => ?_), hm, hb⟩
  · obtain ⟨x, o, _, _, _, _, _, _, rfl, _⟩ := h
    rfl
  obtain ⟨x, o, l, b, k, os, toks, t, rfl, ⟨dx, hx⟩, hS, hT, hk, ho, ⟨e1, e2⟩, q⟩ := h
  have hr1 : Room 1 _ := hr.mono (by decide)
  have nd := scLook.nd
  refine ⟨_, pss_cons (ps_set (i := 2) nd rfl (Or.inl rfl) (pe_ix ix_list (pe_fld (pv 0) rfl) (pe_fld (pv 0) rfl) (fun _ _ => rfl)))
    (pss_cons (ps_cutS (ps_if (PW.pt (pw_and (pt_cmpR op_eq (pe_ix ix_tup (pv 2) pe_int (fun _ _ => rfl)) pe_str (nomark _)) (pw_and1 (pt_val (pe_fld (pv 0) rfl)))))
      (pss_one (ps_raise rfl (takes_of rfl rfl rfl rfl) (pmk_ah C hr (pa_cons (pe_cal G1 hr1 pass0 (pa_cons (pv 1) pa_nil)) pa_nil)))) pss_nil))
    (pss_cons (ps_if (pt_cmpR op_notIn_seq (pe_cal G3 hr1 pass0 (pa_cons (pv 2) pa_nil)) (pv 1) (by rfl))
      (pss_one (ps_raise rfl (takes_of rfl rfl rfl rfl) (pmk_te C hr (pa_cons (pe_ix ix_tup (pv 2) pe_int (fun _ _ => rfl)) (pa_cons (pe_op op_add_str pe_str (pe_cal G2 hr1 pass0 (pa_cons (pe_cal G1 hr1 pass0 (pa_cons (pv 1) pa_nil)) pa_nil))) pa_nil))))) pss_nil)
    (pss_one (ps_ret (pv 2))))), ?_⟩
  obtain ⟨a, xs, hl, ha, ht⟩ := hT.at_ hk
  refine ⟨_, rfl, x, cP, dx, _, _, rfl, hx, C.clP, C.nTok, pf_tokens _ _ _, _, rfl, x, cP, dx, _, _, rfl, hx, C.clP, C.nAt, pf_at _ _ _, l, xs, _, .ref a, rfl, rfl, SqL.of hl, atI_nat ha, ?_⟩
  refine ⟨fun σ' H' => σ' = [some (.ref x), some (.ref o), some (.ref a)] ∧ H' = H ∧ ¬ (t.k = .fin ∧ b = true), ?_, ?_⟩
  · refine ⟨_, rfl, a, _, 0, _, rfl, rfl, SqT.of ht, atI_nat (j := 0) rfl, rfl, _, rfl, ite2 (fun h => ?_) (fun h => ?_)⟩
    · have hf : t.k = .fin := by
        have h2 := of_decide_eq_true h
        injection h2 with h2
        exact (sort_end t.k).mp h2
      refine ⟨_, rfl, x, cP, dx, _, _, rfl, hx, C.clP, C.nSto, pf_stops _ _ _, _, rfl, ?_⟩
      cases hb2 : b with
      | true =>
        refine iteT ?_
        refine ⟨_, rfl, o, os, rfl, hS, fun p H1 np s1 hp => ?_⟩
        exact ah_end fun d H2 nd2 s2 hd => e1 ⟨hf, hb2⟩ d p H2 (s1.trans s2) (s2 _ _ hp) hd
      | false =>
        exact iteF ⟨rfl, rfl, fun z => by cases z.2⟩
    · refine ⟨rfl, rfl, fun z => ?_⟩
      have h2 := of_decide_eq_false (Bool.eq_false_iff.mpr h)
      exact h2 (congrArg V.str ((sort_end t.k).mpr z.1))
  · rintro σ' H' ⟨rfl, rfl, hns⟩
    refine ⟨_, rfl, a, t, rfl, ht, fun H1 s1 => ?_⟩
    refine ⟨_, rfl, o, _, rfl, .inr (SqT.grow s1 hS), rfl, flat_shown os, _, rfl, ?_⟩
    show (if (!inV (shV t.k) (os.map shV)) = true then _ else _)
    rw [inV_shown]
    cases hc : os.contains t.k with
    | false =>
      refine iteT ?_
      refine ⟨_, rfl, a, _, 2, _, rfl, rfl, SqT.of (s1 _ _ ht), atI_nat (j := 2) rfl, ?_⟩
      refine ⟨_, rfl, o, os, rfl, SqT.grow s1 hS, fun p H2 np s2 hp => ?_⟩
      have em : (ordd os).map shV = ((ordd os).map Kd.shown).map V.str := by rw [List.map_map]; rfl
      have hl8 : ∀ z ∈ (ordd os).map Kd.shown, z.length ≤ 8 := fun z hz => by
        obtain ⟨k2, _, rfl⟩ := List.mem_map.mp hz
        exact shown_len k2
      refine ⟨p, (ordd os).map Kd.shown, rfl, SqL.of (by rw [← em]; exact hp), by rw [List.length_map]; exact ho, by rw [List.length_map]; exact ordd_le os, hl8, fun H3 s3 => ?_⟩
      have hll := lstS_le ((ordd os).map Kd.shown) hl8 (by rw [List.length_map]; exact ordd_le os) (by rw [List.length_map]; exact ho)
      refine ⟨_, _, rfl, rfl, szl ?_, ?_⟩
      · have e9 := exp_len
        unfold expected at e9
        rw [e9]
        omega
      exact te_end fun d H4 nd4 s4 hd => e2 hns hc d H4 (((s1.trans s2).trans s3).trans s4) hd
    | true =>
      refine iteF ⟨_, rfl, ?_⟩
      exact q hns hc a H1 s1 (s1 _ _ ht)

/-! ### take -/
def spTake (K : PySem.W.Frag) (cT cA cP : Addr) : Sp := fun vs H Q E => ∃ (x o l : Addr) (b : Bool) (k : Nat) (os : List Kd) (toks : List Tk) (t : Tk), vs = [.ref x, .ref o] ∧ PAt cP H x l b k ∧ SqT K H o (os.map shV) ∧ TokL H l toks ∧ toks[k]? = some t ∧
  1 ≤ (ordd os).length ∧ Stops cT cA os t b Same H E ∧
  (¬ (t.k = .fin ∧ b = true) → os.contains t.k = true → ∀ a H', But x H H' → PAt cP H' x l b (k + 1) → H' a = some (.tup t.vs) → Q (.ref a) H')
theorem scTake : FnScope ["self", "options", "token"] ["self", "options"] (defScope sTake) := ⟨rfl, rfl, rfl, by decide +kernel, rfl, by decide +kernel, by decide +kernel⟩
theorem ok_take (D : DfnM K cP "take" "Parser.take" sTake ["self", "options"]) (C : Cl K mg cT cA cP)
    (G : CalM P w K mg base (L2.CX P w) 3 cP "look" ["self", "options"] (spLook K cT cA cP)) : CalM P w K mg base (L2.CX P w) 4 cP "take" ["self", "options"] (spTake K cT cA cP) := by
  obtain ⟨f, fd, hm, F, hb⟩ := D
  refine ⟨f, fd, F.okX scTake (fun vs H Q E h => ?_) (fun cdv A outer s H vs Q E hr h => ?_), hm, hb⟩
  · obtain ⟨x, o, _, _, _, _, _, _, rfl, _⟩ := h
    rfl
  obtain ⟨x, o, l, b, k, os, toks, t, rfl, ⟨dx, hx⟩, hS, hT, hk, ho, e, q⟩ := h
  have nd := scTake.nd
  refine ⟨_, pss_cons (ps_set (i := 2) nd rfl (Or.inl rfl) (pe_cm G C.clP hr (passes_call (E := E) (takes_of rfl rfl rfl rfl) (fun _ _ _ _ z => z)) (pv 0) (pa_cons (pv 1) pa_nil)))
    (pss_cons (ps_fldaug (pv 0) pe_int in_add) (pss_one (ps_ret (pv 2)))), ?_⟩
  refine ⟨_, rfl, x, dx, _, rfl, hx, pf_no _ _ _ (by decide +kernel) (by decide +kernel) (by decide +kernel), ?_⟩
  refine ⟨_, rfl, x, o, l, b, k, os, toks, t, rfl, ⟨dx, hx⟩, hS, hT, hk, ho, e, fun h1 h2 a H1 s1 ha => ?_⟩
  have hx1 := s1 _ _ hx
  refine ⟨_, rfl, x, cP, dx, _, _, rfl, hx1, C.clP, C.nAt, pf_at _ _ _, ?_⟩
  refine ⟨_, _, rfl, rfl, dx, _, hx1, ?_, ?_⟩
  · rw [pf_eq]
    show 3 < 1000
    decide
  rw [pf_put]
  refine ⟨_, rfl, ?_⟩
  refine q h1 h2 a _ ((But.of s1).upd _) ⟨dx, upd_same⟩ ?_
  rw [upd_ne (ne_of ha hx1 (by intro z; cases z))]
  exact ha
end
end N75
/-! The parser: item and whole, by the machine. -/
namespace N75
open PySem L2

structure Ctx where
  toks : List Tk
  st0 : Stt × Int
  b : Bool
  n0 : Nat
  D : Int
def Ctx.st (c : Ctx) (i : Nat) : Stt × Int := ((c.toks.take i).map Tk.k).foldl stp c.st0
abbrev Ctx.os (c : Ctx) (i : Nat) : List Kd := opts (c.st i).1 (c.st i).2
theorem Ctx.st_succ (c : Ctx) {i : Nat} {t : Tk} (h : c.toks[i]? = some t) : c.st (i + 1) = stp (c.st i) t.k := by
  unfold Ctx.st
  rw [take_snoc h, List.map_append, List.foldl_append]
  rfl
structure Ctx.Ok (c : Ctx) : Prop where
  le : c.n0 ≤ c.toks.length
  good : ∀ i t, i < c.n0 → c.toks[i]? = some t → (c.os i).contains t.k = true ∧ ¬ (t.k = .fin ∧ c.b = true)
  bad : ∀ t, c.toks[c.n0]? = some t → (t.k = .fin ∧ c.b = true) ∨ (c.os c.n0).contains t.k = false
  fin : ∀ i t, c.toks[i]? = some t → (t.k = .fin ↔ i + 1 = c.toks.length)
  dep : ∀ i, i ≤ c.n0 → (c.st i).2 ≤ c.D
  few : c.toks.length ≤ 40
theorem Ctx.Ok.at_ {c : Ctx} (o : c.Ok) {k : Nat} (h : k < c.toks.length) : ∃ t, c.toks[k]? = some t := ⟨_, List.getElem?_eq_getElem h⟩
/-- where the tokens stop going on, this is raised -/
def Fail (c : Ctx) (cT cA : Addr) (x : Addr) (H : Hp) (E : XK) : Prop := ∀ t, c.toks[c.n0]? = some t → Stops cT cA (c.os c.n0) t c.b (But x) H E
theorem Stops.but {cT cA : Addr} {os : List Kd} {t : Tk} {b : Bool} {x : Addr} {H H1 : Hp} {E : XK} (s : Stops cT cA os t b (But x) H E) (e : But x H H1) : Stops cT cA os t b (But x) H1 E :=
  ⟨fun h d p H' r => s.1 h d p H' (e.trans r), fun h h2 d H' r => s.2 h h2 d H' (e.trans r)⟩
theorem Stops.same {cT cA : Addr} {os : List Kd} {t : Tk} {b : Bool} {x : Addr} {H H1 : Hp} {E : XK} (s : Stops cT cA os t b (But x) H E) (e : But x H H1) : Stops cT cA os t b Same H1 E :=
  ⟨fun h d p H' r => s.1 h d p H' (e.trans (But.of r)), fun h h2 d H' r => s.2 h h2 d H' (e.trans (But.of r))⟩
theorem Fail.but {c : Ctx} {cT cA x : Addr} {H H1 : Hp} {E : XK} (f : Fail c cT cA x H E) (e : But x H H1) : Fail c cT cA x H1 E := fun t h => (f t h).but e
/-- at a token that can come nothing is raised; where it cannot, what Fail says -/
theorem stops_of {c : Ctx} (o : c.Ok) {cT cA x : Addr} {H H1 : Hp} {E : XK} (f : Fail c cT cA x H E) (e : But x H H1) {k : Nat} {t : Tk} (hk : k ≤ c.n0) (ht : c.toks[k]? = some t) : Stops cT cA (c.os k) t c.b Same H1 E := by
  by_cases h : k < c.n0
  · obtain ⟨h1, h2⟩ := o.good k t h ht
    exact ⟨fun z => absurd z h2, fun _ z => by rw [h1] at z; cases z⟩
  · have hk2 : k = c.n0 := by omega
    subst hk2
    exact (f t ht).same e
theorem Ctx.Ok.pass {c : Ctx} (o : c.Ok) {k : Nat} {t : Tk} (hk : k ≤ c.n0) (ht : c.toks[k]? = some t) (h1 : ¬ (t.k = .fin ∧ c.b = true)) (h2 : (c.os k).contains t.k = true) : k < c.n0 := by
  by_cases h : k < c.n0
  · exact h
  · have hk2 : k = c.n0 := by omega
    subst hk2
    rcases o.bad t ht with z | z
    · exact absurd z h1
    · rw [h2] at z
      cases z
/-- no stop at a token that is known to be one of these and to be good -/
theorem stops_not {c : Ctx} {cT cA : Addr} {os : List Kd} {t : Tk} {H1 : Hp} {E : XK} (h1 : ¬ (t.k = .fin ∧ c.b = true)) (h2 : os.contains t.k = true) : Stops cT cA os t c.b Same H1 E :=
  ⟨fun z => absurd z h1, fun _ z => by rw [h2] at z; cases z⟩
def closer (d : Int) : Kd := if d > 0 then .rp else .fin
def isBeg (k : Kd) : Bool := [Kd.ltr, Kd.lp, Kd.dot].contains k
/-- an item can begin at k -/
def Beg (c : Ctx) (k : Nat) (d : Int) : Prop := c.st k = (.begin, d) ∨ (c.st k = (.item, d) ∧ k < c.n0 ∧ ∀ t, c.toks[k]? = some t → isBeg t.k = true)
theorem TupsK.but {x : Addr} {H H' : Hp} {C dx : Addr} {fs : List (Str × V)} (e : But x H H') (hx : H x = some (.ins C dx fs)) : TupsK H H' := fun b xs h => e b _ (ne_of h hx (by intro z; cases z)) h
theorem TokL.but {x : Addr} {H H' : Hp} {C dx : Addr} {fs : List (Str × V)} {l : Addr} {toks : List Tk} (e : But x H H') (hx : H x = some (.ins C dx fs)) (h : TokL H l toks) : TokL H' l toks := by
  obtain ⟨ps, h1, h2, h3⟩ := h
  exact ⟨ps, e _ _ (ne_of h1 hx (by intro z; cases z)) h1, h2, fun i p t a b => (TupsK.but e hx) _ _ (h3 i p t a b)⟩

section
variable {P : Program} {w : World} {K : PySem.W.Frag} {mg : Str → Option Value} {base : Heap} {cT cA cP : Addr}
/-- what item and whole ask -/
structure Pre (K : PySem.W.Frag) (cT cA cP : Addr) (c : Ctx) (m : Nat) (x l : Addr) (k : Nat) (d : Int) (H : Hp) (E : XK) : Prop where
  at_ : PAt cP H x l c.b k
  tok : TokL H l c.toks
  le : k ≤ c.n0
  lt : k < c.toks.length
  beg : Beg c k d
  nn : 0 ≤ d
  dep : c.D < d + m
  fail : Fail c cT cA x H E
def spItem (K : PySem.W.Frag) (cT cA cP : Addr) (c : Ctx) (m : Nat) : Sp := fun vs H Q E => ∃ (x l : Addr) (k : Nat) (d : Int), vs = [.ref x, shV (closer d)] ∧ Pre K cT cA cP c (m + 1) x l k d H E ∧
  ∀ v H' (k' n : Nat), But x H H' → PAt cP H' x l c.b k' → TrAt H' v n → n ≤ 3 * (k' - k) → k < k' → k' < c.n0 → c.st k' = (.item, d) → (∀ t, c.toks[k']? = some t → t.k ≠ .qm ∧ t.k ≠ .star) → Q v H'
def spWhole (K : PySem.W.Frag) (cT cA cP : Addr) (c : Ctx) (m : Nat) : Sp := fun vs H Q E => ∃ (x l : Addr) (k : Nat) (d : Int), vs = [.ref x, shV (closer d)] ∧ Pre K cT cA cP c m x l k d H E ∧
  ∀ v H' (k' n : Nat), But x H H' → PAt cP H' x l c.b k' → TrAt H' v n → n ≤ 3 * (k' - k) → k < k' → k' ≤ c.n0 → (d > 0 → c.st k' = (.item, d - 1) ∧ k' < c.toks.length) → (d ≤ 0 → k' = c.toks.length) → Q v H'
theorem stp_beg {s : Stt × Int} {d : Int} {k : Kd} (h : s = (.begin, d) ∨ s = (.item, d)) (hk : isBeg k = true) : stp s k = if k = .lp then (.begin, d + 1) else (.item, d) := by
  rcases h with rfl | rfl <;> cases k <;> first | rfl | exact absurd hk (by decide)
theorem Beg.opts {c : Ctx} (o : c.Ok) {k : Nat} {d : Int} (h : Beg c k d) {t : Tk} (ht : c.toks[k]? = some t) (hk : k ≤ c.n0) {cT cA x : Addr} {H H1 : Hp} {E : XK} (f : Fail c cT cA x H E) (e : But x H H1) :
    Stops cT cA [.ltr, .lp, .dot] t c.b Same H1 E := by
  rcases h with h | ⟨h, hl, hb⟩
  · have s := stops_of o f e hk ht
    unfold Ctx.os at s
    rw [h] at s
    exact s
  · exact stops_not (o.good k t hl ht).2 (hb t ht)
theorem Beg.lt {c : Ctx} (o : c.Ok) {k : Nat} {d : Int} (h : Beg c k d) {t : Tk} (ht : c.toks[k]? = some t) (hk : k ≤ c.n0) (h1 : ¬ (t.k = .fin ∧ c.b = true)) (h2 : isBeg t.k = true) : k < c.n0 := by
  rcases h with h | ⟨_, hl, _⟩
  · refine o.pass hk ht h1 ?_
    unfold Ctx.os
    rw [h]
    exact h2
  · exact hl
theorem scItem : FnScope ["self", "closing", "token", "found", "following"] ["self", "closing"] (defScope sItem) := ⟨rfl, rfl, rfl, by decide +kernel, rfl, by decide +kernel, by decide +kernel⟩
theorem opts_item (d : Int) : opts .item d = [.ltr, .lp, .dot, .qm, .star, .bar, if d > 0 then .rp else .fin] := rfl
theorem catBeg {d : Int} : ([shV .ltr, shV .lp, shV .dot] ++ [shV .qm, shV .star]) ++ [shV .bar, shV (closer d)] = (opts .item d).map shV := by
  rw [opts_item]
  unfold closer
  by_cases h : d > 0
  · rw [if_pos h]; rfl
  · rw [if_neg h]; rfl
theorem ordd_item (d : Int) : 1 ≤ (ordd (opts .item d)).length := by
  rw [opts_item]
  by_cases h : d > 0
  · rw [if_pos h]; decide
  · rw [if_neg h]; decide
theorem ok_item {c : Ctx} (o : c.Ok) {m lv : Nat} (D : DfnM K cP "item" "Parser.item" sItem ["self", "closing"]) (T : Txt K mg) (C : Cl K mg cT cA cP) (hlv : 4 ≤ lv)
    (GL : CalM P w K mg base (L2.CX P w) 3 cP "look" ["self", "options"] (spLook K cT cA cP)) (GT : CalM P w K mg base (L2.CX P w) 4 cP "take" ["self", "options"] (spTake K cT cA cP))
    (GS : Cal P w K mg base CX0 1 "shown" ["token"] spShown) (GW : CalM P w K mg base (L2.CX P w) lv cP "whole" ["self", "closing"] (spWhole K cT cA cP c m)) :
    CalM P w K mg base (L2.CX P w) (lv + 1) cP "item" ["self", "closing"] (spItem K cT cA cP c m) := by
  obtain ⟨f, fd, hm, F, hb⟩ := D
  refine ⟨f, fd, F.okX scItem (fun vs H Q E h => ?_) (fun cdv A outer s H vs Q E hr h => ?_), hm, hb⟩
  · obtain ⟨x, _, _, _, rfl, _⟩ := h
    rfl
  obtain ⟨x, l, k, d, rfl, ⟨⟨dx, hx⟩, hT, hk, hlt, hB, hd, hD, hF⟩, q⟩ := h
  have hr1 : Room 1 _ := hr.mono (by omega)
  have hr3 : Room 3 _ := hr.mono (by omega)
  have hr4 : Room 4 _ := hr.mono (by omega)
  have nd := scItem.nd
  obtain ⟨aBeg, mBeg, kBeg⟩ := T.gBEG
  obtain ⟨aBeh, mBeh, kBeh⟩ := T.gBEH
  have gBeg : GlV mg "BEGINNINGS" (.ref aBeg) := ⟨_, mBeg, rfl⟩
  have gBeh : GlV mg "BEHIND" (.ref aBeh) := ⟨_, mBeh, rfl⟩
  refine ⟨_, pss_cons (ps_set (i := 2) nd rfl (Or.inl rfl) (pe_cm GT C.clP hr4 (passes_call (E := E) (takes_of rfl rfl rfl rfl) (fun _ _ _ _ z => z)) (pv 0) (pa_cons (pe_g gBeg) pa_nil)))
    (pss_cons (ps_set (i := 3) nd rfl (Or.inl rfl) (pe_ix ix_tup (pv 2) pe_int (fun _ _ => rfl)))
    (pss_cons (ps_cutS (ps_if (pt_cmpR op_eq (pe_ix ix_tup (pv 2) pe_int (fun _ _ => rfl)) pe_str (nomark _)) (pss_one (ps_set (i := 3) nd rfl (Or.inl rfl) pe_str)) pss_nil))
    (pss_cons (ps_cutS (ps_if (pt_cmpR op_eq (pe_ix ix_tup (pv 2) pe_int (fun _ _ => rfl)) pe_str (nomark _)) (pss_one (ps_set (i := 3) nd rfl (Or.inl rfl)
        (pe_cm GW C.clP hr (passes_call (E := E) (takes_of rfl rfl rfl rfl) (fun _ _ _ _ z => z)) (pv 0) (pa_cons pe_str pa_nil)))) pss_nil))
    (pss_cons (ps_cutS (ps_set (i := 4) nd rfl (Or.inl rfl) (pe_op op_catT (pe_op op_catT (pe_g gBeg) (pe_g gBeh)) (pe_tup (pa_cons pe_str (pa_cons (pv 1) pa_nil))))))
    (pss_cons (ps_while (passes_of rfl) (pt_cmpR op_in_seq (pe_cal GS hr1 pass0 (pa_cons (pe_cm GL C.clP hr3 (passes_call (E := E) (takes_of rfl rfl rfl rfl) (fun _ _ _ _ z => z)) (pv 0) (pa_cons (pv 4) pa_nil)) pa_nil)) (pe_g gBeh) (by rfl))
      (pss_one (ps_set (i := 3) nd rfl (Or.inl rfl) (pe_tup (pa_cons (pe_cutE (pe_ifExp (pt_cmpR op_eq (pe_ix ix_tup (pe_cm GT C.clP hr4 (passes_call (E := E) (takes_of rfl rfl rfl rfl) (fun _ _ _ _ z => z)) (pv 0) (pa_cons (pe_g gBeh) pa_nil)) pe_int (fun _ _ => rfl)) pe_str (nomark _)) pe_str pe_str)) (pa_cons (pv 3) pa_nil))))))
    (pss_one (ps_ret (pv 3)))))))), ?_⟩
  obtain ⟨t, ht⟩ := o.at_ hlt
  -- the token
  refine ⟨_, rfl, x, dx, _, rfl, hx, pf_no _ _ _ (by decide +kernel) (by decide +kernel) (by decide +kernel), ?_⟩
  refine ⟨x, aBeg, l, c.b, k, [.ltr, .lp, .dot], c.toks, t, rfl, ⟨dx, hx⟩, kBeg.sq H, hT, ht, by decide, hB.opts o ht hk hF But.refl, fun h1 h2 a H1 s1 pa1 ha => ?_⟩
  have hkn : k < c.n0 := hB.lt o ht hk h1 h2
  obtain ⟨dx1, hx1⟩ := id pa1
  have hst : c.st (k + 1) = if t.k = .lp then (.begin, d + 1) else (.item, d) := by
    rw [c.st_succ ht]
    refine stp_beg ?_ h2
    rcases hB with z | ⟨z, _⟩
    · exact .inl z
    · exact .inr z
  have hfin : t.k ≠ .fin := fun z => by rw [z] at h2; exact absurd h2 (by decide)
  have hk1 : k + 1 < c.toks.length := by
    have h3 := o.le
    have h4 : ¬ k + 1 = c.toks.length := fun z => hfin ((o.fin k t ht).mpr z)
    omega
  refine ⟨_, rfl, a, _, 1, _, rfl, rfl, SqT.of ha, atI_nat (j := 1) rfl, ?_⟩
  -- found = "" for a point
  refine ⟨fun σ' H' => H' = H1 ∧ ∃ v : Str, σ' = [some (.ref x), some (shV (closer d)), some (.ref a), some (.str v), none], ?_, ?_⟩
  · refine ⟨_, rfl, a, _, 1, _, rfl, rfl, SqT.of ha, atI_nat (j := 1) rfl, rfl, _, rfl, ite2 (fun _ => ?_) (fun _ => ?_)⟩
    · exact ⟨rfl, _, rfl⟩
    · exact ⟨rfl, _, rfl⟩
  rintro σ' H' ⟨rfl, v0, rfl⟩
  -- found = self.whole('")"')
  refine ⟨fun σ' H' => ∃ (v : V) (k1 n : Nat), σ' = [some (.ref x), some (shV (closer d)), some (.ref a), some v, none] ∧ But x H H' ∧ PAt cP H' x l c.b k1 ∧ TrAt H' v n ∧ n ≤ 3 * (k1 - k) ∧ k < k1 ∧ k1 ≤ c.n0 ∧ k1 < c.toks.length ∧ c.st k1 = (.item, d), ?_, ?_⟩
  · refine ⟨_, rfl, a, _, 1, _, rfl, rfl, SqT.of ha, atI_nat (j := 1) rfl, rfl, _, rfl, ite2 (fun h => ?_) (fun h => ?_)⟩
    · have hlp : t.k = .lp := by
        have z := of_decide_eq_true h
        injection z with z
        exact (s_lp t).mp z
      rw [if_pos hlp] at hst
      refine ⟨_, rfl, x, dx1, _, rfl, hx1, pf_no _ _ _ (by decide +kernel) (by decide +kernel) (by decide +kernel), ?_⟩
      have hc1 : closer (d + 1) = .rp := if_pos (by omega)
      refine ⟨x, l, k + 1, d + 1, ?_, ⟨pa1, TokL.but s1 hx hT, by omega, hk1, .inl hst, by omega, by omega, hF.but s1⟩, fun v H2 k' n s2 pa2 tr hn hkk hkn2 hpos _ => ?_⟩
      · rw [hc1]
        rfl
      · obtain ⟨h5, h6⟩ := hpos (by omega)
        have e1 : d + 1 - 1 = d := by omega
        rw [e1] at h5
        exact ⟨v, k', n, rfl, s1.trans s2, pa2, tr, by omega, by omega, hkn2, h6, h5⟩
    · have hlp : ¬ t.k = .lp := fun z => by
        have z2 := of_decide_eq_false (Bool.eq_false_iff.mpr h)
        exact z2 (congrArg V.str ((s_lp t).mpr z))
      rw [if_neg hlp] at hst
      exact ⟨.str v0, k + 1, 1, rfl, s1, pa1, .leaf _, by omega, by omega, by omega, hk1, hst⟩
  rintro σ' H2 ⟨v1, k1, n1, rfl, s2, pa2, tr1, hn1, hkk1, hkn1, hkl1, hst1⟩
  -- following
  refine ⟨fun σ' H' => ∃ p5 : Addr, σ' = [some (.ref x), some (shV (closer d)), some (.ref a), some v1, some (.ref p5)] ∧ Same H2 H' ∧ H' p5 = some (.tup ((opts .item d).map shV)), ?_, ?_⟩
  · refine ⟨aBeg, aBeh, _, _, rfl, rfl, kBeg.sq _, kBeh.sq _, (by intro z; cases z), (by show 5 ≤ sizeLine; decide), ?_⟩
    refine ⟨(fun z => by cases z), fun _ p3 n3 => ?_⟩
    refine ⟨_, rfl, (by show 2 ≤ sizeLine; decide), fun p4 n4 => ?_⟩
    refine ⟨p3, p4, _, _, rfl, rfl, SqT.of (same_new n4 _ _ _ upd_same), SqT.of upd_same, (by intro z; cases z), (by show 7 ≤ sizeLine; decide), (fun z => by cases z), fun _ p5 n5 => ?_⟩
    refine ⟨p5, rfl, ((same_new n3 _).trans (same_new n4 _)).trans (same_new n5 _), ?_⟩
    rw [upd_same, ← catBeg]
    rfl
  rintro σ' H5 ⟨p5, rfl, s25, h5⟩
  -- the signs behind
  refine ⟨fun mm σ' H' => ∃ (v : V) (k1 n : Nat), σ' = [some (.ref x), some (shV (closer d)), some (.ref a), some v, some (.ref p5)] ∧ mm = c.n0 - k1 ∧ But x H H' ∧ PAt cP H' x l c.b k1 ∧ H' p5 = some (.tup ((opts .item d).map shV)) ∧ TrAt H' v n ∧ n ≤ 3 * (k1 - k) ∧ k < k1 ∧ k1 ≤ c.n0 ∧ k1 < c.toks.length ∧ c.st k1 = (.item, d),
    ⟨c.n0 - k1, v1, k1, n1, rfl, rfl, s2.trans (But.of s25), ?_, h5, tr1.grow s25, hn1, hkk1, hkn1, hkl1, hst1⟩, ?_⟩
  · obtain ⟨dx2, hx2⟩ := pa2
    exact ⟨dx2, s25 _ _ hx2⟩
  rintro mm σ' H6 ⟨v2, k2, n2, rfl, rfl, s6, pa6, h6, tr2, hn2, hkk2, hkn2, hkl2, hst2⟩
  obtain ⟨dx6, hx6⟩ := id pa6
  obtain ⟨t2, ht2⟩ := o.at_ hkl2
  have eos : c.os k2 = opts .item d := by unfold Ctx.os; rw [hst2]
  refine ⟨_, rfl, x, dx6, _, rfl, hx6, pf_no _ _ _ (by decide +kernel) (by decide +kernel) (by decide +kernel), ?_⟩
  refine ⟨_, rfl, x, p5, l, c.b, k2, opts .item d, c.toks, t2, rfl, pa6, SqT.of h6, TokL.but s6 hx hT, ht2, ordd_item d, ?_, fun h7 h8 a2 H7 s7 ha2 => ?_⟩
  · have z := stops_of o hF s6 hkn2 ht2
    rw [eos] at z
    exact z
  have hkn3 : k2 < c.n0 := o.pass hkn2 ht2 h7 (by rw [eos]; exact h8)
  refine ⟨a2, t2, rfl, ha2, fun H8 s8 => ?_⟩
  have s68 : Same H6 H8 := s7.trans s8
  have b8 : But x H H8 := s6.trans (But.of s68)
  have hx8 := s68 _ _ hx6
  refine ⟨aBeh, _, rfl, .inr (kBeh.sq _), rfl, rfl, _, rfl, ?_⟩
  have eb : inV (shV t2.k) [shV .qm, shV .star] = [Kd.qm, Kd.star].contains t2.k := inV_shown t2.k [.qm, .star]
  show (if inV (shV t2.k) [shV .qm, shV .star] = true then _ else _)
  rw [eb]
  cases hq : [Kd.qm, Kd.star].contains t2.k with
  | true =>
    refine iteT ?_
    have hqs : t2.k = .qm ∨ t2.k = .star := by
      revert hq
      cases t2.k <;> first | exact fun _ => .inl rfl | exact fun _ => .inr rfl | (intro z; exact absurd z (by decide))
    refine ⟨fun σ' H' => ∃ m', m' < c.n0 - k2 ∧ ∃ (v : V) (k1 n : Nat), σ' = [some (.ref x), some (shV (closer d)), some (.ref a), some v, some (.ref p5)] ∧ m' = c.n0 - k1 ∧ But x H H' ∧ PAt cP H' x l c.b k1 ∧ H' p5 = some (.tup ((opts .item d).map shV)) ∧ TrAt H' v n ∧ n ≤ 3 * (k1 - k) ∧ k < k1 ∧ k1 ≤ c.n0 ∧ k1 < c.toks.length ∧ c.st k1 = (.item, d),
      fun σ' H' z => z, ?_⟩
    refine ⟨fun v H' => ∃ wd : Str, v = .str wd ∧ (wd = sMb ∨ wd = sMn) ∧ But x H8 H' ∧ PAt cP H' x l c.b (k2 + 1), ?_, ?_⟩
    · refine ⟨_, rfl, x, dx6, _, rfl, hx8, pf_no _ _ _ (by decide +kernel) (by decide +kernel) (by decide +kernel), ?_⟩
      refine ⟨x, aBeh, l, c.b, k2, [.qm, .star], c.toks, t2, rfl, ⟨dx6, hx8⟩, kBeh.sq _, TokL.but b8 hx hT, ht2, by decide, stops_not h7 hq, fun _ _ a3 H9 s9 pa9 ha9 => ?_⟩
      refine ⟨a3, _, 1, _, rfl, rfl, SqT.of ha9, atI_nat (j := 1) rfl, rfl, _, rfl, ite2 (fun _ => ?_) (fun _ => ?_)⟩
      · exact ⟨_, rfl, .inl rfl, s9, pa9⟩
      · exact ⟨_, rfl, .inr rfl, s9, pa9⟩
    · rintro v H9 ⟨wd, rfl, hwd, s9, pa9⟩
      refine ⟨_, rfl, (by show 2 ≤ sizeLine; decide), fun p10 n10 => ?_⟩
      obtain ⟨dx9, hx9⟩ := id pa9
      have tk9 : TupsK H6 (upd H9 p10 (.tup [.str wd, v2])) := ((TupsK.of s68).trans (TupsK.but s9 hx8)).trans (TupsK.new n10 _)
      refine ⟨c.n0 - (k2 + 1), by omega, .ref p10, k2 + 1, n2 + 1, rfl, rfl, (b8.trans s9).trans (But.of (same_new n10 _)), ⟨dx9, same_new n10 _ _ _ hx9⟩, tk9 _ _ h6, .one hwd upd_same (tr2.keep tk9), by omega, by omega, by omega, ?_, ?_⟩
      · have h10 := o.le
        have hf2 : t2.k ≠ .fin := by rcases hqs with z | z <;> rw [z] <;> decide
        have h11 : ¬ k2 + 1 = c.toks.length := fun z => hf2 ((o.fin k2 t2 ht2).mpr z)
        omega
      · rw [c.st_succ ht2, hst2]
        rcases hqs with z | z <;> rw [z] <;> rfl
  | false =>
    refine iteF ⟨_, rfl, ?_⟩
    refine q v2 H8 k2 n2 b8 ⟨dx6, hx8⟩ (tr2.grow s68) hn2 hkk2 hkn3 hst2 fun t3 ht3 => ?_
    have e3 : t3 = t2 := Option.some.inj (ht3.symm.trans ht2)
    subst e3
    refine ⟨fun z => ?_, fun z => ?_⟩ <;> rw [z] at hq <;> exact absurd hq (by decide)
end
end N75
/-! The parser: whole; both by induction. -/
namespace N75
open PySem L2

/-- the rows, with n parts in all -/
inductive RwAt (H : Hp) : List Addr → Nat → Prop
  | nil : RwAt H [] 0
  | cons {r : Addr} {rs : List Addr} {xs : List V} {n m : Nat} (hr : H r = some (.lst xs)) (t : TrsAt H xs n) (q : RwAt H rs m) : RwAt H (r :: rs) (n + m)
theorem RwAt.keep {H H' : Hp} (e : TupsK H H') : ∀ {rs : List Addr} {n : Nat}, (∀ r xs, r ∈ rs → H r = some (.lst xs) → H' r = some (.lst xs)) → RwAt H rs n → RwAt H' rs n
  | _, _, _, .nil => .nil
  | _, _, k, .cons hr t q => .cons (k _ _ (List.mem_cons_self ..) hr) (t.keep e) (RwAt.keep e (fun r xs h => k r xs (List.mem_cons_of_mem _ h)) q)
theorem RwAt.app {H : Hp} : ∀ {xs ys : List Addr} {n m : Nat}, RwAt H xs n → RwAt H ys m → RwAt H (xs ++ ys) (n + m)
  | _, _, _, _, .nil, s => by rw [Nat.zero_add]; exact s
  | _, _, _, _, .cons hp t r, s => by
    rw [Nat.add_assoc]
    exact .cons hp t (RwAt.app r s)
theorem RwAt.last {H : Hp} {p : Addr} : ∀ {ps : List Addr} {n : Nat}, RwAt H (ps ++ [p]) n → ∃ a b xs, n = a + b ∧ RwAt H ps a ∧ H p = some (.lst xs) ∧ TrsAt H xs b
  | [], _, .cons (n := b) hp t .nil => ⟨0, b, _, by omega, .nil, hp, t⟩
  | q :: ps, _, .cons (n := c) hp t r => by
    obtain ⟨a, b, xs, e, h1, h2, h3⟩ := RwAt.last (ps := ps) r
    exact ⟨c + a, b, xs, by omega, .cons hp t h1, h2, h3⟩
theorem RwAt.mem {H : Hp} : ∀ {rs : List Addr} {n : Nat}, RwAt H rs n → ∀ r ∈ rs, ∃ xs, H r = some (.lst xs)
  | _, _, .nil, r, h => absurd h (by simp)
  | _, _, .cons hr t q, r, h => by
    rcases (List.mem_cons.mp h) with e | h
    · rw [e]; exact ⟨_, hr⟩
    · exact RwAt.mem q r h
theorem item_os {d : Int} {k : Kd} (h : (opts .item d).contains k = true) (h1 : k ≠ .qm) (h2 : k ≠ .star) : [Kd.ltr, .lp, .dot, .bar, closer d].contains k = true := by
  rw [opts_item] at h
  unfold closer
  by_cases hd : d > 0
  · rw [if_pos hd] at h ⊢
    revert h h1 h2
    cases k <;> decide
  · rw [if_neg hd] at h ⊢
    revert h h1 h2
    cases k <;> decide
theorem item_beg {d : Int} {k : Kd} (h : [Kd.ltr, .lp, .dot, .bar, closer d].contains k = true) (h1 : k ≠ .bar) (h2 : k ≠ closer d) : isBeg k = true := by
  revert h h2
  unfold closer
  by_cases hd : d > 0
  · rw [if_pos hd]
    revert h1
    cases k <;> decide
  · rw [if_neg hd]
    revert h1
    cases k <;> decide
theorem ordd_close (d : Int) : 1 ≤ (ordd [Kd.ltr, .lp, .dot, .bar, closer d]).length := by
  unfold closer
  by_cases h : d > 0
  · rw [if_pos h]; decide
  · rw [if_neg h]; decide
theorem ordd_cl (d : Int) : 1 ≤ (ordd [closer d]).length := by
  unfold closer
  by_cases h : d > 0
  · rw [if_pos h]; decide
  · rw [if_neg h]; decide
section
variable {P : Program} {w : World} {K : PySem.W.Frag} {mg : Str → Option Value} {base : Heap} {cT cA cP : Addr}
/-- what holds at the head of a turn -/
structure WhI (cP : Addr) (c : Ctx) (x l : Addr) (k : Nat) (d : Int) (H : Hp) (rp : Addr) (k1 : Nat) (H' : Hp) : Prop where
  but : But x H H'
  at_ : PAt cP H' x l c.b k1
  ge : k ≤ k1
  le : k1 ≤ c.n0
  lt : k1 < c.toks.length
  beg : Beg c k1 d
  rows : ∃ (rs : List Addr) (tot : Nat), rs ≠ [] ∧ H' rp = some (.lst (rs.map V.ref)) ∧ rs.Nodup ∧ rp ∉ rs ∧ (∀ r ∈ rs, H r = none) ∧ RwAt H' rs tot ∧ tot + 3 * rs.length ≤ 3 * (k1 - k) + 3
theorem scWhole : FnScope ["self", "closing", "rows", "token", "row"] ["self", "closing"] (defScope sWhole) := ⟨rfl, rfl, rfl, by decide +kernel, rfl, by decide +kernel, by decide +kernel⟩
theorem ok_whole {c : Ctx} (o : c.Ok) {m lv : Nat} (D : DfnM K cP "whole" "Parser.whole" sWhole ["self", "closing"]) (T : Txt K mg) (C : Cl K mg cT cA cP) (hlv : 4 ≤ lv)
    (GL : CalM P w K mg base (L2.CX P w) 3 cP "look" ["self", "options"] (spLook K cT cA cP)) (GT : CalM P w K mg base (L2.CX P w) 4 cP "take" ["self", "options"] (spTake K cT cA cP))
    (GS : Cal P w K mg base CX0 1 "shown" ["token"] spShown) (GO : Cal P w K mg base CX0 1 "opened" ["word", "parts"] spOpened) (GR : Cal P w K mg base CX0 1 "row_of" ["word", "parts"] spRowOf)
    (GI : CalM P w K mg base (L2.CX P w) lv cP "item" ["self", "closing"] (spItem K cT cA cP c m)) :
    CalM P w K mg base (L2.CX P w) (lv + 1) cP "whole" ["self", "closing"] (spWhole K cT cA cP c (m + 1)) := by
  obtain ⟨f, fd, hm, F, hb⟩ := D
  refine ⟨f, fd, F.okX scWhole (fun vs H Q E h => ?_) (fun cdv A outer s H vs Q E hr h => ?_), hm, hb⟩
  · obtain ⟨x, _, _, _, rfl, _⟩ := h
    rfl
  obtain ⟨x, l, k, d, rfl, ⟨⟨dx, hx⟩, hT, hk, hlt, hB, hd, hD, hF⟩, q⟩ := h
  have hr1 : Room 1 _ := hr.mono (by omega)
  have hr3 : Room 3 _ := hr.mono (by omega)
  have hr4 : Room 4 _ := hr.mono (by omega)
  have nd := scWhole.nd
  obtain ⟨aBeg, mBeg, kBeg⟩ := T.gBEG
  have gBeg : GlV mg "BEGINNINGS" (.ref aBeg) := ⟨_, mBeg, rfl⟩
  refine ⟨_, pss_cons (ps_set (i := 2) nd rfl (Or.inl rfl) (pe_lst (pa_cons (pe_lst pa_nil) pa_nil)))
    (pss_one (ps_while (passes_of rfl) (pt_val pe_bl)
      (pss_cons (ps_cutS (ps_expr (pe_bm PySem.F.plainAttrs_list PySem.F.slot_list_append PySem.F.type_list_append mt_append (pe_ix ix_list (pv 2) (pe_un un_neg pe_int) (fun _ _ => rfl))
          (pa_cons (pe_cm GI C.clP hr (passes_call (E := E) (takes_of rfl rfl rfl rfl) (fun _ _ _ _ z => z)) (pv 0) (pa_cons (pv 1) pa_nil)) pa_nil))))
      (pss_cons (ps_cutS (ps_set (i := 3) nd rfl (Or.inl rfl) (pe_cm GL C.clP hr3 (passes_call (E := E) (takes_of rfl rfl rfl rfl) (fun _ _ _ _ z => z)) (pv 0) (pa_cons (pe_op op_catT (pe_g gBeg) (pe_tup (pa_cons pe_str (pa_cons (pv 1) pa_nil)))) pa_nil))))
      (pss_one (ps_if (pt_cmpR op_eq (pe_ix ix_tup (pv 3) pe_int (fun _ _ => rfl)) pe_str (nomark _))
        (pss_cons (ps_expr (pe_cm GT C.clP hr4 (passes_call (E := E) (takes_of rfl rfl rfl rfl) (fun _ _ _ _ z => z)) (pv 0) (pa_cons (pe_tup (pa_cons pe_str pa_nil)) pa_nil)))
          (pss_one (ps_expr (pe_bm PySem.F.plainAttrs_list PySem.F.slot_list_append PySem.F.type_list_append mt_append (pv 2) (pa_cons (pe_lst pa_nil) pa_nil)))))
        (pss_one (ps_if (pt_cmpR op_eq (pe_cal GS hr1 pass0 (pa_cons (pv 3) pa_nil)) (pv 1) (nomark _))
          (pss_cons (ps_cutS (ps_expr (pe_cm GT C.clP hr4 (passes_call (E := E) (takes_of rfl rfl rfl rfl) (fun _ _ _ _ z => z)) (pv 0) (pa_cons (pe_tup (pa_cons (pv 1) pa_nil)) pa_nil))))
            (pss_one (ps_ret (pe_cal GR hr1 pass0 (pa_cons pe_str (pa_cons (pe_cal GO hr1 pass0 (pa_cons pe_str (pa_cons
              (pe_lc (own := [("row", 4)]) (g := gName 4) (tt := tYes) rfl nd (pi_list (pv 2)) (blkOk_by (own := [("row", 4)]) (N := ["self", "closing", "rows", "token", "row"]) (sc := defScope sWhole) (by decide +kernel)) (fun _ _ _ _ _ => pg_name (i := 4) nd rfl (Or.inl rfl)) (fun _ _ _ _ _ => pts_nil)
                (fun _ _ _ _ _ => pe_cal GR hr1 pass0 (pa_cons pe_str (pa_cons (pe_cal GO hr1 pass0 (pa_cons pe_str (pa_cons (pv 4) pa_nil))) pa_nil)))) pa_nil))) pa_nil))))))
          pss_nil)))))))), ?_⟩
  refine ⟨Nat.zero_le _, fun p1 n1 => ?_⟩
  refine ⟨(by show 1 ≤ sizeLine; decide), fun rp n2 => ?_⟩
  have n12 : p1 ≠ rp := ne_of_none upd_same n2
  have nrp : H rp = none := (same_new n1 _).free n2
  refine ⟨fun mm σ' H' => ∃ (k1 : Nat) (v3 : Option V), mm = c.n0 - k1 ∧ σ' = [some (.ref x), some (shV (closer d)), some (.ref rp), v3, none] ∧ WhI cP c x l k d H rp k1 H',
    ⟨c.n0 - k, k, none, rfl, rfl, ?_⟩, ?_⟩
  · have s0 : Same H (upd (upd H p1 (.lst [])) rp (.lst [.ref p1])) := (same_new n1 _).trans (same_new n2 _)
    refine ⟨But.of s0, ⟨dx, s0 _ _ hx⟩, Nat.le_refl _, hk, hlt, hB, [p1], 0, by simp, upd_same, by simp, by simpa using n12.symm, ?_, ?_, by simp⟩
    · intro r hr2
      rw [List.mem_singleton.mp hr2]
      exact n1
    · refine .cons (n := 0) (m := 0) (xs := []) ?_ .nil .nil
      rw [upd_ne n12]
      exact upd_same
  rintro mm σ' H1 ⟨k1, v3, rfl, rfl, ⟨s1, ⟨dx1, hx1⟩, hge, hle, hlt1, hB1, rs, tot, hne, hrp, hnd, hni, hno, hRw, hsz⟩⟩
  refine ⟨true, rfl, iteT ?_⟩
  obtain ⟨pre, r, rfl⟩ := addr_last hne
  obtain ⟨ta, tb, xs, et, rw1, hr1', tx⟩ := hRw.last
  have lx := tx.len
  have hfew := o.few
  have nrx : r ≠ x := ne_of hr1' hx1 (by intro z; cases z)
  have nrpx : rp ≠ x := ne_of hrp hx1 (by intro z; cases z)
  refine ⟨fun σ' H' => ∃ m', m' < c.n0 - k1 ∧ ∃ (k1 : Nat) (v3 : Option V), m' = c.n0 - k1 ∧ σ' = [some (.ref x), some (shV (closer d)), some (.ref rp), v3, none] ∧ WhI cP c x l k d H rp k1 H', fun σ' H' z => z, ?_⟩
  -- rows[-1].append(self.item(closing))
  refine ⟨fun σ' H' => ∃ (k2 : Nat) (tot2 : Nat), σ' = [some (.ref x), some (shV (closer d)), some (.ref rp), v3, none] ∧ But x H H' ∧ PAt cP H' x l c.b k2 ∧ k1 < k2 ∧ k2 < c.n0 ∧ c.st k2 = (.item, d) ∧ (∀ t, c.toks[k2]? = some t → t.k ≠ .qm ∧ t.k ≠ .star) ∧
      H' rp = some (.lst ((pre ++ [r]).map V.ref)) ∧ RwAt H' (pre ++ [r]) tot2 ∧ tot2 + 3 * (pre ++ [r]).length ≤ 3 * (k2 - k) + 3, ?_, ?_⟩
  · refine ⟨_, rfl, 1, rfl, rp, pre.map V.ref ++ [.ref r], -1, .ref r, rfl, rfl, SqL.of (by rw [hrp, List.map_append]; rfl), atI_last _ _, .inl ⟨rfl, _, SqL.of hr1'⟩, ?_⟩
    refine ⟨_, rfl, x, dx1, _, rfl, hx1, pf_no _ _ _ (by decide +kernel) (by decide +kernel) (by decide +kernel), _, rfl, ?_⟩
    refine ⟨x, l, k1, d, rfl, ⟨⟨dx1, hx1⟩, TokL.but s1 hx hT, hle, hlt1, hB1, hd, by omega, hF.but s1⟩, fun v H2 k2 n s2 pa2 tr hn hkk hkn hst hns => ?_⟩
    have hr2 := s2 _ _ nrx hr1'
    have tk2 := TupsK.but s2 hx1
    refine ⟨r, xs, v, rfl, rfl, hr2, small1000 (by omega), ?_⟩
    have tk3 : TupsK H1 (upd H2 r (.lst (xs ++ [v]))) := tk2.trans (.upd hr2 _)
    have s3 : But x H (upd H2 r (.lst (xs ++ [v]))) := fun b u nb hb => by
      rw [upd_ne (ne_of_none hb (hno r (by simp)))]
      exact s2 _ _ nb (s1 _ _ nb hb)
    have hrpr : rp ≠ r := fun z => hni (by rw [z]; simp)
    refine ⟨k2, ta + (tb + n), rfl, s3, ?_, hkk, hkn, hst, hns, ?_, ?_, by omega⟩
    · obtain ⟨dx2, hx2⟩ := pa2
      exact ⟨dx2, by rw [upd_ne nrx.symm]; exact hx2⟩
    · rw [upd_ne hrpr]
      exact s2 _ _ nrpx hrp
    · refine (rw1.keep tk3 fun r' xs' hr' hx' => ?_).app (.cons (m := 0) upd_same ((tx.keep tk3).snoc (tr.keep (.upd hr2 _))) .nil)
      have nr' : r' ≠ r := fun z => by
        rw [z] at hr'
        exact (List.nodup_append.mp hnd).2.2 r hr' r (by simp) rfl
      rw [upd_ne nr']
      exact s2 _ _ (ne_of hx' hx1 (by intro z; cases z)) hx'
  rintro σ' H3 ⟨k2, tot2, rfl, s3, ⟨dx3, hx3⟩, hk12, hkn2, hst2, hns2, hrp3, rw3, hsz3⟩
  have hole := o.le
  have hsm : tot2 + 3 * (pre ++ [r]).length ≤ 130 := by omega
  obtain ⟨t2, ht2⟩ := o.at_ (Nat.lt_of_lt_of_le hkn2 o.le)
  obtain ⟨hg1, hg2⟩ := o.good k2 t2 hkn2 ht2
  have hos : [Kd.ltr, .lp, .dot, .bar, closer d].contains t2.k = true := by
    unfold Ctx.os at hg1
    rw [hst2] at hg1
    exact item_os hg1 (hns2 t2 ht2).1 (hns2 t2 ht2).2
  -- token = self.look(..)
  refine ⟨fun σ' H' => ∃ a : Addr, σ' = [some (.ref x), some (shV (closer d)), some (.ref rp), some (.ref a), none] ∧ Same H3 H' ∧ H' a = some (.tup t2.vs), ?_, ?_⟩
  · refine ⟨_, rfl, x, dx3, _, rfl, hx3, pf_no _ _ _ (by decide +kernel) (by decide +kernel) (by decide +kernel), ?_⟩
    refine ⟨_, rfl, (by show 2 ≤ sizeLine; decide), fun p4 n4 => ?_⟩
    refine ⟨aBeg, p4, _, _, rfl, rfl, kBeg.sq _, SqT.of upd_same, (by intro z; cases z), (by show 5 ≤ sizeLine; decide), (fun z => by cases z), fun _ p5 n5 => ?_⟩
    have s35 := (same_new n4 (.tup [shV .bar, shV (closer d)])).trans (same_new n5 (.tup ([shV .ltr, shV .lp, shV .dot] ++ [shV .bar, shV (closer d)])))
    refine ⟨x, p5, l, c.b, k2, [.ltr, .lp, .dot, .bar, closer d], c.toks, t2, rfl, ⟨dx3, s35 _ _ hx3⟩, SqT.of upd_same, (TokL.but s3 hx hT).grow s35, ht2, ordd_close d, stops_not hg2 hos, fun _ _ a H4 s4 ha => ?_⟩
    exact ⟨a, rfl, s35.trans s4, ha⟩
  rintro σ' H4 ⟨a, rfl, s4, ha⟩
  have hx4 := s4 _ _ hx3
  have b4 : But x H H4 := s3.trans (But.of s4)
  have hrp4 := s4 _ _ hrp3
  have rw4 : RwAt H4 (pre ++ [r]) tot2 := rw3.keep (TupsK.of s4) fun r' xs' _ h' => s4 _ _ h'
  refine ⟨_, rfl, a, _, 1, _, rfl, rfl, SqT.of ha, atI_nat (j := 1) rfl, rfl, _, rfl, ite2 (fun h => ?_) (fun h => ?_)⟩
  · -- a bar
    have hbar : t2.k = .bar := by
      have z := of_decide_eq_true h
      injection z with z
      exact (s_bar t2).mp z
    refine ⟨_, rfl, x, dx3, _, rfl, hx4, pf_no _ _ _ (by decide +kernel) (by decide +kernel) (by decide +kernel), ?_⟩
    refine ⟨(by show 1 ≤ sizeLine; decide), fun p5 n5 => ?_⟩
    have s45 := same_new n5 (.tup [shV .bar])
    refine ⟨x, p5, l, c.b, k2, [.bar], c.toks, t2, rfl, ⟨dx3, s45 _ _ hx4⟩, SqT.of upd_same, (TokL.but b4 hx hT).grow s45, ht2, by decide, stops_not hg2 (by rw [hbar]; decide), fun _ _ a2 H6 s6 pa6 ha2 => ?_⟩
    have b46 : But x H4 H6 := (But.of s45).trans s6
    have hrp6 := b46 _ _ nrpx hrp4
    obtain ⟨dx6, hx6⟩ := id pa6
    refine ⟨_, rfl, .inl ⟨rfl, _, SqL.of hrp6⟩, Nat.zero_le _, fun p7 n7 => ?_⟩
    have hrp7 := same_new n7 (.lst []) _ _ hrp6
    have hrsl : ((pre ++ [r]).map V.ref).length ≤ 200 := by rw [List.length_map]; omega
    refine ⟨rp, _, .ref p7, rfl, rfl, hrp7, small1000 (by omega), ?_⟩
    have tk6 : TupsK H4 H6 := TupsK.but b46 hx4
    have tk8 : TupsK H4 (upd (upd H6 p7 (.lst [])) rp (.lst ((pre ++ [r]).map V.ref ++ [.ref p7]))) := (tk6.trans (TupsK.new n7 _)).trans (.upd hrp7 _)
    have hrs6 : ∀ r', r' ∈ pre ++ [r] → ∃ xs', H6 r' = some (.lst xs') := fun r' hr' => by
      obtain ⟨xs', hx'⟩ := rw4.mem r' hr'
      exact ⟨xs', b46 _ _ (ne_of hx' hx4 (by intro z; cases z)) hx'⟩
    have n7rp : p7 ≠ rp := (ne_of_none hrp6 n7).symm
    refine ⟨c.n0 - (k2 + 1), by omega, k2 + 1, some (.ref a), rfl, rfl, ⟨?_, ?_, by omega, by omega, ?_, .inl ?_, (pre ++ [r]) ++ [p7], tot2, by simp, ?_, ?_, ?_, ?_, ?_, ?_⟩⟩
    · intro b u nb hb
      rw [upd_ne (ne_of_none hb nrp), upd_ne (ne_of_none (b46 _ _ nb (b4 _ _ nb hb)) n7)]
      exact b46 _ _ nb (b4 _ _ nb hb)
    · exact ⟨dx6, by rw [upd_ne nrpx.symm, upd_ne (ne_of_none hx6 n7)]; exact hx6⟩
    · have h10 := o.le
      have hf2 : t2.k ≠ .fin := by rw [hbar]; decide
      have h11 : ¬ k2 + 1 = c.toks.length := fun z => hf2 ((o.fin k2 t2 ht2).mpr z)
      omega
    · rw [c.st_succ ht2, hst2, hbar]
      rfl
    · rw [upd_same, List.map_append (l₁ := pre ++ [r])]
      rfl
    · refine List.nodup_append.mpr ⟨hnd, by simp, ?_⟩
      intro z hz z2 hz2 e
      obtain ⟨xs', hx'⟩ := hrs6 z hz
      rw [List.mem_singleton.mp hz2] at e
      exact ne_of_none hx' n7 e
    · intro z
      rcases List.mem_append.mp z with z | z
      · exact hni z
      · exact n7rp (List.mem_singleton.mp z).symm
    · intro z hz
      rcases List.mem_append.mp hz with hz | hz
      · exact hno z hz
      · rw [List.mem_singleton.mp hz]
        cases hq : H p7 with
        | none => rfl
        | some u =>
          exfalso
          have nx7 : p7 ≠ x := (ne_of_none hx6 n7).symm
          have := b46 _ _ nx7 (b4 _ _ nx7 hq)
          rw [n7] at this
          cases this
    · have e0 : tot2 = tot2 + 0 := rfl
      rw [e0]
      refine (rw4.keep tk8 fun r' xs' hr' h' => ?_).app (.cons (n := 0) (m := 0) (xs := []) ?_ .nil .nil)
      · have h6' := b46 _ _ (ne_of h' hx4 (by intro z; cases z)) h'
        rw [upd_ne (fun z => hni (by rw [← z]; exact hr')), upd_ne (ne_of_none h6' n7)]
        exact h6'
      · rw [upd_ne n7rp]
        exact upd_same
    · rw [List.length_append (bs := [p7]), List.length_singleton]
      omega
  · have hbar : ¬ t2.k = .bar := fun z => by
      have z2 := of_decide_eq_false (Bool.eq_false_iff.mpr h)
      exact z2 (congrArg V.str ((s_bar t2).mpr z))
    refine ⟨_, rfl, a, t2, rfl, ha, fun H5 s5 => ?_⟩
    have s35 : Same H3 H5 := s4.trans s5
    have b5 : But x H H5 := s3.trans (But.of s35)
    have hx5 := s35 _ _ hx3
    have hrp5 := s35 _ _ hrp3
    have rw5 : RwAt H5 (pre ++ [r]) tot2 := rw3.keep (TupsK.of s35) fun r' xs' _ h' => s35 _ _ h'
    refine ⟨_, rfl, rfl, _, rfl, ite2 (fun h => ?_) (fun h => ?_)⟩
    · -- the closing one
      have hcl : t2.k = closer d := by
        have z := of_decide_eq_true h
        injection z with z
        exact shown_inj _ _ z
      refine ⟨fun σ' H' => σ' = [some (.ref x), some (shV (closer d)), some (.ref rp), some (.ref a), none] ∧ But x H5 H' ∧ PAt cP H' x l c.b (k2 + 1), ?_, ?_⟩
      · refine ⟨_, rfl, x, dx3, _, rfl, hx5, pf_no _ _ _ (by decide +kernel) (by decide +kernel) (by decide +kernel), ?_⟩
        refine ⟨_, rfl, (by show 1 ≤ sizeLine; decide), fun p5 n5 => ?_⟩
        have s56 := same_new n5 (.tup [shV (closer d)])
        refine ⟨x, p5, l, c.b, k2, [closer d], c.toks, t2, rfl, ⟨dx3, s56 _ _ hx5⟩, SqT.of upd_same, (TokL.but b5 hx hT).grow s56, ht2, ordd_cl d, stops_not hg2 (by rw [hcl]; simp), fun _ _ a2 H6 s6 pa6 ha2 => ?_⟩
        exact ⟨rfl, (But.of s56).trans s6, pa6⟩
      rintro σ' H6 ⟨rfl, s6, pa6⟩
      have hrp6 := s6 _ _ nrpx hrp5
      have tk6 : TupsK H5 H6 := TupsK.but s6 hx5
      have rw6 : RwAt H6 (pre ++ [r]) tot2 := rw5.keep tk6 fun r' xs' _ h' => s6 _ _ (ne_of h' hx5 (by intro z; cases z)) h'
      refine ⟨_, rfl, rp, rfl, ⟨_, SqL.of hrp6⟩, fun Dl nD => ?_⟩
      have nrD : rp ≠ Dl := ne_of_none hrp6 nD
      refine lc_list (K := K) (a := rp) (xs := (pre ++ [r]).map V.ref) (fun i H' => But Dl H6 H' ∧ ∃ (ys : List V) (a1 a2 : Nat), H' Dl = some (.lst ys) ∧ TrsAt H' ys a1 ∧ RwAt H' ((pre ++ [r]).drop i) a2 ∧ a1 + a2 ≤ tot2 + i ∧ i ≤ (pre ++ [r]).length)
        ⟨But.refl.upd _, [], 0, tot2, upd_same, .nil, rw6.keep (TupsK.new nD _) (fun r' xs' _ h' => same_new nD _ _ _ h'), by omega, Nat.zero_le _⟩ (fun i H' _ h => SqL.of (h.1 _ _ nrD hrp6)) ?_ ?_
      · rintro i y H7 hy ⟨s7, ys, a1, a2, hD7, ty, rq, hsum, hi⟩
        rw [List.getElem?_map] at hy
        cases hri : (pre ++ [r])[i]? with
        | none => rw [hri] at hy; cases hy
        | some ri =>
          rw [hri] at hy
          have hy2 : V.ref ri = y := Option.some.inj hy
          subst hy2
          have hdz : (pre ++ [r]).drop i = ri :: (pre ++ [r]).drop (i + 1) := by
            obtain ⟨h1, h2⟩ := List.getElem?_eq_some_iff.mp hri
            rw [← h2]
            exact List.drop_eq_getElem_cons h1
          have hil := (List.getElem?_eq_some_iff.mp hri).1
          rw [hdz] at rq
          cases rq with
          | @cons _ _ zs b1 b2 hz tz rr =>
            have lys := ty.len
            refine ⟨rfl, ?_⟩
            refine ⟨_, rfl, sJn, ri, zs, b1, rfl, .inl rfl, hz, tz, by omega, fun p8 H8 ws m8 np8 s8 hp8 tw8 hm8 => ?_⟩
            refine ⟨sJn, p8, ws, m8, rfl, .inl rfl, hp8, tw8, by omega, fun v9 H9 m9 s9 tv9 hm9 => ?_⟩
            have s79 : Same H7 H9 := s8.trans s9
            have hD9 := s79 _ _ hD7
            refine ⟨ys, hD9, small1000 (by omega), ?_⟩
            have tk10 : TupsK H7 (upd H9 Dl (.lst (ys ++ [v9]))) := (TupsK.of s79).trans (.upd hD9 _)
            refine ⟨(s7.trans (But.of s79)).upd _, ys ++ [v9], a1 + m9, b2, upd_same, (ty.keep tk10).snoc (tv9.keep (.upd hD9 _)), rr.keep tk10 (fun r' xs' hr' h' => ?_), by omega, by omega⟩
            have hr'2 : r' ∈ pre ++ [r] := List.mem_of_mem_drop hr'
            obtain ⟨xs6, hx6'⟩ := rw6.mem r' hr'2
            rw [upd_ne (ne_of_none hx6' nD)]
            exact s79 _ _ h'
      · rintro H7 ⟨s7, ys, a1, a2, hD7, ty, rq, hsum, hi⟩
        rw [List.length_map] at hsum rq
        rw [List.drop_length] at rq
        cases rq
        have s67 : Same H6 H7 := s7.same nD
        refine ⟨sOr, Dl, ys, a1, rfl, .inr rfl, hD7, ty, by omega, fun p8 H8 ws m8 np8 s8 hp8 tw8 hm8 => ?_⟩
        refine ⟨sOr, p8, ws, m8, rfl, .inr rfl, hp8, tw8, by omega, fun v9 H9 m9 s9 tv9 hm9 => ?_⟩
        have b9 : But x H H9 := ((b5.trans s6).trans (But.of s67)).trans (But.of (s8.trans s9))
        obtain ⟨dx6, hx6⟩ := pa6
        have hlr : 1 ≤ (pre ++ [r]).length := by simp
        refine q v9 H9 (k2 + 1) m9 b9 ⟨dx6, s9 _ _ (s8 _ _ (s67 _ _ hx6))⟩ tv9 (by omega) (by omega) (by omega) (fun hp => ?_) (fun hp => ?_)
        · have hrpk : t2.k = .rp := by rw [hcl]; exact if_pos hp
          refine ⟨by rw [c.st_succ ht2, hst2, hrpk]; rfl, ?_⟩
          have h10 := o.le
          have hf2 : t2.k ≠ .fin := by rw [hrpk]; decide
          have h11 : ¬ k2 + 1 = c.toks.length := fun z => hf2 ((o.fin k2 t2 ht2).mpr z)
          omega
        · have hfk : t2.k = .fin := by rw [hcl]; exact if_neg (by omega)
          exact (o.fin k2 t2 ht2).mp hfk
    · -- one more item
      have hcl : ¬ t2.k = closer d := fun z => by
        have z2 := of_decide_eq_false (Bool.eq_false_iff.mpr h)
        exact z2 (by rw [z])
      have hbg := item_beg hos hbar hcl
      refine ⟨c.n0 - k2, by omega, k2, some (.ref a), rfl, rfl, ⟨b5, ⟨dx3, hx5⟩, by omega, by omega, Nat.lt_of_lt_of_le hkn2 o.le, .inr ⟨hst2, hkn2, fun t ht => ?_⟩, pre ++ [r], tot2, by simp, hrp5, hnd, hni, hno, rw5, hsz3⟩⟩
      have e : t = t2 := Option.some.inj (ht.symm.trans ht2)
      rw [e]
      exact hbg
end
end N75
/-! Both defs by induction; word. -/
namespace N75
open PySem L2
section
variable {P : Program} {w : World} {K : PySem.W.Frag} {mg : Str → Option Value} {base : Heap} {cT cA cP : Addr}
theorem ok_wholes {c : Ctx} (o : c.Ok) (DW : DfnM K cP "whole" "Parser.whole" sWhole ["self", "closing"]) (DI : DfnM K cP "item" "Parser.item" sItem ["self", "closing"]) (T : Txt K mg) (C : Cl K mg cT cA cP)
    (GL : CalM P w K mg base (L2.CX P w) 3 cP "look" ["self", "options"] (spLook K cT cA cP)) (GT : CalM P w K mg base (L2.CX P w) 4 cP "take" ["self", "options"] (spTake K cT cA cP))
    (GS : Cal P w K mg base CX0 1 "shown" ["token"] spShown) (GO : Cal P w K mg base CX0 1 "opened" ["word", "parts"] spOpened) (GR : Cal P w K mg base CX0 1 "row_of" ["word", "parts"] spRowOf) :
    ∀ m : Nat, CalM P w K mg base (L2.CX P w) (4 + 2 * m) cP "whole" ["self", "closing"] (spWhole K cT cA cP c m)
  | 0 => by
    obtain ⟨f, fd, hm, F, hb⟩ := DW
    have no : ∀ vs H Q E, ¬ spWhole K cT cA cP c 0 vs H Q E := fun vs H Q E h => by
      obtain ⟨x, l, k, d, _, p, _⟩ := h
      have h1 := o.dep k p.le
      have h2 := p.dep
      have h3 : (c.st k).2 = d := by
        rcases p.beg with z | ⟨z, _⟩ <;> rw [z]
      omega
    exact ⟨f, fd, ⟨fun vs H Q E h => absurd h (no vs H Q E), fun A outer s H args us vs Q E _ _ _ _ h => absurd h (no vs H Q E)⟩, hm, hb⟩
  | m + 1 => by
    have ih := ok_wholes o DW DI T C GL GT GS GO GR m
    have gi := ok_item (m := m) (lv := 4 + 2 * m) o DI T C (by omega) GL GT GS ih
    have gw := ok_whole (m := m) (lv := 4 + 2 * m + 1) o DW T C (by omega) GL GT GS GO GR gi
    exact gw.mono (by omega)

/-! ### word -/
def spWord (K : PySem.W.Frag) (cT cA cP : Addr) (c : Ctx) : Sp := fun vs H Q E => ∃ (x l : Addr), vs = [.ref x] ∧ PAt cP H x l c.b 0 ∧ TokL H l c.toks ∧ c.st0 = (.word, 0) ∧ 1 ≤ c.toks.length ∧ Fail c cT cA x H E ∧
  ∀ p H' ts, But x H H' → TokL H' p ts → ts.length ≤ c.toks.length → c.n0 = c.toks.length → Q (.ref p) H'
theorem scWord : FnScope ["self", "token", "found"] ["self"] (defScope sWord) := ⟨rfl, rfl, rfl, by decide +kernel, rfl, by decide +kernel, by decide +kernel⟩
theorem TokL.snoc {H : Hp} {l a : Addr} {ts : List Tk} {ps : List Addr} {t : Tk} (h1 : H l = some (.lst (ps.map V.ref))) (h2 : ps.length = ts.length) (h3 : ∀ (i : Nat) (p : Addr) (t : Tk), ps[i]? = some p → ts[i]? = some t → H p = some (.tup t.vs)) (ha : H a = some (.tup t.vs)) :
    TokL (upd H l (.lst (ps.map V.ref ++ [.ref a]))) l (ts ++ [t]) := by
  refine ⟨ps ++ [a], ?_, by rw [List.length_append, List.length_append, h2]; rfl, fun i p u hp hu => ?_⟩
  · rw [upd_same, List.map_append]
    rfl
  have key : H p = some (.tup u.vs) := by
    by_cases hi : i < ps.length
    · rw [List.getElem?_append_left hi] at hp
      rw [List.getElem?_append_left (by omega)] at hu
      exact h3 i p u hp hu
    · rw [List.getElem?_append_right (by omega)] at hp
      rw [List.getElem?_append_right (by omega)] at hu
      rw [← h2] at hu
      cases hz : i - ps.length with
      | zero =>
        rw [hz] at hp hu
        cases hp
        cases hu
        exact ha
      | succ n =>
        rw [hz] at hp
        simp at hp
  rw [upd_ne (ne_of key h1 (by intro z; cases z))]
  exact key
theorem ok_word {c : Ctx} (o : c.Ok) (D : DfnM K cP "word" "Parser.word" sWord ["self"]) (T : Txt K mg) (C : Cl K mg cT cA cP)
    (GT : CalM P w K mg base (L2.CX P w) 4 cP "take" ["self", "options"] (spTake K cT cA cP)) :
    CalM P w K mg base (L2.CX P w) 5 cP "word" ["self"] (spWord K cT cA cP c) := by
  obtain ⟨f, fd, hm, F, hb⟩ := D
  refine ⟨f, fd, F.okX scWord (fun vs H Q E h => ?_) (fun cdv A outer s H vs Q E hr h => ?_), hm, hb⟩
  · obtain ⟨x, _, rfl, _⟩ := h
    rfl
  obtain ⟨x, l, rfl, ⟨dx, hx⟩, hT, hst0, hlen, hF, q⟩ := h
  have nd := scWord.nd
  refine ⟨_, pss_cons (ps_cutS (ps_set (i := 1) nd rfl (Or.inl rfl) (pe_cm GT C.clP hr (passes_call (E := E) (takes_of rfl rfl rfl rfl) (fun _ _ _ _ z => z)) (pv 0) (pa_cons (pe_tup (pa_cons pe_str (pa_cons pe_str pa_nil))) pa_nil))))
    (pss_cons (ps_cutS (ps_if (pt_cmpR op_eq (pe_ix ix_tup (pv 1) pe_int (fun _ _ => rfl)) pe_str (nomark _))
        (pss_cons (ps_expr (pe_cm GT C.clP hr (passes_call (E := E) (takes_of rfl rfl rfl rfl) (fun _ _ _ _ z => z)) (pv 0) (pa_cons (pe_tup (pa_cons pe_str pa_nil)) pa_nil))) (pss_one (ps_ret (pe_lst pa_nil)))) pss_nil))
    (pss_cons (ps_set (i := 2) nd rfl (Or.inl rfl) (pe_lst pa_nil))
    (pss_cons (ps_while (passes_of rfl) (pt_cmpR op_eq (pe_ix ix_tup (pv 1) pe_int (fun _ _ => rfl)) pe_str (nomark _))
      (pss_cons (ps_expr (pe_bm PySem.F.plainAttrs_list PySem.F.slot_list_append PySem.F.type_list_append mt_append (pv 2) (pa_cons (pv 1) pa_nil)))
        (pss_one (ps_set (i := 1) nd rfl (Or.inl rfl) (pe_cm GT C.clP hr (passes_call (E := E) (takes_of rfl rfl rfl rfl) (fun _ _ _ _ z => z)) (pv 0) (pa_cons (pe_tup (pa_cons pe_str (pa_cons pe_str pa_nil))) pa_nil))))))
    (pss_one (ps_ret (pv 2)))))), ?_⟩
  have hst : c.st 0 = (.word, 0) := hst0
  obtain ⟨t0, ht0⟩ := o.at_ (k := 0) (by omega)
  have hole := o.le
  have e0 : c.os 0 = [.ltr, .dot] := by unfold Ctx.os; rw [hst]; rfl
  refine ⟨fun σ' H' => ∃ a : Addr, σ' = [some (.ref x), some (.ref a), none] ∧ But x H H' ∧ PAt cP H' x l c.b 1 ∧ H' a = some (.tup t0.vs) ∧ 0 < c.n0 ∧ [Kd.ltr, .dot].contains t0.k = true, ?_, ?_⟩
  · refine ⟨_, rfl, x, dx, _, rfl, hx, pf_no _ _ _ (by decide +kernel) (by decide +kernel) (by decide +kernel), ?_⟩
    refine ⟨(by show 2 ≤ sizeLine; decide), fun p n => ?_⟩
    have s1 := same_new n (.tup [shV .ltr, shV .dot])
    refine ⟨x, p, l, c.b, 0, [.ltr, .dot], c.toks, t0, rfl, ⟨dx, s1 _ _ hx⟩, SqT.of upd_same, hT.grow s1, ht0, by decide, ?_, fun h1 h2 a H1 s2 pa ha => ?_⟩
    · have z := stops_of o hF (But.of s1) (Nat.zero_le _) ht0
      rw [e0] at z
      exact z
    · exact ⟨a, rfl, (But.of s1).trans s2, pa, ha, o.pass (Nat.zero_le _) ht0 h1 (by rw [e0]; exact h2), h2⟩
  rintro σ' H1 ⟨a0, rfl, s1, pa1, ha0, hn0, hc0⟩
  obtain ⟨dx1, hx1⟩ := id pa1
  have hf0 : t0.k ≠ .fin := fun z => by rw [z] at hc0; exact absurd hc0 (by decide)
  have hl1 : 1 < c.toks.length := by
    have h3 : ¬ 0 + 1 = c.toks.length := fun z => hf0 ((o.fin 0 t0 ht0).mpr z)
    omega
  obtain ⟨t1, ht1⟩ := o.at_ hl1
  refine ⟨fun σ' H' => σ' = [some (.ref x), some (.ref a0), none] ∧ H' = H1 ∧ t0.k = .ltr, ?_, ?_⟩
  · refine ⟨_, rfl, a0, _, 1, _, rfl, rfl, SqT.of ha0, atI_nat (j := 1) rfl, rfl, _, rfl, ite2 (fun h => ?_) (fun h => ?_)⟩
    · have hd : t0.k = .dot := by
        have z := of_decide_eq_true h
        injection z with z
        exact (s_dot t0).mp z
      have hst1 : c.st 1 = (.empty, 0) := by
        rw [c.st_succ ht0, hst, hd]
        rfl
      have e1 : c.os 1 = [.fin] := by unfold Ctx.os; rw [hst1]; rfl
      refine ⟨_, rfl, x, dx1, _, rfl, hx1, pf_no _ _ _ (by decide +kernel) (by decide +kernel) (by decide +kernel), ?_⟩
      refine ⟨(by show 1 ≤ sizeLine; decide), fun p n => ?_⟩
      have s2 := same_new n (.tup [shV .fin])
      refine ⟨x, p, l, c.b, 1, [.fin], c.toks, t1, rfl, ⟨dx1, s2 _ _ hx1⟩, SqT.of upd_same, (TokL.but s1 hx hT).grow s2, ht1, by decide, ?_, fun h1 h2 a H2 s3 pa ha => ?_⟩
      · have z := stops_of o hF (s1.trans (But.of s2)) (by omega) ht1
        rw [e1] at z
        exact z
      · have hn1 := o.pass (by omega) ht1 h1 (by rw [e1]; exact h2)
        have hk1 : t1.k = .fin := by simpa using h2
        have hl2 := (o.fin 1 t1 ht1).mp hk1
        refine ⟨Nat.zero_le _, fun p2 n2 => ?_⟩
        exact q p2 _ [] ((s1.trans (But.of s2)).trans (s3.trans (But.of (same_new n2 _)))) ⟨[], upd_same, rfl, fun i p t h => by simp at h⟩ (Nat.zero_le _) (by omega)
    · refine ⟨rfl, rfl, ?_⟩
      have hd : ¬ t0.k = .dot := fun z => by
        have z2 := of_decide_eq_false (Bool.eq_false_iff.mpr h)
        exact z2 (congrArg V.str ((s_dot t0).mpr z))
      revert hc0 hd
      cases t0.k <;> decide
  rintro σ' H' ⟨rfl, rfl, hl0⟩
  refine ⟨Nat.zero_le _, fun fp nf => ?_⟩
  have s2 := same_new nf (.lst [])
  have hst1 : c.st 1 = (.letters, 0) := by
    rw [c.st_succ ht0, hst, hl0]
    rfl
  have nf0 : H fp = none := by
    cases hq : H fp with
    | none => rfl
    | some u =>
      exfalso
      by_cases e : fp = x
      · rw [e, hx1] at nf; cases nf
      · have := s1 _ _ e hq
        rw [nf] at this
        cases this
  refine ⟨fun mm σ' H' => ∃ (k1 : Nat) (a : Addr) (t : Tk) (ts : List Tk), mm = c.n0 - k1 ∧ σ' = [some (.ref x), some (.ref a), some (.ref fp)] ∧ But x H H' ∧ PAt cP H' x l c.b k1 ∧ H' a = some (.tup t.vs) ∧ TokL H' fp ts ∧ ts.length < k1 ∧ k1 ≤ c.n0 ∧ (t.k = .fin ∨ t.k = .ltr) ∧ (t.k = .fin → k1 = c.toks.length) ∧ (t.k = .ltr → c.st k1 = (.letters, 0) ∧ k1 < c.toks.length),
    ⟨c.n0 - 1, 1, a0, t0, [], rfl, rfl, s1.trans (But.of s2), ⟨dx1, s2 _ _ hx1⟩, s2 _ _ ha0, ⟨[], upd_same, rfl, fun i p t h => by simp at h⟩, by simp, by omega, .inr hl0, fun z => absurd z hf0, fun _ => ⟨hst1, hl1⟩⟩, ?_⟩
  rintro mm σ' H2 ⟨k1, a, t, ts, rfl, rfl, s3, ⟨dx2, hx2⟩, ha, hts, hlt, hkn, hk, hkf, hkl⟩
  refine ⟨_, rfl, a, _, 0, _, rfl, rfl, SqT.of ha, atI_nat (j := 0) rfl, rfl, _, rfl, ite2 (fun h => ?_) (fun h => ?_)⟩
  · have hl : t.k = .ltr := by
      have z := of_decide_eq_true h
      injection z with z
      exact (sort_letter t.k).mp z
    obtain ⟨hstk, hkl2⟩ := hkl hl
    obtain ⟨ps, hp1, hp2, hp3⟩ := id hts
    have hfew := o.few
    refine ⟨fun σ' H' => ∃ m', m' < c.n0 - k1 ∧ ∃ (k1 : Nat) (a : Addr) (t : Tk) (ts : List Tk), m' = c.n0 - k1 ∧ σ' = [some (.ref x), some (.ref a), some (.ref fp)] ∧ But x H H' ∧ PAt cP H' x l c.b k1 ∧ H' a = some (.tup t.vs) ∧ TokL H' fp ts ∧ ts.length < k1 ∧ k1 ≤ c.n0 ∧ (t.k = .fin ∨ t.k = .ltr) ∧ (t.k = .fin → k1 = c.toks.length) ∧ (t.k = .ltr → c.st k1 = (.letters, 0) ∧ k1 < c.toks.length), fun σ' H' z => z, ?_⟩
    have nfx : fp ≠ x := ne_of hp1 hx2 (by intro z; cases z)
    refine ⟨_, rfl, .inl ⟨rfl, _, SqL.of hp1⟩, _, rfl, fp, _, _, rfl, rfl, hp1, small1000 (by rw [List.length_map]; omega), ?_⟩
    have hts3 := TokL.snoc (t := t) hp1 hp2 hp3 ha
    have hx3 : (upd H2 fp (.lst (ps.map V.ref ++ [.ref a]))) x = some (.ins cP dx2 (pf l c.b (k1 : Int))) := by rw [upd_ne nfx.symm]; exact hx2
    have b3 : But x H (upd H2 fp (.lst (ps.map V.ref ++ [.ref a]))) := fun b u nb hb => by
      rw [upd_ne (ne_of_none hb nf0)]
      exact s3 _ _ nb hb
    obtain ⟨t2, ht2⟩ := o.at_ hkl2
    have e1 : c.os k1 = [.ltr, .fin] := by unfold Ctx.os; rw [hstk]; rfl
    refine ⟨_, rfl, x, dx2, _, rfl, hx3, pf_no _ _ _ (by decide +kernel) (by decide +kernel) (by decide +kernel), ?_⟩
    refine ⟨(by show 2 ≤ sizeLine; decide), fun p4 n4 => ?_⟩
    have s4 := same_new n4 (.tup [shV .ltr, shV .fin])
    refine ⟨x, p4, l, c.b, k1, [.ltr, .fin], c.toks, t2, rfl, ⟨dx2, s4 _ _ hx3⟩, SqT.of upd_same, (TokL.but b3 hx hT).grow s4, ht2, by decide, ?_, fun h1 h2 a2 H5 s5 pa5 ha5 => ?_⟩
    · have z := stops_of o hF (b3.trans (But.of s4)) hkn ht2
      rw [e1] at z
      exact z
    · have hn1 := o.pass hkn ht2 h1 (by rw [e1]; exact h2)
      refine ⟨c.n0 - (k1 + 1), by omega, k1 + 1, a2, t2, ts ++ [t], rfl, rfl, (b3.trans (But.of s4)).trans s5, pa5, ha5, TokL.but s5 (s4 _ _ hx3) (hts3.grow s4), by rw [List.length_append, List.length_singleton]; omega, by omega, ?_, fun z => (o.fin k1 t2 ht2).mp z, fun z => ⟨?_, ?_⟩⟩
      · revert h2
        cases t2.k <;> decide
      · rw [c.st_succ ht2, hstk]
        rfl
      · have hf2 : t2.k ≠ .fin := by rw [z]; decide
        have h11 : ¬ k1 + 1 = c.toks.length := fun z => hf2 ((o.fin k1 t2 ht2).mpr z)
        omega
  · have hf : t.k = .fin := by
      rcases hk with z | z
      · exact z
      · exfalso
        have z2 := of_decide_eq_false (Bool.eq_false_iff.mpr h)
        exact z2 (congrArg V.str ((sort_letter t.k).mpr z))
    have hkk := hkf hf
    refine ⟨_, rfl, ?_⟩
    exact q fp H2 ts s3 hts (by omega) (by omega)
end
end N75
/-! scan. -/
namespace N75
open PySem L2
def noTok : Str := "no token begins here"
/-- the parentheses are never too deep -/
def DeepOk (ms : List (Nat × Int)) : Prop := ∀ pre m post, ms = pre ++ m :: post → m.1 = 40 → dep (pre.map (·.1)) < 20
def AllTk (ms : List (Nat × Int)) : Prop := ∀ z ∈ ms, kc z.1 ≠ none
/-- the tokens of the marks ms, the end at the column e -/
def tokensOf (ms : List (Nat × Int)) (e : Int) : List Tk := ms.map tkOf ++ [⟨.fin, 0, e⟩]
theorem first_bad : ∀ {ms : List (Nat × Int)}, ¬ AllTk ms → ∃ pre m post, ms = pre ++ m :: post ∧ AllTk pre ∧ kc m.1 = none
  | [], h => absurd (fun z hz => absurd hz (by simp)) h
  | m :: r, h => by
    cases hk : kc m.1 with
    | none => exact ⟨[], m, r, rfl, fun z hz => absurd hz (by simp), hk⟩
    | some v =>
      have h2 : ¬ AllTk r := fun z => h fun y hy => by
        rcases (List.mem_cons.mp hy) with e | hy
        · rw [e, hk]; exact fun q => by cases q
        · exact z y hy
      obtain ⟨pre, m2, post, e, h3, h4⟩ := first_bad h2
      refine ⟨m :: pre, m2, post, by rw [e]; rfl, fun z hz => ?_, h4⟩
      rcases (List.mem_cons.mp hz) with e | hz
      · rw [e, hk]; exact fun q => by cases q
      · exact h3 z hz
theorem kc_s {c : Nat} {k : Kd} {f : _root_.Fin 4} (h : kc c = some (k, f)) : sOf k f = ⟨#[c]⟩ := by
  revert h
  refine kc_cases (c := c) (P := fun c => kc c = some (k, f) → sOf k f = ⟨#[c]⟩) ?_ ?_ ?_ ?_ ?_ ?_ ?_ ?_ ?_ ?_ (fun h _ _ h2 => by rw [h] at h2; cases h2)
  all_goals
    intro h
    have h2 := Option.some.inj h
    injection h2 with h3 h4
    subst h3 h4
    decide +kernel
theorem sign_eq {c n : Nat} {s : Str} (h : s = ⟨#[n]⟩) : (V.str ⟨#[c]⟩ = V.str s) ↔ c = n := by
  rw [h]
  constructor
  · intro z
    injection z with z
    injection z with z
    have := congrArg Array.toList z
    simpa using this
  · intro z
    rw [z]
theorem marks_step (l : List Nat) (i : Nat) (c : Nat) (h : l[i]? = some c) : marks (l.take (i + 1)) 0 = marks (l.take i) 0 ++ (if c = 32 then [] else [(c, ((i : Nat) : Int) + 1)]) := by
  rw [take_snoc h, marks_app]
  have hl : (l.take i).length = i := by
    rw [List.length_take]
    have := (List.getElem?_eq_some_iff.mp h).1
    omega
  rw [hl, Nat.zero_add]
  show _ ++ (if c = 32 then marks [] (i + 1) else (c, ((i : Nat) : Int) + 1) :: marks [] (i + 1)) = _
  rfl
theorem marks_rest (l : List Nat) (i : Nat) (c : Nat) (h : l[i]? = some c) (h2 : c ≠ 32) : ∃ post, marks l 0 = marks (l.take i) 0 ++ (c, ((i : Nat) : Int) + 1) :: post := by
  obtain ⟨hi, hc⟩ := List.getElem?_eq_some_iff.mp h
  refine ⟨marks (l.drop (i + 1)) (i + 1), ?_⟩
  have e : l = l.take i ++ c :: l.drop (i + 1) := by
    rw [← hc, ← List.drop_eq_getElem_cons hi, List.take_append_drop]
  have hl : (l.take i).length = i := by
    rw [List.length_take]
    omega
  have e2 : marks l 0 = marks (l.take i ++ c :: l.drop (i + 1)) 0 := congrArg (fun z => marks z 0) e
  rw [e2, marks_app, hl, Nat.zero_add]
  have e3 : marks (c :: l.drop (i + 1)) i = (c, ((i : Nat) : Int) + 1) :: marks (l.drop (i + 1)) (i + 1) := by
    show (if c = 32 then _ else _) = _
    rw [if_neg h2]
  rw [e3]
theorem pred_int (n : Nat) : (if ((n : Nat) : Int) - 1 > 0 then ((n : Nat) : Int) - 1 else 0) = ((n - 1 : Nat) : Int) := by
  split <;> omega
section
variable {P : Program} {w : World} {K : PySem.W.Frag} {mg : Str → Option Value} {base : Heap} {cT cA cP : Addr}
/-- what a text must be to be scanned; what is raised at its first sign that is no token -/
structure ScanPre (cT : Addr) (t : Str) (H : Hp) (E : XK) : Prop where
  len : t.length ≤ 400
  nl : 10 ∉ t.cps.toList
  deep : DeepOk (marks t.cps.toList 0)
  bad : ∀ pre m post, marks t.cps.toList 0 = pre ++ m :: post → AllTk pre → kc m.1 = none → ∀ d H', Same H H' → H' d = some (teD m.2 noTok) → E (.ref cT) (some d) H'
def spScan (cT : Addr) : Sp := fun vs H Q E => ∃ t : Str, vs = [.str t] ∧ ScanPre cT t H E ∧
  (AllTk (marks t.cps.toList 0) → ∀ l H', Same H H' → TokL H' l (tokensOf (marks t.cps.toList 0) ((t.length : Int) + 1)) → Q (.ref l) H')
theorem scScan : FnScope ["text", "tokens", "depth", "at", "char", "kind"] ["text"] (defScope sScan) := ⟨rfl, rfl, rfl, by decide +kernel, rfl, by decide +kernel, by decide +kernel⟩
theorem ok_scan (D : Dfn K mg "scan" sScan ["text"]) (T : Txt K mg) (C : Cl K mg cT cA cP)
    (G1 : Cal P w K mg base CX0 1 "check_text" ["text"] spCheck) (G2 : Cal P w K mg base CX0 1 "kind_of" ["char"] spKindOf) : Cal P w K mg base (L2.CX P w) 3 "scan" ["text"] (spScan cT) := by
  obtain ⟨f, fd, hm, F, hb⟩ := D
  refine ⟨f, fd, F.okX scScan (fun vs H Q E h => ?_) (fun cdv A outer s H vs Q E hr h => ?_), hm, F.kp, hb⟩
  · obtain ⟨t, rfl, _⟩ := h
    rfl
  obtain ⟨t, rfl, ⟨hl, hn, hdeep, hbad⟩, q⟩ := h
  have hr1 : Room 1 _ := hr.mono (by decide)
  have nd := scScan.nd
  refine ⟨_, pss_cons (ps_expr (pe_cal G1 hr1 pass0 (pa_cons (pv 0) pa_nil)))
    (pss_cons (ps_set (i := 1) nd rfl (Or.inl rfl) (pe_lst pa_nil))
    (pss_cons (ps_set (i := 2) nd rfl (Or.inl rfl) pe_int)
    (pss_cons (ps_for (passes_of rfl) rfl (pi_enumS rfl T.enm (pa_cons (pv 0) pa_nil)) (pg_tup rfl (pgs_cons (pg_name (i := 3) nd rfl (Or.inl rfl)) (pgs_cons (pg_name (i := 4) nd rfl (Or.inl rfl)) pgs_nil)))
      (pss_one (ps_if (pt_cmpR op_ne (pv 4) pe_str (nomark _))
        (pss_cons (ps_set (i := 5) nd rfl (Or.inl rfl) (pe_cal G2 hr1 pass0 (pa_cons (pv 4) pa_nil)))
        (pss_cons (ps_if (pt_cmp (pc_isN (pv 5))) (pss_one (ps_raise rfl (takes_of rfl rfl rfl rfl) (pmk_te C hr (pa_cons (pe_op op_add (pv 3) pe_int) (pa_cons pe_str pa_nil))))) pss_nil)
        (pss_cons (ps_cutS (ps_if (pt_cmpR op_eq (pv 4) pe_str (nomark _))
          (pss_cons (ps_if (pt_cmpR op_eq (pv 2) (pe_g T.gDO) (nomark _)) pss_never pss_nil)
            (pss_one (ps_set (i := 2) nd rfl (Or.inl rfl) (pe_op op_add (pv 2) pe_int)))) pss_nil))
        (pss_cons (ps_cutS (ps_if (pt_cmpR op_eq (pv 4) pe_str (nomark _))
          (pss_one (ps_set (i := 2) nd rfl (Or.inl rfl) (pe_callB (call_max2 rfl) rfl T.max PyProof.Rows.boot_max (pa_cons pe_int (pa_cons (pe_op op_sub (pv 2) pe_int) pa_nil))))) pss_nil))
        (pss_one (ps_expr (pe_bm PySem.F.plainAttrs_list PySem.F.slot_list_append PySem.F.type_list_append mt_append (pv 1) (pa_cons (pe_tup (pa_cons (pv 5) (pa_cons (pv 4) (pa_cons (pe_op op_add (pv 3) pe_int) pa_nil)))) pa_nil))))))))
        pss_nil)))
    (pss_cons (ps_expr (pe_bm PySem.F.plainAttrs_list PySem.F.slot_list_append PySem.F.type_list_append mt_append (pv 1) (pa_cons (pe_tup (pa_cons pe_str (pa_cons pe_str (pa_cons (pe_op op_add (pe_callB call_len_str rfl T.len PySem.boot_len (pa_cons (pv 0) pa_nil)) pe_int) pa_nil)))) pa_nil)))
    (pss_one (ps_ret (pv 1))))))), ?_⟩
  refine ⟨_, rfl, t, rfl, hl, hn, ?_⟩
  refine ⟨Nat.zero_le _, fun p np => ?_⟩
  refine ⟨_, rfl, t, rfl, ?_⟩
  refine for_enumS (fun i σ H' => ∃ (a b c : Option V) (ps : List Addr), σ = [some (.str t), some (.ref p), some (.int (dep ((marks (t.cps.toList.take i) 0).map (·.1)) : Nat)), a, b, c] ∧ But p H H' ∧ AllTk (marks (t.cps.toList.take i) 0) ∧
      H' p = some (.lst (ps.map V.ref)) ∧ ps.length = ((marks (t.cps.toList.take i) 0).map tkOf).length ∧ (∀ (j : Nat) (z : Addr) (u : Tk), ps[j]? = some z → ((marks (t.cps.toList.take i) 0).map tkOf)[j]? = some u → H' z = some (.tup u.vs)) ∧ ps.length ≤ i ∧ i ≤ t.cps.size)
    ⟨none, none, none, [], rfl, But.refl.upd _, fun z hz => absurd hz (by simp [marks]), upd_same, rfl, fun j z u h => by simp at h, Nat.le_refl _, Nat.zero_le _⟩ ?_ ?_
  · rintro i c σ H1 Tp hc ⟨v3, v4, v5, ps, rfl, s1, hall, hp1, hp2, hp3, hpi, hi⟩ nT
    have hc2 : t.cps.toList[i]? = some c := by rw [Array.getElem?_toList]; exact hc
    have hil : i < t.cps.size := (Array.getElem?_eq_some_iff.mp hc).1
    have hsz : t.cps.size ≤ 400 := hl
    have hms := marks_step _ i c hc2
    have npT : p ≠ Tp := ne_of_none hp1 nT
    refine ⟨Tp, _, rfl, SqT.of upd_same, rfl, _, _, rfl, _, _, rfl, rfl, ?_⟩
    have sT := same_new nT (.tup [.int (i : Nat), .str ⟨#[c]⟩])
    refine ⟨_, rfl, rfl, _, rfl, ?_⟩
    by_cases h32 : c = 32
    · -- a blank
      have e : decide (V.str ⟨#[c]⟩ = V.str " ") = true := decide_eq_true ((sign_eq (by decide +kernel)).mpr h32)
      show (if (!decide (V.str ⟨#[c]⟩ = V.str " ")) = true then _ else _)
      rw [e]
      refine iteF ?_
      rw [if_pos h32, List.append_nil] at hms
      refine ⟨some (.int (i : Nat)), some (.str ⟨#[c]⟩), v5, ps, ?_, s1.trans (But.of sT), ?_, sT _ _ hp1, ?_, ?_, by omega, hil⟩
      · rw [hms]
        rfl
      · rw [hms]; exact hall
      · rw [hms]; exact hp2
      · rw [hms]; exact fun j z u h1 h2 => sT _ _ (hp3 j z u h1 h2)
    have e : decide (V.str ⟨#[c]⟩ = V.str " ") = false := decide_eq_false fun z => h32 ((sign_eq (by decide +kernel)).mp z)
    show (if (!decide (V.str ⟨#[c]⟩ = V.str " ")) = true then _ else _)
    rw [e]
    refine iteT ?_
    rw [if_neg h32] at hms
    obtain ⟨post, hpost⟩ := marks_rest _ i c hc2 h32
    refine ⟨_, rfl, c, rfl, ?_⟩
    have bT : But p H (upd H1 Tp (.tup [.int (i : Nat), .str ⟨#[c]⟩])) := s1.trans (But.of sT)
    refine ⟨_, rfl, _, rfl, ?_⟩
    cases hk : kc c with
    | none =>
      have ev : kindV c = .non := by unfold kindV; rw [hk]
      rw [ev]
      refine iteT ?_
      refine ⟨_, rfl, _, _, rfl, rfl, te_end fun d H3 nd3 s3 hd => ?_⟩
      refine hbad _ _ post hpost hall hk d H3 ?_ hd
      exact (bT.same np).trans s3
    | some kf =>
      obtain ⟨k, ff⟩ := kf
      have ev : kindV c = .str k.sort := by unfold kindV; rw [hk]
      rw [ev]
      refine iteF ?_
      refine ⟨fun σ' H' => H' = upd H1 Tp (.tup [.int (i : Nat), .str ⟨#[c]⟩]) ∧ σ' = [some (.str t), some (.ref p), some (.int ((if c = 40 then dep ((marks (t.cps.toList.take i) 0).map (·.1)) + 1 else dep ((marks (t.cps.toList.take i) 0).map (·.1)) : Nat) : Int)), some (.int (i : Nat)), some (.str ⟨#[c]⟩), some (.str k.sort)], ?_, ?_⟩
      · refine ⟨_, rfl, rfl, _, rfl, ite2 (fun h => ?_) (fun h => ?_)⟩
        · have h40 : c = 40 := (sign_eq (by decide +kernel)).mp (of_decide_eq_true h)
          have hd := hdeep _ _ post hpost h40
          refine ⟨_, rfl, rfl, false, ?_, iteF ?_⟩
          · exact congrArg V.bl (decide_eq_false fun z => by injection z with z; omega)
          refine ⟨_, rfl, _, _, rfl, rfl, rfl, ?_⟩
          rw [if_pos h40]
          rfl
        · have h40 : ¬ c = 40 := fun z => of_decide_eq_false (Bool.eq_false_iff.mpr h) ((sign_eq (by decide +kernel)).mpr z)
          refine ⟨rfl, ?_⟩
          rw [if_neg h40]
          rfl
      rintro σ' H' ⟨rfl, rfl⟩
      refine ⟨fun σ' H' => H' = upd H1 Tp (.tup [.int (i : Nat), .str ⟨#[c]⟩]) ∧ σ' = [some (.str t), some (.ref p), some (.int (dep ((marks (t.cps.toList.take (i + 1)) 0).map (·.1)) : Nat)), some (.int (i : Nat)), some (.str ⟨#[c]⟩), some (.str k.sort)], ?_, ?_⟩
      · have ed : dep ((marks (t.cps.toList.take (i + 1)) 0).map (·.1)) = if c = 40 then dep ((marks (t.cps.toList.take i) 0).map (·.1)) + 1 else if c = 41 then dep ((marks (t.cps.toList.take i) 0).map (·.1)) - 1 else dep ((marks (t.cps.toList.take i) 0).map (·.1)) := by
          rw [hms, List.map_append]
          exact dep_snoc _ _
        refine ⟨_, rfl, rfl, _, rfl, ite2 (fun h => ?_) (fun h => ?_)⟩
        · have h41 : c = 41 := (sign_eq (by decide +kernel)).mp (of_decide_eq_true h)
          have h40 : ¬ c = 40 := by omega
          rw [if_neg h40, if_pos h41] at ed
          refine ⟨_, rfl, _, _, rfl, rfl, _, _, rfl, rfl, ?_⟩
          rw [ed, if_neg h40, ← pred_int]
          rfl
        · have h41 : ¬ c = 41 := fun z => of_decide_eq_false (Bool.eq_false_iff.mpr h) ((sign_eq (by decide +kernel)).mpr z)
          refine ⟨rfl, ?_⟩
          rw [ed, if_neg h41]
      rintro σ' H' ⟨rfl, rfl⟩
      refine ⟨_, rfl, .inl ⟨rfl, _, SqL.of (sT _ _ hp1)⟩, _, rfl, _, rfl, _, rfl, _, _, rfl, rfl, (by show 3 ≤ sizeLine; decide), fun tp ntp => ?_⟩
      have sU := sT.trans (same_new ntp (.tup [.str k.sort, .str ⟨#[c]⟩, .int ((i : Nat) + 1)]))
      refine ⟨p, _, _, rfl, rfl, sU _ _ hp1, small1000 (by rw [List.length_map]; omega), ?_⟩
      have htk : tkOf (c, ((i : Nat) : Int) + 1) = ⟨k, ff, ((i : Nat) : Int) + 1⟩ := by unfold tkOf; rw [hk]
      have hvs : (⟨k, ff, ((i : Nat) : Int) + 1⟩ : Tk).vs = [.str k.sort, .str ⟨#[c]⟩, .int ((i : Nat) + 1)] := by
        show [V.str k.sort, V.str (sOf k ff), V.int (((i : Nat) : Int) + 1)] = _
        rw [kc_s hk]
      have hsn := TokL.snoc (t := ⟨k, ff, ((i : Nat) : Int) + 1⟩) (sU _ _ hp1) hp2 (fun j z u h1 h2 => sU _ _ (hp3 j z u h1 h2)) (a := tp) (by rw [hvs]; exact upd_same)
      obtain ⟨ps', g1, g2, g3⟩ := hsn
      have e1 : (marks (t.cps.toList.take (i + 1)) 0).map tkOf = (marks (t.cps.toList.take i) 0).map tkOf ++ [⟨k, ff, ((i : Nat) : Int) + 1⟩] := by
        rw [hms, List.map_append]
        show _ ++ [tkOf (c, ((i : Nat) : Int) + 1)] = _
        rw [htk]
      refine ⟨_, _, _, ps', rfl, (s1.trans (But.of sU)).upd _, ?_, g1, ?_, ?_, ?_, hil⟩
      · rw [hms]
        intro z hz
        rcases List.mem_append.mp hz with hz | hz
        · exact hall z hz
        · rw [List.mem_singleton.mp hz]
          show kc c ≠ none
          rw [hk]
          exact fun q => by cases q
      · rw [e1]; exact g2
      · rw [e1]; exact g3
      · rw [g2, List.length_append, List.length_singleton]
        omega
  · rintro σ H1 ⟨v3, v4, v5, ps, rfl, s1, hall, hp1, hp2, hp3, hpi, hi⟩
    have et : t.cps.toList.take t.cps.size = t.cps.toList := by
      rw [List.take_of_length_le (by rw [Array.length_toList]; exact Nat.le_refl _)]
    rw [et] at hall hp2 hp3
    have hsz : t.cps.size ≤ 400 := hl
    refine ⟨_, rfl, .inl ⟨rfl, _, SqL.of hp1⟩, _, rfl, t, rfl, szl (by omega), _, _, rfl, rfl, (by show 3 ≤ sizeLine; decide), fun tp ntp => ?_⟩
    have sU := same_new ntp (.tup [.str "end", .str "", .int ((t.length : Int) + 1)])
    refine ⟨p, _, _, rfl, rfl, sU _ _ hp1, small1000 (by rw [List.length_map]; omega), ?_⟩
    refine ⟨_, rfl, ?_⟩
    have hsn := TokL.snoc (t := ⟨.fin, 0, (t.length : Int) + 1⟩) (sU _ _ hp1) hp2 (fun j z u h1 h2 => sU _ _ (hp3 j z u h1 h2)) (a := tp) upd_same
    exact q hall p _ (((s1.trans (But.of sU)).upd _).same np) hsn
end
end N75
/-! next_tokens. -/
namespace N75
open PySem L2
/-- o.m(..) where what is raised is wished for at the caller's slots -/
def tMethS (C : Addr) (m : Str) (sp : Sp) (E : L2.St → XK) (ta : TE) (t : TA) : TE := fun σ H Q => ta σ H fun x H1 => ∃ a dx fs, x = .ref a ∧ H1 a = some (.ins C dx fs) ∧ fs.lookup m = none ∧ t σ H1 fun vs H2 => sp (x :: vs) H2 Q (E σ)
section
variable {X : Cx} {CX : CXT} {k : Nat} {C : Addr} {ps : List Str} {sp : Sp} {E : L2.St → XK} {x m : Str} {p pos apos : Pos} {e o : Expr} {es : List Expr} {te ta : TE} {t : TA}
theorem pe_cmS {pl : Sem Bool} (c : CalM X.prog X.w X.K X.mg X.base CX k C m ps sp) (cl : Cls X.K C) (hr : Room k X.A) (hx : ∀ σ, PassesAt CX X σ (E σ)) (he : PE X o ta) (ha : PA X (e :: es) t)
    (hst : starEach (e :: es) X.env = (false, eval e X.env) :: starEach es X.env := by rfl)
    (hpl : (backTo pos (starEach es X.env)).any (·.1) = false := by rfl) (ht : eval (.Call (.Attribute o m apos) (e :: es) [] pos) X.env = (do let ov ← eval o X.env; standAt apos.atName; let (f, first) ← holding [ov] (getMethod ov m pl); callWith pos f first (backTo pos (starEach (e :: es) X.env)) (backToKw pos (keywordEach [] X.env))) := by rfl) :
    PE X (.Call (.Attribute o m apos) (e :: es) [] pos) (tMethS C m sp E ta t) := by
  obtain ⟨f, fd, F, hm, hb⟩ := c
  refine ⟨fun pins s σ H Q I h => ?_⟩
  refine PySem.W.methodCall_KW (pl := pl) (thn (he.run pins s σ H _ I h) fun u s1 ⟨x, H1, I1, rx, a, dx, fs, ex, ea, l, q⟩ => ?_) ht
  subst ex
  obtain rfl : u = Value.ref a := rx
  refine getmeth_ok I1 ea cl hm l ?_
  refine PySem.W.callWith_K (first := [.ref a]) (h₀ := X.base) I.ok.mod.kin hm.kp (thn (ha.run pos pins s1 σ H1 _ I1 q) fun us s2 ⟨vs, H2, I2, r, q2⟩ => ⟨I2.kIn, ?_⟩) hst hpl
  exact run_fnS (us := .ref a :: us) (vs := .ref a :: vs) F hr hb (hx σ) I2 (.cons rfl r) q2
theorem pe_cm0S {pl : Sem Bool} (c : CalM X.prog X.w X.K X.mg X.base CX k C m ps sp) (cl : Cls X.K C) (hr : Room k X.A) (hx : ∀ σ, PassesAt CX X σ (E σ)) (he : PE X o ta)
    (ht : eval (.Call (.Attribute o m apos) [] [] pos) X.env = (do let ov ← eval o X.env; standAt apos.atName; let (f, first) ← holding [ov] (getMethod ov m pl); callWith pos f first (backTo pos (starEach [] X.env)) (backToKw pos (keywordEach [] X.env))) := by rfl) :
    PE X (.Call (.Attribute o m apos) [] [] pos) (tMethS C m sp E ta tNil) := by
  obtain ⟨f, fd, F, hm, hb⟩ := c
  refine ⟨fun pins s σ H Q I h => ?_⟩
  refine PySem.W.methodCall_KW (pl := pl) (thn (he.run pins s σ H _ I h) fun u s1 ⟨x, H1, I1, rx, a, dx, fs, ex, ea, l, q⟩ => ?_) ht
  subst ex
  obtain rfl : u = Value.ref a := rx
  refine getmeth_ok I1 ea cl hm l ?_
  exact PySem.W.callWith_K0 (first := [.ref a]) I1.kIn hm.kp (run_fnS (us := [.ref a]) (vs := [.ref a]) F hr hb (hx σ) I1 (.cons rfl .nil) q)
theorem pe_calS (c : Cal X.prog X.w X.K X.mg X.base CX k x ps sp) (hr : Room k X.A) (hx : ∀ σ, PassesAt CX X σ (E σ)) (ha : PA X (e :: es) t) (hg : Gl X x := by rfl) (hdb : (x == ("__debug__" : Str)) = false := by decide)
    (he : starEach (e :: es) X.env = (false, eval e X.env) :: starEach es X.env := by rfl) (hpl : (backTo pos (starEach es X.env)).any (·.1) = false := by rfl) : PE X (.Call (.Name x p) (e :: es) [] pos) (tCallS sp E t) := by
  obtain ⟨f, fd, F, hm, hk, hb⟩ := c
  exact pe_callS F hr hg hm hk hb hx ha hdb he hpl
end
theorem Ctx.Ok.never {c : Ctx} (o : c.Ok) (hb : c.b = true) (hl : 1 ≤ c.toks.length) : c.n0 < c.toks.length := by
  have h1 := o.le
  by_cases h : c.n0 < c.toks.length
  · exact h
  · exfalso
    obtain ⟨t, ht⟩ := o.at_ (k := c.toks.length - 1) (by omega)
    have hf := (o.fin _ t ht).mpr (by omega)
    exact (o.good _ t (by omega) ht).2 ⟨hf, hb⟩
theorem tokensOf_len (ms : List (Nat × Int)) (e : Int) : 1 ≤ (tokensOf ms e).length := by
  unfold tokensOf
  rw [List.length_append]
  rw [List.length_singleton]
  omega
abbrev sExpr : Str := "expression"
abbrev sWrd : Str := "word"
def stOf (kd : Str) : Stt × Int := if kd = sExpr then (.begin, 0) else (.word, 0)
section
variable {P : Program} {w : World} {K : PySem.W.Frag} {mg : Str → Option Value} {base : Heap} {cT cA cP : Addr}
def spNext (cT : Addr) : Sp := fun vs H Q E => ∃ t kd : Str, vs = [.str t, .str kd] ∧ (kd = sExpr ∨ kd = sWrd) ∧ ScanPre cT t H E ∧
  (AllTk (marks t.cps.toList 0) → ∃ c : Ctx, c.Ok ∧ c.toks = tokensOf (marks t.cps.toList 0) ((t.length : Int) + 1) ∧ c.b = true ∧ c.st0 = stOf kd ∧ c.D < 10 ∧
    ∀ u, c.toks[c.n0]? = some u → (u.k = .fin → ∀ p H', Same H H' → H' p = some (.lst ((ordd (c.os c.n0)).map shV)) → Q (.ref p) H') ∧
      (u.k ≠ .fin → ∀ d H', Same H H' → H' d = some (teD u.col (words (c.os c.n0))) → E (.ref cT) (some d) H'))
theorem scNext : FnScope ["text", "kind", "parser", "ahead"] ["text", "kind"] (defScope sNext) := ⟨rfl, rfl, rfl, by decide +kernel, rfl, by decide +kernel, by decide +kernel⟩
/-- a parser just made -/
theorem made_ok {H H1 H2 : Hp} {x dx l : Addr} {toks : List Tk} {o1 o2 : HO} (s1 : Same H H1) (nx : H1 x = none) (ndx : H1 dx = none) (b2 : But x (upd (upd H1 dx o1) x o2) H2) (hT : TokL H1 l toks) : But x H H2 ∧ H x = none ∧ TokL H2 l toks := by
  have s2 : Same H1 H2 := fun b u hb => b2 b u (ne_of_none hb nx) (by rw [upd_ne (ne_of_none hb nx), upd_ne (ne_of_none hb ndx)]; exact hb)
  exact ⟨But.of (s1.trans s2), s1.free nx, hT.grow s2⟩
theorem ok_next (D : Dfn K mg "next_tokens" sNext ["text", "kind"]) (T : Txt K mg) (C : Cl K mg cT cA cP)
    (G1 : Cal P w K mg base CX0 1 "check_text" ["text"] spCheck) (GS : Cal P w K mg base (L2.CX P w) 3 "scan" ["text"] (spScan cT))
    (GW : ∀ c : Ctx, c.Ok → CalM P w K mg base (L2.CX P w) 24 cP "whole" ["self", "closing"] (spWhole K cT cA cP c 10))
    (GD : ∀ c : Ctx, c.Ok → CalM P w K mg base (L2.CX P w) 5 cP "word" ["self"] (spWord K cT cA cP c)) : Cal P w K mg base (L2.CX P w) 25 "next_tokens" ["text", "kind"] (spNext cT) := by
  obtain ⟨f, fd, hm, F, hb⟩ := D
  refine ⟨f, fd, F.okX scNext (fun vs H Q E h => ?_) (fun cdv A outer s H vs Q E hr h => ?_), hm, F.kp, hb⟩
  · obtain ⟨t, _, rfl, _⟩ := h
    rfl
  obtain ⟨t, kd, rfl, hkd, hpre, q⟩ := h
  have hr1 : Room 1 _ := hr.mono (by decide)
  have hr2 : Room 2 _ := hr.mono (by decide)
  have hr3 : Room 3 _ := hr.mono (by decide)
  have hr5 : Room 5 _ := hr.mono (by decide)
  have nd := scNext.nd
  obtain ⟨fI, fdI, MI, FI, bI⟩ := C.mP
  have GI := ok_pi (P := P) (w := w) (base := base) FI C
  obtain ⟨aK, mK, kK⟩ := T.gKINDS
  have gK : GlV mg "KINDS" (.ref aK) := ⟨_, mK, rfl⟩
  have hin : inV (.str kd) [.str "expression", .str "word"] = true := by rcases hkd with rfl | rfl <;> decide +kernel
  by_cases hall : AllTk (marks t.cps.toList 0)
  · obtain ⟨c, o, htoks, hcb, hst0, hcD, hq⟩ := q hall
    refine ⟨_, pss_cons (ps_expr (pe_cal G1 hr1 pass0 (pa_cons (pv 0) pa_nil)))
      (pss_cons (ps_if (PW.pt (pw_or (pt_not (pt_val (pe_callB call_isi rfl T.isi PyProof.Rows.boot_isinstance (pa_cons (pv 1) (pa_cons (pe_bltn (v := .ty "str") rfl T.str PyProof.Rows.boot_str rfl) pa_nil)))))
        (pw_or1 (pt_cmpR op_notIn_seq (pv 1) (pe_g gK) (by rfl))))) pss_never pss_nil)
      (pss_cons (ps_set (i := 2) nd rfl (Or.inl rfl) (pe_make MI GI hr2 rfl C.gP bI .nil pass0 (pa_cons (pe_cal GS hr3 (passes_call (E := E) (takes_of rfl rfl rfl rfl) (fun _ _ _ _ z => z)) (pa_cons (pv 0) pa_nil)) (pa_cons pe_bl pa_nil))))
      (pss_cons (ps_try_as (i := 3) rfl rfl nd rfl rfl ⟨rfl, by decide, .inl C.gA⟩ (takes_of (E := E) rfl rfl rfl rfl)
          (fun W pn xe tk _ => pss_one (ps_if (pt_cmpR op_eq (pv 1) pe_str (nomark _))
            (pss_one (ps_expr (pe_cmS (GW c o) C.clP hr (fun σ => passAt tk σ) (pv 2) (pa_cons pe_str pa_nil))))
            (pss_one (ps_expr (pe_cm0S (GD c o) C.clP hr5 (fun σ => passAt tk σ) (pv 2))))))
          (fun a oe cls d pn hz hf => pss_one (ps_ret (pe_xf C.xA C.nOpt hz hf (pv 3)))))
      (pss_one (ps_ret (pe_lst pa_nil)))))), ?_⟩
    refine ⟨_, rfl, t, rfl, hpre.len, hpre.nl, ?_⟩
    refine ⟨_, rfl, _, _, _, _, true, rfl, .ty "str", .base (.str _), kit_ty (by decide +kernel), true, rfl, iteF ?_⟩
    refine ⟨_, rfl, aK, _, rfl, .inr (kK.sq _), rfl, rfl, false, ?_, iteF ?_⟩
    · show V.bl (!inV (.str kd) [.str "expression", .str "word"]) = V.bl false
      rw [hin]
      rfl
    refine ⟨_, rfl, t, rfl, hpre, fun _ l H1 s1 hT => ?_⟩
    intro x dx nx ndx nex
    refine ⟨x, dx, l, true, rfl, upd_same, fun H2 pa2 b2 => ⟨rfl, ?_⟩⟩
    obtain ⟨bx, nHx, hT2⟩ := made_ok s1 nx ndx b2 hT
    have hlen : 1 ≤ c.toks.length := by rw [htoks]; exact tokensOf_len _ _
    have hn0 := o.never hcb hlen
    obtain ⟨u, hu⟩ := o.at_ hn0
    obtain ⟨q1, q2⟩ := hq u hu
    obtain ⟨dx2, hx2⟩ := id pa2
    -- what the clause asks
    have fail : ∀ W : WX, (∀ d p H', Same H H' → H' p = some (.lst ((ordd (c.os c.n0)).map shV)) → H' d = some (.xd [(("options" : Str), .ref p)]) → u.k = .fin → W (.ref cA) (some d) [some (.str t), some (.str kd), some (.ref x), none] H') →
        (∀ d H', Same H H' → H' d = some (teD u.col (words (c.os c.n0))) → u.k ≠ .fin → W (.ref cT) (some d) [some (.str t), some (.str kd), some (.ref x), none] H') → Fail c cT cA x H2 (WE W [some (.str t), some (.str kd), some (.ref x), none]) := by
      intro W w1 w2 u' hu'
      have e : u' = u := Option.some.inj (Eq.trans hu'.symm hu)
      subst e
      refine ⟨fun h1 d p H' b h2 h3 => w1 d p H' ((bx.trans b).same nHx) h2 h3 h1.1, fun h1 _ d H' b h2 => w2 d H' ((bx.trans b).same nHx) h2 fun z => h1 ⟨z, hcb⟩⟩
    refine ⟨_, rfl, rfl, _, rfl, ite2 (fun h => ?_) (fun h => ?_)⟩
    · have he : kd = sExpr := by
        have z := of_decide_eq_true h
        injection z
      refine ⟨_, rfl, x, dx2, _, rfl, hx2, pf_no _ _ _ (by decide +kernel) (by decide +kernel) (by decide +kernel), ?_⟩
      have hst : c.st 0 = (.begin, 0) := by
        show c.st0 = _
        rw [hst0, he]
        exact if_pos rfl
      refine ⟨x, l, 0, 0, rfl, ⟨⟨dx2, by rw [hcb]; exact hx2⟩, by rw [htoks]; exact hT2, Nat.zero_le _, hlen, .inl hst, by omega, by omega, fail _ ?_ ?_⟩, fun v H' k' n _ _ _ _ _ hle _ hd => ?_⟩
      · intro d p H' s' hp hd hfin
        refine ⟨true, C.eAA, fun _ a na => ?_, fun z => by cases z⟩
        exact ⟨_, rfl, rfl, rfl, d, _, .ref p, rfl, hd, rfl, q1 hfin p H' s' hp⟩
      · intro d H' s' hd hfin
        exact ⟨false, C.eTA, fun z => (by cases z), fun _ => q2 hfin d H' s' hd⟩
      · exfalso
        have := hd (by omega)
        omega
    · have he : ¬ kd = sExpr := fun z => of_decide_eq_false (Bool.eq_false_iff.mpr h) (congrArg V.str z)
      refine ⟨_, rfl, x, dx2, _, rfl, hx2, pf_no _ _ _ (by decide +kernel) (by decide +kernel) (by decide +kernel), ?_⟩
      have hst : c.st0 = (.word, 0) := by
        rw [hst0]
        exact if_neg he
      refine ⟨x, l, rfl, ⟨dx2, by rw [hcb]; exact hx2⟩, by rw [htoks]; exact hT2, hst, hlen, fail _ ?_ ?_, fun p H' ts _ _ _ hn => ?_⟩
      · intro d p H' s' hp hd hfin
        refine ⟨true, C.eAA, fun _ a na => ?_, fun z => by cases z⟩
        exact ⟨_, rfl, rfl, rfl, d, _, .ref p, rfl, hd, rfl, q1 hfin p H' s' hp⟩
      · intro d H' s' hd hfin
        exact ⟨false, C.eTA, fun z => (by cases z), fun _ => q2 hfin d H' s' hd⟩
      · exfalso
        omega
  · refine ⟨_, pss_cons (ps_expr (pe_cal G1 hr1 pass0 (pa_cons (pv 0) pa_nil)))
      (pss_cons (ps_if (PW.pt (pw_or (pt_not (pt_val (pe_callB call_isi rfl T.isi PyProof.Rows.boot_isinstance (pa_cons (pv 1) (pa_cons (pe_bltn (v := .ty "str") rfl T.str PyProof.Rows.boot_str rfl) pa_nil)))))
        (pw_or1 (pt_cmpR op_notIn_seq (pv 1) (pe_g gK) (by rfl))))) pss_never pss_nil)
      (pss_cons (ps_set (i := 2) nd rfl (Or.inl rfl) (pe_make MI GI hr2 rfl C.gP bI .nil pass0 (pa_cons (pe_cal GS hr3 (passes_call (E := E) (takes_of rfl rfl rfl rfl) (fun _ _ _ _ z => z)) (pa_cons (pv 0) pa_nil)) (pa_cons pe_bl pa_nil))))
      pss_never)), ?_⟩
    refine ⟨_, rfl, t, rfl, hpre.len, hpre.nl, ?_⟩
    refine ⟨_, rfl, _, _, _, _, true, rfl, .ty "str", .base (.str _), kit_ty (by decide +kernel), true, rfl, iteF ?_⟩
    refine ⟨_, rfl, aK, _, rfl, .inr (kK.sq _), rfl, rfl, false, ?_, iteF ?_⟩
    · show V.bl (!inV (.str kd) [.str "expression", .str "word"]) = V.bl false
      rw [hin]
      rfl
    exact ⟨_, rfl, t, rfl, hpre, fun h => absurd h hall⟩
end
end N75
/-! The readers. -/
namespace N75
open PySem L2
/-- not the words of a token that cannot come -/
def NoExp (wd : Str) : Prop := cutS wd none (some 9) ≠ expected ∧ wd.length ≤ 1000
section
variable {P : Program} {w : World} {K : PySem.W.Frag} {mg : Str → Option Value} {base : Heap} {cT cA cP : Addr}
/-- what a reader's text is, and what follows -/
def Rd3 (cT : Addr) (st0 : Stt × Int) (t : Str) (H : Hp) (Q : VK) (E : XK) : Prop := ScanPre cT t H E ∧
  (AllTk (marks t.cps.toList 0) → ∃ c : Ctx, c.Ok ∧ c.toks = tokensOf (marks t.cps.toList 0) ((t.length : Int) + 1) ∧ c.b = false ∧ c.st0 = st0 ∧ c.D < 10 ∧
    (∀ u, c.toks[c.n0]? = some u → ∀ d H', Same H H' → H' d = some (teD u.col (words (c.os c.n0))) → E (.ref cT) (some d) H') ∧
    (c.n0 = c.toks.length → (∀ v H', Same H H' → Q v H') ∧ ∀ d H' co wd, Same H H' → NoExp wd → H' d = some (teD co wd) → E (.ref cT) (some d) H'))
def spWithin (cT : Addr) : Sp := fun vs H Q E => ∃ (t : Str) (a b c : Int), vs = [.str t, .int a, .int b, .int c] ∧ ((a = 8 ∧ b = 24 ∧ c = 6) ∨ (a = 40 ∧ b = 200 ∧ c = 40)) ∧ Rd3 cT (.begin, 0) t H Q E
theorem scWithin : FnScope ["text", "letters", "parts", "deep", "tokens", "expression", "found", "many", "level", "token"] ["text", "letters", "parts", "deep"] (defScope sWithin) := ⟨rfl, rfl, rfl, by decide +kernel, rfl, by decide +kernel, by decide +kernel⟩
theorem noexp_deep : NoExp "the expression is too deep" := by unfold NoExp expected; exact ⟨by decide +kernel, by decide +kernel⟩
theorem noexp_word : NoExp "a word has at most 24 letters" := by unfold NoExp expected; exact ⟨by decide +kernel, by decide +kernel⟩
theorem noexp_l {a b c : Int} (h : (a = 8 ∧ b = 24 ∧ c = 6) ∨ (a = 40 ∧ b = 200 ∧ c = 40)) : NoExp ((("there are at most " : Str) ++ ((toString a : String) : Str)) ++ (" letters" : Str)) := by
  unfold NoExp expected
  rcases h with ⟨rfl, _, _⟩ | ⟨rfl, _, _⟩ <;> exact ⟨by decide +kernel, by decide +kernel⟩
theorem noexp_p {a b c : Int} (h : (a = 8 ∧ b = 24 ∧ c = 6) ∨ (a = 40 ∧ b = 200 ∧ c = 40)) : NoExp ((("there are at most " : Str) ++ ((toString b : String) : Str)) ++ (" parts" : Str)) := by
  unfold NoExp expected
  rcases h with ⟨_, rfl, _⟩ | ⟨_, rfl, _⟩ <;> exact ⟨by decide +kernel, by decide +kernel⟩
theorem str_len {a b c : Int} (h : (a = 8 ∧ b = 24 ∧ c = 6) ∨ (a = 40 ∧ b = 200 ∧ c = 40)) : ((toString a : String) : Str).length ≤ 10 ∧ ((toString b : String) : Str).length ≤ 10 := by
  rcases h with ⟨rfl, rfl, _⟩ | ⟨rfl, rfl, _⟩ <;> decide +kernel
theorem TokL.last {H : Hp} {l : Addr} {toks : List Tk} (h : TokL H l toks) (h1 : 1 ≤ toks.length) : ∃ p t xs, H l = some (.lst xs) ∧ atI xs (-1) = some (.ref p) ∧ H p = some (.tup (Tk.vs t)) := by
  obtain ⟨ps, g1, g2, g3⟩ := h
  have hne : ps ≠ [] := fun z => by rw [z] at g2; simp at g2; omega
  obtain ⟨pre, p, rfl⟩ := addr_last hne
  have hl : pre.length < toks.length := by rw [List.length_append, List.length_singleton] at g2; omega
  refine ⟨p, toks[pre.length], _, g1, by rw [List.map_append]; exact atI_last _ _, g3 pre.length p _ ?_ (List.getElem?_eq_getElem hl)⟩
  rw [List.getElem?_append_right (Nat.le_refl _), Nat.sub_self]
  rfl
theorem ok_within (D : Dfn K mg "read_within" sWithin ["text", "letters", "parts", "deep"]) (T : Txt K mg) (C : Cl K mg cT cA cP)
    (GS : Cal P w K mg base (L2.CX P w) 3 "scan" ["text"] (spScan cT)) (GM : Cal P w K mg base CX0 1 "measures" ["expression"] spMeasures)
    (GW : ∀ c : Ctx, c.Ok → CalM P w K mg base (L2.CX P w) 24 cP "whole" ["self", "closing"] (spWhole K cT cA cP c 10)) :
    Cal P w K mg base (L2.CX P w) 25 "read_within" ["text", "letters", "parts", "deep"] (spWithin cT) := by
  obtain ⟨f, fd, hm, F, hb⟩ := D
  refine ⟨f, fd, F.okX scWithin (fun vs H Q E h => ?_) (fun cdv A outer s H vs Q E hr h => ?_), hm, F.kp, hb⟩
  · obtain ⟨t, _, _, _, rfl, _⟩ := h
    rfl
  obtain ⟨t, a, b, c3, rfl, habc, hpre, q⟩ := h
  have hr1 : Room 1 _ := hr.mono (by decide)
  have hr2 : Room 2 _ := hr.mono (by decide)
  have hr3 : Room 3 _ := hr.mono (by decide)
  have nd := scWithin.nd
  obtain ⟨fI, fdI, MI, FI, bI⟩ := C.mP
  have GI := ok_pi (P := P) (w := w) (base := base) FI C
  by_cases hall : AllTk (marks t.cps.toList 0)
  · obtain ⟨c, o, htoks, hcb, hst0, hcD, qf, qd⟩ := q hall
    refine ⟨_, pss_cons (ps_set (i := 4) nd rfl (Or.inl rfl) (pe_cal GS hr3 (passes_call (E := E) (takes_of rfl rfl rfl rfl) (fun _ _ _ _ z => z)) (pa_cons (pv 0) pa_nil)))
      (pss_cons (ps_set (i := 5) nd rfl (Or.inl rfl) (pe_cm (GW c o) C.clP hr (passes_call (E := E) (takes_of rfl rfl rfl rfl) (fun _ _ _ _ z => z)) (pe_make MI GI hr2 rfl C.gP bI .nil pass0 (pa_cons (pv 4) (pa_cons pe_bl pa_nil))) (pa_cons pe_str pa_nil)))
      (pss_cons (ps_cutS (ps_setLc (i := 6) (own := [("token", 9)]) (g := gName 9) (tt := tTest (tOp rEq (tOp (rIxT K) (tVar 9) (tC (.int 0))) (tC (.str "letter")))) rfl nd rfl rfl (sw_true rfl rfl rfl (by decide +kernel)) (pi_list (pv 4)) (blkOk_by (own := [("token", 9)]) (N := ["text", "letters", "parts", "deep", "tokens", "expression", "found", "many", "level", "token"]) (sc := defScope sWithin) (by decide +kernel)) (fun _ _ _ _ _ => pg_name (i := 9) nd rfl (Or.inl rfl))
          (fun _ _ _ _ _ => pts_one (pt_cmpR op_eq (pe_ix ix_tup (pv 9) pe_int (fun _ _ => rfl)) pe_str (nomark _))) (fun _ _ _ _ _ => pv 9)))
      (pss_cons (ps_if (pt_cmpR op_gt (pe_callB call_len_seq rfl T.len PySem.boot_len (pa_cons (pv 6) pa_nil)) (pv 1) (nomark _))
        (pss_one (ps_raise rfl (takes_of rfl rfl rfl rfl) (pmk_te C hr2 (pa_cons (pe_ix ix_tup (pe_ix ix_list (pv 6) (pv 1) (fun _ _ => rfl)) pe_int (fun _ _ => rfl)) (pa_cons (pe_op op_add_str (pe_op op_add_str pe_str (pe_callTy call_str_int rfl T.str PyProof.Rows.boot_str (pa_cons (pv 1) pa_nil))) pe_str) pa_nil))))) pss_nil)
      (pss_cons (ps_asg (pe_cal GM hr1 pass0 (pa_cons (pv 5) pa_nil)) (pg_tup rfl (pgs_cons (pg_name (i := 7) nd rfl (Or.inl rfl)) (pgs_cons (pg_name (i := 8) nd rfl (Or.inl rfl)) pgs_nil))))
      (pss_cons (ps_if (pt_cmpR op_gt (pv 7) (pv 2) (nomark _))
        (pss_one (ps_raise rfl (takes_of rfl rfl rfl rfl) (pmk_te C hr2 (pa_cons (pe_ix ix_tup (pe_ix ix_list (pv 4) (pe_un un_neg pe_int) (fun _ _ => rfl)) pe_int (fun _ _ => rfl)) (pa_cons (pe_op op_add_str (pe_op op_add_str pe_str (pe_callTy call_str_int rfl T.str PyProof.Rows.boot_str (pa_cons (pv 2) pa_nil))) pe_str) pa_nil))))) pss_nil)
      (pss_cons (ps_if (pt_cmpR op_gt (pv 8) (pv 3) (nomark _))
        (pss_one (ps_raise rfl (takes_of rfl rfl rfl rfl) (pmk_te C hr2 (pa_cons (pe_ix ix_tup (pe_ix ix_list (pv 4) (pe_un un_neg pe_int) (fun _ _ => rfl)) pe_int (fun _ _ => rfl)) (pa_cons pe_str pa_nil))))) pss_nil)
      (pss_one (ps_ret (pv 5))))))))), ?_⟩
    have ha : 0 ≤ a ∧ a ≤ 200 ∧ 0 ≤ b ∧ b ≤ 200 := by omega
    refine ⟨_, rfl, t, rfl, hpre, fun _ l H1 s1 hT => ?_⟩
    refine ⟨_, rfl, ?_⟩
    intro x dx nx ndx nex
    refine ⟨x, dx, l, false, rfl, upd_same, fun H2 pa2 b2 => ⟨rfl, ?_⟩⟩
    obtain ⟨bx, nHx, hT2⟩ := made_ok s1 nx ndx b2 hT
    have hlen : 1 ≤ c.toks.length := by rw [htoks]; exact tokensOf_len _ _
    obtain ⟨dx2, hx2⟩ := id pa2
    refine ⟨x, dx2, _, rfl, hx2, pf_no _ _ _ (by decide +kernel) (by decide +kernel) (by decide +kernel), ?_⟩
    have hst : c.st 0 = (.begin, 0) := hst0
    refine ⟨x, l, 0, 0, rfl, ⟨⟨dx2, by rw [hcb]; exact hx2⟩, by rw [htoks]; exact hT2, Nat.zero_le _, hlen, .inl hst, by omega, by omega, fun u hu => ⟨fun h1 => (by rw [hcb] at h1; cases h1.2), fun _ _ d H' b' hd => qf u hu d H' ((bx.trans b').same nHx) hd⟩⟩, fun v H3 k' n b3 pa3 tr hn _ hle _ hd => ?_⟩
    have hk' := hd (by omega)
    have hole := o.le
    obtain ⟨q1, q2⟩ := qd (by omega)
    have hfew := o.few
    have s3 : Same H H3 := (bx.trans b3).same nHx
    have hT3 : TokL H3 l c.toks := TokL.but b3 hx2 (by rw [htoks]; exact hT2)
    -- found
    refine ⟨fun σ' H' => ∃ (D : Addr) (ts : List Tk), σ' = [some (.str t), some (.int a), some (.int b), some (.int c3), some (.ref l), some v, some (.ref D), none, none, none] ∧ Same H3 H' ∧ TokL H' D ts, ?_, ?_⟩
    · · obtain ⟨ps, g1, g2, g3⟩ := id hT3
        refine ⟨_, rfl, l, rfl, ⟨_, SqL.of g1⟩, fun D nD => ?_⟩
        have nlD : l ≠ D := ne_of_none g1 nD
        refine lc_list (K := K) (a := l) (xs := ps.map V.ref) (fun i H' => But D H3 H' ∧ ∃ ts, TokL H' D ts ∧ ts.length ≤ i ∧ i ≤ ps.length) ⟨But.refl.upd _, [], ⟨[], upd_same, rfl, fun i p t h => by simp at h⟩, Nat.le_refl _, Nat.zero_le _⟩ (fun i H' _ h => SqL.of (h.1 _ _ nlD g1)) ?_ ?_
        · rintro i y H4 hy ⟨b4, ts, hts, hti, hi⟩
          rw [List.getElem?_map] at hy
          cases hpi : ps[i]? with
          | none => rw [hpi] at hy; cases hy
          | some pi =>
            rw [hpi] at hy
            have hy2 : V.ref pi = y := Option.some.inj hy
            subst hy2
            have hil := (List.getElem?_eq_some_iff.mp hpi).1
            obtain ⟨ti, hti2⟩ := o.at_ (k := i) (by omega)
            have hpt := g3 i pi ti hpi hti2
            have npD : pi ≠ D := ne_of_none hpt nD
            have hpt4 := b4 _ _ npD hpt
            refine ⟨rfl, ?_⟩
            refine ⟨_, rfl, pi, _, 0, _, rfl, rfl, SqT.of hpt4, atI_nat (j := 0) rfl, rfl, _, rfl, ite2 (fun _ => ?_) (fun _ => ?_)⟩
            · obtain ⟨ps', k1, k2, k3⟩ := hts
              refine ⟨_, rfl, _, k1, small1000 (by rw [List.length_map]; omega), b4.upd _, ts ++ [ti], TokL.snoc k1 k2 k3 hpt4, by rw [List.length_append, List.length_singleton]; omega, hil⟩
            · exact ⟨b4, ts, hts, by omega, hil⟩
        · rintro H4 ⟨b4, ts, hts, _⟩
          exact ⟨D, ts, rfl, b4.same nD, hts⟩
    rintro σ' H4 ⟨D, ts, rfl, s4, hts⟩
    have s04 : Same H H4 := s3.trans s4
    have hT4 := hT3.grow s4
    obtain ⟨hsa, hsb⟩ := str_len habc
    obtain ⟨ps, g1, g2, g3⟩ := id hts
    refine ⟨_, rfl, D, _, rfl, .inl (SqL.of g1), _, rfl, _, _, rfl, rfl, _, rfl, ite2 (fun h => ?_) (fun h => ?_)⟩
    · have h' := of_decide_eq_true h
      rw [List.length_map, g2] at h'
      obtain ⟨tk, htk⟩ : ∃ tk, ts[a.toNat]? = some tk := ⟨_, List.getElem?_eq_getElem (by omega)⟩
      obtain ⟨p, xs, hD, hxs, hp⟩ := hts.at_ htk
      have ea : a = ((a.toNat : Nat) : Int) := by omega
      have hat : atI xs a = some (.ref p) := by rw [ea]; exact atI_nat hxs
      refine ⟨_, rfl, _, rfl, D, xs, a, .ref p, rfl, rfl, SqL.of hD, hat, p, _, 2, _, rfl, rfl, SqT.of hp, atI_nat (j := 2) rfl, ?_⟩
      refine ⟨_, rfl, a, rfl, ?_, _, _, rfl, rfl, ?_, _, _, rfl, rfl, ?_, te_end fun d H5 nd5 s5 hd => q2 d H5 _ _ (s04.trans s5) (noexp_l habc) hd⟩
      · rcases habc with ⟨rfl, _, _⟩ | ⟨rfl, _, _⟩ <;> decide +kernel
      · have e18 : (("there are at most " : Str)).length = 18 := by decide +kernel
        exact szl (by rw [e18]; omega)
      · have e18 : (("there are at most " : Str)).length = 18 := by decide +kernel
        have e8 : ((" letters" : Str)).length = 8 := by decide +kernel
        exact szl (by rw [app_len, e18, e8]; omega)
    refine ⟨_, rfl, v, n, rfl, tr.grow s4, by omega, fun pm H5 im jm s5 hpm => ?_⟩
    have s05 : Same H H5 := s04.trans s5
    have hT5 := hT4.grow s5
    refine ⟨pm, _, rfl, SqT.of hpm, rfl, _, _, rfl, _, _, rfl, rfl, ?_⟩
    obtain ⟨pl, tl, xs, hl5, hat5, hpl⟩ := hT5.last hlen
    refine ⟨_, rfl, _, rfl, _, _, rfl, rfl, _, rfl, ite2 (fun h => ?_) (fun h => ?_)⟩
    · refine ⟨_, rfl, 1, rfl, l, xs, -1, .ref pl, rfl, rfl, SqL.of hl5, hat5, pl, _, 2, _, rfl, rfl, SqT.of hpl, atI_nat (j := 2) rfl, ?_⟩
      refine ⟨_, rfl, b, rfl, ?_, _, _, rfl, rfl, ?_, _, _, rfl, rfl, ?_, te_end fun d H6 nd6 s6 hd => q2 d H6 _ _ (s05.trans s6) (noexp_p habc) hd⟩
      · rcases habc with ⟨_, rfl, _⟩ | ⟨_, rfl, _⟩ <;> decide +kernel
      · have e18 : (("there are at most " : Str)).length = 18 := by decide +kernel
        exact szl (by rw [e18]; omega)
      · have e18 : (("there are at most " : Str)).length = 18 := by decide +kernel
        have e8 : ((" parts" : Str)).length = 6 := by decide +kernel
        exact szl (by rw [app_len, e18, e8]; omega)
    refine ⟨_, rfl, _, rfl, _, _, rfl, rfl, _, rfl, ite2 (fun h => ?_) (fun h => ?_)⟩
    · refine ⟨_, rfl, 1, rfl, l, xs, -1, .ref pl, rfl, rfl, SqL.of hl5, hat5, pl, _, 2, _, rfl, rfl, SqT.of hpl, atI_nat (j := 2) rfl, ?_⟩
      exact te_end fun d H6 nd6 s6 hd => q2 d H6 _ _ (s05.trans s6) noexp_deep hd
    · exact ⟨_, rfl, q1 _ _ s05⟩
  · refine ⟨_, pss_cons (ps_set (i := 4) nd rfl (Or.inl rfl) (pe_cal GS hr3 (passes_call (E := E) (takes_of rfl rfl rfl rfl) (fun _ _ _ _ z => z)) (pa_cons (pv 0) pa_nil))) pss_never, ?_⟩
    exact ⟨_, rfl, t, rfl, hpre, fun h => absurd h hall⟩

/-! ### read_expression, read_long, read_word -/
def spReadE (cT : Addr) : Sp := fun vs H Q E => ∃ t : Str, vs = [.str t] ∧ Rd3 cT (.begin, 0) t H Q E
theorem scReadE : FnScope ["text"] ["text"] (defScope sReadE) := ⟨rfl, rfl, rfl, by decide +kernel, rfl, by decide +kernel, by decide +kernel⟩
theorem scReadL : FnScope ["text"] ["text"] (defScope sReadL) := ⟨rfl, rfl, rfl, by decide +kernel, rfl, by decide +kernel, by decide +kernel⟩
theorem ok_readE (D : Dfn K mg "read_expression" sReadE ["text"]) (T : Txt K mg) (G : Cal P w K mg base (L2.CX P w) 25 "read_within" ["text", "letters", "parts", "deep"] (spWithin cT)) :
    Cal P w K mg base (L2.CX P w) 26 "read_expression" ["text"] (spReadE cT) := by
  obtain ⟨f, fd, hm, F, hb⟩ := D
  refine ⟨f, fd, F.okX scReadE (fun vs H Q E h => ?_) (fun cdv A outer s H vs Q E hr h => ?_), hm, F.kp, hb⟩
  · obtain ⟨t, rfl, _⟩ := h
    rfl
  obtain ⟨t, rfl, h⟩ := h
  refine ⟨_, pss_one (ps_ret (pe_cal G hr (passes_call (E := E) (takes_of rfl rfl rfl rfl) (fun _ _ _ _ z => z)) (pa_cons (pv 0) (pa_cons (pe_g T.gML) (pa_cons (pe_g T.gMP) (pa_cons (pe_g T.gD) pa_nil)))))), ?_⟩
  exact ⟨_, rfl, t, 8, 24, 6, rfl, .inl ⟨rfl, rfl, rfl⟩, h⟩
theorem ok_readL (D : Dfn K mg "read_long" sReadL ["text"]) (T : Txt K mg) (G : Cal P w K mg base (L2.CX P w) 25 "read_within" ["text", "letters", "parts", "deep"] (spWithin cT)) :
    Cal P w K mg base (L2.CX P w) 26 "read_long" ["text"] (spReadE cT) := by
  obtain ⟨f, fd, hm, F, hb⟩ := D
  refine ⟨f, fd, F.okX scReadL (fun vs H Q E h => ?_) (fun cdv A outer s H vs Q E hr h => ?_), hm, F.kp, hb⟩
  · obtain ⟨t, rfl, _⟩ := h
    rfl
  obtain ⟨t, rfl, h⟩ := h
  refine ⟨_, pss_one (ps_ret (pe_cal G hr (passes_call (E := E) (takes_of rfl rfl rfl rfl) (fun _ _ _ _ z => z)) (pa_cons (pv 0) (pa_cons (pe_g T.gMLL) (pa_cons (pe_g T.gMLP) (pa_cons (pe_g T.gDL) pa_nil)))))), ?_⟩
  exact ⟨_, rfl, t, 40, 200, 40, rfl, .inr ⟨rfl, rfl, rfl⟩, h⟩
def spReadW (cT : Addr) : Sp := fun vs H Q E => ∃ t : Str, vs = [.str t] ∧ Rd3 cT (.word, 0) t H Q E
theorem scReadW : FnScope ["text", "found", "token"] ["text"] (defScope sReadW) := ⟨rfl, rfl, rfl, by decide +kernel, rfl, by decide +kernel, by decide +kernel⟩
theorem sum_s : ∀ ts : List Tk, ((ts.map Tk.s).map (·.length)).sum ≤ ts.length
  | [] => Nat.le_refl _
  | t :: r => by
    have h1 := s_len t
    have h2 := sum_s r
    rw [List.map_cons, List.map_cons, List.sum_cons, List.length_cons]
    omega
theorem ok_readW (D : Dfn K mg "read_word" sReadW ["text"]) (DW : DfnM K cP "word" "Parser.word" sWord ["self"]) (T : Txt K mg) (C : Cl K mg cT cA cP)
    (GS : Cal P w K mg base (L2.CX P w) 3 "scan" ["text"] (spScan cT)) (GD : ∀ c : Ctx, c.Ok → CalM P w K mg base (L2.CX P w) 5 cP "word" ["self"] (spWord K cT cA cP c)) :
    Cal P w K mg base (L2.CX P w) 26 "read_word" ["text"] (spReadW cT) := by
  obtain ⟨f, fd, hm, F, hb⟩ := D
  refine ⟨f, fd, F.okX scReadW (fun vs H Q E h => ?_) (fun cdv A outer s H vs Q E hr h => ?_), hm, F.kp, hb⟩
  · obtain ⟨t, rfl, _⟩ := h
    rfl
  obtain ⟨t, rfl, hpre, q⟩ := h
  have hr2 : Room 2 _ := hr.mono (by decide)
  have hr3 : Room 3 _ := hr.mono (by decide)
  have hr5 : Room 5 _ := hr.mono (by decide)
  have nd := scReadW.nd
  obtain ⟨fI, fdI, MI, FI, bI⟩ := C.mP
  have GI := ok_pi (P := P) (w := w) (base := base) FI C
  by_cases hall : AllTk (marks t.cps.toList 0)
  · obtain ⟨c, o, htoks, hcb, hst0, hcD, qf, qd⟩ := q hall
    refine ⟨_, pss_cons (ps_set (i := 1) nd rfl (Or.inl rfl) (pe_cm0 (GD c o) C.clP hr5 (passes_call (E := E) (takes_of rfl rfl rfl rfl) (fun _ _ _ _ z => z)) (pe_make MI GI hr2 rfl C.gP bI .nil pass0 (pa_cons (pe_cal GS hr3 (passes_call (E := E) (takes_of rfl rfl rfl rfl) (fun _ _ _ _ z => z)) (pa_cons (pv 0) pa_nil)) (pa_cons pe_bl pa_nil)))))
      (pss_cons (ps_if (pt_cmpR op_gt (pe_callB call_len_seq rfl T.len PySem.boot_len (pa_cons (pv 1) pa_nil)) (pe_g T.gLW) (nomark _))
        (pss_one (ps_raise rfl (takes_of rfl rfl rfl rfl) (pmk_te C hr2 (pa_cons (pe_ix ix_tup (pe_ix ix_list (pv 1) (pe_g T.gLW) (fun _ _ => rfl)) pe_int (fun _ _ => rfl)) (pa_cons pe_str pa_nil))))) pss_nil)
      (pss_one (ps_ret (pe_join pe_str (pe_lc (own := [("token", 2)]) (g := gName 2) (tt := tYes) (te := tOp (rIxT K) (tVar 2) (tC (.int 1))) rfl nd (pi_list (pv 1)) (blkOk_by (own := [("token", 2)]) (N := ["text", "found", "token"]) (sc := defScope sReadW) (by decide +kernel)) (fun _ _ _ _ _ => pg_name (i := 2) nd rfl (Or.inl rfl)) (fun _ _ _ _ _ => pts_nil)
        (fun _ _ _ _ _ => pe_ix ix_tup (pv 2) pe_int (fun _ _ => rfl))))))), ?_⟩
    refine ⟨_, rfl, t, rfl, hpre, fun _ l H1 s1 hT => ?_⟩
    intro x dx nx ndx nex
    refine ⟨x, dx, l, false, rfl, upd_same, fun H2 pa2 b2 => ⟨rfl, ?_⟩⟩
    obtain ⟨bx, nHx, hT2⟩ := made_ok s1 nx ndx b2 hT
    have hlen : 1 ≤ c.toks.length := by rw [htoks]; exact tokensOf_len _ _
    obtain ⟨dx2, hx2⟩ := id pa2
    refine ⟨x, dx2, _, rfl, hx2, pf_no _ _ _ (by decide +kernel) (by decide +kernel) (by decide +kernel), ?_⟩
    refine ⟨x, l, rfl, ⟨dx2, by rw [hcb]; exact hx2⟩, by rw [htoks]; exact hT2, hst0, hlen, fun u hu => ⟨fun h1 => (by rw [hcb] at h1; cases h1.2), fun _ _ d H' b' hd => qf u hu d H' ((bx.trans b').same nHx) hd⟩, fun p H3 ts b3 hts hle hn => ?_⟩
    obtain ⟨q1, q2⟩ := qd hn
    have hfew := o.few
    have s3 : Same H H3 := (bx.trans b3).same nHx
    obtain ⟨ps, g1, g2, g3⟩ := id hts
    refine ⟨_, rfl, p, _, rfl, .inl (SqL.of g1), _, _, rfl, rfl, _, rfl, ite2 (fun h => ?_) (fun h => ?_)⟩
    · have h' := of_decide_eq_true h
      rw [List.length_map, g2] at h'
      obtain ⟨tk, htk⟩ : ∃ tk, ts[24]? = some tk := ⟨_, List.getElem?_eq_getElem (by omega)⟩
      obtain ⟨p2, xs, hD, hxs, hp⟩ := hts.at_ htk
      refine ⟨_, rfl, p, xs, 24, .ref p2, rfl, rfl, SqL.of hD, atI_nat (j := 24) hxs, p2, _, 2, _, rfl, rfl, SqT.of hp, atI_nat (j := 2) rfl, ?_⟩
      exact te_end fun d H6 nd6 s6 hd => q2 d H6 _ _ (s3.trans s6) noexp_word hd
    refine ⟨⟨_, rfl⟩, _, rfl, p, rfl, ⟨_, SqL.of g1⟩, fun D nD => ?_⟩
    have nlD : p ≠ D := ne_of_none g1 nD
    refine lc_list (K := K) (a := p) (xs := ps.map V.ref) (fun i H' => But D H3 H' ∧ H' D = some (.lst (((ts.take i).map Tk.s).map V.str)) ∧ i ≤ ps.length) ⟨But.refl.upd _, upd_same, Nat.zero_le _⟩ (fun i H' _ h => SqL.of (h.1 _ _ nlD g1)) ?_ ?_
    · rintro i y H4 hy ⟨b4, hD4, hi⟩
      rw [List.getElem?_map] at hy
      cases hpi : ps[i]? with
      | none => rw [hpi] at hy; cases hy
      | some pi =>
        rw [hpi] at hy
        have hy2 : V.ref pi = y := Option.some.inj hy
        subst hy2
        have hil := (List.getElem?_eq_some_iff.mp hpi).1
        obtain ⟨ti, hti2⟩ : ∃ ti, ts[i]? = some ti := ⟨_, List.getElem?_eq_getElem (by omega)⟩
        have hpt := g3 i pi ti hpi hti2
        have npD : pi ≠ D := ne_of_none hpt nD
        refine ⟨rfl, ?_⟩
        refine ⟨_, rfl, pi, _, 1, _, rfl, rfl, SqT.of (b4 _ _ npD hpt), atI_nat (j := 1) rfl, _, hD4, small1000 ?_, b4.upd _, ?_, hil⟩
        · rw [List.length_map, List.length_map, List.length_take]
          omega
        · rw [upd_same, take_snoc hti2, List.map_append, List.map_append]
          rfl
    · rintro H4 ⟨b4, hD4, _⟩
      rw [List.length_map, g2, List.take_length] at hD4
      have e0 : (("" : Str)).length = 0 := by decide +kernel
      refine ⟨"", D, ts.map Tk.s, rfl, rfl, .inl (SqL.of hD4), ?_, q1 _ _ (s3.trans (b4.same nD))⟩
      have := sum_s ts
      rw [e0, Nat.mul_zero]
      omega
  · obtain ⟨f2, fd2, hm2, F2, hb2⟩ := DW
    have GX : CalM P w K mg base CX0 1 cP "word" ["self"] (fun _ _ _ _ => False) := ⟨f2, fd2, ⟨fun vs H Q E h => h.elim, fun A outer s H args us vs Q E _ _ _ _ h => h.elim⟩, hm2, hb2⟩
    refine ⟨_, pss_cons (ps_set (i := 1) nd rfl (Or.inl rfl) (pe_cm0 GX C.clP (hr.mono (by decide)) pass0 (pe_make MI GI hr2 rfl C.gP bI .nil pass0 (pa_cons (pe_cal GS hr3 (passes_call (E := E) (takes_of rfl rfl rfl rfl) (fun _ _ _ _ z => z)) (pa_cons (pv 0) pa_nil)) (pa_cons pe_bl pa_nil))))) pss_never, ?_⟩
    exact ⟨_, rfl, t, rfl, hpre, fun h => absurd h hall⟩
end
end N75
/-! The law's small defs. -/
namespace N75
open PySem L2
section
variable {P : Program} {w : World} {K : PySem.W.Frag} {mg : Str → Option Value} {base : Heap}
/-! ### the stream -/
/-- a stream at s over the list at a -/
structure SmAt (H : Hp) (s a : Addr) : Prop where
  ex : ∃ (cell k : Int) (ms : List Int), H s = some (.lst [.ref a, .int cell, .int k]) ∧ H a = some (.lst (ms.map V.int)) ∧ a ≠ s ∧ 0 ≤ k
theorem SmAt.grow {H H' : Hp} {s a : Addr} (e : Same H H') (h : SmAt H s a) : SmAt H' s a := by
  obtain ⟨cell, k, ms, h1, h2, h3, h4⟩ := h.ex
  exact ⟨cell, k, ms, e _ _ h1, e _ _ h2, h3, h4⟩
theorem SmAt.some {H : Hp} {s a : Addr} (h : SmAt H s a) : (∃ o, H s = some o) ∧ ∃ o, H a = some o := by
  obtain ⟨cell, k, ms, h1, h2, _⟩ := h.ex
  exact ⟨⟨_, h1⟩, ⟨_, h2⟩⟩
/-- another object is written -/
theorem SmAt.upd {H : Hp} {s a p : Addr} {o : HO} (h : SmAt H s a) (h1 : s ≠ p) (h2 : a ≠ p) : SmAt (L2.upd H p o) s a := by
  obtain ⟨cell, k, ms, g1, g2, g3, g4⟩ := h.ex
  exact ⟨cell, k, ms, by rw [upd_ne h1]; exact g1, by rw [upd_ne h2]; exact g2, g3, g4⟩
def spStream (K : PySem.W.Frag) : Sp := fun vs H Q _ => ∃ (a : Addr) (ms : List Int), vs = [.ref a] ∧ SqL K H a (ms.map V.int) ∧ ∀ s a' H', H s = none → H a' = none → Same H H' → SmAt H' s a' → Q (.ref s) H'
theorem scStream : FnScope ["_law_script"] ["_law_script"] (defScope sStream) := ⟨rfl, rfl, rfl, by decide +kernel, rfl, by decide +kernel, by decide +kernel⟩
theorem ok_stream (D : Dfn K mg "_law_stream" sStream ["_law_script"]) (T : Txt K mg) : Cal P w K mg base CX0 1 "_law_stream" ["_law_script"] (spStream K) := by
  obtain ⟨f, fd, hm, F, hb⟩ := D
  refine ⟨f, fd, F.ok scStream (fun vs H Q E h => ?_) (fun cdv A outer s H vs Q E hr h => ?_), hm, F.kp, hb⟩
  · obtain ⟨t, _, rfl, _⟩ := h
    rfl
  obtain ⟨a, ms, rfl, hS, q⟩ := h
  refine ⟨_, pss_one (ps_ret (pe_lst (pa_cons (pe_callTy call_list_of rfl T.list PyProof.Rows.boot_list (pa_cons (pv 0) pa_nil)) (pa_cons pe_int (pa_cons pe_int pa_nil))))), ?_⟩
  refine ⟨_, rfl, a, _, rfl, .inl hS, fun l nl => ?_⟩
  refine ⟨(by show 3 ≤ sizeLine; decide), fun p np => ?_⟩
  have nlp : l ≠ p := ne_of_none upd_same np
  refine q p l _ ((same_new nl _).free np) nl ((same_new nl _).trans (same_new np _)) ⟨0, 0, ms, upd_same, ?_, nlp, Int.le_refl _⟩
  rw [upd_ne nlp]
  exact upd_same
def spDraw : Sp := fun vs H Q _ => ∃ (s a : Addr) (n : Int), vs = [.ref s, .int n] ∧ 0 < n ∧ n < 1000 ∧ SmAt H s a ∧ ∀ d H', 0 ≤ d → d < n → But s H H' → SmAt H' s a → Q (.int d) H'
theorem scDraw : FnScope ["_law_stream_here", "_law_many", "_law_k", "_law_cell", "_law_digit"] ["_law_stream_here", "_law_many"] (defScope sDraw) := ⟨rfl, rfl, rfl, by decide +kernel, rfl, by decide +kernel, by decide +kernel⟩
theorem ok_draw (D : Dfn K mg "_law_next" sDraw ["_law_stream_here", "_law_many"]) (T : Txt K mg) : Cal P w K mg base CX0 1 "_law_next" ["_law_stream_here", "_law_many"] spDraw := by
  obtain ⟨f, fd, hm, F, hb⟩ := D
  refine ⟨f, fd, F.ok scDraw (fun vs H Q E h => ?_) (fun cdv A outer s0 H vs Q E hr h => ?_), hm, F.kp, hb⟩
  · obtain ⟨_, _, _, rfl, _⟩ := h
    rfl
  obtain ⟨s, a, n, rfl, hn0, hn1, hS, q⟩ := h
  have nd := scDraw.nd
  refine ⟨_, pss_cons (ps_cutS (ps_if (pt_cmpR op_eq (pe_ix ix_list (pv 0) pe_int (fun _ _ => rfl)) pe_int (nomark _))
      (pss_cons (ps_set (i := 2) nd rfl (Or.inl rfl) (pe_ix ix_list (pv 0) pe_int (fun _ _ => rfl)))
      (pss_cons (ps_set (i := 3) nd rfl (Or.inl rfl) (pe_op op_add pe_int (pv 2)))
      (pss_cons (ps_cutS (ps_if (pt_cmpR op_lt (pv 2) (pe_callB call_len_seq rfl T.len PySem.boot_len (pa_cons (pe_ix ix_list (pv 0) pe_int (fun _ _ => rfl)) pa_nil)) (nomark _))
        (pss_one (ps_set (i := 3) nd rfl (Or.inl rfl) (pe_callB call_abs rfl T.abs PyProof.Rows.boot_abs (pa_cons (pe_ix ix_list (pe_ix ix_list (pv 0) pe_int (fun _ _ => rfl)) (pv 2) (fun _ _ => rfl)) pa_nil)))) pss_nil))
      (pss_cons (ps_cutS (ps_if (pt_cmpR op_lt (pv 3) (pe_op op_pow pe_int pe_int) (nomark _))
        (pss_cons (ps_set (i := 3) nd rfl (Or.inl rfl) (pe_op op_mod (pe_callTy call_int1 rfl T.int PyProof.Rows.boot_int (pa_cons (pe_op op_add (pe_op op_add (pe_op op_mul (pv 3) pe_int) (pe_op op_mul (pv 2) pe_int)) pe_int) pa_nil)) pe_int))
        (pss_one (ps_set (i := 3) nd rfl (Or.inl rfl) (pe_op op_add (pe_op op_mul (pe_op op_mod (pe_callTy call_int1 rfl T.int PyProof.Rows.boot_int (pa_cons (pe_op op_add (pe_op op_mul (pv 3) pe_int) pe_int) pa_nil)) pe_int) pe_int) (pv 3))))) pss_nil))
      (pss_cons (ps_asg (pv 3) (pg_sub (pv 0) pe_int set_list))
      (pss_one (ps_asg (pe_op op_add (pv 2) pe_int) (pg_sub (pv 0) pe_int set_list)))))))) pss_nil))
    (pss_cons (ps_set (i := 4) nd rfl (Or.inl rfl) (pe_op op_mod (pe_callTy call_int1 rfl T.int PyProof.Rows.boot_int (pa_cons (pe_ix ix_list (pv 0) pe_int (fun _ _ => rfl)) pa_nil)) (pv 1)))
    (pss_cons (ps_asg (pe_op op_fdiv (pe_ix ix_list (pv 0) pe_int (fun _ _ => rfl)) (pv 1)) (pg_sub (pv 0) pe_int set_list))
    (pss_one (ps_ret (pv 4))))), ?_⟩
  obtain ⟨cell, k, ms, h1, h2, h3, h4⟩ := hS.ex
  refine ⟨fun σ' H' => ∃ (v2 v3 : Option V), σ' = [some (.ref s), some (.int n), v2, v3, none] ∧ But s H H' ∧ SmAt H' s a, ?_, ?_⟩
  · refine ⟨_, rfl, s, _, 1, _, rfl, rfl, SqL.of h1, atI_nat (j := 1) rfl, rfl, _, rfl, ite2 (fun _ => ?_) (fun _ => ?_)⟩
    · refine ⟨_, rfl, s, _, 2, _, rfl, rfl, SqL.of h1, atI_nat (j := 2) rfl, ?_⟩
      refine ⟨_, rfl, _, _, rfl, rfl, ?_⟩
      refine ⟨fun σ' H' => H' = H ∧ ∃ z : Int, σ' = [some (.ref s), some (.int n), some (.int k), some (.int z), none], ?_, ?_⟩
      · refine ⟨_, rfl, _, rfl, s, _, 0, _, rfl, rfl, SqL.of h1, atI_nat (j := 0) rfl, a, _, rfl, .inl (SqL.of h2), _, _, rfl, rfl, _, rfl, ite2 (fun hlt => ?_) (fun _ => ?_)⟩
        · have hlt' := of_decide_eq_true hlt
          rw [List.length_map] at hlt'
          have hk : k.toNat < ms.length := by omega
          have ek : k = ((k.toNat : Nat) : Int) := by omega
          have hat : atI (ms.map V.int) ((k.toNat : Nat) : Int) = some (.int ms[k.toNat]) := atI_nat (by rw [List.getElem?_map, List.getElem?_eq_getElem hk]; rfl)
          rw [← ek] at hat
          refine ⟨_, rfl, s, _, 0, _, rfl, rfl, SqL.of h1, atI_nat (j := 0) rfl, _, rfl, a, _, k, _, rfl, rfl, SqL.of h2, hat, _, rfl, rfl, ?_⟩
          exact ⟨_, rfl⟩
        · exact ⟨rfl, _, rfl⟩
      rintro σ' H' ⟨rfl, z, rfl⟩
      refine ⟨fun σ' H'' => H'' = H' ∧ ∃ z : Int, σ' = [some (.ref s), some (.int n), some (.int k), some (.int z), none], ?_, ?_⟩
      · refine ⟨_, rfl, _, _, rfl, rfl, ⟨by decide, by decide, by decide⟩, _, _, rfl, rfl, _, rfl, ite2 (fun _ => ?_) (fun _ => ?_)⟩
        · refine ⟨_, rfl, _, _, rfl, rfl, .inr ⟨by decide, by decide⟩, _, rfl, _, _, rfl, rfl, .inr ⟨by decide, by decide⟩, _, _, rfl, rfl, _, _, rfl, rfl, .inl ⟨_, rfl, _, _, rfl, rfl, (by show (0 : Int) < 2147483647; decide), ?_⟩⟩
          refine ⟨_, rfl, _, _, rfl, rfl, .inr ⟨by decide, by decide⟩, _, _, rfl, rfl, .inl ⟨_, rfl, _, _, rfl, rfl, (by show (0 : Int) < 2147483647; decide), _, _, rfl, rfl, .inr ⟨by decide, by decide⟩, _, rfl, _, _, rfl, rfl, ?_⟩⟩
          exact ⟨rfl, _, rfl⟩
        · exact ⟨rfl, _, rfl⟩
      rintro σ' H'' ⟨rfl, z2, rfl⟩
      refine ⟨_, rfl, _, rfl, s, _, 1, 1, rfl, rfl, h1, rfl, ?_⟩
      refine ⟨_, rfl, _, _, rfl, rfl, _, rfl, s, _, 2, 2, rfl, rfl, upd_same, rfl, ?_⟩
      refine ⟨_, _, rfl, (But.refl.upd _).upd _, ⟨z2, k + 1, ms, upd_same, ?_, h3, by omega⟩⟩
      rw [upd_ne h3, upd_ne h3]
      exact h2
    · exact ⟨_, _, rfl, But.refl, hS⟩
  rintro σ' H1 ⟨v2, v3, rfl, b1, hS1⟩
  obtain ⟨cell1, k1, ms1, g1, g2, g3, g4⟩ := hS1.ex
  refine ⟨_, rfl, s, _, 1, _, rfl, rfl, SqL.of g1, atI_nat (j := 1) rfl, .inl ⟨_, rfl, _, rfl, _, _, rfl, rfl, hn0, ?_⟩⟩
  refine ⟨_, rfl, s, _, 1, _, rfl, rfl, SqL.of g1, atI_nat (j := 1) rfl, _, rfl, _, _, rfl, rfl, ⟨hn0, by omega⟩, _, rfl, s, _, 1, 1, rfl, rfl, g1, rfl, ?_⟩
  refine ⟨_, rfl, ?_⟩
  refine q _ _ (Int.emod_nonneg _ (by omega)) (Int.emod_lt_of_pos _ hn0) (b1.upd _) ⟨cell1 / n, k1, ms1, upd_same, ?_, g3, g4⟩
  rw [upd_ne g3]
  exact g2

/-! ### _law_pick, _law_token -/
def spPick : Sp := fun vs H Q _ => ∃ (s a r : Addr) (xs : List V), vs = [.ref s, .ref r] ∧ SmAt H s a ∧ H r = some (.lst xs) ∧ r ≠ s ∧ 1 ≤ xs.length ∧ xs.length ≤ 100 ∧ ∀ (i : Nat) v H', xs[i]? = some v → But s H H' → SmAt H' s a → Q v H'
theorem scPick : FnScope ["_law_stream_here", "_law_rows"] ["_law_stream_here", "_law_rows"] (defScope sPick) := ⟨rfl, rfl, rfl, by decide +kernel, rfl, by decide +kernel, by decide +kernel⟩
theorem ok_pick (D : Dfn K mg "_law_pick" sPick ["_law_stream_here", "_law_rows"]) (T : Txt K mg) (G : Cal P w K mg base CX0 1 "_law_next" ["_law_stream_here", "_law_many"] spDraw) : Cal P w K mg base CX0 2 "_law_pick" ["_law_stream_here", "_law_rows"] spPick := by
  obtain ⟨f, fd, hm, F, hb⟩ := D
  refine ⟨f, fd, F.ok scPick (fun vs H Q E h => ?_) (fun cdv A outer s0 H vs Q E hr h => ?_), hm, F.kp, hb⟩
  · obtain ⟨_, _, _, _, rfl, _⟩ := h
    rfl
  obtain ⟨s, a, r, xs, rfl, hS, hx, hne, h1, h2, q⟩ := h
  refine ⟨_, pss_one (ps_ret (pe_ix ix_list (pv 1) (pe_cal G hr pass0 (pa_cons (pv 0) (pa_cons (pe_callB call_len_seq rfl T.len PySem.boot_len (pa_cons (pv 1) pa_nil)) pa_nil))) (fun _ _ => rfl))), ?_⟩
  refine ⟨_, rfl, _, rfl, _, rfl, r, _, rfl, .inl (SqL.of hx), ?_⟩
  refine ⟨s, a, _, rfl, by omega, by omega, hS, fun d H' hd0 hd1 b' hS' => ?_⟩
  have ed : d = ((d.toNat : Nat) : Int) := by omega
  have hlt : d.toNat < xs.length := by omega
  refine ⟨r, xs, d, xs[d.toNat], rfl, rfl, SqL.of (b' _ _ hne hx), ?_, q d.toNat _ H' (List.getElem?_eq_getElem hlt) b' hS'⟩
  have z : atI xs ((d.toNat : Nat) : Int) = some xs[d.toNat] := atI_nat (List.getElem?_eq_getElem hlt)
  rw [← ed] at z
  exact z
abbrev chV (c : Nat) : V := .str ⟨#[c]⟩
def spToken : Sp := fun vs H Q _ => ∃ (s a : Addr) (k : Kd), vs = [.ref s, nmV k] ∧ k ≠ .fin ∧ SmAt H s a ∧ ∀ (c : Nat) f H', kc c = some (k, f) → But s H H' → SmAt H' s a → Q (chV c) H'
theorem scToken : FnScope ["_law_stream_here", "_law_kind"] ["_law_stream_here", "_law_kind"] (defScope sToken) := ⟨rfl, rfl, rfl, by decide +kernel, rfl, by decide +kernel, by decide +kernel⟩
theorem ok_token (D : Dfn K mg "_law_token" sToken ["_law_stream_here", "_law_kind"]) (G : Cal P w K mg base CX0 2 "_law_pick" ["_law_stream_here", "_law_rows"] spPick) : Cal P w K mg base CX0 3 "_law_token" ["_law_stream_here", "_law_kind"] spToken := by
  obtain ⟨f, fd, hm, F, hb⟩ := D
  refine ⟨f, fd, F.ok scToken (fun vs H Q E h => ?_) (fun cdv A outer s0 H vs Q E hr h => ?_), hm, F.kp, hb⟩
  · obtain ⟨_, _, _, rfl, _⟩ := h
    rfl
  obtain ⟨s, a, k, rfl, hk, hS, q⟩ := h
  refine ⟨_, pss_one (ps_ret (pe_ifExp (pt_cmpR op_eq (pv 1) pe_str (nomark _)) (pe_cal G hr pass0 (pa_cons (pv 0) (pa_cons (pe_lst (pa_cons pe_str (pa_cons pe_str (pa_cons pe_str (pa_cons pe_str pa_nil))))) pa_nil))) (pv 1))), ?_⟩
  refine ⟨_, rfl, rfl, _, rfl, ite2 (fun h => ?_) (fun h => ?_)⟩
  · have hl : k = .ltr := by
      have z := of_decide_eq_true h
      injection z with z
      exact nm_inj k .ltr z
    subst hl
    refine ⟨_, rfl, (by show 4 ≤ sizeLine; decide), fun p np => ?_⟩
    obtain ⟨⟨o, ho⟩, _⟩ := hS.some
    refine ⟨s, a, p, _, rfl, hS.grow (same_new np _), upd_same, (ne_of_none ho np).symm, (by decide), (by decide), fun i v H' hv b' hS' => ?_⟩
    have b2 : But s H H' := (But.of (same_new np _)).trans b'
    match i, hv with
    | 0, hv =>
      cases hv
      have := q 97 0 H' (by decide) b2 hS'
      have e : chV 97 = V.str "a" := by decide +kernel
      rw [e] at this
      exact this
    | 1, hv =>
      cases hv
      have := q 98 1 H' (by decide) b2 hS'
      have e : chV 98 = V.str "b" := by decide +kernel
      rw [e] at this
      exact this
    | 2, hv =>
      cases hv
      have := q 99 2 H' (by decide) b2 hS'
      have e : chV 99 = V.str "c" := by decide +kernel
      rw [e] at this
      exact this
    | 3, hv =>
      cases hv
      have := q 100 3 H' (by decide) b2 hS'
      have e : chV 100 = V.str "d" := by decide +kernel
      rw [e] at this
      exact this
    | i + 4, hv => simp at hv
  · have hl : ¬ k = .ltr := fun z => by
      have z2 := of_decide_eq_false (Bool.eq_false_iff.mpr h)
      exact z2 (by rw [z]; rfl)
    refine ⟨_, rfl, ?_⟩
    obtain ⟨c, hc, he⟩ : ∃ c, kc c = some (k, 0) ∧ chV c = nmV k := by
      cases k with
      | ltr => exact absurd rfl hl
      | fin => exact absurd rfl hk
      | lp => exact ⟨40, by decide, by decide +kernel⟩
      | rp => exact ⟨41, by decide, by decide +kernel⟩
      | bar => exact ⟨124, by decide, by decide +kernel⟩
      | qm => exact ⟨63, by decide, by decide +kernel⟩
      | star => exact ⟨42, by decide, by decide +kernel⟩
      | dot => exact ⟨46, by decide, by decide +kernel⟩
    have := q c 0 H hc But.refl hS
    rw [he] at this
    exact this
end
end N75
/-! The law's tables: shown, kinds, options, step, due. -/
namespace N75
open PySem L2
section
variable {P : Program} {w : World} {K : PySem.W.Frag} {mg : Str → Option Value} {base : Heap}
def spLShown : Sp := fun vs H Q _ => ∃ k : Kd, vs = [nmV k] ∧ ∀ H', Same H H' → Q (shV k) H'
theorem scLShown : FnScope ["_law_kind"] ["_law_kind"] (defScope sLShown) := ⟨rfl, rfl, rfl, by decide +kernel, rfl, by decide +kernel, by decide +kernel⟩
theorem nm_len (k : Kd) : k.nm.length ≤ 8 := by cases k <;> decide +kernel
theorem shown_get (k : Kd) : (valV [((.inr ("letter" : Str) : Key), V.str "a letter"), (.inr ("end" : Str), .str "the end")] (.inr k.nm)).getD (.str (("\"" : Str) ++ k.nm ++ ("\"" : Str))) = shV k := by
  cases k <;> decide +kernel
theorem ok_lshown (D : Dfn K mg "_law_shown" sLShown ["_law_kind"]) : Cal P w K mg base CX0 1 "_law_shown" ["_law_kind"] spLShown := by
  obtain ⟨f, fd, hm, F, hb⟩ := D
  refine ⟨f, fd, F.ok scLShown (fun vs H Q E h => ?_) (fun cdv A outer s0 H vs Q E hr h => ?_), hm, F.kp, hb⟩
  · obtain ⟨_, rfl, _⟩ := h
    rfl
  obtain ⟨k, rfl, q⟩ := h
  have hu := hu_of hr
  refine ⟨_, pss_one (ps_ret (pe_dget2 hu (pe_disp (pps_cons pe_str pe_str (pps_cons pe_str pe_str pps_nil)) (by rfl) (by rfl) (fun z => by cases z) (by decide)) (pv 0) (pe_op op_add_str (pe_op op_add_str pe_str (pv 0)) pe_str) ⟨rfl, rfl, rfl, rfl⟩)), ?_⟩
  intro p np
  refine ⟨upd_same, [(.inr "letter", .str "a letter"), (.inr "end", .str "the end")], rfl, by decide, ?_⟩
  have h1 : (upd (upd H p (.dK [])) p (.dK (mergeK [] [((.inr ("letter" : Str) : Key), V.str "a letter"), (.inr ("end" : Str), .str "the end")]))) p = some (.dK [((.inr ("letter" : Str) : Key), V.str "a letter"), (.inr ("end" : Str), .str "the end")]) := upd_same
  have hl := nm_len k
  refine ⟨p, rfl, .inl ⟨_, .inl h1⟩, _, rfl, _, rfl, _, _, rfl, rfl, szl (by rw [q_len]; omega), _, _, rfl, rfl, szl (by rw [app_len, q_len]; omega), ?_⟩
  refine ⟨_, DGet.k (k := .inr k.nm) h1, ?_⟩
  have e := shown_get k
  rw [e]
  exact q _ fun b o hb => by rw [upd_ne (ne_of_none hb np), upd_ne (ne_of_none hb np)]; exact hb
def spKinds : Sp := fun vs H Q _ => vs = [] ∧ ∀ p H', H p = none → Same H H' → H' p = some (.lst (allK.map nmV)) → Q (.ref p) H'
theorem scKinds : FnScope [] [] (defScope sKinds) := ⟨rfl, rfl, rfl, by decide +kernel, rfl, by decide +kernel, by decide +kernel⟩
theorem ok_kinds (D : Dfn K mg "_law_kinds" sKinds []) : Cal P w K mg base CX0 1 "_law_kinds" [] spKinds := by
  obtain ⟨f, fd, hm, F, hb⟩ := D
  refine ⟨f, fd, F.ok scKinds (fun vs H Q E h => ?_) (fun cdv A outer s0 H vs Q E hr h => ?_), hm, F.kp, hb⟩
  · obtain ⟨rfl, _⟩ := h
    rfl
  obtain ⟨rfl, q⟩ := h
  refine ⟨_, pss_one (ps_ret (pe_lst (pa_cons pe_str (pa_cons pe_str (pa_cons pe_str (pa_cons pe_str (pa_cons pe_str (pa_cons pe_str (pa_cons pe_str (pa_cons pe_str pa_nil)))))))))), ?_⟩
  exact ⟨(by show 8 ≤ sizeLine; decide), fun p np => q p _ np (same_new np _) upd_same⟩
def spOptions : Sp := fun vs H Q _ => ∃ (s : Stt) (d : Int), vs = [.str s.nm, .int d] ∧ ∀ p H', H p = none → Same H H' → H' p = some (.lst ((opts s d).map nmV)) → Q (.ref p) H'
theorem scOptions : FnScope ["_law_state", "_law_depth"] ["_law_state", "_law_depth"] (defScope sOptions) := ⟨rfl, rfl, rfl, by decide +kernel, rfl, by decide +kernel, by decide +kernel⟩
theorem snm_inj : ∀ a b : Stt, a.nm = b.nm → a = b := by
  intro a b h
  cases a <;> cases b <;> first | rfl | exact absurd h (by decide +kernel)
theorem nm_is {s : Stt} (b : Stt) {x : Str} (hx : x = b.nm) : (V.str s.nm = V.str x) ↔ s = b := by
  rw [hx]
  constructor
  · intro z
    injection z with z
    exact snm_inj _ _ z
  · intro z
    rw [z]
theorem knm_is {k : Kd} (b : Kd) {x : Str} (hx : x = b.nm) : (nmV k = V.str x) ↔ k = b := by
  rw [hx]
  constructor
  · intro z
    injection z with z
    exact nm_inj _ _ z
  · intro z
    rw [z]
theorem ok_options (D : Dfn K mg "_law_options" sOptions ["_law_state", "_law_depth"]) : Cal P w K mg base CX0 1 "_law_options" ["_law_state", "_law_depth"] spOptions := by
  obtain ⟨f, fd, hm, F, hb⟩ := D
  refine ⟨f, fd, F.ok scOptions (fun vs H Q E h => ?_) (fun cdv A outer s0 H vs Q E hr h => ?_), hm, F.kp, hb⟩
  · obtain ⟨_, _, rfl, _⟩ := h
    rfl
  obtain ⟨s, d, rfl, q⟩ := h
  have hu := hu_of hr
  refine ⟨_, pss_cons (ps_if (pt_cmpR op_eq (pv 0) pe_str (nomark _)) (pss_one (ps_ret (pe_lst (pa_cons pe_str (pa_cons pe_str (pa_cons pe_str pa_nil)))))) pss_nil)
    (pss_cons (ps_if (pt_cmpR op_eq (pv 0) pe_str (nomark _)) (pss_one (ps_ret (pe_op op_cat (pe_lst (pa_cons pe_str (pa_cons pe_str (pa_cons pe_str (pa_cons pe_str (pa_cons pe_str (pa_cons pe_str pa_nil))))))) (pe_lst (pa_cons (pe_ifExp (pt_cmpR op_gt (pv 1) pe_int (nomark _)) pe_str pe_str) pa_nil))))) pss_nil)
    (pss_one (ps_ret (pe_dget hu (pe_disp (pps_cons pe_str (pe_lst (pa_cons pe_str (pa_cons pe_str pa_nil))) (pps_cons pe_str (pe_lst (pa_cons pe_str (pa_cons pe_str pa_nil))) (pps_cons pe_str (pe_lst (pa_cons pe_str pa_nil)) pps_nil))) (by rfl) (by rfl) (fun z => by cases z) (by decide)) (pv 0) (fun _ _ => rfl))))), ?_⟩
  refine ⟨_, rfl, rfl, _, rfl, ite2 (fun h => ?_) (fun h => ?_)⟩
  · have hs : s = .begin := (nm_is .begin rfl).mp (of_decide_eq_true h)
    subst hs
    exact ⟨(by show 3 ≤ sizeLine; decide), fun p np => q p _ np (same_new np _) upd_same⟩
  have hs1 : ¬ s = .begin := fun z => of_decide_eq_false (Bool.eq_false_iff.mpr h) ((nm_is .begin rfl).mpr z)
  refine ⟨_, rfl, rfl, _, rfl, ite2 (fun h => ?_) (fun h => ?_)⟩
  · have hs : s = .item := (nm_is .item rfl).mp (of_decide_eq_true h)
    subst hs
    refine ⟨(by show 6 ≤ sizeLine; decide), fun p1 n1 => ?_⟩
    refine ⟨_, rfl, _, _, rfl, rfl, _, rfl, ite2 (fun hd => ?_) (fun hd => ?_)⟩
    · have hd' : d > 0 := of_decide_eq_true hd
      refine ⟨(by show 1 ≤ sizeLine; decide), fun p2 n2 => ?_⟩
      have n12 : p1 ≠ p2 := ne_of_none upd_same n2
      refine ⟨p1, p2, _, _, rfl, rfl, (by rw [upd_ne n12]; exact upd_same), upd_same, (by show 7 ≤ sizeLine; decide), fun p3 n3 => ?_⟩
      refine q p3 _ (((same_new n1 _).trans (same_new n2 _)).free n3) (((same_new n1 _).trans (same_new n2 _)).trans (same_new n3 _)) ?_
      rw [upd_same, opts_item, if_pos hd']
      rfl
    · have hd' : ¬ d > 0 := of_decide_eq_false (Bool.eq_false_iff.mpr hd)
      refine ⟨(by show 1 ≤ sizeLine; decide), fun p2 n2 => ?_⟩
      have n12 : p1 ≠ p2 := ne_of_none upd_same n2
      refine ⟨p1, p2, _, _, rfl, rfl, (by rw [upd_ne n12]; exact upd_same), upd_same, (by show 7 ≤ sizeLine; decide), fun p3 n3 => ?_⟩
      refine q p3 _ (((same_new n1 _).trans (same_new n2 _)).free n3) (((same_new n1 _).trans (same_new n2 _)).trans (same_new n3 _)) ?_
      rw [upd_same, opts_item, if_neg hd']
      rfl
  have hs2 : ¬ s = .item := fun z => of_decide_eq_false (Bool.eq_false_iff.mpr h) ((nm_is .item rfl).mpr z)
  intro p np
  refine ⟨(by show 2 ≤ sizeLine; decide), fun a1 m1 => ?_⟩
  refine ⟨(by show 2 ≤ sizeLine; decide), fun a2 m2 => ?_⟩
  refine ⟨(by show 1 ≤ sizeLine; decide), fun a3 m3 => ?_⟩
  have e1 : p ≠ a1 := ne_of_none upd_same m1
  have e2 : p ≠ a2 := ne_of_none (by rw [upd_ne e1]; exact upd_same) m2
  have e3 : p ≠ a3 := ne_of_none (by rw [upd_ne e2, upd_ne e1]; exact upd_same) m3
  have a12 : a1 ≠ a2 := ne_of_none upd_same m2
  have a13 : a1 ≠ a3 := ne_of_none (by rw [upd_ne a12]; exact upd_same) m3
  have a23 : a2 ≠ a3 := ne_of_none upd_same m3
  refine ⟨(by rw [upd_ne e3, upd_ne e2, upd_ne e1]; exact upd_same), [(.inr "word", .ref a1), (.inr "letters", .ref a2), (.inr "empty", .ref a3)], rfl, (by show 3 ≤ 15; decide), ?_⟩
  have S : Same H (upd (upd (upd (upd (upd H p (.dK [])) a1 (.lst [nmV .ltr, nmV .dot])) a2 (.lst [nmV .ltr, nmV .fin])) a3 (.lst [nmV .fin])) p (.dK (mergeK [] [((.inr ("word" : Str) : Key), V.ref a1), (.inr ("letters" : Str), .ref a2), (.inr ("empty" : Str), .ref a3)]))) := fun b o hb => by
    have z := (((same_new np (.dK [])).trans (same_new m1 (.lst [nmV .ltr, nmV .dot]))).trans (same_new m2 (.lst [nmV .ltr, nmV .fin]))).trans (same_new m3 (.lst [nmV .fin])) b o hb
    rw [upd_ne (ne_of_none hb np)]
    exact z
  have g := DGet.k (H := upd (upd (upd (upd (upd H p (.dK [])) a1 (.lst [nmV .ltr, nmV .dot])) a2 (.lst [nmV .ltr, nmV .fin])) a3 (.lst [nmV .fin])) p (.dK (mergeK [] [((.inr ("word" : Str) : Key), V.ref a1), (.inr ("letters" : Str), .ref a2), (.inr ("empty" : Str), .ref a3)]))) (a := p) (k := .inr s.nm) upd_same
  have nn1 : H a1 = none := (same_new np _).free m1
  have nn2 : H a2 = none := ((same_new np _).trans (same_new m1 _)).free m2
  have nn3 : H a3 = none := (((same_new np _).trans (same_new m1 _)).trans (same_new m2 _)).free m3
  cases s with
  | begin => exact absurd rfl hs1
  | item => exact absurd rfl hs2
  | word =>
    refine ⟨_, rfl, p, .ref a1, rfl, g, q a1 _ nn1 S ?_⟩
    rw [upd_ne e1.symm, upd_ne a13, upd_ne a12]
    exact upd_same
  | letters =>
    refine ⟨_, rfl, p, .ref a2, rfl, g, q a2 _ nn2 S ?_⟩
    rw [upd_ne e2.symm, upd_ne a23]
    exact upd_same
  | empty =>
    refine ⟨_, rfl, p, .ref a3, rfl, g, q a3 _ nn3 S ?_⟩
    rw [upd_ne e3.symm]
    exact upd_same

/-! ### _law_step -/
def spStep : Sp := fun vs H Q _ => ∃ (s : Stt) (d : Int) (k : Kd), vs = [.str s.nm, .int d, nmV k] ∧ ∀ p H', Same H H' → H' p = some (.tup [.str (stp (s, d) k).1.nm, .int (stp (s, d) k).2]) → Q (.ref p) H'
theorem scStep : FnScope ["_law_state", "_law_depth", "_law_kind"] ["_law_state", "_law_depth", "_law_kind"] (defScope sStep) := ⟨rfl, rfl, rfl, by decide +kernel, rfl, by decide +kernel, by decide +kernel⟩
theorem ok_step (D : Dfn K mg "_law_step" sStep ["_law_state", "_law_depth", "_law_kind"]) : Cal P w K mg base CX0 1 "_law_step" ["_law_state", "_law_depth", "_law_kind"] spStep := by
  obtain ⟨f, fd, hm, F, hb⟩ := D
  refine ⟨f, fd, F.ok scStep (fun vs H Q E h => ?_) (fun cdv A outer s0 H vs Q E hr h => ?_), hm, F.kp, hb⟩
  · obtain ⟨_, _, _, rfl, _⟩ := h
    rfl
  obtain ⟨s, d, k, rfl, q⟩ := h
  refine ⟨_, pss_cons (ps_if (pt_cmpR op_eq (pv 0) pe_str (nomark _)) (pss_one (ps_ret (pe_tup (pa_cons (pe_ifExp (pt_cmpR op_eq (pv 2) pe_str (nomark _)) pe_str pe_str) (pa_cons (pv 1) pa_nil))))) pss_nil)
    (pss_cons (ps_if (pt_cmpR op_eq (pv 0) pe_str (nomark _)) (pss_one (ps_ret (pe_tup (pa_cons (pv 0) (pa_cons (pv 1) pa_nil))))) pss_nil)
    (pss_cons (ps_if (pt_cmpR op_eq (pv 2) pe_str (nomark _)) (pss_one (ps_ret (pe_tup (pa_cons pe_str (pa_cons (pe_op op_add (pv 1) pe_int) pa_nil))))) pss_nil)
    (pss_cons (ps_if (pt_cmpR op_eq (pv 2) pe_str (nomark _)) (pss_one (ps_ret (pe_tup (pa_cons pe_str (pa_cons (pe_op op_sub (pv 1) pe_int) pa_nil))))) pss_nil)
    (pss_one (ps_ret (pe_tup (pa_cons (pe_ifExp (pt_cmpR op_eq (pv 2) pe_str (nomark _)) pe_str pe_str) (pa_cons (pv 1) pa_nil)))))))), ?_⟩
  have two : ∀ {x y : V} {p : Addr}, H p = none → ([x, y] : List V) = [.str (stp (s, d) k).1.nm, .int (stp (s, d) k).2] → Q (.ref p) (upd H p (.tup [x, y])) := fun {x y p} np e => q p _ (same_new np _) (by rw [upd_same, e])
  refine ⟨_, rfl, rfl, _, rfl, ite2 (fun h => ?_) (fun h => ?_)⟩
  · have hs : s = .word := (nm_is .word rfl).mp (of_decide_eq_true h)
    subst hs
    refine ⟨_, rfl, rfl, _, rfl, ite2 (fun h => ?_) (fun h => ?_)⟩
    · have hk : k = .ltr := (knm_is .ltr rfl).mp (of_decide_eq_true h)
      subst hk
      exact ⟨_, rfl, (by show 2 ≤ sizeLine; decide), fun p np => two np rfl⟩
    · have hk : ¬ k = .ltr := fun z => of_decide_eq_false (Bool.eq_false_iff.mpr h) ((knm_is .ltr rfl).mpr z)
      refine ⟨_, rfl, (by show 2 ≤ sizeLine; decide), fun p np => two np ?_⟩
      show _ = [V.str ((if k = .ltr then Stt.letters else .empty, d) : Stt × Int).1.nm, _]
      rw [if_neg hk]
      rfl
  have hs1 : ¬ s = .word := fun z => of_decide_eq_false (Bool.eq_false_iff.mpr h) ((nm_is .word rfl).mpr z)
  refine ⟨_, rfl, rfl, _, rfl, ite2 (fun h => ?_) (fun h => ?_)⟩
  · have hs : s = .letters := (nm_is .letters rfl).mp (of_decide_eq_true h)
    subst hs
    exact ⟨_, rfl, _, rfl, (by show 2 ≤ sizeLine; decide), fun p np => two np rfl⟩
  have hs2 : ¬ s = .letters := fun z => of_decide_eq_false (Bool.eq_false_iff.mpr h) ((nm_is .letters rfl).mpr z)
  refine ⟨_, rfl, rfl, _, rfl, ite2 (fun h => ?_) (fun h => ?_)⟩
  · have hk : k = .lp := (knm_is .lp rfl).mp (of_decide_eq_true h)
    subst hk
    refine ⟨_, rfl, _, _, rfl, rfl, (by show 2 ≤ sizeLine; decide), fun p np => two np ?_⟩
    cases s <;> first | exact absurd rfl hs1 | exact absurd rfl hs2 | rfl
  have hk1 : ¬ k = .lp := fun z => of_decide_eq_false (Bool.eq_false_iff.mpr h) ((knm_is .lp rfl).mpr z)
  refine ⟨_, rfl, rfl, _, rfl, ite2 (fun h => ?_) (fun h => ?_)⟩
  · have hk : k = .rp := (knm_is .rp rfl).mp (of_decide_eq_true h)
    subst hk
    refine ⟨_, rfl, _, _, rfl, rfl, (by show 2 ≤ sizeLine; decide), fun p np => two np ?_⟩
    cases s <;> first | exact absurd rfl hs1 | exact absurd rfl hs2 | rfl
  have hk2 : ¬ k = .rp := fun z => of_decide_eq_false (Bool.eq_false_iff.mpr h) ((knm_is .rp rfl).mpr z)
  refine ⟨_, rfl, rfl, _, rfl, ite2 (fun h => ?_) (fun h => ?_)⟩
  · have hk : k = .bar := (knm_is .bar rfl).mp (of_decide_eq_true h)
    subst hk
    refine ⟨_, rfl, (by show 2 ≤ sizeLine; decide), fun p np => two np ?_⟩
    cases s <;> first | exact absurd rfl hs1 | exact absurd rfl hs2 | rfl
  · have hk : ¬ k = .bar := fun z => of_decide_eq_false (Bool.eq_false_iff.mpr h) ((knm_is .bar rfl).mpr z)
    refine ⟨_, rfl, (by show 2 ≤ sizeLine; decide), fun p np => two np ?_⟩
    cases s <;> first | exact absurd rfl hs1 | exact absurd rfl hs2 | (cases k <;> first | exact absurd rfl hk1 | exact absurd rfl hk2 | exact absurd rfl hk | rfl)

/-! ### _law_due -/
def spDue : Sp := fun vs H Q _ => ∃ (s : Stt) (d : Int), vs = [.str s.nm, .int d] ∧ ∀ p H', H p = none → Same H H' → H' p = some (.lst ((ordd (opts s d)).map shV)) → Q (.ref p) H'
theorem scDue : FnScope ["_law_state", "_law_depth", "_law_options_here", "_law_kind"] ["_law_state", "_law_depth"] (defScope sDue) := ⟨rfl, rfl, rfl, by decide +kernel, rfl, by decide +kernel, by decide +kernel⟩
theorem ok_due (D : Dfn K mg "_law_due" sDue ["_law_state", "_law_depth"]) (G1 : Cal P w K mg base CX0 1 "_law_options" ["_law_state", "_law_depth"] spOptions) (G2 : Cal P w K mg base CX0 1 "_law_kinds" [] spKinds)
    (G3 : Cal P w K mg base CX0 1 "_law_shown" ["_law_kind"] spLShown) : Cal P w K mg base CX0 2 "_law_due" ["_law_state", "_law_depth"] spDue := by
  obtain ⟨f, fd, hm, F, hb⟩ := D
  refine ⟨f, fd, F.ok scDue (fun vs H Q E h => ?_) (fun cdv A outer s0 H vs Q E hr h => ?_), hm, F.kp, hb⟩
  · obtain ⟨_, _, rfl, _⟩ := h
    rfl
  obtain ⟨s, d, rfl, q⟩ := h
  have nd := scDue.nd
  refine ⟨_, pss_cons (ps_set (i := 2) nd rfl (Or.inr rfl) (pe_cal G1 hr pass0 (pa_cons (pv 0) (pa_cons (pv 1) pa_nil))))
    (pss_one (ps_ret (pe_lc (own := [("_law_kind", 3)]) (g := gName 3) (tt := tTest (tOp (rIn K false) (tVar 3) (tVar 2))) rfl nd (pi_list (pe_cal0 G2 hr pass0)) (blkOk_by (own := [("_law_kind", 3)]) (N := ["_law_state", "_law_depth", "_law_options_here", "_law_kind"]) (sc := defScope sDue) (by decide +kernel)) (fun _ _ _ _ _ => pg_name (i := 3) nd rfl (Or.inl rfl))
      (fun _ _ _ _ _ => pts_one (pt_cmpR op_in_seq (pv 3) (pv 2) (by rfl))) (fun _ _ _ _ _ => pe_cal G3 hr pass0 (pa_cons (pv 3) pa_nil))))), ?_⟩
  refine ⟨_, rfl, _, rfl, s, d, rfl, fun o H1 no s1 ho => ?_⟩
  refine ⟨rfl, fun kk H2 nk s2 hkk => ?_⟩
  refine ⟨kk, rfl, ⟨_, SqL.of hkk⟩, fun D nD => ?_⟩
  have nkD : kk ≠ D := ne_of_none hkk nD
  have ho2 := s2 _ _ ho
  have noD : o ≠ D := ne_of_none ho2 nD
  refine lc_list (K := K) (a := kk) (xs := allK.map nmV) (fun i H' => But D H2 H' ∧ H' D = some (.lst (((allK.take i).filter fun k => (opts s d).contains k).map shV)) ∧ i ≤ 8) ⟨But.refl.upd _, upd_same, Nat.zero_le _⟩
    (fun i H' _ h => SqL.of (h.1 _ _ nkD hkk)) ?_ ?_
  · rintro i x H5 hx ⟨s5, d5, hi⟩
    rw [List.getElem?_map] at hx
    cases hk : allK[i]? with
    | none => rw [hk] at hx; cases hx
    | some k =>
      rw [hk] at hx
      have hx2 : nmV k = x := Option.some.inj hx
      subst hx2
      have hi2 : i < 8 := (List.getElem?_eq_some_iff.mp hk).1
      refine ⟨rfl, ?_⟩
      refine ⟨_, rfl, _, rfl, o, _, rfl, .inl (SqL.of (s5 _ _ noD ho2)), rfl, flat_nm _, _, rfl, ?_⟩
      rw [inV_nm]
      have e1 : ((allK.take (i + 1)).filter fun k => (opts s d).contains k) = ((allK.take i).filter fun k => (opts s d).contains k) ++ (if (opts s d).contains k = true then [k] else []) := by
        rw [take_snoc hk, List.filter_append, filter_one]
      refine ite2 (fun hc => ?_) (fun hc => ?_)
      · have hc2 : (opts s d).contains k = true := hc
        refine ⟨_, rfl, k, rfl, fun H6 s6 => ?_⟩
        refine ⟨_, s6 _ _ d5, szl ?_, (s5.trans (But.of s6)).upd _, ?_, hi2⟩
        · rw [List.length_map]
          refine Nat.le_trans (Nat.succ_le_succ (List.length_filter_le _ _)) ?_
          rw [List.length_take]
          omega
        · rw [upd_same, e1, if_pos hc2, List.map_append]
          rfl
      · have hc2 : ¬ (opts s d).contains k = true := hc
        refine ⟨s5, ?_, hi2⟩
        rw [e1, if_neg hc2, List.append_nil]
        exact d5
  · rintro H5 ⟨s5, d5, _⟩
    exact q D H5 ((s1.trans s2).free nD) ((s1.trans s2).trans (s5.same nD)) d5
end
end N75
/-! The law's equality, its text. -/
namespace N75
open PySem L2
/-- the same data at both, at most n deep -/
inductive Eqv (H : Hp) : Nat → V → V → Prop
  | int (n : Nat) (i : Int) : Eqv H n (.int i) (.int i)
  | str (n : Nat) (s : Str) : Eqv H n (.str s) (.str s)
  | seq {n : Nat} {a b : Addr} {xs ys : List V} (h : (H a = some (.tup xs) ∧ H b = some (.tup ys)) ∨ (H a = some (.lst xs) ∧ H b = some (.lst ys))) (hl : xs.length = ys.length) (hs : ys.length ≤ 100) (he : ∀ (i : Nat) x y, xs[i]? = some x → ys[i]? = some y → Eqv H n x y) :
      Eqv H (n + 1) (.ref a) (.ref b)
theorem Eqv.grow {H H' : Hp} (e : Same H H') : ∀ {n : Nat} {x y : V}, Eqv H n x y → Eqv H' n x y
  | _, _, _, .int n i => .int n i
  | _, _, _, .str n s => .str n s
  | _, _, _, .seq h hl hs he => .seq (by
      rcases h with (⟨h1, h2⟩ | ⟨h1, h2⟩)
      · exact .inl ⟨e _ _ h1, e _ _ h2⟩
      · exact .inr ⟨e _ _ h1, e _ _ h2⟩) hl hs fun i x y a b => Eqv.grow e (he i x y a b)
section
variable {P : Program} {w : World} {K : PySem.W.Frag} {mg : Str → Option Value} {base : Heap} {cT cA cP : Addr}
def spIsInt : Sp := fun vs H Q _ => ∃ i : Int, vs = [.int i] ∧ Q (.bl true) H
theorem scIsInt : FnScope ["_law_actual"] ["_law_actual"] (defScope sIsInt) := ⟨rfl, rfl, rfl, by decide +kernel, rfl, by decide +kernel, by decide +kernel⟩
theorem ok_isInt (D : Dfn K mg "_law_is_integer" sIsInt ["_law_actual"]) (T : Txt K mg) : Cal P w K mg base CX0 1 "_law_is_integer" ["_law_actual"] spIsInt := by
  obtain ⟨f, fd, hm, F, hb⟩ := D
  refine ⟨f, fd, F.ok scIsInt (fun vs H Q E h => ?_) (fun cdv A outer s0 H vs Q E hr h => ?_), hm, F.kp, hb⟩
  · obtain ⟨_, rfl, _⟩ := h
    rfl
  obtain ⟨i, rfl, q⟩ := h
  refine ⟨_, pss_one (ps_ret (pe_and (pe_callB call_isi rfl T.isi PyProof.Rows.boot_isinstance (pa_cons (pv 0) (pa_cons (pe_bltn (v := .ty "int") rfl T.int PyProof.Rows.boot_int rfl) pa_nil)))
    (pe_one (pe_not (pe_callB call_isi rfl T.isi PyProof.Rows.boot_isinstance (pa_cons (pv 0) (pa_cons (pe_bltn (v := .ty "bool") rfl T.bool PyProof.Rows.boot_bool rfl) pa_nil))))))), ?_⟩
  refine ⟨_, rfl, _, _, _, _, true, rfl, .ty "int", .base (.int _), kit_ty (by decide +kernel), true, rfl, iteT ?_⟩
  refine ⟨_, rfl, _, _, _, _, false, rfl, .ty "bool", .base (.int _), kit_ty (by decide +kernel), false, rfl, ?_⟩
  exact q
def spEqual (n : Nat) : Sp := fun vs H Q _ => ∃ x y : V, vs = [x, y] ∧ Eqv H n x y ∧ ∀ H', Same H H' → Q (.bl true) H'
def spEqO : Nat → Sp
  | 0 => fun _ _ _ _ => False
  | n + 1 => spEqual n
theorem scEqual : FnScope ["_law_actual", "_law_due_here", "_law_at"] ["_law_actual", "_law_due_here"] (defScope sEqual) := ⟨rfl, rfl, rfl, by decide +kernel, rfl, by decide +kernel, by decide +kernel⟩
theorem all_rep (n : Nat) : (List.replicate n true).all id = true := by
  induction n with
  | zero => rfl
  | succ n ih => rw [List.replicate_succ, List.all_cons, ih]; rfl
theorem ok_equal1 {n lv : Nat} (D : Dfn K mg "_law_equal" sEqual ["_law_actual", "_law_due_here"]) (T : Txt K mg) (hlv : 1 ≤ lv) (G1 : Cal P w K mg base CX0 1 "_law_is_integer" ["_law_actual"] spIsInt)
    (G : Cal P w K mg base CX0 lv "_law_equal" ["_law_actual", "_law_due_here"] (spEqO n)) : Cal P w K mg base CX0 (lv + 1) "_law_equal" ["_law_actual", "_law_due_here"] (spEqO (n + 1)) := by
  obtain ⟨f, fd, hm, F, hb⟩ := D
  refine ⟨f, fd, F.ok scEqual (fun vs H Q E h => ?_) (fun cdv A outer s0 H vs Q E hr h => ?_), hm, F.kp, hb⟩
  · obtain ⟨_, _, rfl, _⟩ := h
    rfl
  obtain ⟨x, y, rfl, he, q⟩ := h
  have hr1 : Room 1 _ := hr.mono hlv
  have nd := scEqual.nd
  have isi : ∀ {X : Cx} {i : Nat} {nm : Str} {p1 p2 p3 pos : Pos} {ty : String} {xn : Str}, True := fun {_ _ _ _ _ _ _ _ _} => trivial
  refine ⟨_, pss_cons (ps_if (pt_cmp (pc_isN (pv 1))) pss_never pss_nil)
    (pss_cons (ps_if (pt_val (pe_callB call_isi rfl T.isi PyProof.Rows.boot_isinstance (pa_cons (pv 1) (pa_cons (pe_bltn (v := .ty "bool") rfl T.bool PyProof.Rows.boot_bool rfl) pa_nil)))) pss_never pss_nil)
    (pss_cons (ps_if (pt_val (pe_callB call_isi rfl T.isi PyProof.Rows.boot_isinstance (pa_cons (pv 1) (pa_cons (pe_bltn (v := .ty "int") rfl T.int PyProof.Rows.boot_int rfl) pa_nil))))
      (pss_one (ps_ret (pe_and (pe_cal G1 hr1 pass0 (pa_cons (pv 0) pa_nil)) (pe_one (pe_cmpR op_eq (pv 0) (pv 1) (nomark _)))))) pss_nil)
    (pss_cons (ps_if (pt_val (pe_callB call_isi rfl T.isi PyProof.Rows.boot_isinstance (pa_cons (pv 1) (pa_cons (pe_bltn (v := .ty "str") rfl T.str PyProof.Rows.boot_str rfl) pa_nil))))
      (pss_one (ps_ret (pe_and (pe_callB call_isi rfl T.isi PyProof.Rows.boot_isinstance (pa_cons (pv 0) (pa_cons (pe_bltn (v := .ty "str") rfl T.str PyProof.Rows.boot_str rfl) pa_nil))) (pe_one (pe_cmpR op_eq (pv 0) (pv 1) (nomark _)))))) pss_nil)
    (pss_cons (ps_cutS (ps_if (PW.pt (pw_and (pt_val (pe_callB call_isi rfl T.isi PyProof.Rows.boot_isinstance (pa_cons (pv 1) (pa_cons (pe_bltn (v := .ty "tuple") rfl T.tup PyProof.Rows.boot_tuple rfl) pa_nil))))
        (pw_and1 (pt_not (pt_val (pe_callB call_isi rfl T.isi PyProof.Rows.boot_isinstance (pa_cons (pv 0) (pa_cons (pe_bltn (v := .ty "tuple") rfl T.tup PyProof.Rows.boot_tuple rfl) pa_nil)))))))) pss_never pss_nil))
    (pss_cons (ps_cutS (ps_if (PW.pt (pw_and (pt_val (pe_callB call_isi rfl T.isi PyProof.Rows.boot_isinstance (pa_cons (pv 1) (pa_cons (pe_bltn (v := .ty "list") rfl T.list PyProof.Rows.boot_list rfl) pa_nil))))
        (pw_and1 (pt_not (pt_val (pe_callB call_isi rfl T.isi PyProof.Rows.boot_isinstance (pa_cons (pv 0) (pa_cons (pe_bltn (v := .ty "list") rfl T.list PyProof.Rows.boot_list rfl) pa_nil)))))))) pss_never pss_nil))
    (pss_cons (ps_if (pt_cmpR op_ne (pe_callB call_len_seq rfl T.len PySem.boot_len (pa_cons (pv 0) pa_nil)) (pe_callB call_len_seq rfl T.len PySem.boot_len (pa_cons (pv 1) pa_nil)) (nomark _)) pss_never pss_nil)
    (pss_one (ps_ret (pe_callB (cr_all rfl) rfl T.all PyProof.Rows.boot_all (pa_cons
      (pe_lc (own := [("_law_at", 2)]) (g := gName 2) (tt := tYes) (te := tCall (spEqO n) [] E0 (tCons (tOp (rIx K) (tVar 0) (tVar 2)) (tCons (tOp (rIx K) (tVar 1) (tVar 2)) tNil))) rfl nd
        (pi_range1 rfl T.range (pa_cons (pe_callB call_len_seq rfl T.len PySem.boot_len (pa_cons (pv 1) pa_nil)) pa_nil)) (blkOk_by (own := [("_law_at", 2)]) (N := ["_law_actual", "_law_due_here", "_law_at"]) (sc := defScope sEqual) (by decide +kernel)) (fun _ _ _ _ _ => pg_name (i := 2) nd rfl (Or.inl rfl)) (fun _ _ _ _ _ => pts_nil)
        (fun _ _ _ _ _ => pe_cal G hr pass0 (pa_cons (pe_ix ix_seq (pv 0) (pv 2) (fun _ _ => rfl)) (pa_cons (pe_ix ix_seq (pv 1) (pv 2) (fun _ _ => rfl)) pa_nil)))) pa_nil)))))))))), ?_⟩
  cases he with
  | int _ i =>
    refine ⟨_, rfl, _, rfl, iteF ?_⟩
    refine ⟨_, rfl, _, _, _, _, false, rfl, .ty "bool", .base (.int _), kit_ty (by decide +kernel), false, rfl, iteF ?_⟩
    refine ⟨_, rfl, _, _, _, _, true, rfl, .ty "int", .base (.int _), kit_ty (by decide +kernel), true, rfl, iteT ?_⟩
    refine ⟨_, rfl, i, rfl, true, rfl, iteT ?_⟩
    refine ⟨_, rfl, _, rfl, rfl, ?_⟩
    rw [decide_eq_true rfl]
    exact q _ (Same.refl _)
  | str _ s =>
    refine ⟨_, rfl, _, rfl, iteF ?_⟩
    refine ⟨_, rfl, _, _, _, _, false, rfl, .ty "bool", .base (.str _), kit_ty (by decide +kernel), false, rfl, iteF ?_⟩
    refine ⟨_, rfl, _, _, _, _, false, rfl, .ty "int", .base (.str _), kit_ty (by decide +kernel), false, rfl, iteF ?_⟩
    refine ⟨_, rfl, _, _, _, _, true, rfl, .ty "str", .base (.str _), kit_ty (by decide +kernel), true, rfl, iteT ?_⟩
    refine ⟨_, rfl, _, _, _, _, true, rfl, .ty "str", .base (.str _), kit_ty (by decide +kernel), true, rfl, iteT ?_⟩
    refine ⟨_, rfl, _, rfl, rfl, ?_⟩
    rw [decide_eq_true rfl]
    exact q _ (Same.refl _)
  | @seq m a b xs ys h hl hs hee =>
    -- both of one type
    obtain ⟨ty, hty, ta, tb, sa, sb⟩ : ∃ ty : String, (ty = "tuple" ∨ ty = "list") ∧ TyX K H (.ref a) (.type ty) ∧ TyX K H (.ref b) (.type ty) ∧ (SqL K H a xs ∨ SqT K H a xs) ∧ (SqL K H b ys ∨ SqT K H b ys) := by
      rcases h with (⟨h1, h2⟩ | ⟨h1, h2⟩)
      · exact ⟨"tuple", .inl rfl, .base (.tup h1), .base (.tup h2), .inr (SqT.of h1), .inr (SqT.of h2)⟩
      · exact ⟨"list", .inr rfl, .base (.lst h1), .base (.lst h2), .inl (SqL.of h1), .inl (SqL.of h2)⟩
    refine ⟨_, rfl, _, rfl, iteF ?_⟩
    refine ⟨_, rfl, _, _, _, _, false, rfl, .ty "bool", tb, kit_ty (by rcases hty with rfl | rfl <;> decide +kernel), false, rfl, iteF ?_⟩
    refine ⟨_, rfl, _, _, _, _, false, rfl, .ty "int", tb, kit_ty (by rcases hty with rfl | rfl <;> decide +kernel), false, rfl, iteF ?_⟩
    refine ⟨_, rfl, _, _, _, _, false, rfl, .ty "str", tb, kit_ty (by rcases hty with rfl | rfl <;> decide +kernel), false, rfl, iteF ?_⟩
    refine ⟨fun σ' H' => σ' = [some (.ref a), some (.ref b), none] ∧ H' = H, ?_, ?_⟩
    · rcases hty with rfl | rfl
      · refine ⟨_, rfl, _, _, _, _, true, rfl, .ty "tuple", tb, kit_ty (by decide +kernel), true, rfl, iteT ?_⟩
        refine ⟨_, rfl, _, _, _, _, true, rfl, .ty "tuple", ta, kit_ty (by decide +kernel), true, rfl, iteF ?_⟩
        exact ⟨rfl, rfl⟩
      · refine ⟨_, rfl, _, _, _, _, false, rfl, .ty "tuple", tb, kit_ty (by decide +kernel), false, rfl, iteF ?_⟩
        exact iteF ⟨rfl, rfl⟩
    rintro σ' H' ⟨rfl, rfl⟩
    refine ⟨fun σ' H'' => σ' = [some (.ref a), some (.ref b), none] ∧ H'' = H', ?_, ?_⟩
    · rcases hty with rfl | rfl
      · refine ⟨_, rfl, _, _, _, _, false, rfl, .ty "list", tb, kit_ty (by decide +kernel), false, rfl, iteF ?_⟩
        exact iteF ⟨rfl, rfl⟩
      · refine ⟨_, rfl, _, _, _, _, true, rfl, .ty "list", tb, kit_ty (by decide +kernel), true, rfl, iteT ?_⟩
        refine ⟨_, rfl, _, _, _, _, true, rfl, .ty "list", ta, kit_ty (by decide +kernel), true, rfl, iteF ?_⟩
        exact ⟨rfl, rfl⟩
    rintro σ' H'' ⟨rfl, rfl⟩
    refine ⟨_, rfl, a, xs, rfl, sa, _, rfl, b, ys, rfl, sb, rfl, false, ?_, iteF ?_⟩
    · rw [hl, decide_eq_true rfl]
      rfl
    refine ⟨_, rfl, b, ys, rfl, sb, _, rfl, by omega, by omega, fun Dl nD => ?_⟩
    have en : (((ys.length : Nat) : Int)).toNat = ys.length := by omega
    rw [en]
    refine lc_range (lo := 0) (n := ys.length) (fun i H5 => But Dl H'' H5 ∧ H5 Dl = some (.lst ((List.replicate i true).map V.bl)) ∧ i ≤ ys.length) ⟨But.refl.upd _, upd_same, Nat.zero_le _⟩ ?_ ?_
    · rintro i H5 hi ⟨s5, d5, _⟩
      have n0 : H'' Dl = none := nD
      have S5 : Same H'' H5 := s5.same nD
      have ei : (0 : Int) + ((i : Nat) : Int) = ((i : Nat) : Int) := by omega
      rw [ei]
      have gx : xs[i]? = some xs[i] := List.getElem?_eq_getElem (by omega)
      have gy : ys[i]? = some ys[i] := List.getElem?_eq_getElem hi
      have ix : ∀ {c : Addr} {zs : List V} {z : V} {Q' : VK}, (SqL K H'' c zs ∨ SqT K H'' c zs) → zs[i]? = some z → Q' z H5 → rIx K (.ref c) (.int ((i : Nat) : Int)) H5 Q' := fun {c zs z Q'} sc hz qz => by
        rcases sc with sc | sc
        · exact .inl ⟨c, zs, _, z, rfl, rfl, S5.seq sc, atI_nat hz, qz⟩
        · exact .inr (.inl ⟨c, zs, _, z, rfl, rfl, SqT.grow S5 sc, atI_nat hz, qz⟩)
      refine ⟨rfl, ?_⟩
      refine ⟨_, rfl, _, rfl, ix sa gx ?_⟩
      refine ⟨_, rfl, _, rfl, ix sb gy ?_⟩
      refine ⟨xs[i], ys[i], rfl, (hee i _ _ gx gy).grow S5, fun H6 s6 => ?_⟩
      refine ⟨_, s6 _ _ d5, szl (by rw [List.length_map, List.length_replicate]; omega), (s5.trans (But.of s6)).upd _, ?_, hi⟩
      rw [upd_same, List.replicate_succ', List.map_append]
      rfl
    · rintro H5 ⟨s5, d5, _⟩
      refine ⟨Dl, List.replicate ys.length true, rfl, SqL.of d5, ?_⟩
      rw [all_rep]
      exact q _ (s5.same nD)
theorem ok_equal (D : Dfn K mg "_law_equal" sEqual ["_law_actual", "_law_due_here"]) (T : Txt K mg) (G1 : Cal P w K mg base CX0 1 "_law_is_integer" ["_law_actual"] spIsInt) :
    ∀ n : Nat, Cal P w K mg base CX0 (n + 1) "_law_equal" ["_law_actual", "_law_due_here"] (spEqO n)
  | 0 => by
    obtain ⟨f, fd, hm, F, hb⟩ := D
    exact ⟨f, fd, ⟨fun vs H Q E h => h.elim, fun A outer s H args us vs Q E _ _ _ _ h => h.elim⟩, hm, F.kp, hb⟩
  | n + 1 => ok_equal1 (lv := n + 1) D T (by omega) G1 (ok_equal D T G1 n)
end
end N75
/-! The law's text; what is told. -/
namespace N75
open PySem L2
/-- blanks alone, at most two -/
def Gap (g : Str) : Prop := g.length ≤ 2 ∧ ∀ c ∈ g.cps.toList, c = 32
theorem marks_blank : ∀ (l : List Nat) (i : Nat), (∀ c ∈ l, c = 32) → marks l i = []
  | [], _, _ => rfl
  | c :: r, i, h => by
    have hc : c = 32 := h c (List.mem_cons_self ..)
    show (if c = 32 then marks r (i + 1) else _) = []
    rw [if_pos hc]
    exact marks_blank r (i + 1) fun x hx => h x (List.mem_cons_of_mem _ hx)
theorem app_cps (a b : Str) : (a ++ b).cps.toList = a.cps.toList ++ b.cps.toList := by
  show (a.cps ++ b.cps).toList = _
  exact Array.toList_append
theorem marks_gap {t g : Str} (h : Gap g) : marks (t ++ g).cps.toList 0 = marks t.cps.toList 0 := by
  rw [app_cps, marks_app, marks_blank _ _ h.2, List.append_nil]
theorem marks_word {t : Str} {c : Nat} (h : c ≠ 32) : marks (t ++ (⟨#[c]⟩ : Str)).cps.toList 0 = marks t.cps.toList 0 ++ [(c, (t.length : Int) + 1)] := by
  rw [app_cps, marks_app, Nat.zero_add]
  have hl : t.cps.toList.length = t.length := Array.length_toList
  rw [hl]
  show _ ++ marks [c] t.length = _
  show _ ++ (if c = 32 then marks [] (t.length + 1) else (c, ((t.length : Nat) : Int) + 1) :: marks [] (t.length + 1)) = _
  rw [if_neg h]
  rfl
theorem gap4 {d : Int} (h0 : 0 ≤ d) (h1 : d < 4) : ∃ g, atI ([.str "", .str "", .str " ", .str "  "] : List V) d = some (.str g) ∧ Gap g := by
  have e : d = 0 ∨ d = 1 ∨ d = 2 ∨ d = 3 := by omega
  rcases e with rfl | rfl | rfl | rfl
  · exact ⟨"", by decide +kernel, by unfold Gap; exact ⟨by decide +kernel, by decide +kernel⟩⟩
  · exact ⟨"", by decide +kernel, by unfold Gap; exact ⟨by decide +kernel, by decide +kernel⟩⟩
  · exact ⟨" ", by decide +kernel, by unfold Gap; exact ⟨by decide +kernel, by decide +kernel⟩⟩
  · exact ⟨"  ", by decide +kernel, by unfold Gap; exact ⟨by decide +kernel, by decide +kernel⟩⟩
theorem gap3 {d : Int} (h0 : 0 ≤ d) (h1 : d < 3) : ∃ g, atI ([.str "", .str " ", .str "  "] : List V) d = some (.str g) ∧ Gap g := by
  have e : d = 0 ∨ d = 1 ∨ d = 2 := by omega
  rcases e with rfl | rfl | rfl
  · exact ⟨"", by decide +kernel, by unfold Gap; exact ⟨by decide +kernel, by decide +kernel⟩⟩
  · exact ⟨" ", by decide +kernel, by unfold Gap; exact ⟨by decide +kernel, by decide +kernel⟩⟩
  · exact ⟨"  ", by decide +kernel, by unfold Gap; exact ⟨by decide +kernel, by decide +kernel⟩⟩
/-- the text t has the words ws at the columns cols -/
structure Laid (t : Str) (ws : List Nat) (cols : List Int) : Prop where
  mks : marks t.cps.toList 0 = ws.zip cols
  len : cols.length = ws.length
  few : t.length ≤ 3 * ws.length + 2
  nl : 10 ∉ t.cps.toList
theorem nl_app {t u : Str} (h : 10 ∉ t.cps.toList) (h2 : 10 ∉ u.cps.toList) : 10 ∉ (t ++ u).cps.toList := by
  rw [app_cps]
  intro z
  rcases List.mem_append.mp z with z | z
  · exact h z
  · exact h2 z
theorem Gap.nl {g : Str} (h : Gap g) : 10 ∉ g.cps.toList := fun z => absurd (h.2 10 z) (by decide)
section
variable {P : Program} {w : World} {K : PySem.W.Frag} {mg : Str → Option Value} {base : Heap} {cT cA cP : Addr}
def spLaid : Sp := fun vs H Q _ => ∃ (s a wl : Addr) (ws : List Nat), vs = [.ref s, .ref wl] ∧ SmAt H s a ∧ H wl = some (.lst (ws.map chV)) ∧ wl ≠ s ∧ ws.length ≤ 30 ∧ (∀ c ∈ ws, c ≠ 32 ∧ c ≠ 10) ∧
  ∀ p pl t cols H', But s H H' → SmAt H' s a → H' p = some (.tup [.str t, .ref pl]) → H' pl = some (.lst ((cols ++ [(t.length : Int) + 1]).map V.int)) → Laid t ws cols → Q (.ref p) H'
theorem scLaid : FnScope ["_law_stream_here", "_law_words", "_law_text", "_law_places", "_law_word"] ["_law_stream_here", "_law_words"] (defScope sLaid) := ⟨rfl, rfl, rfl, by decide +kernel, rfl, by decide +kernel, by decide +kernel⟩
theorem ch_len (c : Nat) : (⟨#[c]⟩ : Str).length = 1 := rfl
theorem ok_laid (D : Dfn K mg "_law_laid" sLaid ["_law_stream_here", "_law_words"]) (T : Txt K mg) (G : Cal P w K mg base CX0 1 "_law_next" ["_law_stream_here", "_law_many"] spDraw) :
    Cal P w K mg base CX0 2 "_law_laid" ["_law_stream_here", "_law_words"] spLaid := by
  obtain ⟨f, fd, hm, F, hb⟩ := D
  refine ⟨f, fd, F.ok scLaid (fun vs H Q E h => ?_) (fun cdv A outer s0 H vs Q E hr h => ?_), hm, F.kp, hb⟩
  · obtain ⟨_, _, _, _, rfl, _⟩ := h
    rfl
  obtain ⟨s, a, wl, ws, rfl, hS, hwl, hne, hlen, hws, q⟩ := h
  have nd := scLaid.nd
  refine ⟨_, pss_cons (ps_set (i := 2) nd rfl (Or.inl rfl) pe_str)
    (pss_cons (ps_set (i := 3) nd rfl (Or.inl rfl) (pe_lst pa_nil))
    (pss_cons (ps_for PassesOwn.never rfl (pi_list (pv 1)) (pg_name (i := 4) nd rfl (Or.inl rfl))
      (pss_cons (ps_set (i := 2) nd rfl (Or.inl rfl) (pe_op op_add_str (pv 2) (pe_ix ix_list (pe_lst (pa_cons pe_str (pa_cons pe_str (pa_cons pe_str (pa_cons pe_str pa_nil))))) (pe_cal G hr pass0 (pa_cons (pv 0) (pa_cons pe_int pa_nil))) (fun _ _ => rfl))))
      (pss_cons (ps_expr (pe_bm PySem.F.plainAttrs_list PySem.F.slot_list_append PySem.F.type_list_append mt_append (pv 3) (pa_cons (pe_op op_add (pe_callB call_len_str rfl T.len PySem.boot_len (pa_cons (pv 2) pa_nil)) pe_int) pa_nil)))
      (pss_one (ps_set (i := 2) nd rfl (Or.inl rfl) (pe_op op_add_str (pv 2) (pv 4)))))))
    (pss_cons (ps_set (i := 2) nd rfl (Or.inl rfl) (pe_op op_add_str (pv 2) (pe_ix ix_list (pe_lst (pa_cons pe_str (pa_cons pe_str (pa_cons pe_str pa_nil)))) (pe_cal G hr pass0 (pa_cons (pv 0) (pa_cons pe_int pa_nil))) (fun _ _ => rfl))))
    (pss_one (ps_ret (pe_tup (pa_cons (pv 2) (pa_cons (pe_op op_cat (pv 3) (pe_lst (pa_cons (pe_op op_add (pe_callB call_len_str rfl T.len PySem.boot_len (pa_cons (pv 2) pa_nil)) pe_int) pa_nil))) pa_nil)))))))), ?_⟩
  refine ⟨Nat.zero_le _, fun pl npl => ?_⟩
  obtain ⟨⟨os, hos⟩, oa, hoa⟩ := hS.some
  have nwp : wl ≠ pl := ne_of_none hwl npl
  have nsp : s ≠ pl := ne_of_none hos npl
  have nap : a ≠ pl := ne_of_none hoa npl
  refine ⟨_, rfl, wl, rfl, ⟨_, SqL.of (by rw [upd_ne nwp]; exact hwl)⟩, ?_⟩
  refine for_list (K := K) (a := wl) (xs := ws.map chV) (fun i σ H' => ∃ (t : Str) (v4 : Option V) (cols : List Int), σ = [some (.ref s), some (.ref wl), some (.str t), some (.ref pl), v4] ∧ But s H H' ∧ SmAt H' s a ∧ H' pl = some (.lst (cols.map V.int)) ∧
      marks t.cps.toList 0 = (ws.take i).zip cols ∧ cols.length = i ∧ t.length ≤ 3 * i ∧ 10 ∉ t.cps.toList ∧ i ≤ ws.length)
    ⟨"", none, [], rfl, But.of (same_new npl _), hS.grow (same_new npl _), upd_same, rfl, rfl, by decide +kernel, by decide +kernel, Nat.zero_le _⟩
    (fun i σ H' _ ⟨_, _, _, _, k, _⟩ => SqL.of (k _ _ hne hwl)) ?_ ?_
  · rintro i x σ H1 hx ⟨t, v4, cols, rfl, k1, hS1, hpl1, hmk, hcl, htl, hnl, hi⟩
    rw [List.getElem?_map] at hx
    cases hc : ws[i]? with
    | none => rw [hc] at hx; cases hx
    | some c =>
      rw [hc] at hx
      have hx2 : chV c = x := Option.some.inj hx
      subst hx2
      have hil := (List.getElem?_eq_some_iff.mp hc).1
      obtain ⟨hc32, hc10⟩ := hws c (List.mem_of_getElem? hc)
      obtain ⟨⟨o1, ho1⟩, _⟩ := hS1.some
      refine ⟨_, rfl, (by show 4 ≤ sizeLine; decide), fun p1 n1 => ?_⟩
      have n1s : p1 ≠ s := (ne_of_none ho1 n1).symm
      refine ⟨_, rfl, s, a, 4, rfl, by decide, by decide, hS1.grow (same_new n1 _), fun d H2 hd0 hd1 b2 hS2 => ?_⟩
      obtain ⟨g, hg, hgap⟩ := gap4 hd0 hd1
      have hp1 := b2 _ _ n1s upd_same
      refine ⟨p1, _, d, .str g, rfl, rfl, SqL.of hp1, hg, ?_⟩
      have hg2 := hgap.1
      refine ⟨_, _, rfl, rfl, szl (by omega), ?_⟩
      have hpl2 : H2 pl = some (.lst (cols.map V.int)) := b2 _ _ nsp.symm (same_new n1 _ _ _ hpl1)
      refine ⟨_, rfl, .inl ⟨rfl, _, SqL.of hpl2⟩, _, rfl, _, rfl, szl (by rw [app_len]; omega), _, _, rfl, rfl, ?_⟩
      refine ⟨pl, _, _, rfl, rfl, hpl2, small1000 (by rw [List.length_map]; omega), ?_⟩
      refine ⟨_, rfl, _, rfl, _, _, rfl, rfl, szl (by rw [app_len, ch_len]; omega), ?_⟩
      have k2 : But s H H2 := (k1.trans (But.of (same_new n1 _))).trans b2
      refine ⟨(t ++ g) ++ ⟨#[c]⟩, _, cols ++ [((t ++ g).length : Int) + 1], rfl, ?_, hS2.upd nsp nap, ?_, ?_, ?_, ?_, ?_, hil⟩
      · intro b o nb hb
        rw [upd_ne (ne_of_none hb npl)]
        exact k2 b o nb hb
      · rw [upd_same, List.map_append]
        rfl
      · rw [marks_word hc32, marks_gap hgap, hmk, take_snoc hc, List.zip_append (by rw [List.length_take, hcl]; omega)]
        rfl
      · rw [List.length_append, List.length_singleton, hcl]
      · rw [app_len, app_len, ch_len]
        omega
      · refine nl_app (nl_app hnl hgap.nl) ?_
        intro z
        have z2 : (10 : Nat) = c := by simpa using z
        exact hc10 z2.symm
  · rintro σ H1 ⟨t, v4, cols, rfl, k1, hS1, hpl1, hmk, hcl, htl, hnl, hi⟩
    rw [List.length_map] at hmk hcl htl
    rw [List.take_length] at hmk
    obtain ⟨⟨o1, ho1⟩, _⟩ := hS1.some
    refine ⟨_, rfl, (by show 3 ≤ sizeLine; decide), fun p1 n1 => ?_⟩
    have n1s : p1 ≠ s := (ne_of_none ho1 n1).symm
    refine ⟨_, rfl, s, a, 3, rfl, by decide, by decide, hS1.grow (same_new n1 _), fun d H2 hd0 hd1 b2 hS2 => ?_⟩
    obtain ⟨g, hg, hgap⟩ := gap3 hd0 hd1
    have hp1 := b2 _ _ n1s upd_same
    refine ⟨p1, _, d, .str g, rfl, rfl, SqL.of hp1, hg, ?_⟩
    have hg2 := hgap.1
    refine ⟨_, _, rfl, rfl, szl (by omega), ?_⟩
    have hpl2 : H2 pl = some (.lst (cols.map V.int)) := b2 _ _ nsp.symm (same_new n1 _ _ _ hpl1)
    refine ⟨_, rfl, _, rfl, _, rfl, _, rfl, szl (by rw [app_len]; omega), _, _, rfl, rfl, (by show 1 ≤ sizeLine; decide), fun p2 n2 => ?_⟩
    refine ⟨pl, p2, _, _, rfl, rfl, same_new n2 _ _ _ hpl2, upd_same, szl (by rw [List.length_map, List.length_singleton]; omega), fun p3 n3 => ?_⟩
    refine ⟨(by show 2 ≤ sizeLine; decide), fun p4 n4 => ?_⟩
    have s24 := ((same_new n2 (.lst [.int (((t ++ g).length : Nat) + 1)])).trans (same_new n3 (.lst (cols.map V.int ++ [.int (((t ++ g).length : Nat) + 1)])))).trans (same_new n4 (.tup [.str (t ++ g), .ref p3]))
    refine q p4 p3 (t ++ g) cols _ (((k1.trans (But.of (same_new n1 _))).trans b2).trans (But.of s24)) (hS2.grow s24) upd_same ?_ ⟨by rw [marks_gap hgap]; exact hmk, hcl, by rw [app_len]; omega, nl_app hnl hgap.nl⟩
    rw [upd_ne (ne_of_none upd_same n4), upd_same, List.map_append]
    rfl
end
end N75
/-! What is told. -/
namespace N75
open PySem L2
def ErrQ (H : Hp) (Q : VK) (c : Int) (wd : Str) : Prop := ∀ p H', Same H H' → H' p = some (.tup [.int c, .str wd]) → Q (.ref p) H'
def LstQ (H : Hp) (Q : VK) (os : List Kd) : Prop := ∀ p H', Same H H' → H' p = some (.lst (os.map shV)) → Q (.ref p) H'
/-- what a text may be, and what is told of it -/
structure ToldPre (t kd : Str) (wh : Int) (H : Hp) (Q : VK) : Prop where
  len : t.length ≤ 400
  nl : 10 ∉ t.cps.toList
  deep : DeepOk (marks t.cps.toList 0)
  bad : ∀ pre m post, marks t.cps.toList 0 = pre ++ m :: post → AllTk pre → kc m.1 = none → ErrQ H Q m.2 noTok
  good : AllTk (marks t.cps.toList 0) → ∃ c : Ctx, c.Ok ∧ c.toks = tokensOf (marks t.cps.toList 0) ((t.length : Int) + 1) ∧ c.b = decide (wh = 0) ∧ c.st0 = stOf kd ∧ c.D < 10 ∧
    (wh = 0 → ∀ u, c.toks[c.n0]? = some u → (u.k = .fin → LstQ H Q (ordd (c.os c.n0))) ∧ (u.k ≠ .fin → ErrQ H Q u.col (words (c.os c.n0)))) ∧
    (wh ≠ 0 → (∀ u, c.toks[c.n0]? = some u → ErrQ H Q u.col (words (c.os c.n0))) ∧ (c.n0 = c.toks.length → LstQ H Q [] ∧ ∀ co wd, NoExp wd → ErrQ H Q co wd))
section
variable {P : Program} {w : World} {K : PySem.W.Frag} {mg : Str → Option Value} {base : Heap} {cT cA cP : Addr}
def spTold : Sp := fun vs H Q _ => ∃ (t kd : Str) (wh : Int), vs = [.str t, .str kd, .int wh] ∧ (kd = sExpr ∨ kd = sWrd) ∧ ToldPre t kd wh H Q
theorem scTold : FnScope ["_law_text", "_law_kind", "_law_which", "_law_problem"] ["_law_text", "_law_kind", "_law_which"] (defScope sTold) := ⟨rfl, rfl, rfl, by decide +kernel, rfl, by decide +kernel, by decide +kernel⟩
theorem te_col (c : Int) (wd : Str) : List.lookup ("column" : Str) [(("words" : Str), V.str wd), (("column" : Str), V.int c)] = some (.int c) := by
  have e : (("column" : Str) == ("words" : Str)) = false := by decide +kernel
  have e2 : (("column" : Str) == ("column" : Str)) = true := by decide +kernel
  simp only [List.lookup, e, e2]
theorem te_wor (c : Int) (wd : Str) : List.lookup ("words" : Str) [(("words" : Str), V.str wd), (("column" : Str), V.int c)] = some (.str wd) := by
  have e2 : (("words" : Str) == ("words" : Str)) = true := by decide +kernel
  simp only [List.lookup, e2]
theorem ok_told (D : Dfn K mg "_law_told" sTold ["_law_text", "_law_kind", "_law_which"]) (C : Cl K mg cT cA cP)
    (GN : Cal P w K mg base (L2.CX P w) 25 "next_tokens" ["text", "kind"] (spNext cT)) (GE : Cal P w K mg base (L2.CX P w) 26 "read_expression" ["text"] (spReadE cT))
    (GL : Cal P w K mg base (L2.CX P w) 26 "read_long" ["text"] (spReadE cT)) (GW : Cal P w K mg base (L2.CX P w) 26 "read_word" ["text"] (spReadW cT)) :
    Cal P w K mg base CX0 27 "_law_told" ["_law_text", "_law_kind", "_law_which"] spTold := by
  obtain ⟨f, fd, hm, F, hb⟩ := D
  refine ⟨f, fd, F.ok scTold (fun vs H Q E h => ?_) (fun cdv A outer s0 H vs Q E hr h => ?_), hm, F.kp, hb⟩
  · obtain ⟨_, _, _, rfl, _⟩ := h
    rfl
  obtain ⟨t, kd, wh, rfl, hkd, hp⟩ := h
  have hr25 : Room 25 _ := hr.mono (by decide)
  have nd := scTold.nd
  refine ⟨_, pss_cons (ps_try_as (i := 3) rfl rfl nd rfl rfl ⟨rfl, by decide, .inl C.gT⟩ takes0
      (fun W pn xe tk _ => pss_cons (ps_if (pt_cmpR op_eq (pv 2) pe_int (nomark _)) (pss_one (ps_ret (pe_calS GN hr25 (fun σ => passAt tk σ) (pa_cons (pv 0) (pa_cons (pv 1) pa_nil))))) pss_nil)
        (pss_one (ps_if (pt_cmpR op_eq (pv 1) pe_str (nomark _)) (pss_one (ps_expr (pe_calS GW hr (fun σ => passAt tk σ) (pa_cons (pv 0) pa_nil))))
          (pss_one (ps_if (pt_cmpR op_eq (pv 2) pe_int (nomark _)) (pss_one (ps_expr (pe_calS GE hr (fun σ => passAt tk σ) (pa_cons (pv 0) pa_nil))))
            (pss_one (ps_expr (pe_calS GL hr (fun σ => passAt tk σ) (pa_cons (pv 0) pa_nil)))))))))
      (fun a oe cls d pn hz hf => pss_one (ps_ret (pe_tup (pa_cons (pe_xf C.xT C.nCol hz hf (pv 3)) (pa_cons (pe_xf C.xT C.nWor hz hf (pv 3)) pa_nil))))))
    (pss_one (ps_ret (pe_lst pa_nil))), ?_⟩
  -- what the text is, whatever is wished
  have sp : ∀ E' : XK, (∀ c wd d H', ErrQ H Q c wd → Same H H' → H' d = some (teD c wd) → E' (.ref cT) (some d) H') → ScanPre cT t H E' := fun E' hW =>
    ⟨hp.len, hp.nl, hp.deep, fun pre m post e ha hk d H' s hd => hW _ _ d H' (hp.bad pre m post e ha hk) s hd⟩
  have nx : ∀ E' : XK, wh = 0 → (∀ c wd d H', ErrQ H Q c wd → Same H H' → H' d = some (teD c wd) → E' (.ref cT) (some d) H') → AllTk (marks t.cps.toList 0) → ∃ c : Ctx, c.Ok ∧ c.toks = tokensOf (marks t.cps.toList 0) ((t.length : Int) + 1) ∧ c.b = true ∧ c.st0 = stOf kd ∧ c.D < 10 ∧
      ∀ u, c.toks[c.n0]? = some u → (u.k = .fin → ∀ p H', Same H H' → H' p = some (.lst ((ordd (c.os c.n0)).map shV)) → Q (.ref p) H') ∧
        (u.k ≠ .fin → ∀ d H', Same H H' → H' d = some (teD u.col (words (c.os c.n0))) → E' (.ref cT) (some d) H') := by
    intro E' h0 hW hall
    obtain ⟨c, o, htoks, hcb, hst0, hcD, g1, _⟩ := hp.good hall
    refine ⟨c, o, htoks, by rw [hcb]; exact decide_eq_true h0, hst0, hcD, fun u hu => ?_⟩
    obtain ⟨g2, g3⟩ := g1 h0 u hu
    exact ⟨fun hf => g2 hf, fun hf d H' s' hd => hW _ _ d H' (g3 hf) s' hd⟩
  have rd : ∀ (st0 : Stt × Int) (Q' : VK) (E' : XK), wh ≠ 0 → stOf kd = st0 → (∀ c wd d H', ErrQ H Q c wd → Same H H' → H' d = some (teD c wd) → E' (.ref cT) (some d) H') → (LstQ H Q [] → ∀ v H', Same H H' → Q' v H') → Rd3 cT st0 t H Q' E' := by
    intro st0 Q' E' h0 hst hW hQ
    refine ⟨sp E' hW, fun hall => ?_⟩
    obtain ⟨c, o, htoks, hcb, hst0, hcD, _, g2⟩ := hp.good hall
    obtain ⟨g3, g4⟩ := g2 h0
    refine ⟨c, o, htoks, by rw [hcb]; exact decide_eq_false h0, by rw [hst0, hst], hcD, fun u hu d H' s' hd => hW _ _ d H' (g3 u hu) s' hd, fun hn => ?_⟩
    obtain ⟨g5, g6⟩ := g4 hn
    exact ⟨hQ g5, fun d H' co wd s' hne hd => hW _ _ d H' (g6 co wd hne) s' hd⟩
  refine ⟨_, rfl, rfl, _, rfl, ite2 (fun h => ?_) (fun h => ?_)⟩
  · have h0 : wh = 0 := by
      have z := of_decide_eq_true h
      injection z
    exact ⟨_, rfl, _, rfl, t, kd, rfl, hkd, sp _ (fun co wd d H' he s' hd => ⟨true, C.eTT, fun _ a na => ⟨_, rfl, rfl, rfl, d, _, _, rfl, hd, te_col _ _, _, rfl, rfl, rfl, d, _, _, rfl, hd, te_wor _ _, (by show 2 ≤ sizeLine; decide), fun p np => he p _ (s'.trans (same_new np _)) upd_same⟩, fun z => by cases z⟩), nx _ h0 (fun co wd d H' he s' hd => ⟨true, C.eTT, fun _ a na => ⟨_, rfl, rfl, rfl, d, _, _, rfl, hd, te_col _ _, _, rfl, rfl, rfl, d, _, _, rfl, hd, te_wor _ _, (by show 2 ≤ sizeLine; decide), fun p np => he p _ (s'.trans (same_new np _)) upd_same⟩, fun z => by cases z⟩)⟩
  have h0 : wh ≠ 0 := fun z => by
    have z2 := of_decide_eq_false (Bool.eq_false_iff.mpr h)
    exact z2 (by rw [z])
  refine ⟨_, rfl, rfl, _, rfl, ite2 (fun h => ?_) (fun h => ?_)⟩
  · have hk : kd = sWrd := by
      have z := of_decide_eq_true h
      injection z
    have hst : stOf kd = (.word, 0) := by
      rw [hk]
      exact if_neg (by decide +kernel)
    refine ⟨_, rfl, t, rfl, rd _ _ _ h0 hst (fun co wd d H' he s' hd => ⟨true, C.eTT, fun _ a na => ⟨_, rfl, rfl, rfl, d, _, _, rfl, hd, te_col _ _, _, rfl, rfl, rfl, d, _, _, rfl, hd, te_wor _ _, (by show 2 ≤ sizeLine; decide), fun p np => he p _ (s'.trans (same_new np _)) upd_same⟩, fun z => by cases z⟩) fun hl v H' s' => ?_⟩
    exact ⟨Nat.zero_le _, fun p np => hl p _ (s'.trans (same_new np _)) upd_same⟩
  have hk : kd = sExpr := by
    rcases hkd with z | z
    · exact z
    · exfalso
      exact of_decide_eq_false (Bool.eq_false_iff.mpr h) (congrArg V.str z)
  have hst : stOf kd = (.begin, 0) := by
    rw [hk]
    exact if_pos rfl
  refine ⟨_, rfl, rfl, _, rfl, ite2 (fun h => ?_) (fun h => ?_)⟩
  · refine ⟨_, rfl, t, rfl, rd _ _ _ h0 hst (fun co wd d H' he s' hd => ⟨true, C.eTT, fun _ a na => ⟨_, rfl, rfl, rfl, d, _, _, rfl, hd, te_col _ _, _, rfl, rfl, rfl, d, _, _, rfl, hd, te_wor _ _, (by show 2 ≤ sizeLine; decide), fun p np => he p _ (s'.trans (same_new np _)) upd_same⟩, fun z => by cases z⟩) fun hl v H' s' => ?_⟩
    exact ⟨Nat.zero_le _, fun p np => hl p _ (s'.trans (same_new np _)) upd_same⟩
  · refine ⟨_, rfl, t, rfl, rd _ _ _ h0 hst (fun co wd d H' he s' hd => ⟨true, C.eTT, fun _ a na => ⟨_, rfl, rfl, rfl, d, _, _, rfl, hd, te_col _ _, _, rfl, rfl, rfl, d, _, _, rfl, hd, te_wor _ _, (by show 2 ≤ sizeLine; decide), fun p np => he p _ (s'.trans (same_new np _)) upd_same⟩, fun z => by cases z⟩) fun hl v H' s' => ?_⟩
    exact ⟨Nat.zero_le _, fun p np => hl p _ (s'.trans (same_new np _)) upd_same⟩
end
end N75
/-! The walk through the grammar, and where its tokens stop. -/
namespace N75
open PySem L2
def kindC (c : Nat) : Kd := match kc c with
  | some (k, _) => k
  | none => .fin
theorem tkOf_k (m : Nat × Int) : (tkOf m).k = kindC m.1 := by
  unfold tkOf kindC
  cases kc m.1 <;> rfl
theorem tkOf_col (m : Nat × Int) : (tkOf m).col = m.2 := by
  unfold tkOf
  cases kc m.1 <;> rfl
theorem kc_facts {c : Nat} {k : Kd} {f : _root_.Fin 4} (h : kc c = some (k, f)) : k ≠ .fin ∧ c ≠ 32 ∧ c ≠ 10 ∧ (k = .lp ↔ c = 40) ∧ (k = .rp ↔ c = 41) := by
  revert h
  refine kc_cases (c := c) (P := fun c => kc c = some (k, f) → k ≠ .fin ∧ c ≠ 32 ∧ c ≠ 10 ∧ (k = .lp ↔ c = 40) ∧ (k = .rp ↔ c = 41)) ?_ ?_ ?_ ?_ ?_ ?_ ?_ ?_ ?_ ?_ (fun h _ _ h2 => by rw [h] at h2; cases h2)
  all_goals
    intro h
    have h2 := Option.some.inj h
    injection h2 with h3 h4
    subst h3
    decide
theorem kindC_of {c : Nat} {k : Kd} {f : _root_.Fin 4} (h : kc c = some (k, f)) : kindC c = k := by
  unfold kindC
  rw [h]
theorem kindC_nofin {c : Nat} (h : kc c ≠ none) : kindC c ≠ .fin := by
  cases e : kc c with
  | none => exact absurd e h
  | some v =>
    obtain ⟨k, f⟩ := v
    rw [kindC_of e]
    exact (kc_facts e).1
/-- the words ws of a walk that stands in the state s with d open signs -/
inductive Wk (kd : Str) (L : Int) : List Nat → Stt → Int → Prop
  | nil : Wk kd L [] (stOf kd).1 0
  | snoc {ws : List Nat} {s s' : Stt} {d d' : Int} {c : Nat} {k : Kd} {f : _root_.Fin 4} (h : Wk kd L ws s d) (hk : kc c = some (k, f)) (ho : (opts s d).contains k = true) (hl : k = .lp → d < L) (hs : stp (s, d) k = (s', d')) : Wk kd L (ws ++ [c]) s' d'
theorem stOf_0 (kd : Str) : stOf kd = ((stOf kd).1, 0) := by
  unfold stOf
  split <;> rfl
theorem opts_no {s : Stt} {d : Int} (h : s ≠ .item) : opts s d = opts s 0 := by
  cases s <;> first | rfl | exact absurd rfl h
theorem stp_d {s s' : Stt} {d d' : Int} {k : Kd} (ho : (opts s d).contains k = true) (hs : stp (s, d) k = (s', d')) : (k = .lp ∧ d' = d + 1) ∨ (k = .rp ∧ d > 0 ∧ d' = d - 1) ∨ (k ≠ .lp ∧ k ≠ .rp ∧ d' = d) := by
  have item : s = .item → (k = .rp → d > 0) := by
    intro h1 h2
    subst h1 h2
    rw [opts_item] at ho
    by_cases h : d > 0
    · exact h
    · rw [if_neg h] at ho
      exact absurd ho (by decide)
  cases s <;> cases k <;> first
    | (injection hs with h1 h2; exact .inr (.inr ⟨by decide, by decide, h2.symm⟩))
    | (injection hs with h1 h2; exact .inl ⟨rfl, h2.symm⟩)
    | (injection hs with h1 h2; exact .inr (.inl ⟨rfl, item rfl rfl, h2.symm⟩))
    | (rw [opts_no (by decide)] at ho; exact absurd ho (by decide))
theorem Wk.bnd {kd : Str} {L : Int} (h0 : 0 ≤ L) : ∀ {ws : List Nat} {s : Stt} {d : Int}, Wk kd L ws s d → 0 ≤ d ∧ d ≤ L ∧ (dep ws : Int) = d
  | _, _, _, .nil => ⟨Int.le_refl _, h0, rfl⟩
  | _, _, _, .snoc (ws := ws) (c := c) h hk ho hl hs => by
    obtain ⟨h1, h2, h3⟩ := Wk.bnd h0 h
    obtain ⟨_, _, _, e1, e2⟩ := kc_facts hk
    rw [dep_snoc]
    rcases stp_d ho hs with ⟨z, z2⟩ | ⟨z, z3, z2⟩ | ⟨z, z3, z2⟩
    · rw [if_pos (e1.mp z)]
      have := hl z
      omega
    · have n40 : ¬ c = 40 := by rw [e2.mp z]; decide
      rw [if_neg n40, if_pos (e2.mp z)]
      omega
    · rw [if_neg (fun y => z (e1.mpr y)), if_neg (fun y => z3 (e2.mpr y))]
      omega
theorem Wk.st {kd : Str} {L : Int} : ∀ {ws : List Nat} {s : Stt} {d : Int}, Wk kd L ws s d → (ws.map kindC).foldl stp (stOf kd) = (s, d)
  | _, _, _, .nil => stOf_0 kd
  | _, _, _, .snoc h hk ho hl hs => by
    rw [List.map_append, List.foldl_append, Wk.st h]
    show stp _ (kindC _) = _
    rw [kindC_of hk, hs]
theorem Wk.take {kd : Str} {L : Int} : ∀ {ws : List Nat} {s : Stt} {d : Int}, Wk kd L ws s d → ∀ i, i ≤ ws.length → ∃ s' d', Wk kd L (ws.take i) s' d'
  | _, _, _, .nil, i, _ => ⟨_, _, by rw [List.take_nil]; exact .nil⟩
  | _, _, _, .snoc (ws := ws) (c := c) (s' := s2) (d' := d2) h hk ho hl hs, i, hi => by
    rw [List.length_append, List.length_singleton] at hi
    by_cases e : i ≤ ws.length
    · obtain ⟨s', d', g⟩ := Wk.take h i e
      exact ⟨s', d', by rw [List.take_append_of_le_length e]; exact g⟩
    · have e2 : i = ws.length + 1 := by omega
      subst e2
      refine ⟨s2, d2, ?_⟩
      rw [List.take_of_length_le (by rw [List.length_append, List.length_singleton]; exact Nat.le_refl _)]
      exact .snoc h hk ho hl hs
theorem Wk.good {kd : Str} {L : Int} : ∀ {ws : List Nat} {s : Stt} {d : Int}, Wk kd L ws s d → ∀ (i : Nat) (c : Nat), ws[i]? = some c → ∃ s' d' k f, Wk kd L (ws.take i) s' d' ∧ kc c = some (k, f) ∧ (opts s' d').contains k = true
  | _, _, _, .nil, i, c, h => by simp at h
  | _, _, _, .snoc (ws := ws) (c := c) h hk ho hl hs, i, c2, hc => by
    by_cases e : i < ws.length
    · rw [List.getElem?_append_left e] at hc
      obtain ⟨s', d', k', f', g1, g2, g3⟩ := Wk.good h i c2 hc
      exact ⟨s', d', k', f', by rw [List.take_append_of_le_length (Nat.le_of_lt e)]; exact g1, g2, g3⟩
    · rw [List.getElem?_append_right (by omega)] at hc
      have hi : i - ws.length = 0 := by
        cases z : i - ws.length with
        | zero => rfl
        | succ n => rw [z] at hc; simp at hc
      rw [hi] at hc
      have hc2 : c = c2 := Option.some.inj hc
      subst hc2
      have e2 : i = ws.length := by omega
      subst e2
      exact ⟨_, _, _, _, by rw [List.take_left]; exact h, hk, ho⟩
theorem Wk.more {kd : Str} {L L' : Int} (hL : L ≤ L') : ∀ {ws : List Nat} {s : Stt} {d : Int}, Wk kd L ws s d → Wk kd L' ws s d
  | _, _, _, .nil => .nil
  | _, _, _, .snoc h hk ho hl hs => .snoc (Wk.more hL h) hk ho (fun z => Int.lt_of_lt_of_le (hl z) hL) hs
theorem Wk.codes {kd : Str} {L : Int} {ws : List Nat} {s : Stt} {d : Int} (h : Wk kd L ws s d) : ∀ c ∈ ws, kc c ≠ none ∧ c ≠ 32 ∧ c ≠ 10 := by
  intro c hc
  obtain ⟨i, hi, e⟩ := List.mem_iff_getElem.mp hc
  obtain ⟨_, _, k, f, _, h2, _⟩ := h.good i c (by rw [List.getElem?_eq_getElem hi, e])
  obtain ⟨_, h3, h4, _⟩ := kc_facts h2
  exact ⟨by rw [h2]; exact (fun z => by cases z), h3, h4⟩

/-! ### the tokens of such words -/
theorem zip_fst {vs : List Nat} {cols : List Int} (h : cols.length = vs.length) : (vs.zip cols).map (·.1) = vs := by
  rw [List.map_fst_zip]
  omega
theorem zip_len {vs : List Nat} {cols : List Int} (h : cols.length = vs.length) : (vs.zip cols).length = vs.length := by
  rw [List.length_zip]
  omega
theorem toks_len {vs : List Nat} {cols : List Int} {e : Int} (h : cols.length = vs.length) : (tokensOf (vs.zip cols) e).length = vs.length + 1 := by
  unfold tokensOf
  rw [List.length_append, List.length_map, zip_len h, List.length_singleton]
theorem toks_kinds {vs : List Nat} {cols : List Int} {e : Int} (h : cols.length = vs.length) {i : Nat} (hi : i ≤ vs.length) : ((tokensOf (vs.zip cols) e).take i).map Tk.k = (vs.take i).map kindC := by
  unfold tokensOf
  rw [List.take_append_of_le_length (by rw [List.length_map, zip_len h]; exact hi), ← List.map_take, List.map_map]
  have e1 : (Tk.k ∘ tkOf) = (kindC ∘ (·.1)) := by
    funext m
    exact tkOf_k m
  rw [e1, ← List.map_map, List.map_take, zip_fst h]
theorem toks_at {vs : List Nat} {cols : List Int} {e : Int} (h : cols.length = vs.length) {i : Nat} {c : Nat} {co : Int} (hc : vs[i]? = some c) (ho : cols[i]? = some co) : (tokensOf (vs.zip cols) e)[i]? = some (tkOf (c, co)) := by
  unfold tokensOf
  have hi := (List.getElem?_eq_some_iff.mp hc).1
  rw [List.getElem?_append_left (by rw [List.length_map, zip_len h]; exact hi), List.getElem?_map]
  have : (vs.zip cols)[i]? = some (c, co) := by
    rw [List.getElem?_zip_eq_some]
    exact ⟨hc, ho⟩
  rw [this]
  rfl
theorem toks_end {vs : List Nat} {cols : List Int} {e : Int} (h : cols.length = vs.length) : (tokensOf (vs.zip cols) e)[vs.length]? = some ⟨.fin, 0, e⟩ := by
  unfold tokensOf
  rw [List.getElem?_append_right (by rw [List.length_map, zip_len h]; exact Nat.le_refl _), List.length_map, zip_len h, Nat.sub_self]
  rfl
theorem toks_fin {vs : List Nat} {cols : List Int} {e : Int} (h : cols.length = vs.length) (hall : ∀ c ∈ vs, kc c ≠ none) : ∀ i t, (tokensOf (vs.zip cols) e)[i]? = some t → (t.k = .fin ↔ i + 1 = (tokensOf (vs.zip cols) e).length) := by
  intro i t ht
  rw [toks_len h]
  by_cases hi : i < vs.length
  · have hc : vs[i]? = some vs[i] := List.getElem?_eq_getElem hi
    have ho : cols[i]? = some cols[i] := List.getElem?_eq_getElem (by omega)
    rw [toks_at h hc ho] at ht
    have e1 := Option.some.inj ht
    rw [← e1, tkOf_k]
    have := kindC_nofin (hall vs[i] (List.getElem_mem hi))
    constructor
    · intro z; exact absurd z this
    · intro z; omega
  · have hi2 := (List.getElem?_eq_some_iff.mp ht).1
    rw [toks_len h] at hi2
    have e1 : i = vs.length := by omega
    subst e1
    rw [toks_end h] at ht
    have e2 := Option.some.inj ht
    rw [← e2]
    simp
/-- where the words of a walk are followed by what cannot come (or by the end that is asked for) -/
theorem ctx_stop {kd : Str} {ws vs : List Nat} {s : Stt} {d : Int} {cols : List Int} {e : Int} {b : Bool} (hW : Wk kd 6 ws s d) (hp : vs.take ws.length = ws) (hle : ws.length ≤ vs.length) (hall : ∀ c ∈ vs, kc c ≠ none) (h : cols.length = vs.length) (few : vs.length ≤ 30)
    (hstop : ∀ u, (tokensOf (vs.zip cols) e)[ws.length]? = some u → (u.k = .fin ∧ b = true) ∨ (opts s d).contains u.k = false) :
    ({ toks := tokensOf (vs.zip cols) e, st0 := stOf kd, b := b, n0 := ws.length, D := 8 } : Ctx).Ok ∧ ({ toks := tokensOf (vs.zip cols) e, st0 := stOf kd, b := b, n0 := ws.length, D := 8 } : Ctx).st ws.length = (s, d) := by
  have st : ∀ i, i ≤ ws.length → ({ toks := tokensOf (vs.zip cols) e, st0 := stOf kd, b := b, n0 := ws.length, D := 8 } : Ctx).st i = ((ws.take i).map kindC).foldl stp (stOf kd) := by
    intro i hi
    unfold Ctx.st
    show (((tokensOf (vs.zip cols) e).take i).map Tk.k).foldl stp (stOf kd) = _
    rw [toks_kinds h (by omega)]
    have : vs.take i = ws.take i := by
      rw [← hp, List.take_take, Nat.min_eq_left hi]
    rw [this]
  have stl : ({ toks := tokensOf (vs.zip cols) e, st0 := stOf kd, b := b, n0 := ws.length, D := 8 } : Ctx).st ws.length = (s, d) := by
    rw [st _ (Nat.le_refl _), List.take_length]
    exact hW.st
  refine ⟨⟨?_, ?_, ?_, toks_fin h hall, ?_, ?_⟩, stl⟩
  · show ws.length ≤ (tokensOf (vs.zip cols) e).length
    rw [toks_len h]
    omega
  · intro i t hi ht
    have hi' : i < ws.length := hi
    have hc : ws[i]? = some ws[i] := List.getElem?_eq_getElem hi'
    have hcv : vs[i]? = some ws[i] := by
      rw [← hc, ← List.getElem?_take_of_lt hi', hp]
    have ho : cols[i]? = some cols[i] := List.getElem?_eq_getElem (by omega)
    have ht2 : (tokensOf (vs.zip cols) e)[i]? = some t := ht
    rw [toks_at h hcv ho] at ht2
    have e1 := Option.some.inj ht2
    obtain ⟨s', d', k, f, g1, g2, g3⟩ := hW.good i _ hc
    have ek : t.k = k := by rw [← e1, tkOf_k]; exact kindC_of g2
    refine ⟨?_, fun z => (kc_facts g2).1 (ek ▸ z.1)⟩
    unfold Ctx.os
    rw [st i (by omega), g1.st, ek]
    exact g3
  · intro t ht
    have z := hstop t ht
    unfold Ctx.os
    rw [stl]
    exact z
  · intro i hi
    have hi' : i ≤ ws.length := hi
    rw [st i hi']
    obtain ⟨s', d', g⟩ := hW.take i hi'
    rw [g.st]
    have := (g.bnd (by decide)).2.1
    show d' ≤ 8
    omega
  · show (tokensOf (vs.zip cols) e).length ≤ 40
    rw [toks_len h]
    omega
/-- where the words of a walk are followed by the end, which can come -/
theorem ctx_end {kd : Str} {ws : List Nat} {s : Stt} {d : Int} {cols : List Int} {e : Int} (hW : Wk kd 6 ws s d) (h : cols.length = ws.length) (few : ws.length ≤ 30) (hf : (opts s d).contains .fin = true) :
    ({ toks := tokensOf (ws.zip cols) e, st0 := stOf kd, b := false, n0 := ws.length + 1, D := 8 } : Ctx).Ok := by
  have st : ∀ i, i ≤ ws.length → ({ toks := tokensOf (ws.zip cols) e, st0 := stOf kd, b := false, n0 := ws.length + 1, D := 8 } : Ctx).st i = ((ws.take i).map kindC).foldl stp (stOf kd) := by
    intro i hi
    unfold Ctx.st
    show (((tokensOf (ws.zip cols) e).take i).map Tk.k).foldl stp (stOf kd) = _
    rw [toks_kinds h hi]
  have stl : ({ toks := tokensOf (ws.zip cols) e, st0 := stOf kd, b := false, n0 := ws.length + 1, D := 8 } : Ctx).st ws.length = (s, d) := by
    rw [st _ (Nat.le_refl _), List.take_length]
    exact hW.st
  have hall : ∀ c ∈ ws, kc c ≠ none := fun c hc => (hW.codes c hc).1
  have hb := hW.bnd (by decide)
  refine ⟨?_, ?_, ?_, toks_fin h hall, ?_, ?_⟩
  · show ws.length + 1 ≤ (tokensOf (ws.zip cols) e).length
    rw [toks_len h]
    exact Nat.le_refl _
  · intro i t hi ht
    refine ⟨?_, fun z => by cases z.2⟩
    have hi' : i < ws.length + 1 := hi
    have ht2 : (tokensOf (ws.zip cols) e)[i]? = some t := ht
    by_cases hil : i < ws.length
    · have hc : ws[i]? = some ws[i] := List.getElem?_eq_getElem hil
      have ho : cols[i]? = some cols[i] := List.getElem?_eq_getElem (by omega)
      rw [toks_at h hc ho] at ht2
      have e1 := Option.some.inj ht2
      obtain ⟨s', d', k, f, g1, g2, g3⟩ := hW.good i _ hc
      have ek : t.k = k := by rw [← e1, tkOf_k]; exact kindC_of g2
      unfold Ctx.os
      rw [st i (by omega), g1.st, ek]
      exact g3
    · have e1 : i = ws.length := by omega
      subst e1
      rw [toks_end h] at ht2
      have e2 := Option.some.inj ht2
      unfold Ctx.os
      rw [stl, ← e2]
      exact hf
  · intro t ht
    exfalso
    have ht2 : (tokensOf (ws.zip cols) e)[ws.length + 1]? = some t := ht
    have := (List.getElem?_eq_some_iff.mp ht2).1
    rw [toks_len h] at this
    omega
  · intro i hi
    have hi' : i ≤ ws.length + 1 := hi
    by_cases hil : i ≤ ws.length
    · rw [st i hil]
      obtain ⟨s', d', g⟩ := hW.take i hil
      rw [g.st]
      have := (g.bnd (by decide)).2.1
      show d' ≤ 8
      omega
    · have e1 : i = ws.length + 1 := by omega
      subst e1
      rw [Ctx.st_succ _ (show (tokensOf (ws.zip cols) e)[ws.length]? = some ⟨.fin, 0, e⟩ from toks_end h), stl]
      show (stp (s, d) .fin).2 ≤ 8
      have : (stp (s, d) .fin).2 = d := by cases s <;> rfl
      rw [this]
      omega
  · show (tokensOf (ws.zip cols) e).length ≤ 40
    rw [toks_len h]
    omega
theorem dep_app (l : List Nat) : ∀ m : List Nat, dep (l ++ m) ≤ dep l + m.length := by
  have key : ∀ (m : List Nat) (x : Nat), m.foldl (fun d c => if c = 40 then d + 1 else if c = 41 then d - 1 else d) x ≤ x + m.length := by
    intro m
    induction m with
    | nil => intro x; exact Nat.le_refl _
    | cons c r ih =>
      intro x
      rw [List.foldl_cons (l := r), List.length_cons]
      refine Nat.le_trans (ih _) ?_
      split
      · omega
      · split <;> omega
  intro m
  unfold dep
  rw [List.foldl_append]
  exact key m _
/-- the words of a walk and at most two more are not too deep -/
theorem deep_ok {kd : Str} {ws rest : List Nat} {s : Stt} {d : Int} {cols : List Int} (hW : Wk kd 6 ws s d) (hr : rest.length ≤ 2) (h : cols.length = (ws ++ rest).length) : DeepOk ((ws ++ rest).zip cols) := by
  intro pre m post e _
  have e1 := congrArg (fun z => z.map (·.1)) e
  simp only [List.map_append] at e1
  rw [zip_fst h] at e1
  have e2 : pre.map (·.1) = (ws ++ rest).take pre.length := by
    rw [e1, List.take_append_of_le_length (by rw [List.length_map]; exact Nat.le_refl _), List.take_of_length_le (by rw [List.length_map]; exact Nat.le_refl _)]
  rw [e2]
  by_cases hi : pre.length ≤ ws.length
  · rw [List.take_append_of_le_length hi]
    obtain ⟨s', d', g⟩ := hW.take _ hi
    have := g.bnd (by decide)
    omega
  · rw [List.take_append, List.take_of_length_le (by omega)]
    have h1 := dep_app ws (rest.take (pre.length - ws.length))
    have h2 := hW.bnd (by decide)
    rw [List.length_take] at h1
    omega
end N75
/-! What is told of a walk's text; _law_is_right. -/
namespace N75
open PySem L2
theorem allTk_zip {vs : List Nat} {cols : List Int} (h : ∀ c ∈ vs, kc c ≠ none) : AllTk (vs.zip cols) := fun z hz => h z.1 (List.of_mem_zip hz).1
/-- all words tokens: no sign that is no token -/
theorem no_bad {vs : List Nat} {cols : List Int} {H : Hp} {Q : VK} (h : ∀ c ∈ vs, kc c ≠ none) : ∀ pre m post, vs.zip cols = pre ++ m :: post → AllTk pre → kc m.1 = none → ErrQ H Q m.2 noTok := fun pre m post e _ hk => by
  exfalso
  exact allTk_zip (cols := cols) h m (by rw [e]; simp) hk
/-- the words of a walk -/
theorem told_ws {kd t : Str} {ws : List Nat} {st : Stt} {d wh : Int} {cols : List Int} {H : Hp} {Q : VK} (hW : Wk kd 6 ws st d) (hl : Laid t ws cols) (few : ws.length ≤ 22) (h0 : wh = 0 → LstQ H Q (ordd (opts st d)))
    (h1 : wh ≠ 0 → (opts st d).contains .fin = true → LstQ H Q [] ∧ ∀ co wd, NoExp wd → ErrQ H Q co wd) (h2 : wh ≠ 0 → (opts st d).contains .fin = false → ErrQ H Q ((t.length : Int) + 1) (words (opts st d))) : ToldPre t kd wh H Q := by
  have hc : ∀ c ∈ ws, kc c ≠ none := fun c h => (hW.codes c h).1
  have hfew := hl.few
  refine ⟨by omega, hl.nl, ?_, ?_, fun _ => ?_⟩
  · rw [hl.mks]
    have := deep_ok (rest := []) (cols := cols) hW (by simp) (by simpa using hl.len)
    rw [List.append_nil] at this
    exact this
  · rw [hl.mks]
    exact no_bad hc
  rw [hl.mks]
  by_cases hw : wh = 0
  · obtain ⟨o, e⟩ := ctx_stop (vs := ws) (cols := cols) (e := (t.length : Int) + 1) (b := decide (wh = 0)) hW (List.take_length) (Nat.le_refl _) hc hl.len (by omega) (fun u hu => by
      rw [toks_end hl.len] at hu
      have e1 := Option.some.inj hu
      exact .inl ⟨by rw [← e1], decide_eq_true hw⟩)
    refine ⟨_, o, rfl, rfl, rfl, by show (8 : Int) < 10; decide, fun _ u hu => ?_, fun z => absurd hw z⟩
    have hu2 : (tokensOf (ws.zip cols) ((t.length : Int) + 1))[ws.length]? = some u := hu
    rw [toks_end hl.len] at hu2
    have e1 := Option.some.inj hu2
    refine ⟨fun _ => ?_, fun z => absurd (by rw [← e1]) z⟩
    unfold Ctx.os
    rw [e]
    exact h0 hw
  · cases hf : (opts st d).contains .fin with
    | true =>
      have o := ctx_end (e := (t.length : Int) + 1) hW hl.len (by omega) hf
      obtain ⟨g1, g2⟩ := h1 hw hf
      refine ⟨_, o, rfl, (decide_eq_false hw).symm, rfl, by show (8 : Int) < 10; decide, fun z => absurd z hw, fun _ => ⟨fun u hu => ?_, fun _ => ⟨g1, g2⟩⟩⟩
      exfalso
      have hu2 : (tokensOf (ws.zip cols) ((t.length : Int) + 1))[ws.length + 1]? = some u := hu
      have := (List.getElem?_eq_some_iff.mp hu2).1
      rw [toks_len hl.len] at this
      omega
    | false =>
      obtain ⟨o, e⟩ := ctx_stop (vs := ws) (cols := cols) (e := (t.length : Int) + 1) (b := decide (wh = 0)) hW (List.take_length) (Nat.le_refl _) hc hl.len (by omega) (fun u hu => by
        rw [toks_end hl.len] at hu
        have e1 := Option.some.inj hu
        refine .inr ?_
        rw [← e1]
        exact hf)
      refine ⟨_, o, rfl, rfl, rfl, by show (8 : Int) < 10; decide, fun z => absurd z hw, fun _ => ⟨fun u hu => ?_, fun hn => ?_⟩⟩
      · have hu2 : (tokensOf (ws.zip cols) ((t.length : Int) + 1))[ws.length]? = some u := hu
        rw [toks_end hl.len] at hu2
        have e1 := Option.some.inj hu2
        unfold Ctx.os
        rw [e, ← e1]
        exact h2 hw hf
      · exfalso
        have hn2 : ws.length = (tokensOf (ws.zip cols) ((t.length : Int) + 1)).length := hn
        rw [toks_len hl.len] at hn2
        omega
/-- the words of a walk, one that cannot come, at most one more -/
theorem told_bad {kd t : Str} {ws rest : List Nat} {st : Stt} {d wh co : Int} {c : Nat} {k : Kd} {f : _root_.Fin 4} {cols : List Int} {H : Hp} {Q : VK} (hW : Wk kd 6 ws st d) (hl : Laid t (ws ++ c :: rest) cols) (few : ws.length ≤ 20) (hr : rest.length ≤ 1) (hrc : ∀ x ∈ rest, kc x ≠ none)
    (hk : kc c = some (k, f)) (ho : (opts st d).contains k = false) (hco : cols[ws.length]? = some co) (h : ErrQ H Q co (words (opts st d))) : ToldPre t kd wh H Q := by
  have hc : ∀ x ∈ ws ++ c :: rest, kc x ≠ none := fun x hx => by
    rcases (List.mem_append.mp hx) with hx | hx
    · exact (hW.codes x hx).1
    · rcases List.mem_cons.mp hx with e | hx
      · rw [e, hk]; exact fun z => by cases z
      · exact hrc x hx
  have hfew := hl.few
  have hlen : (ws ++ c :: rest).length ≤ 22 := by rw [List.length_append, List.length_cons]; omega
  have hcv : (ws ++ c :: rest)[ws.length]? = some c := by
    rw [List.getElem?_append_right (Nat.le_refl _), Nat.sub_self]
    rfl
  have hat := toks_at (e := (t.length : Int) + 1) hl.len hcv hco
  obtain ⟨o, e⟩ := ctx_stop (vs := ws ++ c :: rest) (cols := cols) (e := (t.length : Int) + 1) (b := decide (wh = 0)) hW (List.take_left) (by rw [List.length_append]; omega) hc hl.len (by omega) (fun u hu => by
    rw [hat] at hu
    have e1 := Option.some.inj hu
    refine .inr ?_
    rw [← e1, tkOf_k, kindC_of hk]
    exact ho)
  have tok : ∀ u, (tokensOf ((ws ++ c :: rest).zip cols) ((t.length : Int) + 1))[ws.length]? = some u → u.k ≠ .fin ∧ u.col = co := fun u hu => by
    rw [hat] at hu
    have e1 := Option.some.inj hu
    rw [← e1]
    refine ⟨?_, tkOf_col _⟩
    rw [tkOf_k, kindC_of hk]
    exact (kc_facts hk).1
  refine ⟨by omega, hl.nl, ?_, ?_, fun _ => ?_⟩
  · rw [hl.mks]
    exact deep_ok hW (by rw [List.length_cons]; omega) hl.len
  · rw [hl.mks]
    exact no_bad hc
  rw [hl.mks]
  refine ⟨_, o, rfl, rfl, rfl, by show (8 : Int) < 10; decide, fun _ u hu => ⟨fun z => absurd z (tok u hu).1, fun _ => ?_⟩, fun _ => ⟨fun u hu => ?_, fun hn => ?_⟩⟩
  · unfold Ctx.os
    rw [e, (tok u hu).2]
    exact h
  · unfold Ctx.os
    rw [e, (tok u hu).2]
    exact h
  · exfalso
    have hn2 : ws.length = (tokensOf ((ws ++ c :: rest).zip cols) ((t.length : Int) + 1)).length := hn
    rw [toks_len hl.len, List.length_append] at hn2
    omega
/-- the words of a walk, one more, a sign that is no token -/
theorem told_scan {kd t : Str} {ws : List Nat} {st : Stt} {d wh co : Int} {c b : Nat} {k : Kd} {f : _root_.Fin 4} {cols : List Int} {H : Hp} {Q : VK} (hW : Wk kd 6 ws st d) (hl : Laid t (ws ++ [c, b]) cols) (few : ws.length ≤ 20)
    (hk : kc c = some (k, f)) (hb : kc b = none) (hco : cols[ws.length + 1]? = some co) (h : ErrQ H Q co noTok) : ToldPre t kd wh H Q := by
  have hfew := hl.few
  have hlen : (ws ++ [c, b]).length = ws.length + 2 := by rw [List.length_append]; rfl
  have hcv : (ws ++ [c, b])[ws.length + 1]? = some b := by
    rw [List.getElem?_append_right (by omega)]
    have : ws.length + 1 - ws.length = 1 := by omega
    rw [this]
    rfl
  have hz : ((ws ++ [c, b]).zip cols)[ws.length + 1]? = some (b, co) := List.getElem?_zip_eq_some.mpr ⟨hcv, hco⟩
  have hsm : ∀ i z, ((ws ++ [c, b]).zip cols)[i]? = some z → i < ws.length + 1 → kc z.1 ≠ none := fun i z hi hlt => by
    have h1 := (List.getElem?_zip_eq_some.mp hi).1
    by_cases h2 : i < ws.length
    · rw [List.getElem?_append_left h2] at h1
      exact (hW.codes z.1 (List.mem_of_getElem? h1)).1
    · have e : i = ws.length := by omega
      rw [e, List.getElem?_append_right (Nat.le_refl _), Nat.sub_self] at h1
      have h3 : c = z.1 := Option.some.inj h1
      rw [← h3, hk]
      exact fun q => by cases q
  refine ⟨by omega, hl.nl, ?_, ?_, fun hall => ?_⟩
  · rw [hl.mks]
    exact deep_ok hW (by simp) hl.len
  · rw [hl.mks]
    intro pre m post e hpre hm
    have hpm : ((ws ++ [c, b]).zip cols)[pre.length]? = some m := by
      rw [e, List.getElem?_append_right (Nat.le_refl _), Nat.sub_self]
      rfl
    have hple : pre.length = ws.length + 1 := by
      rcases Nat.lt_trichotomy pre.length (ws.length + 1) with z | z | z
      · exact absurd hm (hsm _ _ hpm z)
      · exact z
      · exfalso
        have h5 : pre[ws.length + 1]? = some (b, co) := by
          rw [e, List.getElem?_append_left z] at hz
          exact hz
        exact hpre _ (List.mem_of_getElem? h5) hb
    rw [hple, hz] at hpm
    have e2 := Option.some.inj hpm
    rw [← e2]
    exact h
  · exfalso
    rw [hl.mks] at hall
    exact hall _ (List.mem_of_getElem? hz) hb

theorem ordd_mem (os : List Kd) (k : Kd) : (ordd os).contains k = os.contains k := by
  have h1 : (k ∈ ordd os) ↔ k ∈ os := by
    unfold ordd
    rw [List.mem_filter]
    constructor
    · intro z
      simpa using z.2
    · intro z
      refine ⟨?_, by simpa using z⟩
      cases k <;> decide
  by_cases h : k ∈ os
  · rw [List.contains_iff_mem.mpr h, List.contains_iff_mem.mpr (h1.mpr h)]
  · have e1 : os.contains k = false := Bool.eq_false_iff.mpr fun z => h (List.contains_iff_mem.mp z)
    have e2 : (ordd os).contains k = false := Bool.eq_false_iff.mpr fun z => h (h1.mp (List.contains_iff_mem.mp z))
    rw [e1, e2]
theorem ordd_opts (s : Stt) (d : Int) : 1 ≤ (ordd (opts s d)).length := by
  by_cases h : s = .item
  · subst h
    exact ordd_item d
  · rw [opts_no h]
    cases s <;> first | decide | exact absurd rfl h
theorem eqv_strs {H : Hp} {n : Nat} {p q : Addr} {os : List Kd} (hp : H p = some (.lst (os.map shV))) (hq : H q = some (.lst (os.map shV))) (hl : os.length ≤ 100) : Eqv H (n + 1) (.ref p) (.ref q) :=
  .seq (.inr ⟨hp, hq⟩) rfl (by rw [List.length_map]; exact hl) fun i x y hx hy => by
    rw [hx] at hy
    cases hy
    rw [List.getElem?_map] at hx
    cases hk : os[i]? with
    | none => rw [hk] at hx; cases hx
    | some k =>
      rw [hk] at hx
      have e : shV k = x := Option.some.inj hx
      rw [← e]
      exact .str _ _
theorem eqv_err {H : Hp} {n : Nat} {p q : Addr} {c : Int} {wd : Str} (hp : H p = some (.tup [.int c, .str wd])) (hq : H q = some (.tup [.int c, .str wd])) : Eqv H (n + 1) (.ref p) (.ref q) :=
  .seq (.inl ⟨hp, hq⟩) rfl (by show 2 ≤ 100; decide) fun i x y hx hy => by
    rw [hx] at hy
    cases hy
    match i, hx with
    | 0, hx => cases hx; exact .int _ _
    | 1, hx => cases hx; exact .str _ _
    | i + 2, hx => simp at hx
/-- what _law_listed asks of the due list -/
theorem lst_sh {os : List Kd} : (os.map shV) = ((os.map Kd.shown).map V.str) := by rw [List.map_map]; rfl
theorem sh8 {os : List Kd} : ∀ z ∈ os.map Kd.shown, z.length ≤ 8 := fun z hz => by
  obtain ⟨k, _, rfl⟩ := List.mem_map.mp hz
  exact shown_len k
section
variable {P : Program} {w : World} {K : PySem.W.Frag} {mg : Str → Option Value} {base : Heap} {cT cA cP : Addr}
def spRight : Sp := fun vs H Q _ => ∃ (s a wl : Addr) (kd : Str) (st : Stt) (d : Int) (ws : List Nat), vs = [.ref s, .str kd, .ref wl, .str st.nm, .int d] ∧ (kd = sExpr ∨ kd = sWrd) ∧ SmAt H s a ∧ H wl = some (.lst (ws.map chV)) ∧ wl ≠ s ∧ Wk kd 5 ws st d ∧ ws.length ≤ 20 ∧
  ∀ H', But s H H' → SmAt H' s a → Q (.bl true) H'
theorem scRight : FnScope ["_law_stream_here", "_law_kind", "_law_words", "_law_state", "_law_depth", "_law_text", "_law_places", "_law_due_here", "_law_which", "_law_told_here"] ["_law_stream_here", "_law_kind", "_law_words", "_law_state", "_law_depth"] (defScope sIsRight) := ⟨rfl, rfl, rfl, by decide +kernel, rfl, by decide +kernel, by decide +kernel⟩
theorem ok_right (D : Dfn K mg "_law_is_right" sIsRight ["_law_stream_here", "_law_kind", "_law_words", "_law_state", "_law_depth"]) (T : Txt K mg)
    (GL : Cal P w K mg base CX0 2 "_law_laid" ["_law_stream_here", "_law_words"] spLaid) (GD : Cal P w K mg base CX0 2 "_law_due" ["_law_state", "_law_depth"] spDue)
    (GT : Cal P w K mg base CX0 27 "_law_told" ["_law_text", "_law_kind", "_law_which"] spTold) (GE : Cal P w K mg base CX0 4 "_law_equal" ["_law_actual", "_law_due_here"] (spEqO 3))
    (GJ : Cal P w K mg base CX0 1 "_law_listed" ["_law_words"] (spJoined K)) : Cal P w K mg base CX0 28 "_law_is_right" ["_law_stream_here", "_law_kind", "_law_words", "_law_state", "_law_depth"] spRight := by
  obtain ⟨f, fd, hm, F, hb⟩ := D
  refine ⟨f, fd, F.ok scRight (fun vs H Q E h => ?_) (fun cdv A outer s0 H vs Q E hr h => ?_), hm, F.kp, hb⟩
  · obtain ⟨_, _, _, _, _, _, _, rfl, _⟩ := h
    rfl
  obtain ⟨s, a, wl, kd, st, d, ws, rfl, hkd, hS, hwl, hne, hW, hfew, q⟩ := h
  have hr1 : Room 1 _ := hr.mono (by decide)
  have hr2 : Room 2 _ := hr.mono (by decide)
  have hr4 : Room 4 _ := hr.mono (by decide)
  have nd := scRight.nd
  refine ⟨_, pss_cons (ps_cutS (ps_asg (pe_cal GL hr2 pass0 (pa_cons (pv 0) (pa_cons (pv 2) pa_nil))) (pg_tup rfl (pgs_cons (pg_name (i := 5) nd rfl (Or.inl rfl)) (pgs_cons (pg_name (i := 6) nd rfl (Or.inl rfl)) pgs_nil)))))
    (pss_cons (ps_set (i := 7) nd rfl (Or.inl rfl) (pe_cal GD hr2 pass0 (pa_cons (pv 3) (pa_cons (pv 4) pa_nil))))
    (pss_cons (ps_if (pt_not (pt_val (pe_cal GE hr4 pass0 (pa_cons (pe_cal GT hr pass0 (pa_cons (pv 5) (pa_cons (pv 1) (pa_cons pe_int pa_nil)))) (pa_cons (pv 7) pa_nil))))) pss_never pss_nil)
    (pss_cons (ps_for PassesOwn.never rfl (pi_list (pe_lst (pa_cons pe_int (pa_cons pe_int pa_nil)))) (pg_name (i := 8) nd rfl (Or.inl rfl))
      (pss_cons (ps_set (i := 9) nd rfl (Or.inl rfl) (pe_cal GT hr pass0 (pa_cons (pv 5) (pa_cons (pv 1) (pa_cons (pv 8) pa_nil)))))
      (pss_one (ps_if (pt_cmpR op_in_seq pe_str (pv 7) (by rfl))
        (pss_one (ps_if (PW.pt (pw_and (pt_not (pt_val (pe_callB call_isi rfl T.isi PyProof.Rows.boot_isinstance (pa_cons (pv 9) (pa_cons (pe_bltn (v := .ty "list") rfl T.list PyProof.Rows.boot_list rfl) pa_nil)))))
          (pw_and1 (pt_cmpR op_eq (pe_slice sl_str (pe_ix ix_tup (pv 9) pe_int (fun _ _ => rfl)) po_none (po_some pe_int)) pe_str (nomark _))))) pss_never pss_nil))
        (pss_one (ps_if (pt_not (pt_val (pe_cal GE hr4 pass0 (pa_cons (pv 9) (pa_cons (pe_tup (pa_cons (pe_ix ix_list (pv 6) (pe_un un_neg pe_int) (fun _ _ => rfl)) (pa_cons (pe_op op_add_str pe_str (pe_cal GJ hr1 pass0 (pa_cons (pv 7) pa_nil))) pa_nil))) pa_nil))))) pss_never pss_nil))))))
    (pss_one (ps_ret pe_bl))))), ?_⟩
  -- the text
  refine ⟨fun σ' H' => ∃ (t : Str) (pl : Addr) (cols : List Int), σ' = [some (.ref s), some (.str kd), some (.ref wl), some (.str st.nm), some (.int d), some (.str t), some (.ref pl), none, none, none] ∧ But s H H' ∧ SmAt H' s a ∧ H' pl = some (.lst ((cols ++ [(t.length : Int) + 1]).map V.int)) ∧ Laid t ws cols, ?_, ?_⟩
  · refine ⟨_, rfl, _, rfl, s, a, wl, ws, rfl, hS, hwl, hne, by omega, fun c hc => (hW.codes c hc).2, fun p pl t cols H1 b1 hS1 hp hpl hL => ?_⟩
    exact ⟨p, _, rfl, SqT.of hp, rfl, _, _, rfl, _, _, rfl, rfl, t, pl, cols, rfl, b1, hS1, hpl, hL⟩
  rintro σ' H1 ⟨t, pl, cols, rfl, b1, hS1, hpl, hL⟩
  have hW6 : Wk kd 6 ws st d := hW.more (by decide)
  have h81 := ordd_le (opts st d)
  refine ⟨_, rfl, _, rfl, st, d, rfl, fun dq H2 ndq s2 hdq => ?_⟩
  -- what next_tokens tells
  refine ⟨_, rfl, _, rfl, t, kd, 0, rfl, hkd, told_ws hW6 hL (by omega) (fun _ p H3 s3 hp => ?_) (fun z => absurd rfl z) (fun z => absurd rfl z)⟩
  refine ⟨_, rfl, .ref p, .ref dq, rfl, eqv_strs hp (s3 _ _ hdq) (by omega), fun H4 s4 => ?_⟩
  refine ⟨true, rfl, iteF ?_⟩
  have s14 : Same H1 H4 := (s2.trans s3).trans s4
  have hdq4 := s4 _ _ (s3 _ _ hdq)
  have hpl4 := s14 _ _ hpl
  refine ⟨(by show 2 ≤ sizeLine; decide), fun pw npw => ?_⟩
  have s5 := same_new npw (.lst [.int 1, .int 2])
  refine ⟨pw, rfl, ⟨_, SqL.of upd_same⟩, ?_⟩
  refine for_list (K := K) (a := pw) (xs := [.int 1, .int 2]) (fun i σ H' => ∃ (v8 v9 : Option V), σ = [some (.ref s), some (.str kd), some (.ref wl), some (.str st.nm), some (.int d), some (.str t), some (.ref pl), some (.ref dq), v8, v9] ∧ Same (upd H4 pw (.lst [.int 1, .int 2])) H')
    ⟨none, none, rfl, Same.refl _⟩ (fun i σ H' _ ⟨_, _, _, k⟩ => SqL.of (k _ _ upd_same)) ?_ ?_
  · rintro i x σ H5 hx ⟨v8, v9, rfl, k5⟩
    obtain ⟨wh, hwh, rfl⟩ : ∃ wh : Int, wh ≠ 0 ∧ x = .int wh := by
      match i, hx with
      | 0, hx => cases hx; exact ⟨1, by decide, rfl⟩
      | 1, hx => cases hx; exact ⟨2, by decide, rfl⟩
      | i + 2, hx => simp at hx
    have hdq5 := k5 _ _ (s5 _ _ hdq4)
    have hpl5 := k5 _ _ (s5 _ _ hpl4)
    refine ⟨_, rfl, _, rfl, _, rfl, t, kd, wh, rfl, hkd, told_ws hW6 hL (by omega) (fun z => absurd z hwh) (fun _ hf => ⟨fun p H6 s6 hp => ?_, fun co wd hno p H6 s6 hp => ?_⟩) (fun _ hf p H6 s6 hp => ?_)⟩
    · have hin : inV (shV .fin) ((ordd (opts st d)).map shV) = true := by rw [inV_shown, ordd_mem]; exact hf
      refine ⟨_, rfl, dq, _, rfl, .inl (SqL.of (s6 _ _ hdq5)), rfl, flat_shown _, true, congrArg V.bl hin, iteT ?_⟩
      refine ⟨_, rfl, _, _, _, _, true, rfl, .ty "list", .base (.lst hp), kit_ty (by decide +kernel), true, rfl, iteF ?_⟩
      exact ⟨_, _, rfl, k5.trans s6⟩
    · have hin : inV (shV .fin) ((ordd (opts st d)).map shV) = true := by rw [inV_shown, ordd_mem]; exact hf
      obtain ⟨hno1, hno2⟩ := hno
      refine ⟨_, rfl, dq, _, rfl, .inl (SqL.of (s6 _ _ hdq5)), rfl, flat_shown _, true, congrArg V.bl hin, iteT ?_⟩
      refine ⟨_, rfl, _, _, _, _, false, rfl, .ty "list", .base (.tup hp), kit_ty (by decide +kernel), false, rfl, iteT ?_⟩
      refine ⟨_, rfl, p, _, 1, _, rfl, rfl, SqT.of hp, atI_nat (j := 1) rfl, 9, rfl, wd, rfl, szl hno2, rfl, false, ?_, iteF ?_⟩
      · exact congrArg V.bl (decide_eq_false fun z => by injection z with z; exact hno1 z)
      · exact ⟨_, _, rfl, k5.trans s6⟩
    · have hin : inV (shV .fin) ((ordd (opts st d)).map shV) = false := by rw [inV_shown, ordd_mem]; exact hf
      refine ⟨_, rfl, dq, _, rfl, .inl (SqL.of (s6 _ _ hdq5)), rfl, flat_shown _, false, congrArg V.bl hin, iteF ?_⟩
      refine ⟨_, rfl, _, rfl, 1, rfl, pl, _, -1, .int ((t.length : Int) + 1), rfl, rfl, SqL.of (s6 _ _ hpl5), (by rw [List.map_append]; exact atI_last _ _), ?_⟩
      refine ⟨_, rfl, dq, (ordd (opts st d)).map Kd.shown, rfl, SqL.of (by rw [← lst_sh]; exact s6 _ _ hdq5), by rw [List.length_map]; exact ordd_opts st d, by rw [List.length_map]; exact h81, sh8, fun H7 s7 => ?_⟩
      have hll := lstS_le ((ordd (opts st d)).map Kd.shown) sh8 (by rw [List.length_map]; exact h81) (by rw [List.length_map]; exact ordd_opts st d)
      refine ⟨_, _, rfl, rfl, szl ?_, ?_⟩
      · have e9 := exp_len
        unfold expected at e9
        rw [e9]
        omega
      refine ⟨(by show 2 ≤ sizeLine; decide), fun p8 n8 => ?_⟩
      refine ⟨.ref p, .ref p8, rfl, eqv_err (same_new n8 _ _ _ (s7 _ _ hp)) upd_same, fun H9 s9 => ?_⟩
      refine ⟨true, rfl, iteF ?_⟩
      exact ⟨_, _, rfl, (((k5.trans s6).trans s7).trans (same_new n8 _)).trans s9⟩
  · rintro σ H5 ⟨v8, v9, rfl, k5⟩
    have sall : Same H1 H5 := (s14.trans s5).trans k5
    exact q H5 (b1.trans (But.of sall)) (hS1.grow sall)
end
end N75
/-! _law_goes_on. -/
namespace N75
open PySem L2
theorem eqv_3 {H : Hp} {a b p q r z : Addr} {co : Int} {wd : Str} (ha : H a = some (.lst [.ref p, .ref q, .ref r])) (hb : H b = some (.lst (List.replicate (3 : Int).toNat [V.ref z]).flatten)) (hp : H p = some (.tup [.int co, .str wd])) (hq : H q = some (.tup [.int co, .str wd])) (hr : H r = some (.tup [.int co, .str wd]))
    (hz : H z = some (.tup [.int co, .str wd])) : Eqv H 2 (.ref a) (.ref b) := by
  have e : (List.replicate (3 : Int).toNat [V.ref z]).flatten = [.ref z, .ref z, .ref z] := rfl
  rw [e] at hb
  exact .seq (.inr ⟨ha, hb⟩) rfl (by show 3 ≤ 100; decide) fun i x y hx hy => by
    match i, hx, hy with
    | 0, hx, hy => cases hx; cases hy; exact eqv_err hp hz
    | 1, hx, hy => cases hx; cases hy; exact eqv_err hq hz
    | 2, hx, hy => cases hx; cases hy; exact eqv_err hr hz
    | i + 3, hx, hy => simp at hx
theorem eqv_2 {H : Hp} {a b p q z : Addr} {co : Int} {wd : Str} (ha : H a = some (.lst [.ref p, .ref q])) (hb : H b = some (.lst (List.replicate (2 : Int).toNat [V.ref z]).flatten)) (hp : H p = some (.tup [.int co, .str wd])) (hq : H q = some (.tup [.int co, .str wd]))
    (hz : H z = some (.tup [.int co, .str wd])) : Eqv H 2 (.ref a) (.ref b) := by
  have e : (List.replicate (2 : Int).toNat [V.ref z]).flatten = [.ref z, .ref z] := rfl
  rw [e] at hb
  exact .seq (.inr ⟨ha, hb⟩) rfl (by show 2 ≤ 100; decide) fun i x y hx hy => by
    match i, hx, hy with
    | 0, hx, hy => cases hx; cases hy; exact eqv_err hp hz
    | 1, hx, hy => cases hx; cases hy; exact eqv_err hq hz
    | i + 2, hx, hy => simp at hx
/-- a drawn kind is none of the end -/
theorem kind7 {d : Int} (h0 : 0 ≤ d) (h1 : d < 7) : ∃ k : Kd, atI (allK.map nmV) d = some (nmV k) ∧ k ≠ .fin := by
  have e : d = 0 ∨ d = 1 ∨ d = 2 ∨ d = 3 ∨ d = 4 ∨ d = 5 ∨ d = 6 := by omega
  rcases e with rfl | rfl | rfl | rfl | rfl | rfl | rfl
  · exact ⟨.ltr, by decide +kernel, by decide⟩
  · exact ⟨.lp, by decide +kernel, by decide⟩
  · exact ⟨.rp, by decide +kernel, by decide⟩
  · exact ⟨.bar, by decide +kernel, by decide⟩
  · exact ⟨.qm, by decide +kernel, by decide⟩
  · exact ⟨.star, by decide +kernel, by decide⟩
  · exact ⟨.dot, by decide +kernel, by decide⟩
theorem pick4 {i : Nat} {v : V} (h : ([.str "e", .str "A", .str "1", .str "["] : List V)[i]? = some v) : ∃ b, v = chV b ∧ kc b = none ∧ b ≠ 32 ∧ b ≠ 10 := by
  match i, h with
  | 0, h => cases h; exact ⟨101, by decide +kernel, by decide, by decide, by decide⟩
  | 1, h => cases h; exact ⟨65, by decide +kernel, by decide, by decide, by decide⟩
  | 2, h => cases h; exact ⟨49, by decide +kernel, by decide, by decide, by decide⟩
  | 3, h => cases h; exact ⟨91, by decide +kernel, by decide, by decide, by decide⟩
  | i + 4, h => simp at h
/-- the column of the word i -/
theorem col_at {t : Str} {vs : List Nat} {cols : List Int} {i : Nat} {e : Int} (hL : Laid t vs cols) (hi : i < vs.length) : ∃ co, cols[i]? = some co ∧ atI ((cols ++ [e]).map V.int) ((i : Nat) : Int) = some (.int co) := by
  have h2 : i < cols.length := by rw [hL.len]; exact hi
  refine ⟨cols[i], List.getElem?_eq_getElem h2, atI_nat ?_⟩
  rw [List.getElem?_map, List.getElem?_append_left h2, List.getElem?_eq_getElem h2]
  rfl
theorem codes_app {kd : Str} {ws rest : List Nat} {st : Stt} {d : Int} (hW : Wk kd 6 ws st d) (h : ∀ c ∈ rest, c ≠ 32 ∧ c ≠ 10) : ∀ c ∈ ws ++ rest, c ≠ 32 ∧ c ≠ 10 := fun c hc => by
  rcases (List.mem_append.mp hc) with hc | hc
  · exact (hW.codes c hc).2
  · exact h c hc
section
variable {P : Program} {w : World} {K : PySem.W.Frag} {mg : Str → Option Value} {base : Heap} {cT cA cP : Addr}
theorem scGoes : FnScope ["_law_stream_here", "_law_kind", "_law_words", "_law_state", "_law_depth", "_law_word", "_law_token_here", "_law_text", "_law_places", "_law_due_here", "_law_told_here", "_law_later", "_law_more", "_law_problem"] ["_law_stream_here", "_law_kind", "_law_words", "_law_state", "_law_depth"] (defScope sGoesOn) := ⟨rfl, rfl, rfl, by decide +kernel, rfl, by decide +kernel, by decide +kernel⟩
theorem ok_goes (D : Dfn K mg "_law_goes_on" sGoesOn ["_law_stream_here", "_law_kind", "_law_words", "_law_state", "_law_depth"]) (T : Txt K mg)
    (GN : Cal P w K mg base CX0 1 "_law_next" ["_law_stream_here", "_law_many"] spDraw) (GK : Cal P w K mg base CX0 1 "_law_kinds" [] spKinds)
    (GP : Cal P w K mg base CX0 2 "_law_pick" ["_law_stream_here", "_law_rows"] spPick) (GQ : Cal P w K mg base CX0 3 "_law_token" ["_law_stream_here", "_law_kind"] spToken)
    (GO : Cal P w K mg base CX0 1 "_law_options" ["_law_state", "_law_depth"] spOptions) (GS : Cal P w K mg base CX0 1 "_law_step" ["_law_state", "_law_depth", "_law_kind"] spStep)
    (GL : Cal P w K mg base CX0 2 "_law_laid" ["_law_stream_here", "_law_words"] spLaid) (GD : Cal P w K mg base CX0 2 "_law_due" ["_law_state", "_law_depth"] spDue)
    (GT : Cal P w K mg base CX0 27 "_law_told" ["_law_text", "_law_kind", "_law_which"] spTold) (GE : Cal P w K mg base CX0 4 "_law_equal" ["_law_actual", "_law_due_here"] (spEqO 3))
    (GJ : Cal P w K mg base CX0 1 "_law_listed" ["_law_words"] (spJoined K)) : Cal P w K mg base CX0 28 "_law_goes_on" ["_law_stream_here", "_law_kind", "_law_words", "_law_state", "_law_depth"] spRight := by
  obtain ⟨f, fd, hm, F, hb⟩ := D
  refine ⟨f, fd, F.ok scGoes (fun vs H Q E h => ?_) (fun cdv A outer s0 H vs Q E hr h => ?_), hm, F.kp, hb⟩
  · obtain ⟨_, _, _, _, _, _, _, rfl, _⟩ := h
    rfl
  obtain ⟨s, a, wl, kd, st, d, ws, rfl, hkd, hS, hwl, hne, hW, hfew, q⟩ := h
  have hr1 : Room 1 _ := hr.mono (by decide)
  have hr2 : Room 2 _ := hr.mono (by decide)
  have hr3 : Room 3 _ := hr.mono (by decide)
  have hr4 : Room 4 _ := hr.mono (by decide)
  have nd := scGoes.nd
  refine ⟨_, pss_cons (ps_set (i := 5) nd rfl (Or.inl rfl) (pe_ix ix_list (pe_cal0 GK hr1 pass0) (pe_cal GN hr1 pass0 (pa_cons (pv 0) (pa_cons pe_int pa_nil))) (fun _ _ => rfl)))
    (pss_cons (ps_set (i := 6) nd rfl (Or.inl rfl) (pe_cal GQ hr3 pass0 (pa_cons (pv 0) (pa_cons (pv 5) pa_nil))))
    (pss_cons (ps_cutS (ps_asg (pe_cal GL hr2 pass0 (pa_cons (pv 0) (pa_cons (pe_op op_cat (pv 2) (pe_lst (pa_cons (pv 6) pa_nil))) pa_nil))) (pg_tup rfl (pgs_cons (pg_name (i := 7) nd rfl (Or.inl rfl)) (pgs_cons (pg_name (i := 8) nd rfl (Or.inl rfl)) pgs_nil)))))
    (pss_cons (ps_set (i := 9) nd rfl (Or.inl rfl) (pe_cal GD hr2 pass0 (pa_cons (pv 3) (pa_cons (pv 4) pa_nil))))
    (pss_cons (ps_set (i := 10) nd rfl (Or.inl rfl) (pe_cal GT hr pass0 (pa_cons (pv 7) (pa_cons (pv 1) (pa_cons pe_int pa_nil)))))
    (pss_cons (ps_if (pt_cmpR op_in_seq (pv 5) (pe_cal GO hr1 pass0 (pa_cons (pv 3) (pa_cons (pv 4) pa_nil))) (by rfl))
      (pss_cons (ps_asg (pe_cal GS hr1 pass0 (pa_cons (pv 3) (pa_cons (pv 4) (pa_cons (pv 5) pa_nil)))) (pg_tup rfl (pgs_cons (pg_name (i := 11) nd rfl (Or.inl rfl)) (pgs_cons (pg_name (i := 12) nd rfl (Or.inl rfl)) pgs_nil))))
        (pss_one (ps_ret (pe_cal GE hr4 pass0 (pa_cons (pv 10) (pa_cons (pe_cal GD hr2 pass0 (pa_cons (pv 11) (pa_cons (pv 12) pa_nil))) pa_nil)))))) pss_nil)
    (pss_cons (ps_set (i := 13) nd rfl (Or.inl rfl) (pe_tup (pa_cons (pe_ix ix_list (pv 8) (pe_callB call_len_seq rfl T.len PySem.boot_len (pa_cons (pv 2) pa_nil)) (fun _ _ => rfl)) (pa_cons (pe_op op_add_str pe_str (pe_cal GJ hr1 pass0 (pa_cons (pv 9) pa_nil))) pa_nil))))
    (pss_cons (ps_if (pt_not (pt_val (pe_cal GE hr4 pass0 (pa_cons (pe_lst (pa_cons (pv 10) (pa_cons (pe_cal GT hr pass0 (pa_cons (pv 7) (pa_cons (pv 1) (pa_cons pe_int pa_nil)))) (pa_cons (pe_cal GT hr pass0 (pa_cons (pv 7) (pa_cons (pv 1) (pa_cons pe_int pa_nil)))) pa_nil))))
        (pa_cons (pe_op op_rep (pe_lst (pa_cons (pv 13) pa_nil)) pe_int) pa_nil))))) pss_never pss_nil)
    (pss_cons (ps_cutS (ps_asg (pe_cal GL hr2 pass0 (pa_cons (pv 0) (pa_cons (pe_op op_cat (pv 2) (pe_lst (pa_cons (pv 6) (pa_cons (pe_cal GQ hr3 pass0 (pa_cons (pv 0) (pa_cons (pe_ix ix_list (pe_cal0 GK hr1 pass0) (pe_cal GN hr1 pass0 (pa_cons (pv 0) (pa_cons pe_int pa_nil))) (fun _ _ => rfl)) pa_nil))) pa_nil)))) pa_nil)))
        (pg_tup rfl (pgs_cons (pg_name (i := 7) nd rfl (Or.inl rfl)) (pgs_cons (pg_name (i := 8) nd rfl (Or.inl rfl)) pgs_nil)))))
    (pss_cons (ps_set (i := 13) nd rfl (Or.inl rfl) (pe_tup (pa_cons (pe_ix ix_list (pv 8) (pe_callB call_len_seq rfl T.len PySem.boot_len (pa_cons (pv 2) pa_nil)) (fun _ _ => rfl)) (pa_cons (pe_op op_add_str pe_str (pe_cal GJ hr1 pass0 (pa_cons (pv 9) pa_nil))) pa_nil))))
    (pss_cons (ps_if (pt_not (pt_val (pe_cal GE hr4 pass0 (pa_cons (pe_lst (pa_cons (pe_cal GT hr pass0 (pa_cons (pv 7) (pa_cons (pv 1) (pa_cons pe_int pa_nil)))) (pa_cons (pe_cal GT hr pass0 (pa_cons (pv 7) (pa_cons (pv 1) (pa_cons pe_int pa_nil)))) pa_nil)))
        (pa_cons (pe_op op_rep (pe_lst (pa_cons (pv 13) pa_nil)) pe_int) pa_nil))))) pss_never pss_nil)
    (pss_cons (ps_cutS (ps_asg (pe_cal GL hr2 pass0 (pa_cons (pv 0) (pa_cons (pe_op op_cat (pv 2) (pe_lst (pa_cons (pv 6) (pa_cons (pe_cal GP hr2 pass0 (pa_cons (pv 0) (pa_cons (pe_lst (pa_cons pe_str (pa_cons pe_str (pa_cons pe_str (pa_cons pe_str pa_nil))))) pa_nil))) pa_nil)))) pa_nil)))
        (pg_tup rfl (pgs_cons (pg_name (i := 7) nd rfl (Or.inl rfl)) (pgs_cons (pg_name (i := 8) nd rfl (Or.inl rfl)) pgs_nil)))))
    (pss_cons (ps_set (i := 13) nd rfl (Or.inl rfl) (pe_tup (pa_cons (pe_ix ix_list (pv 8) (pe_op op_add (pe_callB call_len_seq rfl T.len PySem.boot_len (pa_cons (pv 2) pa_nil)) pe_int) (fun _ _ => rfl)) (pa_cons pe_str pa_nil))))
    (pss_one (ps_ret (pe_cal GE hr4 pass0 (pa_cons (pe_lst (pa_cons (pe_cal GT hr pass0 (pa_cons (pv 7) (pa_cons (pv 1) (pa_cons pe_int pa_nil)))) (pa_cons (pe_cal GT hr pass0 (pa_cons (pv 7) (pa_cons (pv 1) (pa_cons pe_int pa_nil)))) pa_nil)))
        (pa_cons (pe_op op_rep (pe_lst (pa_cons (pv 13) pa_nil)) pe_int) pa_nil))))))))))))))))), ?_⟩
  have hW6 : Wk kd 6 ws st d := hW.more (by decide)
  have h81 := ordd_le (opts st d)
  have hbd := hW.bnd (by decide)
  have hll := lstS_le ((ordd (opts st d)).map Kd.shown) sh8 (by rw [List.length_map]; exact h81) (by rw [List.length_map]; exact ordd_opts st d)
  -- the kind and the token
  refine ⟨rfl, fun kp H1 nk s1 hkp => ?_⟩
  obtain ⟨⟨os, hos⟩, oa, hoa⟩ := hS.some
  have nks : kp ≠ s := (ne_of_none hos nk).symm
  refine ⟨_, rfl, s, a, 7, rfl, by decide, by decide, hS.grow s1, fun e0 H2 he0 he1 b2 hS2 => ?_⟩
  obtain ⟨k, hk7, hkf⟩ := kind7 he0 he1
  refine ⟨kp, _, e0, nmV k, rfl, rfl, SqL.of (b2 _ _ nks hkp), hk7, ?_⟩
  refine ⟨_, rfl, _, rfl, s, a, k, rfl, hkf, hS2, fun c f H3 hk b3 hS3 => ?_⟩
  obtain ⟨_, hc32, hc10, _⟩ := kc_facts hk
  have B3 : But s H H3 := ((But.of s1).trans b2).trans b3
  refine ⟨fun σ' H' => ∃ (t : Str) (pl : Addr) (cols : List Int), σ' = [some (.ref s), some (.str kd), some (.ref wl), some (.str st.nm), some (.int d), some (nmV k), some (chV c), some (.str t), some (.ref pl), none, none, none, none, none] ∧ But s H H' ∧ SmAt H' s a ∧ H' pl = some (.lst ((cols ++ [(t.length : Int) + 1]).map V.int)) ∧ Laid t (ws ++ [c]) cols, ?_, ?_⟩
  · refine ⟨_, rfl, _, rfl, _, rfl, (by show 1 ≤ sizeLine; decide), fun p1 n1 => ?_⟩
    have hwl3 := B3 _ _ hne hwl
    refine ⟨wl, p1, _, _, rfl, rfl, same_new n1 _ _ _ hwl3, upd_same, szl (by rw [List.length_map, List.length_singleton]; omega), fun p2 n2 => ?_⟩
    obtain ⟨⟨o3, ho3⟩, _⟩ := hS3.some
    have S2 := (same_new n1 (.lst [chV c])).trans (same_new n2 (.lst (ws.map chV ++ [chV c])))
    refine ⟨s, a, p2, ws ++ [c], rfl, hS3.grow S2, ?_, (ne_of_none (same_new n1 _ _ _ ho3) n2).symm, ?_, codes_app hW6 (fun x hx => by rw [List.mem_singleton] at hx; rw [hx]; exact ⟨hc32, hc10⟩), fun p pl t cols H4 b4 hS4 hp hpl hL => ?_⟩
    · rw [upd_same, List.map_append]
      rfl
    · rw [List.length_append, List.length_singleton]
      omega
    exact ⟨p, _, rfl, SqT.of hp, rfl, _, _, rfl, _, _, rfl, rfl, t, pl, cols, rfl, (B3.trans (But.of S2)).trans b4, hS4, hpl, hL⟩
  rintro σ' H4 ⟨t, pl, cols, rfl, b4, hS4, hpl, hL⟩
  refine ⟨_, rfl, _, rfl, st, d, rfl, fun dq H5 ndq s5 hdq => ?_⟩
  have hwl5 := s5 _ _ (b4 _ _ hne hwl)
  have hpl5 := s5 _ _ hpl
  have ln1 : (ws ++ [c]).length = ws.length + 1 := by rw [List.length_append, List.length_singleton]
  by_cases ho : (opts st d).contains k = true
  · -- it can come
    have hWc : Wk kd 6 (ws ++ [c]) (stp (st, d) k).1 (stp (st, d) k).2 := .snoc hW6 hk ho (fun _ => by omega) rfl
    refine ⟨_, rfl, _, rfl, t, kd, 0, rfl, hkd, told_ws hWc hL (by omega) (fun _ p H6 s6 hp => ?_) (fun z => absurd rfl z) (fun z => absurd rfl z)⟩
    refine ⟨_, rfl, _, rfl, _, rfl, st, d, rfl, fun op H7 nop s7 hop => ?_⟩
    have hin : inV (nmV k) ((opts st d).map nmV) = true := by rw [inV_nm]; exact ho
    refine ⟨op, _, rfl, .inl (SqL.of hop), rfl, flat_nm _, true, congrArg V.bl hin, iteT ?_⟩
    refine ⟨_, rfl, _, rfl, _, rfl, st, d, k, rfl, fun p8 H8 s8 hp8 => ?_⟩
    refine ⟨p8, _, rfl, SqT.of hp8, rfl, _, _, rfl, _, _, rfl, rfl, ?_⟩
    refine ⟨_, rfl, _, rfl, _, rfl, (stp (st, d) k).1, (stp (st, d) k).2, rfl, fun d2 H9 n9 s9 hd2 => ?_⟩
    have h82 := ordd_le (opts (stp (st, d) k).1 (stp (st, d) k).2)
    refine ⟨.ref p, .ref d2, rfl, eqv_strs (s9 _ _ (s8 _ _ (s7 _ _ hp))) hd2 (by omega), fun H10 s10 => ?_⟩
    have sall := (((((s5.trans s6).trans s7).trans s8).trans s9).trans s10)
    exact q H10 (b4.trans (But.of sall)) (hS4.grow sall)
  -- it cannot
  have ho' : (opts st d).contains k = false := Bool.eq_false_iff.mpr ho
  obtain ⟨co, hco, hat⟩ := col_at (e := (t.length : Int) + 1) hL (i := ws.length) (by omega)
  have hat2 : atI ((cols ++ [(t.length : Int) + 1]).map V.int) (((ws.map chV).length : Nat) : Int) = some (.int co) := by rw [List.length_map]; exact hat
  refine ⟨_, rfl, _, rfl, t, kd, 0, rfl, hkd, told_bad hW6 hL hfew (Nat.zero_le _) (fun x hx => absurd hx List.not_mem_nil) hk ho' hco (fun p H6 s6 hp => ?_)⟩
  refine ⟨_, rfl, _, rfl, _, rfl, st, d, rfl, fun op H7 nop s7 hop => ?_⟩
  have hin : inV (nmV k) ((opts st d).map nmV) = false := by rw [inV_nm]; exact ho'
  refine ⟨op, _, rfl, .inl (SqL.of hop), rfl, flat_nm _, false, congrArg V.bl hin, iteF ?_⟩
  have s57 := s6.trans s7
  -- the problem
  refine ⟨_, rfl, _, rfl, wl, _, rfl, .inl (SqL.of (s57 _ _ hwl5)), pl, _, _, .int co, rfl, rfl, SqL.of (s57 _ _ hpl5), hat2, ?_⟩
  refine ⟨_, rfl, dq, (ordd (opts st d)).map Kd.shown, rfl, SqL.of (by rw [← lst_sh]; exact s57 _ _ hdq), by rw [List.length_map]; exact ordd_opts st d, by rw [List.length_map]; exact h81, sh8, fun H8 s8 => ?_⟩
  refine ⟨_, _, rfl, rfl, szl ?_, ?_⟩
  · have e9 := exp_len
    unfold expected at e9
    rw [e9]
    omega
  refine ⟨(by show 2 ≤ sizeLine; decide), fun pr npr => ?_⟩
  have s58 := (s57.trans s8).trans (same_new npr (.tup [.int co, .str (words (opts st d))]))
  have hp8 := same_new npr (.tup [.int co, .str (words (opts st d))]) _ _ (s8 _ _ (s7 _ _ hp))
  have hpr : (upd H8 pr (.tup [.int co, .str (words (opts st d))])) pr = some (.tup [.int co, .str (words (opts st d))]) := upd_same
  -- the three
  refine ⟨_, rfl, _, rfl, _, rfl, t, kd, 1, rfl, hkd, told_bad hW6 hL hfew (Nat.zero_le _) (fun x hx => absurd hx List.not_mem_nil) hk ho' hco (fun p1 H9 s9 hp1 => ?_)⟩
  refine ⟨_, rfl, _, rfl, t, kd, 2, rfl, hkd, told_bad hW6 hL hfew (Nat.zero_le _) (fun x hx => absurd hx List.not_mem_nil) hk ho' hco (fun p2 H10 s10 hp2 => ?_)⟩
  refine ⟨(by show 3 ≤ sizeLine; decide), fun p3 n3 => ?_⟩
  refine ⟨_, rfl, (by show 1 ≤ sizeLine; decide), fun p4 n4 => ?_⟩
  refine ⟨p4, 3, _, rfl, rfl, upd_same, by decide, by decide, (by show 1 * (3 : Int).toNat ≤ sizeLine; decide), fun p5 n5 => ?_⟩
  have s11 := ((same_new n3 (.lst [.ref p, .ref p1, .ref p2])).trans (same_new n4 (.lst [.ref pr]))).trans (same_new n5 (.lst (List.replicate (3 : Int).toNat [V.ref pr]).flatten))
  refine ⟨.ref p3, .ref p5, rfl, eqv_3 (same_new n5 _ _ _ (same_new n4 _ _ _ upd_same)) upd_same (s11 _ _ (s10 _ _ (s9 _ _ hp8))) (s11 _ _ (s10 _ _ hp1)) (s11 _ _ hp2) (s11 _ _ (s10 _ _ (s9 _ _ hpr))), fun H12 s12 => ?_⟩
  refine ⟨true, rfl, iteF ?_⟩
  have S12 : Same H4 H12 := ((((s5.trans s58).trans s9).trans s10).trans s11).trans s12
  have hdq12 : H12 dq = _ := s12 _ _ (s11 _ _ (s10 _ _ (s9 _ _ (s58 _ _ hdq))))
  have B12 : But s H H12 := b4.trans (But.of S12)
  have hS12 := hS4.grow S12
  have hwl12 := B12 _ _ hne hwl
  clear hpl5 hwl5 hat2 hat
  -- one more token behind it
  refine ⟨fun σ' H' => ∃ (t : Str) (pl : Addr) (cols : List Int) (c1 : Nat), σ' = [some (.ref s), some (.str kd), some (.ref wl), some (.str st.nm), some (.int d), some (nmV k), some (chV c), some (.str t), some (.ref pl), some (.ref dq), some (.ref p), none, none, some (.ref pr)] ∧ But s H12 H' ∧ SmAt H' s a ∧ H' pl = some (.lst ((cols ++ [(t.length : Int) + 1]).map V.int)) ∧ Laid t (ws ++ [c, c1]) cols ∧ kc c1 ≠ none, ?_, ?_⟩
  · obtain ⟨⟨o12, ho12⟩, _⟩ := hS12.some
    refine ⟨_, rfl, _, rfl, _, rfl, _, rfl, rfl, fun kp2 H1 nk2 s1 hkp2 => ?_⟩
    have nks2 : kp2 ≠ s := (ne_of_none ho12 nk2).symm
    refine ⟨_, rfl, s, a, 7, rfl, by decide, by decide, hS12.grow s1, fun e2 H2 he0 he1 b2 hS2 => ?_⟩
    obtain ⟨k2, hk72, hkf2⟩ := kind7 he0 he1
    refine ⟨kp2, _, e2, nmV k2, rfl, rfl, SqL.of (b2 _ _ nks2 hkp2), hk72, ?_⟩
    refine ⟨s, a, k2, rfl, hkf2, hS2, fun c1 f1 H3 hk1 b3 hS3 => ?_⟩
    obtain ⟨_, g32, g10, _⟩ := kc_facts hk1
    have C3 : But s H12 H3 := ((But.of s1).trans b2).trans b3
    refine ⟨(by show 2 ≤ sizeLine; decide), fun q1 m1 => ?_⟩
    refine ⟨wl, q1, _, _, rfl, rfl, same_new m1 _ _ _ (C3 _ _ hne hwl12), upd_same, szl (by rw [List.length_map]; show _ + 2 ≤ _; omega), fun q2 m2 => ?_⟩
    obtain ⟨⟨o3, ho3⟩, _⟩ := hS3.some
    have S2 := (same_new m1 (.lst [chV c, chV c1])).trans (same_new m2 (.lst (ws.map chV ++ [chV c, chV c1])))
    refine ⟨s, a, q2, ws ++ [c, c1], rfl, hS3.grow S2, ?_, (ne_of_none (same_new m1 _ _ _ ho3) m2).symm, ?_, codes_app hW6 (fun x hx => ?_), fun p pl t cols H4 b4 hS4 hp hpl hL => ?_⟩
    · rw [upd_same, List.map_append]
      rfl
    · rw [List.length_append]
      show _ + 2 ≤ _
      omega
    · rcases List.mem_cons.mp hx with e | hx
      · rw [e]; exact ⟨hc32, hc10⟩
      · rw [List.mem_singleton] at hx
        rw [hx]; exact ⟨g32, g10⟩
    exact ⟨p, _, rfl, SqT.of hp, rfl, _, _, rfl, _, _, rfl, rfl, t, pl, cols, c1, rfl, (C3.trans (But.of S2)).trans b4, hS4, hpl, hL, (by rw [hk1]; exact (fun z => by cases z))⟩
  rintro σ' H13 ⟨t2, pl2, cols2, c1, rfl, b13, hS13, hpl2, hL2, hc1⟩
  obtain ⟨⟨o4, ho4⟩, _⟩ := hS4.some
  have ndqs : dq ≠ s := (ne_of_none ho4 ndq).symm
  have hdq13 := b13 _ _ ndqs hdq12
  have hwl13 := b13 _ _ hne hwl12
  obtain ⟨co2, hco2, hat4⟩ := col_at (e := (t2.length : Int) + 1) hL2 (i := ws.length) (by rw [List.length_append]; show _ < _ + 2; omega)
  have hat5 : atI ((cols2 ++ [(t2.length : Int) + 1]).map V.int) (((ws.map chV).length : Nat) : Int) = some (.int co2) := by rw [List.length_map]; exact hat4
  refine ⟨_, rfl, _, rfl, wl, _, rfl, .inl (SqL.of hwl13), pl2, _, _, .int co2, rfl, rfl, SqL.of hpl2, hat5, ?_⟩
  refine ⟨_, rfl, dq, (ordd (opts st d)).map Kd.shown, rfl, SqL.of (by rw [← lst_sh]; exact hdq13), by rw [List.length_map]; exact ordd_opts st d, by rw [List.length_map]; exact h81, sh8, fun H14 s14 => ?_⟩
  refine ⟨_, _, rfl, rfl, szl ?_, ?_⟩
  · have e9 := exp_len
    unfold expected at e9
    rw [e9]
    omega
  refine ⟨(by show 2 ≤ sizeLine; decide), fun pz npz => ?_⟩
  have s15 := s14.trans (same_new npz (.tup [.int co2, .str (words (opts st d))]))
  have hpz : (upd H14 pz (.tup [.int co2, .str (words (opts st d))])) pz = some (.tup [.int co2, .str (words (opts st d))]) := upd_same
  have hr1c : ∀ x ∈ [c1], kc x ≠ none := fun x hx => by rw [List.mem_singleton] at hx; rw [hx]; exact hc1
  refine ⟨_, rfl, _, rfl, t2, kd, 0, rfl, hkd, told_bad hW6 hL2 hfew (Nat.le_refl _) hr1c hk ho' hco2 (fun y1 H16 s16 hy1 => ?_)⟩
  refine ⟨_, rfl, _, rfl, t2, kd, 1, rfl, hkd, told_bad hW6 hL2 hfew (Nat.le_refl _) hr1c hk ho' hco2 (fun y2 H17 s17 hy2 => ?_)⟩
  refine ⟨(by show 2 ≤ sizeLine; decide), fun y3 g3 => ?_⟩
  refine ⟨_, rfl, (by show 1 ≤ sizeLine; decide), fun y4 g4 => ?_⟩
  refine ⟨y4, 2, _, rfl, rfl, upd_same, by decide, by decide, (by show 1 * (2 : Int).toNat ≤ sizeLine; decide), fun y5 g5 => ?_⟩
  have s18 := ((same_new g3 (.lst [.ref y1, .ref y2])).trans (same_new g4 (.lst [.ref pz]))).trans (same_new g5 (.lst (List.replicate (2 : Int).toNat [V.ref pz]).flatten))
  refine ⟨.ref y3, .ref y5, rfl, eqv_2 (same_new g5 _ _ _ (same_new g4 _ _ _ upd_same)) upd_same (s18 _ _ (s17 _ _ hy1)) (s18 _ _ hy2) (s18 _ _ (s17 _ _ (s16 _ _ hpz))), fun H19 s19 => ?_⟩
  refine ⟨true, rfl, iteF ?_⟩
  have S19 : Same H13 H19 := (((s15.trans s16).trans s17).trans s18).trans s19
  have B19 : But s H12 H19 := b13.trans (But.of S19)
  have hS19 := hS13.grow S19
  have hwl19 := B19 _ _ hne hwl12
  -- a sign that is no token
  refine ⟨fun σ' H' => ∃ (t : Str) (pl : Addr) (cols : List Int) (b : Nat), σ' = [some (.ref s), some (.str kd), some (.ref wl), some (.str st.nm), some (.int d), some (nmV k), some (chV c), some (.str t), some (.ref pl), some (.ref dq), some (.ref p), none, none, some (.ref pz)] ∧ But s H19 H' ∧ SmAt H' s a ∧ H' pl = some (.lst ((cols ++ [(t.length : Int) + 1]).map V.int)) ∧ Laid t (ws ++ [c, b]) cols ∧ kc b = none, ?_, ?_⟩
  · obtain ⟨⟨o19, ho19⟩, _⟩ := hS19.some
    refine ⟨_, rfl, _, rfl, _, rfl, _, rfl, (by show 4 ≤ sizeLine; decide), fun pk npk => ?_⟩
    refine ⟨s, a, pk, _, rfl, hS19.grow (same_new npk _), upd_same, (ne_of_none ho19 npk).symm, (by decide), (by decide), fun i v H3 hv b3 hS3 => ?_⟩
    obtain ⟨b, rfl, hkb, g32, g10⟩ := pick4 hv
    have C3 : But s H19 H3 := (But.of (same_new npk _)).trans b3
    refine ⟨(by show 2 ≤ sizeLine; decide), fun q1 m1 => ?_⟩
    refine ⟨wl, q1, _, _, rfl, rfl, same_new m1 _ _ _ (C3 _ _ hne hwl19), upd_same, szl (by rw [List.length_map]; show _ + 2 ≤ _; omega), fun q2 m2 => ?_⟩
    obtain ⟨⟨o3, ho3⟩, _⟩ := hS3.some
    have S2 := (same_new m1 (.lst [chV c, chV b])).trans (same_new m2 (.lst (ws.map chV ++ [chV c, chV b])))
    refine ⟨s, a, q2, ws ++ [c, b], rfl, hS3.grow S2, ?_, (ne_of_none (same_new m1 _ _ _ ho3) m2).symm, ?_, codes_app hW6 (fun x hx => ?_), fun p pl t cols H4 b4 hS4 hp hpl hL => ?_⟩
    · rw [upd_same, List.map_append]
      rfl
    · rw [List.length_append]
      show _ + 2 ≤ _
      omega
    · rcases List.mem_cons.mp hx with e | hx
      · rw [e]; exact ⟨hc32, hc10⟩
      · rw [List.mem_singleton] at hx
        rw [hx]; exact ⟨g32, g10⟩
    exact ⟨p, _, rfl, SqT.of hp, rfl, _, _, rfl, _, _, rfl, rfl, t, pl, cols, b, rfl, (C3.trans (But.of S2)).trans b4, hS4, hpl, hL, hkb⟩
  rintro σ' H20 ⟨t3, pl3, cols3, b, rfl, b20, hS20, hpl3, hL3, hkb⟩
  have hwl20 := b20 _ _ hne hwl19
  obtain ⟨co3, hco3, hat6⟩ := col_at (e := (t3.length : Int) + 1) hL3 (i := ws.length + 1) (by rw [List.length_append]; show _ < _ + 2; omega)
  have hat7 : atI ((cols3 ++ [(t3.length : Int) + 1]).map V.int) ((((ws.map chV).length : Nat) : Int) + 1) = some (.int co3) := by rw [List.length_map]; exact hat6
  refine ⟨_, rfl, _, rfl, wl, _, rfl, .inl (SqL.of hwl20), _, _, rfl, rfl, pl3, _, _, .int co3, rfl, rfl, SqL.of hpl3, hat7, ?_⟩
  refine ⟨(by show 2 ≤ sizeLine; decide), fun pz3 npz3 => ?_⟩
  have s21 := same_new npz3 (.tup [.int co3, .str noTok])
  have hpz3 : (upd H20 pz3 (.tup [.int co3, .str noTok])) pz3 = some (.tup [.int co3, .str noTok]) := upd_same
  refine ⟨_, rfl, _, rfl, t3, kd, 0, rfl, hkd, told_scan hW6 hL3 hfew hk hkb hco3 (fun y1 H22 s22 hy1 => ?_)⟩
  refine ⟨_, rfl, _, rfl, t3, kd, 1, rfl, hkd, told_scan hW6 hL3 hfew hk hkb hco3 (fun y2 H23 s23 hy2 => ?_)⟩
  refine ⟨(by show 2 ≤ sizeLine; decide), fun y3 g3 => ?_⟩
  refine ⟨_, rfl, (by show 1 ≤ sizeLine; decide), fun y4 g4 => ?_⟩
  refine ⟨y4, 2, _, rfl, rfl, upd_same, by decide, by decide, (by show 1 * (2 : Int).toNat ≤ sizeLine; decide), fun y5 g5 => ?_⟩
  have s24 := ((same_new g3 (.lst [.ref y1, .ref y2])).trans (same_new g4 (.lst [.ref pz3]))).trans (same_new g5 (.lst (List.replicate (2 : Int).toNat [V.ref pz3]).flatten))
  refine ⟨.ref y3, .ref y5, rfl, eqv_2 (same_new g5 _ _ _ (same_new g4 _ _ _ upd_same)) upd_same (s24 _ _ (s23 _ _ hy1)) (s24 _ _ hy2) (s24 _ _ (s23 _ _ (s22 _ _ hpz3))), fun H25 s25 => ?_⟩
  have S25 : Same H20 H25 := (((s21.trans s22).trans s23).trans s24).trans s25
  exact q H25 (((B12.trans B19).trans b20).trans (But.of S25)) (hS20.grow S25)
end
end N75
/-! law. -/
namespace N75
open PySem L2
/-- may the walk go on so -/
def keepK (st : Stt) (d : Int) (k : Kd) : Bool := (opts st d).contains k && ((!decide (k = .fin)) && (decide (d < 5) || (!decide (k = .lp))))
def walkK (st : Stt) (d : Int) : List Kd := allK.filter (keepK st d)
theorem keep_step (st : Stt) (d : Int) {i : Nat} {k : Kd} (hk : allK[i]? = some k) : (allK.take (i + 1)).filter (keepK st d) = (allK.take i).filter (keepK st d) ++ (if keepK st d k = true then [k] else []) := by
  rw [take_snoc hk, List.filter_append, filter_one]
theorem dec_nm (k b : Kd) {x : Str} (hx : x = b.nm) : decide (nmV k = V.str x) = decide (k = b) := decide_eq_decide.mpr (knm_is b hx)
section
variable {P : Program} {w : World} {K : PySem.W.Frag} {mg : Str → Option Value} {base : Heap} {cT cA cP : Addr}
def spLaw (K : PySem.W.Frag) : Sp := fun vs H Q _ => ∃ (a : Addr) (ms : List Int), vs = [.ref a] ∧ SqL K H a (ms.map V.int) ∧ ∀ H', Q (.bl true) H'
theorem scLaw : FnScope ["_law_script", "_law_stream_here", "_law_kind", "_law_state", "_law_depth", "_law_words", "_law_turn", "_law_options_here", "_law_word", "_law_one"] ["_law_script"] (defScope sLaw) := ⟨rfl, rfl, rfl, by decide +kernel, rfl, by decide +kernel, by decide +kernel⟩
theorem ok_law {f : Addr} {fd : FuncData} (F : Fun K "law" "law" sLaw f fd) (T : Txt K mg)
    (GM : Cal P w K mg base CX0 1 "_law_stream" ["_law_script"] (spStream K)) (GN : Cal P w K mg base CX0 1 "_law_next" ["_law_stream_here", "_law_many"] spDraw) (GK : Cal P w K mg base CX0 1 "_law_kinds" [] spKinds)
    (GP : Cal P w K mg base CX0 2 "_law_pick" ["_law_stream_here", "_law_rows"] spPick) (GQ : Cal P w K mg base CX0 3 "_law_token" ["_law_stream_here", "_law_kind"] spToken)
    (GO : Cal P w K mg base CX0 1 "_law_options" ["_law_state", "_law_depth"] spOptions) (GS : Cal P w K mg base CX0 1 "_law_step" ["_law_state", "_law_depth", "_law_kind"] spStep)
    (GR : Cal P w K mg base CX0 28 "_law_is_right" ["_law_stream_here", "_law_kind", "_law_words", "_law_state", "_law_depth"] spRight) (GG : Cal P w K mg base CX0 28 "_law_goes_on" ["_law_stream_here", "_law_kind", "_law_words", "_law_state", "_law_depth"] spRight) :
    FnOk P w K mg base CX0 29 f fd ["_law_script"] (spLaw K) := by
  refine F.ok scLaw (fun vs H Q E h => ?_) (fun cdv A outer s0 H vs Q E hr h => ?_)
  · obtain ⟨_, _, rfl, _⟩ := h
    rfl
  obtain ⟨a0, ms, rfl, hx, q⟩ := h
  have hr1 : Room 1 _ := hr.mono (by decide)
  have hr2 : Room 2 _ := hr.mono (by decide)
  have hr3 : Room 3 _ := hr.mono (by decide)
  have hr28 : Room 28 _ := hr.mono (by decide)
  have nd := scLaw.nd
  refine ⟨_, pss_cons (ps_set (i := 1) nd rfl (Or.inl rfl) (pe_cal GM hr1 pass0 (pa_cons (pv 0) pa_nil)))
    (pss_cons (ps_cutS (ps_set (i := 2) nd rfl (Or.inl rfl) (pe_cal GP hr2 pass0 (pa_cons (pv 1) (pa_cons (pe_lst (pa_cons pe_str (pa_cons pe_str (pa_cons pe_str pa_nil)))) pa_nil)))))
    (pss_cons (ps_cutS (ps_set (i := 3) nd rfl (Or.inr rfl) (pe_ifExp (pt_cmpR op_eq (pv 2) pe_str (nomark _)) pe_str pe_str)))
    (pss_cons (ps_set (i := 4) nd rfl (Or.inr rfl) pe_int)
    (pss_cons (ps_set (i := 5) nd rfl (Or.inl rfl) (pe_lst pa_nil))
    (pss_cons (ps_for PassesOwn.never rfl (pi_range1 rfl T.range (pa_cons (pe_cal GN hr1 pass0 (pa_cons (pv 1) (pa_cons pe_int pa_nil))) pa_nil)) (pg_name (i := 6) nd rfl (Or.inl rfl))
      (pss_cons (ps_if (pt_not (pt_val (pe_cal GR hr28 pass0 (pa_cons (pv 1) (pa_cons (pv 2) (pa_cons (pv 5) (pa_cons (pv 3) (pa_cons (pv 4) pa_nil)))))))) pss_never pss_nil)
      (pss_cons (ps_cutS (ps_setLc (i := 7) (own := [("_law_one", 9)]) (g := gName 9) (tt := tAnd (tTest (tOp (rIn K false) (tVar 9) (tCall spOptions [] E0 (tCons (tVar 3) (tCons (tVar 4) tNil))))) (tAnd (tTest (tOp rNe (tVar 9) (tC (.str "end")))) (tOr (tTest (tOp (rI0 fun i j => V.bl (decide (i < j))) (tVar 4) (tC (.int 5)))) (tTest (tOp rNe (tVar 9) (tC (.str "("))))))) rfl nd rfl rfl (sw_true rfl rfl rfl (by decide +kernel)) (pi_list (pe_cal0 GK hr1 pass0))
          (blkOk_by (own := [("_law_one", 9)]) (N := ["_law_script", "_law_stream_here", "_law_kind", "_law_state", "_law_depth", "_law_words", "_law_turn", "_law_options_here", "_law_word", "_law_one"]) (sc := defScope sLaw) (by decide +kernel)) (fun _ _ _ _ _ => pg_name (i := 9) nd rfl (Or.inl rfl))
          (fun _ _ _ _ _ => pts_one (PW.pt (pw_and (pt_cmpR op_in_seq (pv 9) (pe_cal GO hr1 pass0 (pa_cons (pv 3) (pa_cons (pv 4) pa_nil))) (by rfl)) (pw_and (pt_cmpR op_ne (pv 9) pe_str (nomark _)) (pw_and1 (PW.pt (pw_or (pt_cmpR op_lt (pv 4) pe_int (nomark _)) (pw_or1 (pt_cmpR op_ne (pv 9) pe_str (nomark _)))))))))) (fun _ _ _ _ _ => pv 9)))
      (pss_one (ps_if (pt_truth (pv 7) (fun _ => rfl))
        (pss_cons (ps_set (i := 8) nd rfl (Or.inl rfl) (pe_cal GP hr2 pass0 (pa_cons (pv 1) (pa_cons (pv 7) pa_nil))))
        (pss_cons (ps_expr (pe_bm PySem.F.plainAttrs_list PySem.F.slot_list_append PySem.F.type_list_append mt_append (pv 5) (pa_cons (pe_cal GQ hr3 pass0 (pa_cons (pv 1) (pa_cons (pv 8) pa_nil))) pa_nil)))
        (pss_one (ps_asg (pe_cal GS hr1 pass0 (pa_cons (pv 3) (pa_cons (pv 4) (pa_cons (pv 8) pa_nil)))) (pg_tup rfl (pgs_cons (pg_name (i := 3) nd rfl (Or.inr rfl)) (pgs_cons (pg_name (i := 4) nd rfl (Or.inr rfl)) pgs_nil))))))) pss_nil)))))
    (pss_one (ps_ret (pe_and (pe_cal GR hr28 pass0 (pa_cons (pv 1) (pa_cons (pv 2) (pa_cons (pv 5) (pa_cons (pv 3) (pa_cons (pv 4) pa_nil)))))) (pe_one (pe_cal GG hr28 pass0 (pa_cons (pv 1) (pa_cons (pv 2) (pa_cons (pv 5) (pa_cons (pv 3) (pa_cons (pv 4) pa_nil))))))))))))))), ?_⟩
  refine ⟨_, rfl, a0, ms, rfl, hx, fun s a H1 ns na s1 hS => ?_⟩
  -- the kind
  refine ⟨fun σ' H' => ∃ kd : Str, σ' = [some (.ref a0), some (.ref s), some (.str kd), none, none, none, none, none, none, none] ∧ (kd = sExpr ∨ kd = sWrd) ∧ SmAt H' s a, ?_, ?_⟩
  · refine ⟨_, rfl, (by show 3 ≤ sizeLine; decide), fun p np => ?_⟩
    obtain ⟨⟨o, ho⟩, _⟩ := hS.some
    refine ⟨s, a, p, _, rfl, hS.grow (same_new np _), upd_same, (ne_of_none ho np).symm, (by decide), (by decide), fun i v H' hv b' hS' => ?_⟩
    match i, hv with
    | 0, hv => cases hv; exact ⟨_, rfl, .inl rfl, hS'⟩
    | 1, hv => cases hv; exact ⟨_, rfl, .inl rfl, hS'⟩
    | 2, hv => cases hv; exact ⟨_, rfl, .inr rfl, hS'⟩
    | i + 3, hv => simp at hv
  rintro σ' H2 ⟨kd, rfl, hkd, hS2⟩
  refine ⟨fun σ' H' => σ' = [some (.ref a0), some (.ref s), some (.str kd), some (.str (stOf kd).1.nm), none, none, none, none, none, none] ∧ H' = H2, ?_, ?_⟩
  · refine ⟨_, rfl, rfl, _, rfl, ite2 (fun h => ?_) (fun h => ?_)⟩
    · have e : kd = sExpr := by
        have z := of_decide_eq_true h
        injection z
      rw [e]
      exact ⟨rfl, rfl⟩
    · have e : ¬ kd = sExpr := fun z => of_decide_eq_false (Bool.eq_false_iff.mpr h) (by rw [z])
      have e2 : stOf kd = (.word, 0) := if_neg e
      rw [e2]
      exact ⟨rfl, rfl⟩
  rintro σ' H' ⟨rfl, rfl⟩
  refine ⟨Nat.zero_le _, fun wl nwl => ?_⟩
  obtain ⟨⟨os, hos⟩, oa, hoa⟩ := hS2.some
  have nsw : s ≠ wl := ne_of_none hos nwl
  have naw : a ≠ wl := ne_of_none hoa nwl
  refine ⟨_, rfl, s, a, 21, rfl, by decide, by decide, hS2.grow (same_new nwl _), fun n H3 hn0 hn1 b3 hS3 => ?_⟩
  have hwl3 := b3 _ _ nsw.symm upd_same
  refine ⟨n, rfl, by omega, by omega, ?_⟩
  refine for_range (lo := 0) (n := n.toNat) (fun i σ H' => ∃ (st : Stt) (d : Int) (ws : List Nat) (v6 v7 v8 : Option V), σ = [some (.ref a0), some (.ref s), some (.str kd), some (.str st.nm), some (.int d), some (.ref wl), v6, v7, v8, none] ∧ SmAt H' s a ∧ H' wl = some (.lst (ws.map chV)) ∧ Wk kd 5 ws st d ∧ ws.length ≤ i)
    ⟨(stOf kd).1, 0, [], none, none, none, rfl, hS3, hwl3, .nil, Nat.le_refl _⟩ ?_ ?_
  · rintro i σ H4 hi ⟨st, d, ws, v6, v7, v8, rfl, hS4, hwl4, hW, hlen⟩
    refine ⟨_, rfl, _, rfl, _, rfl, _, rfl, _, rfl, s, a, wl, kd, st, d, ws, rfl, hkd, hS4, hwl4, nsw.symm, hW, by omega, fun H5 b5 hS5 => ?_⟩
    refine ⟨true, rfl, iteF ?_⟩
    have hwl5 := b5 _ _ nsw.symm hwl4
    refine ⟨fun σ' H' => ∃ (ol : Addr), σ' = [some (.ref a0), some (.ref s), some (.str kd), some (.str st.nm), some (.int d), some (.ref wl), some (.int (0 + (i : Int))), some (.ref ol), v8, none] ∧ Same H5 H' ∧ H5 ol = none ∧ H' ol = some (.lst ((walkK st d).map nmV)), ?_, ?_⟩
    · refine ⟨rfl, fun kk H6 nk s6 hkk => ?_⟩
      refine ⟨kk, rfl, ⟨_, SqL.of hkk⟩, fun D nD => ?_⟩
      have nkD : kk ≠ D := ne_of_none hkk nD
      refine lc_list (K := K) (a := kk) (xs := allK.map nmV) (fun j H' => But D H6 H' ∧ H' D = some (.lst (((allK.take j).filter (keepK st d)).map nmV)) ∧ j ≤ 8) ⟨But.refl.upd _, upd_same, Nat.zero_le _⟩
        (fun j H' _ h => SqL.of (h.1 _ _ nkD hkk)) ?_ ?_
      · rintro j x H7 hx ⟨k7, d7, hj⟩
        rw [List.getElem?_map] at hx
        cases hk : allK[j]? with
        | none => rw [hk] at hx; cases hx
        | some k =>
          rw [hk] at hx
          have hx2 : nmV k = x := Option.some.inj hx
          subst hx2
          have hj2 : j < 8 := (List.getElem?_eq_some_iff.mp hk).1
          have e1 := keep_step st d hk
          have no : ∀ H', But D H6 H' → H' D = some (.lst (((allK.take j).filter (keepK st d)).map nmV)) → keepK st d k = false → But D H6 H' ∧ H' D = some (.lst (((allK.take (j + 1)).filter (keepK st d)).map nmV)) ∧ j + 1 ≤ 8 := fun H' kb hd hf => by
            refine ⟨kb, ?_, hj2⟩
            rw [e1, hf, if_neg (fun z => by cases z), List.append_nil]
            exact hd
          have yes : ∀ H', But D H6 H' → H' D = some (.lst (((allK.take j).filter (keepK st d)).map nmV)) → keepK st d k = true → But D H6 (upd H' D (.lst (((allK.take j).filter (keepK st d)).map nmV ++ [nmV k]))) ∧ (upd H' D (.lst (((allK.take j).filter (keepK st d)).map nmV ++ [nmV k]))) D = some (.lst (((allK.take (j + 1)).filter (keepK st d)).map nmV)) ∧ j + 1 ≤ 8 := fun H' kb hd hf => by
            refine ⟨kb.upd _, ?_, hj2⟩
            rw [upd_same, e1, if_pos hf, List.map_append]
            rfl
          have sz : (((allK.take j).filter (keepK st d)).map nmV).length < sizeLine := szl (by
            rw [List.length_map]
            refine Nat.le_trans (Nat.succ_le_succ (List.length_filter_le _ _)) ?_
            rw [List.length_take]
            omega)
          refine ⟨rfl, ?_⟩
          refine ⟨_, rfl, _, rfl, _, rfl, st, d, rfl, fun op H8 nop s8 hop => ?_⟩
          have k8 : But D H6 H8 := k7.trans (But.of s8)
          have d8 := s8 _ _ d7
          refine ⟨op, _, rfl, .inl (SqL.of hop), rfl, flat_nm _, _, rfl, ?_⟩
          rw [inV_nm]
          cases h1 : (opts st d).contains k with
          | false =>
            refine iteF (iteF (no _ k8 d8 ?_))
            unfold keepK
            rw [h1, Bool.false_and]
          | true =>
            refine iteT ?_
            refine ⟨_, rfl, rfl, _, rfl, ?_⟩
            by_cases h2 : k = .fin
            · have z : (!decide (nmV k = V.str "end")) = false := by rw [dec_nm k .fin (x := "end") rfl, decide_eq_true h2]; rfl
              rw [z]
              refine iteF (iteF (no _ k8 d8 ?_))
              unfold keepK
              rw [decide_eq_true h2, Bool.not_true, Bool.false_and, Bool.and_false]
            · have z : (!decide (nmV k = V.str "end")) = true := by rw [dec_nm k .fin (x := "end") rfl, decide_eq_false h2]; rfl
              rw [z]
              refine iteT ?_
              refine ⟨_, rfl, _, _, rfl, rfl, _, rfl, ?_⟩
              by_cases h3 : d < 5
              · rw [decide_eq_true h3]
                refine iteT (iteT ?_)
                refine ⟨_, rfl, _, d8, sz, yes _ k8 d8 ?_⟩
                unfold keepK
                rw [h1, decide_eq_false h2, decide_eq_true h3]
                rfl
              · rw [decide_eq_false h3]
                refine iteF ?_
                refine ⟨_, rfl, rfl, _, rfl, ?_⟩
                by_cases h4 : k = .lp
                · have z : (!decide (nmV k = V.str "(")) = false := by rw [dec_nm k .lp (x := "(") rfl, decide_eq_true h4]; rfl
                  rw [z]
                  refine iteF (no _ k8 d8 ?_)
                  unfold keepK
                  rw [decide_eq_true h4, decide_eq_false h3, Bool.not_true, Bool.or_false, Bool.and_false, Bool.and_false]
                · have z : (!decide (nmV k = V.str "(")) = true := by rw [dec_nm k .lp (x := "(") rfl, decide_eq_false h4]; rfl
                  rw [z]
                  refine iteT ?_
                  refine ⟨_, rfl, _, d8, sz, yes _ k8 d8 ?_⟩
                  unfold keepK
                  rw [h1, decide_eq_false h2, decide_eq_false h3, decide_eq_false h4]
                  rfl
      · rintro H7 ⟨k7, d7, _⟩
        exact ⟨D, rfl, s6.trans (k7.same nD), s6.free nD, d7⟩
    rintro σ' H6 ⟨ol, rfl, s6, nol, hol⟩
    have hS6 := hS5.grow s6
    have hwl6 := s6 _ _ hwl5
    refine ⟨_, rfl, _, .inl ⟨_, SqL.of hol, rfl⟩, ?_⟩
    cases he : (walkK st d).map nmV with
    | nil =>
      refine iteF ?_
      exact ⟨st, d, ws, _, _, _, rfl, hS6, hwl6, hW, by omega⟩
    | cons v0 vr =>
      refine iteT ?_
      obtain ⟨⟨o5, ho5⟩, _⟩ := hS5.some
      have nos : ol ≠ s := (ne_of_none ho5 nol).symm
      have wle : (walkK st d).length ≤ 8 := List.length_filter_le _ _
      refine ⟨_, rfl, _, rfl, s, a, ol, _, rfl, hS6, hol, nos, (by rw [he]; exact Nat.succ_le_succ (Nat.zero_le _)), (by rw [List.length_map]; omega), fun j v H7 hv b7 hS7 => ?_⟩
      rw [List.getElem?_map] at hv
      cases hk : (walkK st d)[j]? with
      | none => rw [hk] at hv; cases hv
      | some k =>
        rw [hk] at hv
        have hv2 : nmV k = v := Option.some.inj hv
        subst hv2
        have hkeep : keepK st d k = true := (List.mem_filter.mp (List.mem_of_getElem? hk)).2
        unfold keepK at hkeep
        rw [Bool.and_eq_true, Bool.and_eq_true, Bool.or_eq_true] at hkeep
        obtain ⟨h1, h2, h3⟩ := hkeep
        have hf : k ≠ .fin := fun z => by rw [decide_eq_true z] at h2; cases h2
        have hlp : k = .lp → d < 5 := fun z => by
          rcases h3 with h3 | h3
          · exact of_decide_eq_true h3
          · rw [decide_eq_true z] at h3; cases h3
        have hwl7 := b7 _ _ nsw.symm hwl6
        refine ⟨_, rfl, .inl ⟨rfl, _, SqL.of hwl7⟩, _, rfl, _, rfl, s, a, k, rfl, hf, hS7, fun c f H8 hkc b8 hS8 => ?_⟩
        have hwl8 := b8 _ _ nsw.symm hwl7
        refine ⟨wl, _, _, rfl, rfl, hwl8, small1000 (by rw [List.length_map]; omega), ?_⟩
        refine ⟨_, rfl, _, rfl, _, rfl, st, d, k, rfl, fun p8 H9 s9 hp9 => ?_⟩
        refine ⟨p8, _, rfl, SqT.of hp9, rfl, _, _, rfl, _, _, rfl, rfl, ?_⟩
        have hS9 : SmAt H9 s a := (hS8.upd nsw naw).grow s9
        refine ⟨(stp (st, d) k).1, (stp (st, d) k).2, ws ++ [c], _, _, _, rfl, hS9, ?_, .snoc hW hkc h1 hlp rfl, by rw [List.length_append, List.length_singleton]; omega⟩
        have z := s9 wl _ upd_same
        rw [z, List.map_append]
        rfl
  · rintro σ H4 ⟨st, d, ws, v6, v7, v8, rfl, hS4, hwl4, hW, hlen⟩
    refine ⟨_, rfl, _, rfl, _, rfl, _, rfl, _, rfl, s, a, wl, kd, st, d, ws, rfl, hkd, hS4, hwl4, nsw.symm, hW, by omega, fun H5 b5 hS5 => ?_⟩
    refine ⟨true, rfl, iteT ?_⟩
    have hwl5 := b5 _ _ nsw.symm hwl4
    exact ⟨_, rfl, _, rfl, _, rfl, _, rfl, _, rfl, s, a, wl, kd, st, d, ws, rfl, hkd, hS5, hwl5, nsw.symm, hW, by omega, fun H6 b6 hS6 => q H6⟩
end
end N75
/-! The end. -/
namespace N75
open PySem L2
/-- whether an error of the class at x is one of the class at S -/
theorem exm_mk {K : PySem.W.Frag} {x S : Addr} {b : Bool} (h1 : PySem.W.subIn K (.ref S) (.type "BaseException") = some true) (h2 : PySem.W.isClsIn K S = true) (h3 : PySem.W.typeIn K (.ref S) = some (.type "type")) (h4 : PySem.W.subIn K (.ref x) (.ref S) = some b) : PySem.W.exmOne K (.ref x) (.ref S) = some b := by
  have e1 : (PySem.W.subIn K (.ref S) (.type "BaseException") == some true) = true := by
    rw [h1]
    rfl
  have e2 : ((PySem.W.clsIn K S).isSome && PySem.W.typeIn K (.ref S) == some (.type "type")) = true := by
    have z : (PySem.W.clsIn K S).isSome = true := h2
    rw [z, h3]
    rfl
  unfold PySem.W.exmOne
  rw [if_pos e1]
  show (if ((PySem.W.clsIn K S).isSome && PySem.W.typeIn K (.ref S) == some (.type "type")) = true then PySem.W.subIn K (.ref x) (.ref S) else none) = some b
  rw [if_pos e2]
  exact h4
theorem all_mk {l : PySem.W.OpenLaw} {w : World} {K : PySem.W.Frag} {h : Heap} {mg : Str → Option Value} {fa cT cA cP cD f1 f2 f3 f4 f5 f6 f7 f8 f9 f10 f11 f12 f13 f14 f15 f16 f17 f18 f19 f20 f21 f22 f23 f24 f25 f26 f27 f28 f29 f30 f31 f32 f33 f34 f35 f36 f37 f38 f39 y0 y1 y2 : Addr} (X : K.In h) (G : h.Ns mainGlobals mg) (hfa : mg "law" = some (.ref fa))
    {od1 an1 od2 an2 od3 an3 od4 an4 od5 an5 od6 an6 od7 an7 od8 an8 od9 an9 od10 an10 od11 an11 od12 an12 od13 an13 od14 an14 od15 an15 od16 an16 od17 an17 od18 an18 od19 an19 od20 an20 od21 an21 od22 an22 od23 an23 od24 an24 od25 an25 od26 an26 od27 an27 od28 an28 od29 an29 od30 an30 od31 an31 od32 an32 od33 an33 od34 an34 od35 an35 od36 an36 od37 an37 od38 an38 od39 an39 oy0 oy1 oy2 : Option Addr} {sl1 sl2 sl3 sl4 sl5 sl6 sl7 sl8 sl9 sl10 sl11 sl12 sl13 sl14 sl15 sl16 sl17 sl18 sl19 sl20 sl21 sl22 sl23 sl24 sl25 sl26 sl27 sl28 sl29 sl30 sl31 sl32 sl33 sl34 sl35 sl36 sl37 sl38 sl39 sy0 sy1 sy2 : Array (Option Value)} {ny0 ny1 ny2 : Nat} {oc1 kV1 dc1 pm1 cd1 ct1 oc2 kV2 dc2 pm2 cd2 ct2 oc3 kV3 dc3 pm3 cd3 ct3 oc4 kV4 dc4 pm4 cd4 ct4 oc5 kV5 dc5 pm5 cd5 ct5 oc6 kV6 dc6 pm6 cd6 ct6 oc7 kV7 dc7 pm7 cd7 ct7 oc8 kV8 dc8 pm8 cd8 ct8 oc9 kV9 dc9 pm9 cd9 ct9 oc10 kV10 dc10 pm10 cd10 ct10 oc11 kV11 dc11 pm11 cd11 ct11 oc12 kV12 dc12 pm12 cd12 ct12 oc13 kV13 dc13 pm13 cd13 ct13 oc14 kV14 dc14 pm14 cd14 ct14 oc15 kV15 dc15 pm15 cd15 ct15 oc16 kV16 dc16 pm16 cd16 ct16 oc17 kV17 dc17 pm17 cd17 ct17 oc18 kV18 dc18 pm18 cd18 ct18 oc19 kV19 dc19 pm19 cd19 ct19 oc20 kV20 dc20 pm20 cd20 ct20 oc21 kV21 dc21 pm21 cd21 ct21 oc22 kV22 dc22 pm22 cd22 ct22 oc23 kV23 dc23 pm23 cd23 ct23 oc24 kV24 dc24 pm24 cd24 ct24 oc25 kV25 dc25 pm25 cd25 ct25 oc26 kV26 dc26 pm26 cd26 ct26 oc27 kV27 dc27 pm27 cd27 ct27 oc28 kV28 dc28 pm28 cd28 ct28 oc29 kV29 dc29 pm29 cd29 ct29 oc30 kV30 dc30 pm30 cd30 ct30 oc31 kV31 dc31 pm31 cd31 ct31 oc32 kV32 dc32 pm32 cd32 ct32 oc33 kV33 dc33 pm33 cd33 ct33 oc34 kV34 dc34 pm34 cd34 ct34 oc35 kV35 dc35 pm35 cd35 ct35 oc36 kV36 dc36 pm36 cd36 ct36 oc37 kV37 dc37 pm37 cd37 ct37 oc38 kV38 dc38 pm38 cd38 ct38 oc39 kV39 dc39 pm39 cd39 ct39 : Value} {tk0 tk1 tk2 tk3 tk4 tk5 tk6 tk7 tk8 tk9 tk10 ta0 ta1 ta2 ta3 ta4 ta5 ta6 : Tok}
    {nmT qT : Str} {NT : Addr} {bsT : List Value} {snT : List Str} {subT : List Value} {abT : Bool} {colT : Option Bool} {ddT : Option Addr} {m0T m1T m2T m3T m5T : Option Value}
    {nmA qA : Str} {NA : Addr} {bsA : List Value} {snA : List Str} {subA : List Value} {abA : Bool} {colA : Option Bool} {ddA : Option Addr} {m0A m1A m2A m3A m5A : Option Value}
    (aT : PySem.W.nsIn K mainGlobals "TextError" = some (some (.ref cT)))
    (aA : PySem.W.nsIn K mainGlobals "Ahead" = some (some (.ref cA)))
    (aP : PySem.W.nsIn K mainGlobals "Parser" = some (some (.ref cP)))
    (a1 : PySem.W.nsIn K mainGlobals "check_text" = some (some (.ref f1)))
    (l1 : K.lookup f1 = some ⟨oc1, od1, .func (PySem.W.fnOf "check_text" "check_text" (defArgs sCheck) (defBody sCheck) (defScope sCheck) .none kV1 dc1 pm1 an1 cd1 ct1), sl1⟩)
    (c1 : PySem.W.codeIn K cd1 "check_text" = true)
    (k1 : PySem.W.keepIn K (.ref f1) = true)
    (a2 : PySem.W.nsIn K mainGlobals "kind_of" = some (some (.ref f2)))
    (l2 : K.lookup f2 = some ⟨oc2, od2, .func (PySem.W.fnOf "kind_of" "kind_of" (defArgs sKindOf) (defBody sKindOf) (defScope sKindOf) .none kV2 dc2 pm2 an2 cd2 ct2), sl2⟩)
    (c2 : PySem.W.codeIn K cd2 "kind_of" = true)
    (k2 : PySem.W.keepIn K (.ref f2) = true)
    (a3 : PySem.W.nsIn K mainGlobals "scan" = some (some (.ref f3)))
    (l3 : K.lookup f3 = some ⟨oc3, od3, .func (PySem.W.fnOf "scan" "scan" (defArgs sScan) (defBody sScan) (defScope sScan) .none kV3 dc3 pm3 an3 cd3 ct3), sl3⟩)
    (c3 : PySem.W.codeIn K cd3 "scan" = true)
    (k3 : PySem.W.keepIn K (.ref f3) = true)
    (a4 : PySem.W.nsIn K mainGlobals "opened" = some (some (.ref f4)))
    (l4 : K.lookup f4 = some ⟨oc4, od4, .func (PySem.W.fnOf "opened" "opened" (defArgs sOpened) (defBody sOpened) (defScope sOpened) .none kV4 dc4 pm4 an4 cd4 ct4), sl4⟩)
    (c4 : PySem.W.codeIn K cd4 "opened" = true)
    (k4 : PySem.W.keepIn K (.ref f4) = true)
    (a5 : PySem.W.nsIn K mainGlobals "row_of" = some (some (.ref f5)))
    (l5 : K.lookup f5 = some ⟨oc5, od5, .func (PySem.W.fnOf "row_of" "row_of" (defArgs sRowOf) (defBody sRowOf) (defScope sRowOf) .none kV5 dc5 pm5 an5 cd5 ct5), sl5⟩)
    (c5 : PySem.W.codeIn K cd5 "row_of" = true)
    (k5 : PySem.W.keepIn K (.ref f5) = true)
    (a6 : PySem.W.nsIn K mainGlobals "shown" = some (some (.ref f6)))
    (l6 : K.lookup f6 = some ⟨oc6, od6, .func (PySem.W.fnOf "shown" "shown" (defArgs sShown) (defBody sShown) (defScope sShown) .none kV6 dc6 pm6 an6 cd6 ct6), sl6⟩)
    (c6 : PySem.W.codeIn K cd6 "shown" = true)
    (k6 : PySem.W.keepIn K (.ref f6) = true)
    (a7 : PySem.W.nsIn K mainGlobals "in_order" = some (some (.ref f7)))
    (l7 : K.lookup f7 = some ⟨oc7, od7, .func (PySem.W.fnOf "in_order" "in_order" (defArgs sInOrder) (defBody sInOrder) (defScope sInOrder) .none kV7 dc7 pm7 an7 cd7 ct7), sl7⟩)
    (c7 : PySem.W.codeIn K cd7 "in_order" = true)
    (k7 : PySem.W.keepIn K (.ref f7) = true)
    (a8 : PySem.W.nsIn K mainGlobals "joined" = some (some (.ref f8)))
    (l8 : K.lookup f8 = some ⟨oc8, od8, .func (PySem.W.fnOf "joined" "joined" (defArgs sJoined) (defBody sJoined) (defScope sJoined) .none kV8 dc8 pm8 an8 cd8 ct8), sl8⟩)
    (c8 : PySem.W.codeIn K cd8 "joined" = true)
    (k8 : PySem.W.keepIn K (.ref f8) = true)
    (a9 : PySem.W.nsIn K mainGlobals "next_tokens" = some (some (.ref f9)))
    (l9 : K.lookup f9 = some ⟨oc9, od9, .func (PySem.W.fnOf "next_tokens" "next_tokens" (defArgs sNext) (defBody sNext) (defScope sNext) .none kV9 dc9 pm9 an9 cd9 ct9), sl9⟩)
    (c9 : PySem.W.codeIn K cd9 "next_tokens" = true)
    (k9 : PySem.W.keepIn K (.ref f9) = true)
    (a10 : PySem.W.nsIn K mainGlobals "measures" = some (some (.ref f10)))
    (l10 : K.lookup f10 = some ⟨oc10, od10, .func (PySem.W.fnOf "measures" "measures" (defArgs sMeasures) (defBody sMeasures) (defScope sMeasures) .none kV10 dc10 pm10 an10 cd10 ct10), sl10⟩)
    (c10 : PySem.W.codeIn K cd10 "measures" = true)
    (k10 : PySem.W.keepIn K (.ref f10) = true)
    (a11 : PySem.W.nsIn K mainGlobals "read_within" = some (some (.ref f11)))
    (l11 : K.lookup f11 = some ⟨oc11, od11, .func (PySem.W.fnOf "read_within" "read_within" (defArgs sWithin) (defBody sWithin) (defScope sWithin) .none kV11 dc11 pm11 an11 cd11 ct11), sl11⟩)
    (c11 : PySem.W.codeIn K cd11 "read_within" = true)
    (k11 : PySem.W.keepIn K (.ref f11) = true)
    (a12 : PySem.W.nsIn K mainGlobals "read_expression" = some (some (.ref f12)))
    (l12 : K.lookup f12 = some ⟨oc12, od12, .func (PySem.W.fnOf "read_expression" "read_expression" (defArgs sReadE) (defBody sReadE) (defScope sReadE) .none kV12 dc12 pm12 an12 cd12 ct12), sl12⟩)
    (c12 : PySem.W.codeIn K cd12 "read_expression" = true)
    (k12 : PySem.W.keepIn K (.ref f12) = true)
    (a13 : PySem.W.nsIn K mainGlobals "read_long" = some (some (.ref f13)))
    (l13 : K.lookup f13 = some ⟨oc13, od13, .func (PySem.W.fnOf "read_long" "read_long" (defArgs sReadL) (defBody sReadL) (defScope sReadL) .none kV13 dc13 pm13 an13 cd13 ct13), sl13⟩)
    (c13 : PySem.W.codeIn K cd13 "read_long" = true)
    (k13 : PySem.W.keepIn K (.ref f13) = true)
    (a14 : PySem.W.nsIn K mainGlobals "read_word" = some (some (.ref f14)))
    (l14 : K.lookup f14 = some ⟨oc14, od14, .func (PySem.W.fnOf "read_word" "read_word" (defArgs sReadW) (defBody sReadW) (defScope sReadW) .none kV14 dc14 pm14 an14 cd14 ct14), sl14⟩)
    (c14 : PySem.W.codeIn K cd14 "read_word" = true)
    (k14 : PySem.W.keepIn K (.ref f14) = true)
    (a15 : PySem.W.nsIn K mainGlobals "_law_stream" = some (some (.ref f15)))
    (l15 : K.lookup f15 = some ⟨oc15, od15, .func (PySem.W.fnOf "_law_stream" "_law_stream" (defArgs sStream) (defBody sStream) (defScope sStream) .none kV15 dc15 pm15 an15 cd15 ct15), sl15⟩)
    (c15 : PySem.W.codeIn K cd15 "_law_stream" = true)
    (k15 : PySem.W.keepIn K (.ref f15) = true)
    (a16 : PySem.W.nsIn K mainGlobals "_law_next" = some (some (.ref f16)))
    (l16 : K.lookup f16 = some ⟨oc16, od16, .func (PySem.W.fnOf "_law_next" "_law_next" (defArgs sDraw) (defBody sDraw) (defScope sDraw) .none kV16 dc16 pm16 an16 cd16 ct16), sl16⟩)
    (c16 : PySem.W.codeIn K cd16 "_law_next" = true)
    (k16 : PySem.W.keepIn K (.ref f16) = true)
    (a17 : PySem.W.nsIn K mainGlobals "_law_is_integer" = some (some (.ref f17)))
    (l17 : K.lookup f17 = some ⟨oc17, od17, .func (PySem.W.fnOf "_law_is_integer" "_law_is_integer" (defArgs sIsInt) (defBody sIsInt) (defScope sIsInt) .none kV17 dc17 pm17 an17 cd17 ct17), sl17⟩)
    (c17 : PySem.W.codeIn K cd17 "_law_is_integer" = true)
    (k17 : PySem.W.keepIn K (.ref f17) = true)
    (a18 : PySem.W.nsIn K mainGlobals "_law_equal" = some (some (.ref f18)))
    (l18 : K.lookup f18 = some ⟨oc18, od18, .func (PySem.W.fnOf "_law_equal" "_law_equal" (defArgs sEqual) (defBody sEqual) (defScope sEqual) .none kV18 dc18 pm18 an18 cd18 ct18), sl18⟩)
    (c18 : PySem.W.codeIn K cd18 "_law_equal" = true)
    (k18 : PySem.W.keepIn K (.ref f18) = true)
    (a19 : PySem.W.nsIn K mainGlobals "_law_pick" = some (some (.ref f19)))
    (l19 : K.lookup f19 = some ⟨oc19, od19, .func (PySem.W.fnOf "_law_pick" "_law_pick" (defArgs sPick) (defBody sPick) (defScope sPick) .none kV19 dc19 pm19 an19 cd19 ct19), sl19⟩)
    (c19 : PySem.W.codeIn K cd19 "_law_pick" = true)
    (k19 : PySem.W.keepIn K (.ref f19) = true)
    (a20 : PySem.W.nsIn K mainGlobals "_law_laid" = some (some (.ref f20)))
    (l20 : K.lookup f20 = some ⟨oc20, od20, .func (PySem.W.fnOf "_law_laid" "_law_laid" (defArgs sLaid) (defBody sLaid) (defScope sLaid) .none kV20 dc20 pm20 an20 cd20 ct20), sl20⟩)
    (c20 : PySem.W.codeIn K cd20 "_law_laid" = true)
    (k20 : PySem.W.keepIn K (.ref f20) = true)
    (a21 : PySem.W.nsIn K mainGlobals "_law_shown" = some (some (.ref f21)))
    (l21 : K.lookup f21 = some ⟨oc21, od21, .func (PySem.W.fnOf "_law_shown" "_law_shown" (defArgs sLShown) (defBody sLShown) (defScope sLShown) .none kV21 dc21 pm21 an21 cd21 ct21), sl21⟩)
    (c21 : PySem.W.codeIn K cd21 "_law_shown" = true)
    (k21 : PySem.W.keepIn K (.ref f21) = true)
    (a22 : PySem.W.nsIn K mainGlobals "_law_kinds" = some (some (.ref f22)))
    (l22 : K.lookup f22 = some ⟨oc22, od22, .func (PySem.W.fnOf "_law_kinds" "_law_kinds" (defArgs sKinds) (defBody sKinds) (defScope sKinds) .none kV22 dc22 pm22 an22 cd22 ct22), sl22⟩)
    (c22 : PySem.W.codeIn K cd22 "_law_kinds" = true)
    (k22 : PySem.W.keepIn K (.ref f22) = true)
    (a23 : PySem.W.nsIn K mainGlobals "_law_listed" = some (some (.ref f23)))
    (l23 : K.lookup f23 = some ⟨oc23, od23, .func (PySem.W.fnOf "_law_listed" "_law_listed" (defArgs sListed) (defBody sListed) (defScope sListed) .none kV23 dc23 pm23 an23 cd23 ct23), sl23⟩)
    (c23 : PySem.W.codeIn K cd23 "_law_listed" = true)
    (k23 : PySem.W.keepIn K (.ref f23) = true)
    (a24 : PySem.W.nsIn K mainGlobals "_law_options" = some (some (.ref f24)))
    (l24 : K.lookup f24 = some ⟨oc24, od24, .func (PySem.W.fnOf "_law_options" "_law_options" (defArgs sOptions) (defBody sOptions) (defScope sOptions) .none kV24 dc24 pm24 an24 cd24 ct24), sl24⟩)
    (c24 : PySem.W.codeIn K cd24 "_law_options" = true)
    (k24 : PySem.W.keepIn K (.ref f24) = true)
    (a25 : PySem.W.nsIn K mainGlobals "_law_step" = some (some (.ref f25)))
    (l25 : K.lookup f25 = some ⟨oc25, od25, .func (PySem.W.fnOf "_law_step" "_law_step" (defArgs sStep) (defBody sStep) (defScope sStep) .none kV25 dc25 pm25 an25 cd25 ct25), sl25⟩)
    (c25 : PySem.W.codeIn K cd25 "_law_step" = true)
    (k25 : PySem.W.keepIn K (.ref f25) = true)
    (a26 : PySem.W.nsIn K mainGlobals "_law_due" = some (some (.ref f26)))
    (l26 : K.lookup f26 = some ⟨oc26, od26, .func (PySem.W.fnOf "_law_due" "_law_due" (defArgs sDue) (defBody sDue) (defScope sDue) .none kV26 dc26 pm26 an26 cd26 ct26), sl26⟩)
    (c26 : PySem.W.codeIn K cd26 "_law_due" = true)
    (k26 : PySem.W.keepIn K (.ref f26) = true)
    (a27 : PySem.W.nsIn K mainGlobals "_law_told" = some (some (.ref f27)))
    (l27 : K.lookup f27 = some ⟨oc27, od27, .func (PySem.W.fnOf "_law_told" "_law_told" (defArgs sTold) (defBody sTold) (defScope sTold) .none kV27 dc27 pm27 an27 cd27 ct27), sl27⟩)
    (c27 : PySem.W.codeIn K cd27 "_law_told" = true)
    (k27 : PySem.W.keepIn K (.ref f27) = true)
    (a28 : PySem.W.nsIn K mainGlobals "_law_token" = some (some (.ref f28)))
    (l28 : K.lookup f28 = some ⟨oc28, od28, .func (PySem.W.fnOf "_law_token" "_law_token" (defArgs sToken) (defBody sToken) (defScope sToken) .none kV28 dc28 pm28 an28 cd28 ct28), sl28⟩)
    (c28 : PySem.W.codeIn K cd28 "_law_token" = true)
    (k28 : PySem.W.keepIn K (.ref f28) = true)
    (a29 : PySem.W.nsIn K mainGlobals "_law_is_right" = some (some (.ref f29)))
    (l29 : K.lookup f29 = some ⟨oc29, od29, .func (PySem.W.fnOf "_law_is_right" "_law_is_right" (defArgs sIsRight) (defBody sIsRight) (defScope sIsRight) .none kV29 dc29 pm29 an29 cd29 ct29), sl29⟩)
    (c29 : PySem.W.codeIn K cd29 "_law_is_right" = true)
    (k29 : PySem.W.keepIn K (.ref f29) = true)
    (a30 : PySem.W.nsIn K mainGlobals "_law_goes_on" = some (some (.ref f30)))
    (l30 : K.lookup f30 = some ⟨oc30, od30, .func (PySem.W.fnOf "_law_goes_on" "_law_goes_on" (defArgs sGoesOn) (defBody sGoesOn) (defScope sGoesOn) .none kV30 dc30 pm30 an30 cd30 ct30), sl30⟩)
    (c30 : PySem.W.codeIn K cd30 "_law_goes_on" = true)
    (k30 : PySem.W.keepIn K (.ref f30) = true)
    (a31 : PySem.W.nsIn K mainGlobals "law" = some (some (.ref f31)))
    (l31 : K.lookup f31 = some ⟨oc31, od31, .func (PySem.W.fnOf "law" "law" (defArgs sLaw) (defBody sLaw) (defScope sLaw) .none kV31 dc31 pm31 an31 cd31 ct31), sl31⟩)
    (c31 : PySem.W.codeIn K cd31 "law" = true)
    (k31 : PySem.W.keepIn K (.ref f31) = true)
    (a32 : PySem.W.findIn K (.ref cP) "item" = some (some (.ref f32)))
    (i32 : PySem.W.isFn K (.ref f32) = true)
    (l32 : K.lookup f32 = some ⟨oc32, od32, .func (PySem.W.fnOf "item" "Parser.item" (defArgs sItem) (defBody sItem) (defScope sItem) .none kV32 dc32 pm32 an32 cd32 ct32), sl32⟩)
    (c32 : PySem.W.codeIn K cd32 "Parser.item" = true)
    (k32 : PySem.W.keepIn K (.ref f32) = true)
    (a33 : PySem.W.findIn K (.ref cP) "look" = some (some (.ref f33)))
    (i33 : PySem.W.isFn K (.ref f33) = true)
    (l33 : K.lookup f33 = some ⟨oc33, od33, .func (PySem.W.fnOf "look" "Parser.look" (defArgs sLook) (defBody sLook) (defScope sLook) .none kV33 dc33 pm33 an33 cd33 ct33), sl33⟩)
    (c33 : PySem.W.codeIn K cd33 "Parser.look" = true)
    (k33 : PySem.W.keepIn K (.ref f33) = true)
    (a34 : PySem.W.findIn K (.ref cP) "take" = some (some (.ref f34)))
    (i34 : PySem.W.isFn K (.ref f34) = true)
    (l34 : K.lookup f34 = some ⟨oc34, od34, .func (PySem.W.fnOf "take" "Parser.take" (defArgs sTake) (defBody sTake) (defScope sTake) .none kV34 dc34 pm34 an34 cd34 ct34), sl34⟩)
    (c34 : PySem.W.codeIn K cd34 "Parser.take" = true)
    (k34 : PySem.W.keepIn K (.ref f34) = true)
    (a35 : PySem.W.findIn K (.ref cP) "whole" = some (some (.ref f35)))
    (i35 : PySem.W.isFn K (.ref f35) = true)
    (l35 : K.lookup f35 = some ⟨oc35, od35, .func (PySem.W.fnOf "whole" "Parser.whole" (defArgs sWhole) (defBody sWhole) (defScope sWhole) .none kV35 dc35 pm35 an35 cd35 ct35), sl35⟩)
    (c35 : PySem.W.codeIn K cd35 "Parser.whole" = true)
    (k35 : PySem.W.keepIn K (.ref f35) = true)
    (a36 : PySem.W.findIn K (.ref cP) "word" = some (some (.ref f36)))
    (i36 : PySem.W.isFn K (.ref f36) = true)
    (l36 : K.lookup f36 = some ⟨oc36, od36, .func (PySem.W.fnOf "word" "Parser.word" (defArgs sWord) (defBody sWord) (defScope sWord) .none kV36 dc36 pm36 an36 cd36 ct36), sl36⟩)
    (c36 : PySem.W.codeIn K cd36 "Parser.word" = true)
    (k36 : PySem.W.keepIn K (.ref f36) = true)
    (a37 : PySem.W.findIn K (.ref cP) "__init__" = some (some (.ref f37)))
    (i37 : PySem.W.isFn K (.ref f37) = true)
    (l37 : K.lookup f37 = some ⟨oc37, od37, .func (PySem.W.fnOf "__init__" "Parser.__init__" (defArgs sParI) (defBody sParI) (defScope sParI) .none kV37 dc37 pm37 an37 cd37 ct37), sl37⟩)
    (c37 : PySem.W.codeIn K cd37 "Parser.__init__" = true)
    (k37 : PySem.W.keepIn K (.ref f37) = true)
    (a38 : PySem.W.findIn K (.ref cT) "__init__" = some (some (.ref f38)))
    (t38 : PySem.W.typeIn K (.ref f38) = some (.type "function"))
    (l38 : K.lookup f38 = some ⟨oc38, od38, .func (PySem.W.fnOf "__init__" "TextError.__init__" (defArgs sTextI) (defBody sTextI) (defScope sTextI) .none kV38 dc38 pm38 an38 cd38 ct38), sl38⟩)
    (c38 : PySem.W.codeIn K cd38 "TextError.__init__" = true)
    (k38 : PySem.W.keepIn K (.ref f38) = true)
    (a39 : PySem.W.findIn K (.ref cA) "__init__" = some (some (.ref f39)))
    (t39 : PySem.W.typeIn K (.ref f39) = some (.type "function"))
    (l39 : K.lookup f39 = some ⟨oc39, od39, .func (PySem.W.fnOf "__init__" "Ahead.__init__" (defArgs sAheadI) (defBody sAheadI) (defScope sAheadI) .none kV39 dc39 pm39 an39 cd39 ct39), sl39⟩)
    (c39 : PySem.W.codeIn K cd39 "Ahead.__init__" = true)
    (k39 : PySem.W.keepIn K (.ref f39) = true)
    (xT : K.lookup cT = some (excClassObj nmT qT cT NT bsT [.ref cD, .type "ValueError", .type "Exception", .type "BaseException", .type "object"] true snT subT abT colT ddT m0T m1T m2T m3T m5T "ValueError.__new__"))
    (saT : PySem.W.findIn K (.ref cT) "__setattr__" = some (some (.builtin "object.__setattr__")))
    (gaT : PySem.W.findIn K (.ref cT) "__getattribute__" = some (some (.builtin "BaseException.__getattribute__")))
    (ggT : PySem.W.findIn K (.ref cT) "__getattr__" = some none)
    (eT : PySem.W.subIn K (.ref cT) (.type "BaseException") = some true)
    (tyT : PySem.W.typeIn K (.ref cT) = some (.type "type"))
    (kcT : PySem.W.keepIn K (.ref cT) = true)
    (hdT : PySem.W.hasDictIn K cT = true)
    (xA : K.lookup cA = some (excClassObj nmA qA cA NA bsA [.type "ValueError", .type "Exception", .type "BaseException", .type "object"] true snA subA abA colA ddA m0A m1A m2A m3A m5A "ValueError.__new__"))
    (saA : PySem.W.findIn K (.ref cA) "__setattr__" = some (some (.builtin "object.__setattr__")))
    (gaA : PySem.W.findIn K (.ref cA) "__getattribute__" = some (some (.builtin "BaseException.__getattribute__")))
    (ggA : PySem.W.findIn K (.ref cA) "__getattr__" = some none)
    (eA : PySem.W.subIn K (.ref cA) (.type "BaseException") = some true)
    (tyA : PySem.W.typeIn K (.ref cA) = some (.type "type"))
    (kcA : PySem.W.keepIn K (.ref cA) = true)
    (hdA : PySem.W.hasDictIn K cA = true)
    (nCol : PySem.W.findIn K (.ref cT) "column" = some none)
    (nWor : PySem.W.findIn K (.ref cT) "words" = some none)
    (nOpt : PySem.W.findIn K (.ref cA) "options" = some none)
    (nTok : PySem.W.findIn K (.ref cP) "tokens" = some none)
    (nSto : PySem.W.findIn K (.ref cP) "stops" = some none)
    (nAt : PySem.W.findIn K (.ref cP) "at" = some none)
    (isT : PySem.W.isClsIn K cT = true)
    (isA : PySem.W.isClsIn K cA = true)
    (sTT : PySem.W.subIn K (.ref cT) (.ref cT) = some true)
    (sAA : PySem.W.subIn K (.ref cA) (.ref cA) = some true)
    (sTA : PySem.W.subIn K (.ref cT) (.ref cA) = some false)
    (pgP : PySem.W.plainGet K cP Str.empty = true)
    (hdP : PySem.W.hasDictIn K cP = true)
    (poP : PySem.W.plainOver K cP = true)
    (saP : PySem.W.findIn K (.ref cP) "__setattr__" = some (some (.builtin "object.__setattr__")))
    (mkP : PySem.W.makesIn K cP = true)
    (kcP : PySem.W.keepIn K (.ref cP) = true)
    (z_isi : PySem.W.nsIn K mainGlobals "isinstance" = some none)
    (z_str : PySem.W.nsIn K mainGlobals "str" = some none)
    (z_len : PySem.W.nsIn K mainGlobals "len" = some none)
    (z_enm : PySem.W.nsIn K mainGlobals "enumerate" = some none)
    (z_max : PySem.W.nsIn K mainGlobals "max" = some none)
    (z_tup : PySem.W.nsIn K mainGlobals "tuple" = some none)
    (z_list : PySem.W.nsIn K mainGlobals "list" = some none)
    (z_int : PySem.W.nsIn K mainGlobals "int" = some none)
    (z_bool : PySem.W.nsIn K mainGlobals "bool" = some none)
    (z_abs : PySem.W.nsIn K mainGlobals "abs" = some none)
    (z_all : PySem.W.nsIn K mainGlobals "all" = some none)
    (z_range : PySem.W.nsIn K mainGlobals "range" = some none)
    (g0 : PySem.W.nsIn K mainGlobals "LETTERS" = some (some (.str "abcd" tk0)))
    (g1 : PySem.W.nsIn K mainGlobals "SIGNS" = some (some (.str "()|?*." tk1)))
    (g2 : PySem.W.nsIn K mainGlobals "LONGEST_TEXT" = some (some (.int 400 tk2)))
    (g3 : PySem.W.nsIn K mainGlobals "DEEPEST_OPEN" = some (some (.int 20 tk3)))
    (g4 : PySem.W.nsIn K mainGlobals "LONGEST_WORD" = some (some (.int 24 tk4)))
    (g5 : PySem.W.nsIn K mainGlobals "MOST_LETTERS" = some (some (.int 8 tk5)))
    (g6 : PySem.W.nsIn K mainGlobals "DEEPEST" = some (some (.int 6 tk6)))
    (g7 : PySem.W.nsIn K mainGlobals "MOST_PARTS" = some (some (.int 24 tk7)))
    (g8 : PySem.W.nsIn K mainGlobals "MOST_LONG_LETTERS" = some (some (.int 40 tk8)))
    (g9 : PySem.W.nsIn K mainGlobals "DEEPEST_LONG" = some (some (.int 40 tk9)))
    (g10 : PySem.W.nsIn K mainGlobals "MOST_LONG_PARTS" = some (some (.int 200 tk10)))
    (h0 : PySem.W.nsIn K mainGlobals "KINDS" = some (some (.ref y0)))
    (j0 : K.lookup y0 = some ⟨.type "tuple", oy0, .seq #[.str "expression" ta0, .str "word" ta1] ny0, sy0⟩)
    (h1 : PySem.W.nsIn K mainGlobals "BEGINNINGS" = some (some (.ref y1)))
    (j1 : K.lookup y1 = some ⟨.type "tuple", oy1, .seq #[.str "a letter" ta2, .str "\"(\"" ta3, .str "\".\"" ta4] ny1, sy1⟩)
    (h2 : PySem.W.nsIn K mainGlobals "BEHIND" = some (some (.ref y2)))
    (j2 : K.lookup y2 = some ⟨.type "tuple", oy2, .seq #[.str "\"?\"" ta5, .str "\"*\"" ta6] ny2, sy2⟩)
    : ∃ fd : FuncData, (∀ (s : Shared) (v : Value), BindsTo s fd ⟨[v], []⟩ [("_law_script", v)]) ∧ ∀ base : Heap, K.In base → base.Ns mainGlobals mg → FnOk l.prog w K mg base CX0 29 fa fd ["_law_script"] (spLaw K) := by
  have e := hfa.symm.trans (PySem.W.mg_of X G a31)
  cases e
  have F1 := fun_mk (st := sCheck) l1 c1 k1
  have D1 : Dfn K mg "check_text" sCheck ["text"] := ⟨_, _, PySem.W.mg_of X G a1, F1, F1.binds (ps := ["text"]) fun _ _ _ _ _ _ us hl => match us, hl with | [_], _ => rfl⟩
  have F2 := fun_mk (st := sKindOf) l2 c2 k2
  have D2 : Dfn K mg "kind_of" sKindOf ["char"] := ⟨_, _, PySem.W.mg_of X G a2, F2, F2.binds (ps := ["char"]) fun _ _ _ _ _ _ us hl => match us, hl with | [_], _ => rfl⟩
  have F3 := fun_mk (st := sScan) l3 c3 k3
  have D3 : Dfn K mg "scan" sScan ["text"] := ⟨_, _, PySem.W.mg_of X G a3, F3, F3.binds (ps := ["text"]) fun _ _ _ _ _ _ us hl => match us, hl with | [_], _ => rfl⟩
  have F4 := fun_mk (st := sOpened) l4 c4 k4
  have D4 : Dfn K mg "opened" sOpened ["word", "parts"] := ⟨_, _, PySem.W.mg_of X G a4, F4, F4.binds (ps := ["word", "parts"]) fun _ _ _ _ _ _ us hl => match us, hl with | [_, _], _ => rfl⟩
  have F5 := fun_mk (st := sRowOf) l5 c5 k5
  have D5 : Dfn K mg "row_of" sRowOf ["word", "parts"] := ⟨_, _, PySem.W.mg_of X G a5, F5, F5.binds (ps := ["word", "parts"]) fun _ _ _ _ _ _ us hl => match us, hl with | [_, _], _ => rfl⟩
  have F6 := fun_mk (st := sShown) l6 c6 k6
  have D6 : Dfn K mg "shown" sShown ["token"] := ⟨_, _, PySem.W.mg_of X G a6, F6, F6.binds (ps := ["token"]) fun _ _ _ _ _ _ us hl => match us, hl with | [_], _ => rfl⟩
  have F7 := fun_mk (st := sInOrder) l7 c7 k7
  have D7 : Dfn K mg "in_order" sInOrder ["options"] := ⟨_, _, PySem.W.mg_of X G a7, F7, F7.binds (ps := ["options"]) fun _ _ _ _ _ _ us hl => match us, hl with | [_], _ => rfl⟩
  have F8 := fun_mk (st := sJoined) l8 c8 k8
  have D8 : Dfn K mg "joined" sJoined ["options"] := ⟨_, _, PySem.W.mg_of X G a8, F8, F8.binds (ps := ["options"]) fun _ _ _ _ _ _ us hl => match us, hl with | [_], _ => rfl⟩
  have F9 := fun_mk (st := sNext) l9 c9 k9
  have D9 : Dfn K mg "next_tokens" sNext ["text", "kind"] := ⟨_, _, PySem.W.mg_of X G a9, F9, F9.binds (ps := ["text", "kind"]) fun _ _ _ _ _ _ us hl => match us, hl with | [_, _], _ => rfl⟩
  have F10 := fun_mk (st := sMeasures) l10 c10 k10
  have D10 : Dfn K mg "measures" sMeasures ["expression"] := ⟨_, _, PySem.W.mg_of X G a10, F10, F10.binds (ps := ["expression"]) fun _ _ _ _ _ _ us hl => match us, hl with | [_], _ => rfl⟩
  have F11 := fun_mk (st := sWithin) l11 c11 k11
  have D11 : Dfn K mg "read_within" sWithin ["text", "letters", "parts", "deep"] := ⟨_, _, PySem.W.mg_of X G a11, F11, F11.binds (ps := ["text", "letters", "parts", "deep"]) fun _ _ _ _ _ _ us hl => match us, hl with | [_, _, _, _], _ => rfl⟩
  have F12 := fun_mk (st := sReadE) l12 c12 k12
  have D12 : Dfn K mg "read_expression" sReadE ["text"] := ⟨_, _, PySem.W.mg_of X G a12, F12, F12.binds (ps := ["text"]) fun _ _ _ _ _ _ us hl => match us, hl with | [_], _ => rfl⟩
  have F13 := fun_mk (st := sReadL) l13 c13 k13
  have D13 : Dfn K mg "read_long" sReadL ["text"] := ⟨_, _, PySem.W.mg_of X G a13, F13, F13.binds (ps := ["text"]) fun _ _ _ _ _ _ us hl => match us, hl with | [_], _ => rfl⟩
  have F14 := fun_mk (st := sReadW) l14 c14 k14
  have D14 : Dfn K mg "read_word" sReadW ["text"] := ⟨_, _, PySem.W.mg_of X G a14, F14, F14.binds (ps := ["text"]) fun _ _ _ _ _ _ us hl => match us, hl with | [_], _ => rfl⟩
  have F15 := fun_mk (st := sStream) l15 c15 k15
  have D15 : Dfn K mg "_law_stream" sStream ["_law_script"] := ⟨_, _, PySem.W.mg_of X G a15, F15, F15.binds (ps := ["_law_script"]) fun _ _ _ _ _ _ us hl => match us, hl with | [_], _ => rfl⟩
  have F16 := fun_mk (st := sDraw) l16 c16 k16
  have D16 : Dfn K mg "_law_next" sDraw ["_law_stream_here", "_law_many"] := ⟨_, _, PySem.W.mg_of X G a16, F16, F16.binds (ps := ["_law_stream_here", "_law_many"]) fun _ _ _ _ _ _ us hl => match us, hl with | [_, _], _ => rfl⟩
  have F17 := fun_mk (st := sIsInt) l17 c17 k17
  have D17 : Dfn K mg "_law_is_integer" sIsInt ["_law_actual"] := ⟨_, _, PySem.W.mg_of X G a17, F17, F17.binds (ps := ["_law_actual"]) fun _ _ _ _ _ _ us hl => match us, hl with | [_], _ => rfl⟩
  have F18 := fun_mk (st := sEqual) l18 c18 k18
  have D18 : Dfn K mg "_law_equal" sEqual ["_law_actual", "_law_due_here"] := ⟨_, _, PySem.W.mg_of X G a18, F18, F18.binds (ps := ["_law_actual", "_law_due_here"]) fun _ _ _ _ _ _ us hl => match us, hl with | [_, _], _ => rfl⟩
  have F19 := fun_mk (st := sPick) l19 c19 k19
  have D19 : Dfn K mg "_law_pick" sPick ["_law_stream_here", "_law_rows"] := ⟨_, _, PySem.W.mg_of X G a19, F19, F19.binds (ps := ["_law_stream_here", "_law_rows"]) fun _ _ _ _ _ _ us hl => match us, hl with | [_, _], _ => rfl⟩
  have F20 := fun_mk (st := sLaid) l20 c20 k20
  have D20 : Dfn K mg "_law_laid" sLaid ["_law_stream_here", "_law_words"] := ⟨_, _, PySem.W.mg_of X G a20, F20, F20.binds (ps := ["_law_stream_here", "_law_words"]) fun _ _ _ _ _ _ us hl => match us, hl with | [_, _], _ => rfl⟩
  have F21 := fun_mk (st := sLShown) l21 c21 k21
  have D21 : Dfn K mg "_law_shown" sLShown ["_law_kind"] := ⟨_, _, PySem.W.mg_of X G a21, F21, F21.binds (ps := ["_law_kind"]) fun _ _ _ _ _ _ us hl => match us, hl with | [_], _ => rfl⟩
  have F22 := fun_mk (st := sKinds) l22 c22 k22
  have D22 : Dfn K mg "_law_kinds" sKinds [] := ⟨_, _, PySem.W.mg_of X G a22, F22, F22.binds (ps := []) fun _ _ _ _ _ _ us hl => match us, hl with | [], _ => rfl⟩
  have F23 := fun_mk (st := sListed) l23 c23 k23
  have D23 : Dfn K mg "_law_listed" sListed ["_law_words"] := ⟨_, _, PySem.W.mg_of X G a23, F23, F23.binds (ps := ["_law_words"]) fun _ _ _ _ _ _ us hl => match us, hl with | [_], _ => rfl⟩
  have F24 := fun_mk (st := sOptions) l24 c24 k24
  have D24 : Dfn K mg "_law_options" sOptions ["_law_state", "_law_depth"] := ⟨_, _, PySem.W.mg_of X G a24, F24, F24.binds (ps := ["_law_state", "_law_depth"]) fun _ _ _ _ _ _ us hl => match us, hl with | [_, _], _ => rfl⟩
  have F25 := fun_mk (st := sStep) l25 c25 k25
  have D25 : Dfn K mg "_law_step" sStep ["_law_state", "_law_depth", "_law_kind"] := ⟨_, _, PySem.W.mg_of X G a25, F25, F25.binds (ps := ["_law_state", "_law_depth", "_law_kind"]) fun _ _ _ _ _ _ us hl => match us, hl with | [_, _, _], _ => rfl⟩
  have F26 := fun_mk (st := sDue) l26 c26 k26
  have D26 : Dfn K mg "_law_due" sDue ["_law_state", "_law_depth"] := ⟨_, _, PySem.W.mg_of X G a26, F26, F26.binds (ps := ["_law_state", "_law_depth"]) fun _ _ _ _ _ _ us hl => match us, hl with | [_, _], _ => rfl⟩
  have F27 := fun_mk (st := sTold) l27 c27 k27
  have D27 : Dfn K mg "_law_told" sTold ["_law_text", "_law_kind", "_law_which"] := ⟨_, _, PySem.W.mg_of X G a27, F27, F27.binds (ps := ["_law_text", "_law_kind", "_law_which"]) fun _ _ _ _ _ _ us hl => match us, hl with | [_, _, _], _ => rfl⟩
  have F28 := fun_mk (st := sToken) l28 c28 k28
  have D28 : Dfn K mg "_law_token" sToken ["_law_stream_here", "_law_kind"] := ⟨_, _, PySem.W.mg_of X G a28, F28, F28.binds (ps := ["_law_stream_here", "_law_kind"]) fun _ _ _ _ _ _ us hl => match us, hl with | [_, _], _ => rfl⟩
  have F29 := fun_mk (st := sIsRight) l29 c29 k29
  have D29 : Dfn K mg "_law_is_right" sIsRight ["_law_stream_here", "_law_kind", "_law_words", "_law_state", "_law_depth"] := ⟨_, _, PySem.W.mg_of X G a29, F29, F29.binds (ps := ["_law_stream_here", "_law_kind", "_law_words", "_law_state", "_law_depth"]) fun _ _ _ _ _ _ us hl => match us, hl with | [_, _, _, _, _], _ => rfl⟩
  have F30 := fun_mk (st := sGoesOn) l30 c30 k30
  have D30 : Dfn K mg "_law_goes_on" sGoesOn ["_law_stream_here", "_law_kind", "_law_words", "_law_state", "_law_depth"] := ⟨_, _, PySem.W.mg_of X G a30, F30, F30.binds (ps := ["_law_stream_here", "_law_kind", "_law_words", "_law_state", "_law_depth"]) fun _ _ _ _ _ _ us hl => match us, hl with | [_, _, _, _, _], _ => rfl⟩
  have F31 := fun_mk (st := sLaw) l31 c31 k31
  have F32 := fun_mk (st := sItem) l32 c32 k32
  have D32 : DfnM K cP "item" "Parser.item" sItem ["self", "closing"] := ⟨_, _, ⟨a32, i32, k32⟩, F32, F32.binds (ps := ["self", "closing"]) fun _ _ _ _ _ _ us hl => match us, hl with | [_, _], _ => rfl⟩
  have F33 := fun_mk (st := sLook) l33 c33 k33
  have D33 : DfnM K cP "look" "Parser.look" sLook ["self", "options"] := ⟨_, _, ⟨a33, i33, k33⟩, F33, F33.binds (ps := ["self", "options"]) fun _ _ _ _ _ _ us hl => match us, hl with | [_, _], _ => rfl⟩
  have F34 := fun_mk (st := sTake) l34 c34 k34
  have D34 : DfnM K cP "take" "Parser.take" sTake ["self", "options"] := ⟨_, _, ⟨a34, i34, k34⟩, F34, F34.binds (ps := ["self", "options"]) fun _ _ _ _ _ _ us hl => match us, hl with | [_, _], _ => rfl⟩
  have F35 := fun_mk (st := sWhole) l35 c35 k35
  have D35 : DfnM K cP "whole" "Parser.whole" sWhole ["self", "closing"] := ⟨_, _, ⟨a35, i35, k35⟩, F35, F35.binds (ps := ["self", "closing"]) fun _ _ _ _ _ _ us hl => match us, hl with | [_, _], _ => rfl⟩
  have F36 := fun_mk (st := sWord) l36 c36 k36
  have D36 : DfnM K cP "word" "Parser.word" sWord ["self"] := ⟨_, _, ⟨a36, i36, k36⟩, F36, F36.binds (ps := ["self"]) fun _ _ _ _ _ _ us hl => match us, hl with | [_], _ => rfl⟩
  have F37 := fun_mk (st := sParI) l37 c37 k37
  have b37 := F37.binds (ps := ["self", "tokens", "stops"]) fun _ _ _ _ _ _ us hl => match us, hl with | [_, _, _], _ => rfl
  have F38 := fun_mk (st := sTextI) l38 c38 k38
  have b38 := F38.binds (ps := ["self", "column", "words"]) fun _ _ _ _ _ _ us hl => match us, hl with | [_, _, _], _ => rfl
  have F39 := fun_mk (st := sAheadI) l39 c39 k39
  have b39 := F39.binds (ps := ["self", "options"]) fun _ _ _ _ _ _ us hl => match us, hl with | [_, _], _ => rfl
  have T : Txt K mg :=
    { isi := PySem.W.mg_none_of X G z_isi, str := PySem.W.mg_none_of X G z_str, len := PySem.W.mg_none_of X G z_len, enm := PySem.W.mg_none_of X G z_enm, max := PySem.W.mg_none_of X G z_max, tup := PySem.W.mg_none_of X G z_tup, list := PySem.W.mg_none_of X G z_list, int := PySem.W.mg_none_of X G z_int, bool := PySem.W.mg_none_of X G z_bool, abs := PySem.W.mg_none_of X G z_abs, all := PySem.W.mg_none_of X G z_all, range := PySem.W.mg_none_of X G z_range,
      gLETTERS := ⟨_, PySem.W.mg_of X G g0, _, rfl⟩, gSIGNS := ⟨_, PySem.W.mg_of X G g1, _, rfl⟩, gLT := ⟨_, PySem.W.mg_of X G g2, _, rfl⟩, gDO := ⟨_, PySem.W.mg_of X G g3, _, rfl⟩, gLW := ⟨_, PySem.W.mg_of X G g4, _, rfl⟩, gML := ⟨_, PySem.W.mg_of X G g5, _, rfl⟩, gD := ⟨_, PySem.W.mg_of X G g6, _, rfl⟩, gMP := ⟨_, PySem.W.mg_of X G g7, _, rfl⟩, gMLL := ⟨_, PySem.W.mg_of X G g8, _, rfl⟩, gDL := ⟨_, PySem.W.mg_of X G g9, _, rfl⟩, gMLP := ⟨_, PySem.W.mg_of X G g10, _, rfl⟩,
      gKINDS := ⟨_, PySem.W.mg_of X G h0, ktup_mk j0 (.cons ⟨_, rfl⟩ (.cons ⟨_, rfl⟩ .nil)) (by show 2 ≤ 1000; decide)⟩, gBEG := ⟨_, PySem.W.mg_of X G h1, ktup_mk j1 (.cons ⟨_, rfl⟩ (.cons ⟨_, rfl⟩ (.cons ⟨_, rfl⟩ .nil))) (by show 3 ≤ 1000; decide)⟩, gBEH := ⟨_, PySem.W.mg_of X G h2, ktup_mk j2 (.cons ⟨_, rfl⟩ (.cons ⟨_, rfl⟩ .nil)) (by show 2 ≤ 1000; decide)⟩ }
  have C : Cl K mg cT cA cP :=
    { oT := ⟨⟨nmT, qT, NT, bsT, _, snT, subT, abT, colT, ddT, m0T, m1T, m2T, m3T, m5T, xT, rfl⟩, saT, eT, tyT, kcT⟩, oA := ⟨⟨nmA, qA, NA, bsA, _, snA, subA, abA, colA, ddA, m0A, m1A, m2A, m3A, m5A, xA, rfl⟩, saA, eA, tyA, kcA⟩, tT := ⟨_, _, a38, t38, F38, b38⟩, tA := ⟨_, _, a39, t39, F39, b39⟩, nCol := nCol, nWor := nWor, nOpt := nOpt, gT := PySem.W.mg_of X G aT, gA := PySem.W.mg_of X G aA,
      xT := ⟨gaT, ggT, eT, hdT⟩, xA := ⟨gaA, ggA, eA, hdA⟩, eTT := exm_mk eT isT tyT sTT, eAA := exm_mk eA isA tyA sAA, eTA := exm_mk eA isA tyA sTA, clP := ⟨pgP, hdP, poP, saP⟩, nTok := nTok, nSto := nSto, nAt := nAt, gP := PySem.W.mg_of X G aP, mP := ⟨_, _, ⟨mkP, a37, i37, kcP⟩, F37, b37⟩ }
  refine ⟨PySem.W.fnOf "law" "law" (defArgs sLaw) (defBody sLaw) (defScope sLaw) .none kV31 dc31 pm31 an31 cd31 ct31, fun s v => .of_eq rfl, fun base _ _ => ?_⟩
  have gCheck := ok_check (P := l.prog) (w := w) (base := base) D1 T
  have gKind := ok_kindOf (P := l.prog) (w := w) (base := base) D2 T
  have gShown := ok_shown (P := l.prog) (w := w) (base := base) D6
  have gOrder := ok_inOrder (P := l.prog) (w := w) (base := base) D7 T
  have gJoined := ok_joined (P := l.prog) (w := w) (base := base) D8 T
  have gListed := ok_listed (P := l.prog) (w := w) (base := base) D23 T
  have gOpened := ok_opened (P := l.prog) (w := w) (base := base) D4 T
  have gRow := ok_rowOf (P := l.prog) (w := w) (base := base) D5 T
  have gMeas := ok_measures (P := l.prog) (w := w) (base := base) D10 T
  have gScan := ok_scan (P := l.prog) (w := w) (base := base) D3 T C gCheck gKind
  have gLook := ok_look (P := l.prog) (w := w) (base := base) D33 T C gOrder gJoined gShown
  have gTake := ok_take (P := l.prog) (w := w) (base := base) D34 C gLook
  have gWhole := fun (c : Ctx) (o : c.Ok) => ok_wholes (P := l.prog) (w := w) (base := base) o D35 D32 T C gLook gTake gShown gOpened gRow 10
  have gWord := fun (c : Ctx) (o : c.Ok) => ok_word (P := l.prog) (w := w) (base := base) o D36 T C gTake
  have gNext := ok_next (P := l.prog) (w := w) (base := base) D9 T C gCheck gScan gWhole gWord
  have gWithin := ok_within (P := l.prog) (w := w) (base := base) D11 T C gScan gMeas gWhole
  have gRE := ok_readE (P := l.prog) (w := w) (base := base) D12 T gWithin
  have gRL := ok_readL (P := l.prog) (w := w) (base := base) D13 T gWithin
  have gRW := ok_readW (P := l.prog) (w := w) (base := base) D14 D36 T C gScan gWord
  have gStream := ok_stream (P := l.prog) (w := w) (base := base) D15 T
  have gDraw := ok_draw (P := l.prog) (w := w) (base := base) D16 T
  have gPick := ok_pick (P := l.prog) (w := w) (base := base) D19 T gDraw
  have gToken := ok_token (P := l.prog) (w := w) (base := base) D28 gPick
  have gLS := ok_lshown (P := l.prog) (w := w) (base := base) D21
  have gKinds := ok_kinds (P := l.prog) (w := w) (base := base) D22
  have gOpts := ok_options (P := l.prog) (w := w) (base := base) D24
  have gStep := ok_step (P := l.prog) (w := w) (base := base) D25
  have gDue := ok_due (P := l.prog) (w := w) (base := base) D26 gOpts gKinds gLS
  have gInt := ok_isInt (P := l.prog) (w := w) (base := base) D17 T
  have gEq := ok_equal (P := l.prog) (w := w) (base := base) D18 T gInt 3
  have gLaid := ok_laid (P := l.prog) (w := w) (base := base) D20 T gDraw
  have gTold := ok_told (P := l.prog) (w := w) (base := base) D27 C gNext gRE gRL gRW
  have gRight := ok_right (P := l.prog) (w := w) (base := base) D29 T gLaid gDue gTold gEq gListed
  have gGoes := ok_goes (P := l.prog) (w := w) (base := base) D30 T gDraw gKinds gPick gToken gOpts gStep gLaid gDue gTold gEq gListed
  exact ok_law F31 T gStream gDraw gKinds gPick gToken gOpts gStep gRight gGoes
theorem walk {l : PySem.W.OpenLaw} {q : Program} {loose : List Str} {XP : (Str → Option Value) → Heap → Prop} {YP : World → Heap → Prop} {d : DefRec} {K : Params → PySem.W.Frag} (hn : l.most = some 63) (hdf : d.params.defaults = [])
    (hY : ∀ (w : World) (h : Heap), YP w h → (K w.params).In h)
    (F : ∀ (w : World) (mg : Str → Option Value) (fa : Addr) (h : Heap), (K w.params).In h → h.Ns mainGlobals mg → mg d.name = some (.ref fa) →
      ∃ fd : FuncData, (∀ (s : Shared) (u : Value), BindsTo s fd ⟨[u], []⟩ [("_law_script", u)]) ∧ ∀ base : Heap, (K w.params).In base → base.Ns mainGlobals mg → FnOk l.prog w (K w.params) mg base CX0 29 fa fd ["_law_script"] (spLaw (K w.params))) :
    PySem.W.WalkO q loose XP YP l.row.toRowW d [] (fun f vs => PySem.call f vs) :=
  L2.walk_of (n := 63) (k := 29) (x := "_law_script") (CX := fun _ => CX0) (sp := fun w => spLaw (K w.params)) hn (by decide) hdf ⟨rfl, by decide, by decide⟩ hY F (fun _ _ a ns _ _ hS => ⟨a, ns, rfl, hS, fun _ => rfl⟩) fun _ _ _ _ _ z => z
end N75
open PySem PySem.W PyProof.Rows
set_option maxRecDepth 100000 in
set_option maxHeartbeats 0 in
theorem PySem.Challenge.cw_nodoubt_k75_whole_what_can_come_holds : PySem.Challenge.rw_nodoubt_k75_whole_what_can_come.Holds := by
  w_on; o_law; k_head; (case hw => w_witness2)
  k_fill
  refine N75.walk (l := PySem.Challenge.rw_nodoubt_k75_whole_what_can_come) rfl rfl (fun w h Y => PySem.W.kIn_of Y) ?F
  case F =>
    intro w mg fa h KX G hmg
    refine' N75.all_mk KX G hmg ?u_aT ?u_aA ?u_aP ?u_a1 ?u_l1 ?u_c1 ?u_k1 ?u_a2 ?u_l2 ?u_c2 ?u_k2 ?u_a3 ?u_l3 ?u_c3 ?u_k3 ?u_a4 ?u_l4 ?u_c4 ?u_k4 ?u_a5 ?u_l5 ?u_c5 ?u_k5 ?u_a6 ?u_l6 ?u_c6 ?u_k6 ?u_a7 ?u_l7 ?u_c7 ?u_k7 ?u_a8 ?u_l8 ?u_c8 ?u_k8 ?u_a9 ?u_l9 ?u_c9 ?u_k9 ?u_a10 ?u_l10 ?u_c10 ?u_k10 ?u_a11 ?u_l11 ?u_c11 ?u_k11 ?u_a12 ?u_l12 ?u_c12 ?u_k12 ?u_a13 ?u_l13 ?u_c13 ?u_k13 ?u_a14 ?u_l14 ?u_c14 ?u_k14 ?u_a15 ?u_l15 ?u_c15 ?u_k15 ?u_a16 ?u_l16 ?u_c16 ?u_k16 ?u_a17 ?u_l17 ?u_c17 ?u_k17 ?u_a18 ?u_l18 ?u_c18 ?u_k18 ?u_a19 ?u_l19 ?u_c19 ?u_k19 ?u_a20 ?u_l20 ?u_c20 ?u_k20 ?u_a21 ?u_l21 ?u_c21 ?u_k21 ?u_a22 ?u_l22 ?u_c22 ?u_k22 ?u_a23 ?u_l23 ?u_c23 ?u_k23 ?u_a24 ?u_l24 ?u_c24 ?u_k24 ?u_a25 ?u_l25 ?u_c25 ?u_k25 ?u_a26 ?u_l26 ?u_c26 ?u_k26 ?u_a27 ?u_l27 ?u_c27 ?u_k27 ?u_a28 ?u_l28 ?u_c28 ?u_k28 ?u_a29 ?u_l29 ?u_c29 ?u_k29 ?u_a30 ?u_l30 ?u_c30 ?u_k30 ?u_a31 ?u_l31 ?u_c31 ?u_k31 ?u_a32 ?u_i32 ?u_l32 ?u_c32 ?u_k32 ?u_a33 ?u_i33 ?u_l33 ?u_c33 ?u_k33 ?u_a34 ?u_i34 ?u_l34 ?u_c34 ?u_k34 ?u_a35 ?u_i35 ?u_l35 ?u_c35 ?u_k35 ?u_a36 ?u_i36 ?u_l36 ?u_c36 ?u_k36 ?u_a37 ?u_i37 ?u_l37 ?u_c37 ?u_k37 ?u_a38 ?u_t38 ?u_l38 ?u_c38 ?u_k38 ?u_a39 ?u_t39 ?u_l39 ?u_c39 ?u_k39 ?u_xT ?u_saT ?u_gaT ?u_ggT ?u_eT ?u_tyT ?u_kcT ?u_hdT ?u_xA ?u_saA ?u_gaA ?u_ggA ?u_eA ?u_tyA ?u_kcA ?u_hdA ?u_nCol ?u_nWor ?u_nOpt ?u_nTok ?u_nSto ?u_nAt ?u_isT ?u_isA ?u_sTT ?u_sAA ?u_sTA ?u_pgP ?u_hdP ?u_poP ?u_saP ?u_mkP ?u_kcP ?u_z_isi ?u_z_str ?u_z_len ?u_z_enm ?u_z_max ?u_z_tup ?u_z_list ?u_z_int ?u_z_bool ?u_z_abs ?u_z_all ?u_z_range ?u_g0 ?u_g1 ?u_g2 ?u_g3 ?u_g4 ?u_g5 ?u_g6 ?u_g7 ?u_g8 ?u_g9 ?u_g10 ?u_h0 ?u_j0 ?u_h1 ?u_j1 ?u_h2 ?u_j2
    (case u_aT => k_is)
    (case u_aA => k_is)
    (case u_aP => k_is)
    (case u_a1 => k_is)
    (case u_l1 => k_is)
    (case u_c1 => k_is)
    (case u_k1 => k_is)
    (case u_a2 => k_is)
    (case u_l2 => k_is)
    (case u_c2 => k_is)
    (case u_k2 => k_is)
    (case u_a3 => k_is)
    (case u_l3 => k_is)
    (case u_c3 => k_is)
    (case u_k3 => k_is)
    (case u_a4 => k_is)
    (case u_l4 => k_is)
    (case u_c4 => k_is)
    (case u_k4 => k_is)
    (case u_a5 => k_is)
    (case u_l5 => k_is)
    (case u_c5 => k_is)
    (case u_k5 => k_is)
    (case u_a6 => k_is)
    (case u_l6 => k_is)
    (case u_c6 => k_is)
    (case u_k6 => k_is)
    (case u_a7 => k_is)
    (case u_l7 => k_is)
    (case u_c7 => k_is)
    (case u_k7 => k_is)
    (case u_a8 => k_is)
    (case u_l8 => k_is)
    (case u_c8 => k_is)
    (case u_k8 => k_is)
    (case u_a9 => k_is)
    (case u_l9 => k_is)
    (case u_c9 => k_is)
    (case u_k9 => k_is)
    (case u_a10 => k_is)
    (case u_l10 => k_is)
    (case u_c10 => k_is)
    (case u_k10 => k_is)
    (case u_a11 => k_is)
    (case u_l11 => k_is)
    (case u_c11 => k_is)
    (case u_k11 => k_is)
    (case u_a12 => k_is)
    (case u_l12 => k_is)
    (case u_c12 => k_is)
    (case u_k12 => k_is)
    (case u_a13 => k_is)
    (case u_l13 => k_is)
    (case u_c13 => k_is)
    (case u_k13 => k_is)
    (case u_a14 => k_is)
    (case u_l14 => k_is)
    (case u_c14 => k_is)
    (case u_k14 => k_is)
    (case u_a15 => k_is)
    (case u_l15 => k_is)
    (case u_c15 => k_is)
    (case u_k15 => k_is)
    (case u_a16 => k_is)
    (case u_l16 => k_is)
    (case u_c16 => k_is)
    (case u_k16 => k_is)
    (case u_a17 => k_is)
    (case u_l17 => k_is)
    (case u_c17 => k_is)
    (case u_k17 => k_is)
    (case u_a18 => k_is)
    (case u_l18 => k_is)
    (case u_c18 => k_is)
    (case u_k18 => k_is)
    (case u_a19 => k_is)
    (case u_l19 => k_is)
    (case u_c19 => k_is)
    (case u_k19 => k_is)
    (case u_a20 => k_is)
    (case u_l20 => k_is)
    (case u_c20 => k_is)
    (case u_k20 => k_is)
    (case u_a21 => k_is)
    (case u_l21 => k_is)
    (case u_c21 => k_is)
    (case u_k21 => k_is)
    (case u_a22 => k_is)
    (case u_l22 => k_is)
    (case u_c22 => k_is)
    (case u_k22 => k_is)
    (case u_a23 => k_is)
    (case u_l23 => k_is)
    (case u_c23 => k_is)
    (case u_k23 => k_is)
    (case u_a24 => k_is)
    (case u_l24 => k_is)
    (case u_c24 => k_is)
    (case u_k24 => k_is)
    (case u_a25 => k_is)
    (case u_l25 => k_is)
    (case u_c25 => k_is)
    (case u_k25 => k_is)
    (case u_a26 => k_is)
    (case u_l26 => k_is)
    (case u_c26 => k_is)
    (case u_k26 => k_is)
    (case u_a27 => k_is)
    (case u_l27 => k_is)
    (case u_c27 => k_is)
    (case u_k27 => k_is)
    (case u_a28 => k_is)
    (case u_l28 => k_is)
    (case u_c28 => k_is)
    (case u_k28 => k_is)
    (case u_a29 => k_is)
    (case u_l29 => k_is)
    (case u_c29 => k_is)
    (case u_k29 => k_is)
    (case u_a30 => k_is)
    (case u_l30 => k_is)
    (case u_c30 => k_is)
    (case u_k30 => k_is)
    (case u_a31 => k_is)
    (case u_l31 => k_is)
    (case u_c31 => k_is)
    (case u_k31 => k_is)
    (case u_a32 => k_is)
    (case u_i32 => k_is)
    (case u_l32 => k_is)
    (case u_c32 => k_is)
    (case u_k32 => k_is)
    (case u_a33 => k_is)
    (case u_i33 => k_is)
    (case u_l33 => k_is)
    (case u_c33 => k_is)
    (case u_k33 => k_is)
    (case u_a34 => k_is)
    (case u_i34 => k_is)
    (case u_l34 => k_is)
    (case u_c34 => k_is)
    (case u_k34 => k_is)
    (case u_a35 => k_is)
    (case u_i35 => k_is)
    (case u_l35 => k_is)
    (case u_c35 => k_is)
    (case u_k35 => k_is)
    (case u_a36 => k_is)
    (case u_i36 => k_is)
    (case u_l36 => k_is)
    (case u_c36 => k_is)
    (case u_k36 => k_is)
    (case u_a37 => k_is)
    (case u_i37 => k_is)
    (case u_l37 => k_is)
    (case u_c37 => k_is)
    (case u_k37 => k_is)
    (case u_a38 => k_is)
    (case u_t38 => k_is)
    (case u_l38 => k_is)
    (case u_c38 => k_is)
    (case u_k38 => k_is)
    (case u_a39 => k_is)
    (case u_t39 => k_is)
    (case u_l39 => k_is)
    (case u_c39 => k_is)
    (case u_k39 => k_is)
    (case u_xT => k_is)
    (case u_saT => k_is)
    (case u_gaT => k_is)
    (case u_ggT => k_is)
    (case u_eT => k_is)
    (case u_tyT => k_is)
    (case u_kcT => k_is)
    (case u_hdT => k_is)
    (case u_xA => k_is)
    (case u_saA => k_is)
    (case u_gaA => k_is)
    (case u_ggA => k_is)
    (case u_eA => k_is)
    (case u_tyA => k_is)
    (case u_kcA => k_is)
    (case u_hdA => k_is)
    (case u_nCol => k_is)
    (case u_nWor => k_is)
    (case u_nOpt => k_is)
    (case u_nTok => k_is)
    (case u_nSto => k_is)
    (case u_nAt => k_is)
    (case u_isT => k_is)
    (case u_isA => k_is)
    (case u_sTT => first | rfl | k_is)
    (case u_sAA => first | rfl | k_is)
    (case u_sTA => k_is)
    (case u_pgP => k_is)
    (case u_hdP => k_is)
    (case u_poP => k_is)
    (case u_saP => k_is)
    (case u_mkP => k_is)
    (case u_kcP => k_is)
    (case u_z_isi => k_is)
    (case u_z_str => k_is)
    (case u_z_len => k_is)
    (case u_z_enm => k_is)
    (case u_z_max => k_is)
    (case u_z_tup => k_is)
    (case u_z_list => k_is)
    (case u_z_int => k_is)
    (case u_z_bool => k_is)
    (case u_z_abs => k_is)
    (case u_z_all => k_is)
    (case u_z_range => k_is)
    (case u_g0 => k_is)
    (case u_g1 => k_is)
    (case u_g2 => k_is)
    (case u_g3 => k_is)
    (case u_g4 => k_is)
    (case u_g5 => k_is)
    (case u_g6 => k_is)
    (case u_g7 => k_is)
    (case u_g8 => k_is)
    (case u_g9 => k_is)
    (case u_g10 => k_is)
    (case u_h0 => k_is)
    (case u_j0 => k_is)
    (case u_h1 => k_is)
    (case u_j1 => k_is)
    (case u_h2 => k_is)
    (case u_j2 => k_is)
