import PyProof.Rows.All
import Wide.All
import OpenK.AllK
import Wide.FinOn
import HandS.ForMost
import HandS.Exc
import HandS.Wide
import HandS.EndBits
import HandS.Evl
import HandS.Defaults
import HandS.IterNext
import HandS.IterVal
import HandS.IsInst
import HandS.Deep
import HandS.Head0
import HandS.Head1
import HandS.Head2
import HandS.HeadEnd
import HandS.HeadHook1
import HandS.HeadHook2
import PySem.Challenge.RW_throughline_k62_ledger
set_option Elab.async false
set_option linter.all false
set_option maxRecDepth 100000
set_option maxHeartbeats 0
namespace TL
open PySem PySem.Spec PyProof.Rows L2
abbrev Cells := List (Addr × HO)
structure Sat (H : Hp) (A : Cells) : Prop where
  nd : (A.map (·.1)).Nodup
  at_ : ∀ c ∈ A, H c.1 = some c.2

theorem Sat.get {H : Hp} {A : Cells} {a : Addr} {o : HO} (s : Sat H A) (m : (a, o) ∈ A) : H a = some o := s.at_ _ m
theorem Sat.nil {H : Hp} : Sat H [] := ⟨List.nodup_nil, fun _ h => nomatch h⟩
theorem Sat.new {H : Hp} {A : Cells} {p : Addr} {o : HO} (s : Sat H A) (h : H p = none) : Sat (upd H p o) ((p, o) :: A) := by
  have hp : ∀ c ∈ A, c.1 ≠ p := fun c hc e => by
    have := s.at_ c hc
    rw [e, h] at this
    cases this
  refine ⟨?_, ?_⟩
  · rw [List.map_cons, List.nodup_cons]
    refine ⟨fun hm => ?_, s.nd⟩
    obtain ⟨c, hc, e⟩ := List.mem_map.mp hm
    exact hp c hc e
  · intro c hc
    rcases List.mem_cons.mp hc with rfl | hc
    · exact upd_same
    · rw [upd_ne (hp c hc)]
      exact s.at_ c hc
theorem Sat.made {H : Hp} {A : Cells} {x dx C : Addr} (s : Sat H A) (hx : H x = none) (hd : H dx = none) (ne : dx ≠ x) : Sat (upd (upd H dx (.own x)) x (.ins C dx [])) ((x, .ins C dx []) :: A) := by
  have h1 := Sat.new (o := .own x) s hd
  have h2 := Sat.new (p := x) (o := .ins C dx []) h1 (by rw [upd_ne (Ne.symm ne)]; exact hx)
  exact ⟨h2.nd.sublist (by simp), fun c hc => h2.at_ c (by
    rcases List.mem_cons.mp hc with rfl | hc
    · exact List.mem_cons_self
    · exact List.mem_cons_of_mem _ (List.mem_cons_of_mem _ hc))⟩
inductive Put : Cells → Addr → HO → Cells → Prop
  | head {a : Addr} {o o' : HO} {A : Cells} : Put ((a, o) :: A) a o' ((a, o') :: A)
  | tail {a : Addr} {o' : HO} {c : Addr × HO} {A B : Cells} : Put A a o' B → Put (c :: A) a o' (c :: B)
  | left {a : Addr} {o' : HO} {A B F : Cells} : Put A a o' B → Put (A ++ F) a o' (B ++ F)
  | right {a : Addr} {o' : HO} {A B F : Cells} : Put A a o' B → Put (F ++ A) a o' (F ++ B)
theorem Put.map {A B : Cells} {a : Addr} {o : HO} (p : Put A a o B) : A.map (·.1) = B.map (·.1) := by
  induction p with
  | head => rfl
  | tail _ ih => rw [List.map_cons, List.map_cons, ih]
  | left _ ih => rw [List.map_append, List.map_append, ih]
  | right _ ih => rw [List.map_append, List.map_append, ih]
theorem Put.dom {A B : Cells} {a : Addr} {o : HO} (p : Put A a o B) : a ∈ A.map (·.1) := by
  induction p with
  | head => exact List.mem_cons_self
  | tail _ ih => exact List.mem_cons_of_mem _ ih
  | left _ ih => rw [List.map_append]; exact List.mem_append_left _ ih
  | right _ ih => rw [List.map_append]; exact List.mem_append_right _ ih
theorem Put.mem {A B : Cells} {a : Addr} {o : HO} (p : Put A a o B) : (A.map (·.1)).Nodup → ∀ c ∈ B, (c = (a, o)) ∨ (c ∈ A ∧ c.1 ≠ a) := by
  induction p with
  | @head a o o' A =>
    intro nd c hc
    rcases List.mem_cons.mp hc with rfl | hc
    · exact .inl rfl
    · refine .inr ⟨List.mem_cons_of_mem _ hc, fun e => ?_⟩
      rw [List.map_cons, List.nodup_cons] at nd
      exact nd.1 (List.mem_map.mpr ⟨c, hc, e⟩)
  | @tail a o' d A B p ih =>
    intro nd c hc
    rw [List.map_cons, List.nodup_cons] at nd
    rcases List.mem_cons.mp hc with rfl | hc
    · refine .inr ⟨List.mem_cons_self, fun e => nd.1 ?_⟩
      rw [e]
      exact p.dom
    · rcases ih nd.2 c hc with h | ⟨h, h2⟩
      · exact .inl h
      · exact .inr ⟨List.mem_cons_of_mem _ h, h2⟩
  | @left a o' A B F p ih =>
    intro nd c hc
    rw [List.map_append, List.nodup_append] at nd
    rcases List.mem_append.mp hc with hc | hc
    · rcases ih nd.1 c hc with h | ⟨h, h2⟩
      · exact .inl h
      · exact .inr ⟨List.mem_append_left _ h, h2⟩
    · refine .inr ⟨List.mem_append_right _ hc, fun e => ?_⟩
      have ha := p.dom
      exact nd.2.2 a ha a (List.mem_map.mpr ⟨c, hc, e⟩) rfl
  | @right a o' A B F p ih =>
    intro nd c hc
    rw [List.map_append, List.nodup_append] at nd
    rcases List.mem_append.mp hc with hc | hc
    · refine .inr ⟨List.mem_append_left _ hc, fun e => ?_⟩
      have ha := p.dom
      exact nd.2.2 a (List.mem_map.mpr ⟨c, hc, e⟩) a ha rfl
    · rcases ih nd.2.1 c hc with h | ⟨h, h2⟩
      · exact .inl h
      · exact .inr ⟨List.mem_append_right _ h, h2⟩
theorem Sat.put {H : Hp} {A B : Cells} {a : Addr} {o : HO} (s : Sat H A) (p : Put A a o B) : Sat (upd H a o) B := by
  refine ⟨by rw [← p.map]; exact s.nd, fun c hc => ?_⟩
  rcases p.mem s.nd c hc with rfl | ⟨h, ne⟩
  · exact upd_same
  · rw [upd_ne ne]
    exact s.at_ c h
/-- with the new object told in another form -/
theorem Sat.putE {H : Hp} {A B : Cells} {a : Addr} {o o' : HO} (s : Sat H A) (e : o = o') (p : Put A a o' B) : Sat (upd H a o) B := by
  subst e
  exact s.put p
theorem Sat.perm {H : Hp} {A B : Cells} (s : Sat H A) (p : A.Perm B) : Sat H B :=
  ⟨(p.map (·.1)).nodup_iff.mp s.nd, fun c hc => s.at_ c (p.mem_iff.mpr hc)⟩
theorem Sat.sub {H : Hp} {A B : Cells} (s : Sat H A) (p : B.Sublist A) : Sat H B :=
  ⟨(p.map (·.1)).nodup s.nd, fun c hc => s.at_ c (p.subset hc)⟩
theorem Sat.ex {H H' : Hp} {A : Cells} (s : Sat H A) (e : Same H H') : Sat H' A := ⟨s.nd, fun c hc => e _ _ (s.at_ c hc)⟩
theorem Sat.left {H : Hp} {A B : Cells} (s : Sat H (A ++ B)) : Sat H A := s.sub (List.sublist_append_left _ _)
theorem Sat.right {H : Hp} {A B : Cells} (s : Sat H (A ++ B)) : Sat H B := s.sub (List.sublist_append_right _ _)
theorem Sat.tl {H : Hp} {A : Cells} {c : Addr × HO} (s : Sat H (c :: A)) : Sat H A := s.sub (List.sublist_cons_self _ _)
theorem Sat.ne {H : Hp} {A : Cells} {a b : Addr} {o : HO} (s : Sat H A) (m : (a, o) ∈ A) (h : H b = none) : a ≠ b := ne_of_none (s.get m) h
open Classical in
theorem perm_count {A B : Cells} (h : ∀ c, A.count c = B.count c) : A.Perm B := List.perm_iff_count.mpr h
example (A B : Cells) (c d : Addr × HO) : (c :: A ++ (d :: B)).Perm (B ++ d :: (A ++ [c])) := by
  refine perm_count fun x => ?_
  simp only [List.count_append, List.count_cons, List.count_nil]
  omega
/-! ### a def that may be called -/
structure Cb (P : Program) (w : World) (K : PySem.W.Frag) (mg : Str → Option Value) (base : Heap) (CX : CXT) (k : Nat) (f : Addr) (ps : List Str) (sp : Sp) : Prop where
  ex : ∃ fd, FnOk P w K mg base CX k f fd ps sp ∧ Binds K fd ps []
  kp : PySem.W.keepIn K (.ref f) = true
section
variable {X : Cx} {CX : CXT} {k : Nat} {f C : Addr} {ps : List Str} {sp : Sp} {E : XK} {x m : Str} {p pos apos : Pos} {e o : Expr} {es : List Expr} {ta : TE} {t : TA}
abbrev CbX (X : Cx) (CX : CXT) (k : Nat) (f : Addr) (ps : List Str) (sp : Sp) : Prop := Cb X.prog X.w X.K X.mg X.base CX k f ps sp
theorem pe_callC (c : CbX X CX k f ps sp) (hr : Room k X.A) (hg : Gl X x) (hm : X.mg x = some (.ref f)) (hx : Passes CX X E) (ha : PA X (e :: es) t)
    (h1 : (x == ("__debug__" : Str)) = false := by decide)
    (h2 : starEach (e :: es) X.env = (false, eval e X.env) :: starEach es X.env := by rfl)
    (h3 : (backTo pos (starEach es X.env)).any (·.1) = false := by rfl) : PE X (.Call (.Name x p) (e :: es) [] pos) (tCall sp [] E t) := by
  obtain ⟨fd, F, b⟩ := c.ex
  exact pe_call F hr hg hm c.kp b .nil hx ha h1 h2 h3
theorem pe_callC0 (c : CbX X CX k f ps sp) (hr : Room k X.A) (hg : Gl X x) (hm : X.mg x = some (.ref f)) (hx : Passes CX X E)
    (h1 : (x == ("__debug__" : Str)) = false := by decide) : PE X (.Call (.Name x p) [] [] pos) (tCall sp [] E tNil) := by
  obtain ⟨fd, F, b⟩ := c.ex
  exact pe_call0 F hr hg hm c.kp b .nil hx h1
theorem pe_methC {pl : Sem Bool} (he : PE X o ta) (c : Cls X.K C) (hm : Meth X.K C m f) (F : CbX X CX k f ps sp) (hr : Room k X.A) (hx : Passes CX X E) (ha : PA X (e :: es) t)
    (h1 : starEach (e :: es) X.env = (false, eval e X.env) :: starEach es X.env := by rfl)
    (h2 : (backTo pos (starEach es X.env)).any (·.1) = false := by rfl)
    (h3 : eval (.Call (.Attribute o m apos) (e :: es) [] pos) X.env = (do
      let ov ← eval o X.env; standAt apos.atName; let (f, first) ← holding [ov] (getMethod ov m pl)
      callWith pos f first (backTo pos (starEach (e :: es) X.env)) (backToKw pos (keywordEach [] X.env))) := by rfl) :
    PE X (.Call (.Attribute o m apos) (e :: es) [] pos) (tMeth C m sp [] E ta t) := by
  obtain ⟨fd, F, b⟩ := F.ex
  exact pe_meth he c hm F hr b .nil hx ha h1 h2 h3
theorem pe_methC0 {pl : Sem Bool} (he : PE X o ta) (c : Cls X.K C) (hm : Meth X.K C m f) (F : CbX X CX k f ps sp) (hr : Room k X.A) (hx : Passes CX X E)
    (h3 : eval (.Call (.Attribute o m apos) [] [] pos) X.env = (do
      let ov ← eval o X.env; standAt apos.atName; let (f, first) ← holding [ov] (getMethod ov m pl)
      callWith pos f first (backTo pos (starEach [] X.env)) (backToKw pos (keywordEach [] X.env))) := by rfl) :
    PE X (.Call (.Attribute o m apos) [] [] pos) (tMeth C m sp [] E ta tNil) := by
  obtain ⟨fd, F, b⟩ := F.ex
  exact pe_meth0 he c hm F hr b .nil hx h3
theorem pe_makeC (M : Mk X.K C f) (F : CbX X CX k f ps sp) (hr : Room (k + 1) X.A) (hg : Gl X x) (hm : X.mg x = some (.ref C)) (hx : Passes CX X E) (ha : PA X (e :: es) t)
    (h1 : (x == ("__debug__" : Str)) = false := by decide)
    (h2 : starEach (e :: es) X.env = (false, eval e X.env) :: starEach es X.env := by rfl)
    (h3 : (backTo pos (starEach es X.env)).any (·.1) = false := by rfl) : PE X (.Call (.Name x p) (e :: es) [] pos) (tMake C sp [] E t) := by
  obtain ⟨fd, F, b⟩ := F.ex
  exact pe_make M F hr hg hm b .nil hx ha h1 h2 h3
theorem pe_makeC0 (M : Mk X.K C f) (F : CbX X CX k f ps sp) (hr : Room (k + 1) X.A) (hg : Gl X x) (hm : X.mg x = some (.ref C)) (hx : Passes CX X E)
    (h1 : (x == ("__debug__" : Str)) = false := by decide) : PE X (.Call (.Name x p) [] [] pos) (tMake C sp [] E tNil) := by
  obtain ⟨fd, F, b⟩ := F.ex
  exact pe_make0 M F hr hg hm b .nil hx h1
end
/-! ### a def whose promise may tell the size of the heap at its entry -/
def FnS (P : Program) (w : World) (K : PySem.W.Frag) (mg : Str → Option Value) (base : Heap) (CX : CXT) (k : Nat) (f : Addr) (fd : FuncData) (ps : List Str) (sp : Nat → Sp) : Prop :=
  ∀ (A : Around) (outer : List Env) (s : Shared) (H : Hp) (args : Args) (us : List Value) (vs : List V) (Q : VK) (E : XK), Room k A → Env0 P w K mg base A outer s H →
    BindsTo s fd args (ps.zip us) → Vals vs us → vs.length = ps.length → sp s.heap.objs.size vs H Q E → codeAny (model P w) A (.call (.ref f) args) (CR CX outer P w H s Q E) s
section
variable {P : Program} {w : World} {K : PySem.W.Frag} {mg : Str → Option Value} {base : Heap} {x qual : Str} {pa : Arguments} {bd : List Stmt} {sc : Scope} {f : Addr} {fd : FuncData} {N ps : List Str} {k : Nat}
theorem fnS_of {CX : CXT} {sp : Nat → Sp} (F : FunD K x qual pa bd sc [] [] f fd) (S : FnScope N ps sc)
    (hb : ∀ (cdv : Value) (A : Around) (outer : List Env) (s : Shared) (H : Hp) (vs : List V) (Q : VK) (E : XK), Room k (A.deeper (envOfC qual sc s.heap.objs.size f cdv)) → sp s.heap.objs.size vs H Q E →
      ∃ t, PSs (cxOf CX P w K mg base N qual sc f cdv A outer s H E) bd t ∧ t { nx := fun _ H' => Q .non H', rt := Q } (start N vs) H) : FnS P w K mg base CX (k + 1) f fd ps sp := by
  obtain ⟨oc, od, dV, kV, doc, pm, an, cdv, ct, osl, rfl, lk, hcd, _, _⟩ := F.ex
  intro A outer s H args us vs Q E hr e0 hbi r hl hsp
  have kept : ∀ b o, base.get? b = some o → s.heap.get? b = some o := fun b o z => (e0.bs b o z).1
  have KX := e0.mod.kin.keeps kept
  refine codeAny_call_function hr.depth (KX _ _ lk) rfl S.co S.gen rfl (PySem.W.codeRec_of KX hcd) (hbi _ _ _ _ ?_)
  refine wpAny_newFunctionEnv_cells S.kind (fun y hy => ?_) fun env he s1 x => ?_
  · rcases S.par y.1 (List.of_mem_zip hy).1 with q | q
    · exact .inl q
    · exact .inr ⟨q, PySem.W.cellsFrom_some _ _ _ (.inl q)⟩
  · subst he
    refine ⟨(e0.mod.nolimit.keeps kept).keeps x.toInCall.keep, codeAny_func ?_⟩
    obtain ⟨t, ht, hq⟩ := hb cdv A outer s H vs Q E (hr.deeper _) hsp
    refine wpAny_mono (ht.run [] s1 (start N vs) H _ (inv_start S hr.hd e0 hl r x) hq) (fun fl s' hs => ?_) fun _ _ z => z
    cases fl with
    | ret u =>
      obtain ⟨v, _, H', J, rv, q⟩ := hs
      exact ⟨v, H', J.os, J.bare, J.base, J.hok, rv, q⟩
    | next =>
      obtain ⟨_, H', J, q⟩ := hs
      exact ⟨.non, H', J.os, J.bare, J.base, J.hok, rfl, q⟩
    | brk => exact hs.elim fun _ z => z.elim fun _ z => z.2.elim
    | cont => exact hs.elim fun _ z => z.elim fun _ z => z.2.elim
end
structure CbS (P : Program) (w : World) (K : PySem.W.Frag) (mg : Str → Option Value) (base : Heap) (CX : CXT) (k : Nat) (f : Addr) (ps : List Str) (sp : Nat → Sp) : Prop where
  ex : ∃ fd, FnS P w K mg base CX k f fd ps sp ∧ Binds K fd ps []
  kp : PySem.W.keepIn K (.ref f) = true
section
variable {X : Cx} {CX : CXT} {k : Nat} {f C : Addr} {E : XK} {e : Expr} {ta : TE}
/-- an __iter__ that hands back a new iterator of a list that the instance holds: rd tells which -/
def spIt (C : Addr) (rd : Addr → Hp → Addr → Prop) : Nat → Sp := fun n vs H Q _ => ∃ (a dx : Addr) (fs : List (Str × V)) (l : Addr), vs = [.ref a] ∧ H a = some (.ins C dx fs) ∧ rd a H l ∧ ∀ it, H it = none → n ≤ it → Q (.ref it) (upd H it (ItO l it 0))
def iOwn (K : PySem.W.Frag) (C : Addr) (rd : Addr → Hp → Addr → Prop) (te : TE) : TI := fun σ H R => te σ H fun x H1 => ∃ a dx fs l, x = .ref a ∧ H1 a = some (.ins C dx fs) ∧ rd a H1 l ∧ R (Itl K l) H1
theorem pi_own {tg : Expr} {rd : Addr → Hp → Addr → Prop} (he : PE X e ta) (hm : Meth X.K C "__iter__" f) (F : CbS X.prog X.w X.K X.mg X.base CX0 k f ["self"] (spIt C rd)) (hr : Room k X.A) : PI X tg e (iOwn X.K C rd ta) := by
  obtain ⟨fd, F, b⟩ := F.ex
  refine ⟨fun pins s σ H R I h => ?_⟩
  refine thn (he.run pins s σ H _ I h) fun v s1 ⟨y, H1, I1, r1, a, dx, fs, l, ey, ea, hrd, q⟩ => ?_
  subst ey
  obtain rfl : v = Value.ref a := r1
  obtain ⟨mA, J, _⟩ := ins_get I1.hok ea
  obtain ⟨od, J, _⟩ := J.look
  obtain ⟨m', hF⟩ := I1.fr
  refine PySem.W.owit_iter hF I1.ok.mod.kin J hm.at_ hm.fn ?_
  have hb := b s1 [.ref a] I1.kIn (by simp)
  have hsp : spIt C rd s1.heap.objs.size [.ref a] H1 (fun v H2 => ∃ it, v = .ref it ∧ H1 it = none ∧ s1.heap.objs.size ≤ it ∧ H2 = upd H1 it (ItO l it 0)) E0 :=
    ⟨a, dx, fs, l, rfl, ea, hrd, fun it h1 h2 => ⟨it, rfl, h1, h2, rfl⟩⟩
  refine wpAny_call (codeAny_mono (F X.A X.stack s1 H1 ⟨[.ref a], []⟩ [.ref a] [.ref a] _ E0 hr I1.env0 (by simpa using hb) (.cons rfl .nil) rfl hsp) fun r s' hq => ?_)
  cases r with
  | error z => exact False.elim hq
  | ok fl =>
    cases fl with
    | ret u =>
      obtain ⟨w0, H2, I2, rw0, it, e1, n1, e2, e3⟩ := I1.after hq
      subst e1
      subst e3
      obtain rfl : u = Value.ref it := rw0
      have hn : X.s_0.heap.objs.size ≤ it := Nat.le_trans I1.sz e2
      have go := itO_get I2 upd_same
      have hT : s'.TypeIs (.ref it) "list_iterator" := ⟨_, go, rfl⟩
      unfold PySem.W.OwitIt
      refine wpAny_specialOf (name := Str.ofString "__next__") hT slot_listiter_next.lookup ?_
      have fp := ItX.inv_fp I2 upd_same hn
      have I3 := ItX.inv_drop (φ := fun h => h.get? it = some (GNX.itObj l 0)) I2 upd_same
      rw [ItX.dropH_upd n1] at I3 fp
      refine ⟨it, [it], _, Itl X.K l, H1, rfl, I3, turn_list l it, ⟨_, go, rfl, rfl⟩, fun b hb => ?_, q⟩
      have eb : b = it := by simpa using hb
      rw [eb]
      exact fp
    | next => exact False.elim hq
    | brk => exact False.elim hq
    | cont => exact False.elim hq
end
/-! ### data for == -/
section
variable {K : PySem.W.Frag} {H : Hp} {a : Addr}
theorem dpAll_ints : ∀ xs : List Int, DpAll K H (xs.map V.int) (xs.map PyData.int)
  | [] => .nil
  | x :: xs => .cons (.int x) (dpAll_ints xs)
theorem dp_ints {xs : List Int} (h : SqL K H a (xs.map V.int)) : Dp K H (.ref a) (.list (xs.map .int)) := .lst h (dpAll_ints xs)
theorem dp_intsT {xs : List Int} (h : SqT K H a (xs.map V.int)) : Dp K H (.ref a) (.tuple (xs.map .int)) := .tup h (dpAll_ints xs)
theorem lay_ints : ∀ xs : List Int, PyData.canLayAll0 (xs.map .int) = true
  | [] => by simp only [List.map_nil, PyData.canLayAll0]
  | x :: xs => by simp only [List.map_cons, PyData.canLayAll0, PyData.canLay0, lay_ints xs, Bool.and_self]
theorem deep_ints : ∀ xs : List Int, PyData.depthAll (xs.map .int) = 0
  | [] => by simp only [List.map_nil, PyData.depthAll]
  | x :: xs => by simp only [List.map_cons, PyData.depthAll, PyData.depth, deep_ints xs]; rfl
theorem shaped_of' {d : PyData} (h1 : d.canLay0 = true) (h2 : d.depth ≤ 64) : SeqAt.shaped d = true := by
  unfold SeqAt.shaped
  rw [h1, decide_eq_true h2]
  rfl
theorem shaped_ints (xs : List Int) : SeqAt.shaped (.list (xs.map .int)) = true :=
  shaped_of' (by simp only [PyData.canLay0, lay_ints]) (by simp only [PyData.depth, deep_ints]; decide)
theorem shaped_intsT (xs : List Int) : SeqAt.shaped (.tuple (xs.map .int)) = true :=
  shaped_of' (by simp only [PyData.canLay0, lay_ints]) (by simp only [PyData.depth, deep_ints]; decide)
theorem eqvAll_ints : ∀ xs ys : List Int, PyData.eqvAll (xs.map .int) (ys.map .int) = decide (xs = ys)
  | [], [] => by simp only [List.map_nil, PyData.eqvAll]; rfl
  | [], y :: ys => by simp only [List.map_nil, List.map_cons, PyData.eqvAll]; rfl
  | x :: xs, [] => by simp only [List.map_nil, List.map_cons, PyData.eqvAll]; rfl
  | x :: xs, y :: ys => by
    simp only [List.map_cons, PyData.eqvAll, PyData.eqv, eqvAll_ints xs ys]
    by_cases h1 : x = y
    · by_cases h2 : xs = ys <;> simp [h1, h2]
    · simp [h1]
theorem eqv_ints (xs ys : List Int) : PyData.eqv (.list (xs.map .int)) (.list (ys.map .int)) = decide (xs = ys) := by
  simp only [PyData.eqv, eqvAll_ints]
theorem eqv_intsT (xs ys : List Int) : PyData.eqv (.tuple (xs.map .int)) (.tuple (ys.map .int)) = decide (xs = ys) := by
  simp only [PyData.eqv, eqvAll_ints]
/-- lists of tuples of ints -/
def tupsD (zs : List (List Int)) : List PyData := zs.map fun z => .tuple (z.map .int)
theorem dpAll_tups {ps : List Addr} {zs : List (List Int)} (h : Paired (fun p z => SqT K H p (z.map V.int)) ps zs) : DpAll K H (ps.map V.ref) (tupsD zs) := by
  induction h with
  | nil => exact .nil
  | cons r _ ih => exact .cons (dp_intsT r) ih
theorem lay_tups : ∀ zs : List (List Int), PyData.canLayAll0 (tupsD zs) = true
  | [] => by simp only [tupsD, List.map_nil, PyData.canLayAll0]
  | z :: zs => by
    have h := lay_tups zs
    unfold tupsD at h ⊢
    simp only [List.map_cons, PyData.canLayAll0, PyData.canLay0, lay_ints, h, Bool.and_self]
theorem deep_tups : ∀ zs : List (List Int), PyData.depthAll (tupsD zs) ≤ 1
  | [] => by simp only [tupsD, List.map_nil, PyData.depthAll]; decide
  | z :: zs => by
    have h := deep_tups zs
    unfold tupsD at h ⊢
    simp only [List.map_cons, PyData.depthAll, PyData.depth, deep_ints]
    omega
theorem shaped_tups (zs : List (List Int)) : SeqAt.shaped (.list (tupsD zs)) = true :=
  shaped_of' (by simp only [PyData.canLay0, lay_tups]) (by have := deep_tups zs; simp only [PyData.depth]; omega)
theorem eqv_tups : ∀ xs ys : List (List Int), PyData.eqv (.list (tupsD xs)) (.list (tupsD ys)) = decide (xs = ys) := by
  have all : ∀ xs ys : List (List Int), PyData.eqvAll (tupsD xs) (tupsD ys) = decide (xs = ys) := by
    intro xs
    induction xs with
    | nil =>
      intro ys
      cases ys with
      | nil => simp only [tupsD, List.map_nil, PyData.eqvAll]; rfl
      | cons y ys => simp only [tupsD, List.map_nil, List.map_cons, PyData.eqvAll]; rfl
    | cons x xs ih =>
      intro ys
      cases ys with
      | nil => simp only [tupsD, List.map_nil, List.map_cons, PyData.eqvAll]; rfl
      | cons y ys =>
        have h := ih ys
        unfold tupsD at h ⊢
        simp only [List.map_cons, PyData.eqvAll, PyData.eqv, eqvAll_ints, h]
        by_cases h1 : x = y
        · by_cases h2 : xs = ys <;> simp [h1, h2]
        · simp [h1]
  intro xs ys
  simp only [PyData.eqv, all]
theorem any_tups (z : List Int) (ys : List (List Int)) : ((tupsD ys).any fun d => PyData.eqv d (.tuple (z.map .int))) = decide (z ∈ ys) := by
  induction ys with
  | nil => simp [tupsD]
  | cons y ys ih =>
    unfold tupsD at ih ⊢
    rw [List.map_cons, List.any_cons, ih, eqv_intsT]
    by_cases h : y = z
    · simp [h]
    · by_cases h2 : z ∈ ys <;> simp [h, h2, Ne.symm h]
end
theorem kitT {K : PySem.W.Frag} {a b : String} (h : kitB a b = some true) : PySem.W.kitOne K (.type a) (.type b) = some true := kit_ty h
theorem kitF {K : PySem.W.Frag} {a b : String} (h : kitB a b = some false) : PySem.W.kitOne K (.type a) (.type b) = some false := kit_ty h
theorem ext_here {X F : Cells} : (X ++ F).Perm (X ++ F) := List.Perm.refl _
theorem ext_nil {X : Cells} : X.Perm (X ++ []) := by rw [List.append_nil]
theorem ext_skip {A X F : Cells} {c : Addr × HO} (h : A.Perm (X ++ F)) : (c :: A).Perm (X ++ c :: F) := (h.cons c).trans List.perm_middle.symm
theorem ext_app {A X F B : Cells} (h : A.Perm (X ++ F)) : (B ++ A).Perm (X ++ (B ++ F)) :=
  (List.Perm.append_left B h).trans (by rw [← List.append_assoc, ← List.append_assoc]; exact List.Perm.append_right F List.perm_append_comm)
theorem ext_left {A X F B : Cells} (h : A.Perm (X ++ F)) : (A ++ B).Perm (X ++ (F ++ B)) := by
  rw [← List.append_assoc]
  exact List.Perm.append_right B h
theorem ext_one {F : Cells} {c c' : Addr × HO} (e : c' = c) : (c' :: F).Perm ([c] ++ F) := e ▸ List.Perm.refl _
theorem has_cons {A A1 B G : Cells} {c : Addr × HO} (h : A.Perm ([c] ++ A1)) (k : A1.Perm (B ++ G)) : A.Perm ((c :: B) ++ G) := h.trans (k.cons c)
theorem has_app {A X A1 B G : Cells} (h : A.Perm (X ++ A1)) (k : A1.Perm (B ++ G)) : A.Perm ((X ++ B) ++ G) := by
  rw [List.append_assoc]
  exact h.trans (List.Perm.append_left X k)
theorem has_nil {A : Cells} : A.Perm ([] ++ A) := List.Perm.refl _
theorem Sat.has {H : Hp} {A B G : Cells} (s : Sat H A) (p : A.Perm (B ++ G)) : Sat H B := (s.perm p).left
theorem ext_two {A X A1 B : Cells} (h : A.Perm (X ++ A1)) (k : A1.Perm B) : A.Perm (X ++ B) := h.trans (List.Perm.append_left X k)
/-! ### small facts -/
/-- a wall: go stops here -/
structure Bx (p : Prop) : Prop where
  h : p
theorem units65 {k : Nat} {A : Around} (hr : Room k A) : A.units + 65 < cLine := by
  have := hr.un
  omega
theorem sql_of {K : PySem.W.Frag} {H : Hp} {a : Addr} {xs : List V} (h : H a = some (.lst xs)) : SqL K H a xs := SqL.of h
theorem sqt_of {K : PySem.W.Frag} {H : Hp} {a : Addr} {xs : List V} (h : H a = some (.tup xs)) : SqT K H a xs := SqT.of h
theorem tyL_of {K : PySem.W.Frag} {H : Hp} {a : Addr} {xs : List V} (h : SqL K H a xs) : tyV K "list" (.ref a) H := .inl ⟨rfl, _, h⟩
theorem dget_ii {H : Hp} {a b : Addr} {kvs : List (List Key × V)} {i j : Int} (e : H a = some (.dT kvs)) (eb : H b = some (.tup [.int i, .int j])) : DGet H a (.ref b) (valV kvs [.inl i, .inl j]) := DGet.t (k := [.inl i, .inl j]) e eb
theorem dput_ii {H : Hp} {a b : Addr} {kvs : List (List Key × V)} {i j : Int} {v : V} (e : H a = some (.dT kvs)) (eb : H b = some (.tup [.int i, .int j])) (hl : kvs.length < sizeLine) :
    DPut H a (.ref b) v (upd H a (.dT (putK kvs [.inl i, .inl j] v))) := DPut.t (k := [.inl i, .inl j]) e eb hl
theorem szLt {n : Nat} (h : n ≤ 1000000) : n < sizeLine := Nat.lt_of_le_of_lt h (by decide)
theorem szLe {n : Nat} (h : n ≤ 1000000) : n ≤ sizeLine := Nat.le_trans h (by decide)
def topS (i : Nat) : Stmt := PySem.Challenge.pw_throughline_k62_ledger.main.body.getD i (.Pass ⟨0, 0, 0, 0⟩)
abbrev st_Ledger___init__ : Stmt := L2.inClass (topS 2) 0
theorem sc_Ledger___init__ : FnScope ["self"] ["self"] (defScope st_Ledger___init__) := ⟨rfl, rfl, rfl, by decide +kernel, rfl, by decide +kernel, by decide +kernel⟩
abbrev st_Ledger_note : Stmt := L2.inClass (topS 2) 2
theorem sc_Ledger_note : FnScope ["self", "host", "socket", "key"] ["self", "host", "socket"] (defScope st_Ledger_note) := ⟨rfl, rfl, rfl, by decide +kernel, rfl, by decide +kernel, by decide +kernel⟩
abbrev st_Ledger_note_write : Stmt := L2.inClass (topS 2) 3
theorem sc_Ledger_note_write : FnScope ["self", "host", "socket", "octets"] ["self", "host", "socket", "octets"] (defScope st_Ledger_note_write) := ⟨rfl, rfl, rfl, by decide +kernel, rfl, by decide +kernel, by decide +kernel⟩
abbrev st_Ledger_note_read : Stmt := L2.inClass (topS 2) 4
theorem sc_Ledger_note_read : FnScope ["self", "host", "socket", "octets"] ["self", "host", "socket", "octets"] (defScope st_Ledger_note_read) := ⟨rfl, rfl, rfl, by decide +kernel, rfl, by decide +kernel, by decide +kernel⟩
abbrev st_Ledger_note_finish : Stmt := L2.inClass (topS 2) 5
theorem sc_Ledger_note_finish : FnScope ["self", "host", "socket"] ["self", "host", "socket"] (defScope st_Ledger_note_finish) := ⟨rfl, rfl, rfl, by decide +kernel, rfl, by decide +kernel, by decide +kernel⟩
abbrev st_Ledger_written : Stmt := L2.inClass (topS 2) 6
theorem sc_Ledger_written : FnScope ["self", "host", "socket"] ["self", "host", "socket"] (defScope st_Ledger_written) := ⟨rfl, rfl, rfl, by decide +kernel, rfl, by decide +kernel, by decide +kernel⟩
abbrev st_Ledger_was_read : Stmt := L2.inClass (topS 2) 7
theorem sc_Ledger_was_read : FnScope ["self", "host", "socket"] ["self", "host", "socket"] (defScope st_Ledger_was_read) := ⟨rfl, rfl, rfl, by decide +kernel, rfl, by decide +kernel, by decide +kernel⟩
abbrev st_Ledger_has_finished : Stmt := L2.inClass (topS 2) 8
theorem sc_Ledger_has_finished : FnScope ["self", "host", "socket"] ["self", "host", "socket"] (defScope st_Ledger_has_finished) := ⟨rfl, rfl, rfl, by decide +kernel, rfl, by decide +kernel, by decide +kernel⟩
abbrev st_Ledger___iter__ : Stmt := L2.inClass (topS 2) 1
theorem sc_Ledger___iter__ : FnScope ["self"] ["self"] (defScope st_Ledger___iter__) := ⟨rfl, rfl, rfl, by decide +kernel, rfl, by decide +kernel, by decide +kernel⟩
abbrev st__law_cell : Stmt := topS 4
theorem sc__law_cell : FnScope ["_law_script", "_law_k"] ["_law_script", "_law_k"] (defScope st__law_cell) := ⟨rfl, rfl, rfl, by decide +kernel, rfl, by decide +kernel, by decide +kernel⟩
abbrev st__law_is_integer : Stmt := topS 5
theorem sc__law_is_integer : FnScope ["_law_told"] ["_law_told"] (defScope st__law_is_integer) := ⟨rfl, rfl, rfl, by decide +kernel, rfl, by decide +kernel, by decide +kernel⟩
abbrev st__law_start : Stmt := topS 6
theorem sc__law_start : FnScope ["_law_cell_here", "_law_k", "_law_prime", "_law_mixed"] ["_law_cell_here", "_law_k"] (defScope st__law_start) := ⟨rfl, rfl, rfl, by decide +kernel, rfl, by decide +kernel, by decide +kernel⟩
abbrev st__law_digit : Stmt := topS 7
theorem sc__law_digit : FnScope ["_law_state", "_law_many", "_law_digit_here"] ["_law_state", "_law_many"] (defScope st__law_digit) := ⟨rfl, rfl, rfl, by decide +kernel, rfl, by decide +kernel, by decide +kernel⟩
abbrev st__law_octets : Stmt := topS 8
theorem sc__law_octets : FnScope ["_law_told", "_law_octet"] ["_law_told"] (defScope st__law_octets) := ⟨rfl, rfl, rfl, by decide +kernel, rfl, by decide +kernel, by decide +kernel⟩
abbrev st__law_holds : Stmt := topS 9
theorem sc__law_holds : FnScope ["_law_ledger", "_law_host", "_law_socket", "_law_rows", "_law_written", "_law_given", "_law_ended", "_law_row", "_law_told", "_law_far", "_law_done"] ["_law_ledger", "_law_host", "_law_socket", "_law_rows"] (defScope st__law_holds) := ⟨rfl, rfl, rfl, by decide +kernel, rfl, by decide +kernel, by decide +kernel⟩
abbrev st__law_keys : Stmt := topS 10
theorem sc__law_keys : FnScope ["_law_rows", "_law_keys_here", "_law_row"] ["_law_rows"] (defScope st__law_keys) := ⟨rfl, rfl, rfl, by decide +kernel, rfl, by decide +kernel, by decide +kernel⟩
abbrev st__law_same_keys : Stmt := topS 11
theorem sc__law_same_keys : FnScope ["_law_ledger", "_law_rows", "_law_told", "_law_key"] ["_law_ledger", "_law_rows"] (defScope st__law_same_keys) := ⟨rfl, rfl, rfl, by decide +kernel, rfl, by decide +kernel, by decide +kernel⟩
abbrev st_law : Stmt := topS 12
theorem sc_law : FnScope ["_law_script", "_law_first", "_law_most", "_law_ledger", "_law_rows", "_law_k", "_law_row", "_law_state", "_law_host", "_law_socket", "_law_kind", "_law_octets_here", "_law_given", "_law_j"] ["_law_script"] (defScope st_law) := ⟨rfl, rfl, rfl, by decide +kernel, rfl, by decide +kernel, by decide +kernel⟩
def d_Ledger___init__ : He.DefD := ⟨("Ledger", some "__init__"), "__init__", "Ledger.__init__", defArgs st_Ledger___init__, defBody st_Ledger___init__, defScope st_Ledger___init__, [], []⟩
abbrev a_Ledger___init__ (K : PySem.W.Frag) : Addr := He.ma K (He.ga K "Ledger") "__init__"
def d_Ledger_note : He.DefD := ⟨("Ledger", some "note"), "note", "Ledger.note", defArgs st_Ledger_note, defBody st_Ledger_note, defScope st_Ledger_note, [], []⟩
abbrev a_Ledger_note (K : PySem.W.Frag) : Addr := He.ma K (He.ga K "Ledger") "note"
def d_Ledger_note_write : He.DefD := ⟨("Ledger", some "note_write"), "note_write", "Ledger.note_write", defArgs st_Ledger_note_write, defBody st_Ledger_note_write, defScope st_Ledger_note_write, [], []⟩
abbrev a_Ledger_note_write (K : PySem.W.Frag) : Addr := He.ma K (He.ga K "Ledger") "note_write"
def d_Ledger_note_read : He.DefD := ⟨("Ledger", some "note_read"), "note_read", "Ledger.note_read", defArgs st_Ledger_note_read, defBody st_Ledger_note_read, defScope st_Ledger_note_read, [], []⟩
abbrev a_Ledger_note_read (K : PySem.W.Frag) : Addr := He.ma K (He.ga K "Ledger") "note_read"
def d_Ledger_note_finish : He.DefD := ⟨("Ledger", some "note_finish"), "note_finish", "Ledger.note_finish", defArgs st_Ledger_note_finish, defBody st_Ledger_note_finish, defScope st_Ledger_note_finish, [], []⟩
abbrev a_Ledger_note_finish (K : PySem.W.Frag) : Addr := He.ma K (He.ga K "Ledger") "note_finish"
def d_Ledger_written : He.DefD := ⟨("Ledger", some "written"), "written", "Ledger.written", defArgs st_Ledger_written, defBody st_Ledger_written, defScope st_Ledger_written, [], []⟩
abbrev a_Ledger_written (K : PySem.W.Frag) : Addr := He.ma K (He.ga K "Ledger") "written"
def d_Ledger_was_read : He.DefD := ⟨("Ledger", some "was_read"), "was_read", "Ledger.was_read", defArgs st_Ledger_was_read, defBody st_Ledger_was_read, defScope st_Ledger_was_read, [], []⟩
abbrev a_Ledger_was_read (K : PySem.W.Frag) : Addr := He.ma K (He.ga K "Ledger") "was_read"
def d_Ledger_has_finished : He.DefD := ⟨("Ledger", some "has_finished"), "has_finished", "Ledger.has_finished", defArgs st_Ledger_has_finished, defBody st_Ledger_has_finished, defScope st_Ledger_has_finished, [], []⟩
abbrev a_Ledger_has_finished (K : PySem.W.Frag) : Addr := He.ma K (He.ga K "Ledger") "has_finished"
def d_Ledger___iter__ : He.DefD := ⟨("Ledger", some "__iter__"), "__iter__", "Ledger.__iter__", defArgs st_Ledger___iter__, defBody st_Ledger___iter__, defScope st_Ledger___iter__, [], []⟩
abbrev a_Ledger___iter__ (K : PySem.W.Frag) : Addr := He.ma K (He.ga K "Ledger") "__iter__"
def d__law_cell : He.DefD := ⟨("_law_cell", none), "_law_cell", "_law_cell", defArgs st__law_cell, defBody st__law_cell, defScope st__law_cell, [], []⟩
abbrev a__law_cell (K : PySem.W.Frag) : Addr := He.ga K "_law_cell"
def d__law_is_integer : He.DefD := ⟨("_law_is_integer", none), "_law_is_integer", "_law_is_integer", defArgs st__law_is_integer, defBody st__law_is_integer, defScope st__law_is_integer, [], []⟩
abbrev a__law_is_integer (K : PySem.W.Frag) : Addr := He.ga K "_law_is_integer"
def d__law_start : He.DefD := ⟨("_law_start", none), "_law_start", "_law_start", defArgs st__law_start, defBody st__law_start, defScope st__law_start, [], []⟩
abbrev a__law_start (K : PySem.W.Frag) : Addr := He.ga K "_law_start"
def d__law_digit : He.DefD := ⟨("_law_digit", none), "_law_digit", "_law_digit", defArgs st__law_digit, defBody st__law_digit, defScope st__law_digit, [], []⟩
abbrev a__law_digit (K : PySem.W.Frag) : Addr := He.ga K "_law_digit"
def d__law_octets : He.DefD := ⟨("_law_octets", none), "_law_octets", "_law_octets", defArgs st__law_octets, defBody st__law_octets, defScope st__law_octets, [], []⟩
abbrev a__law_octets (K : PySem.W.Frag) : Addr := He.ga K "_law_octets"
def d__law_holds : He.DefD := ⟨("_law_holds", none), "_law_holds", "_law_holds", defArgs st__law_holds, defBody st__law_holds, defScope st__law_holds, [], []⟩
abbrev a__law_holds (K : PySem.W.Frag) : Addr := He.ga K "_law_holds"
def d__law_keys : He.DefD := ⟨("_law_keys", none), "_law_keys", "_law_keys", defArgs st__law_keys, defBody st__law_keys, defScope st__law_keys, [], []⟩
abbrev a__law_keys (K : PySem.W.Frag) : Addr := He.ga K "_law_keys"
def d__law_same_keys : He.DefD := ⟨("_law_same_keys", none), "_law_same_keys", "_law_same_keys", defArgs st__law_same_keys, defBody st__law_same_keys, defScope st__law_same_keys, [], []⟩
abbrev a__law_same_keys (K : PySem.W.Frag) : Addr := He.ga K "_law_same_keys"
def d_law : He.DefD := ⟨("law", none), "law", "law", defArgs st_law, defBody st_law, defScope st_law, [], []⟩
abbrev a_law (K : PySem.W.Frag) : Addr := He.ga K "law"
def fnT : List He.DefD := [d_Ledger___init__, d_Ledger_note, d_Ledger_note_write, d_Ledger_note_read, d_Ledger_note_finish, d_Ledger_written, d_Ledger_was_read, d_Ledger_has_finished, d_Ledger___iter__, d__law_cell, d__law_is_integer, d__law_start, d__law_digit, d__law_octets, d__law_holds, d__law_keys, d__law_same_keys, d_law]
def faT : List He.Fa := [.cls "Ledger", .noat "Ledger" "order", .noat "Ledger" "taken", .noat "Ledger" "given", .noat "Ledger" "ends", .meth "Ledger" "note", .free "list", .free "iter", .free "len", .free "int", .free "isinstance", .free "bool", .glo "_law_is_integer", .meth "Ledger" "written", .glo "_law_octets", .meth "Ledger" "was_read", .meth "Ledger" "has_finished", .meth "Ledger" "__iter__", .free "tuple", .glo "_law_keys", .glo "_law_cell", .mkr "Ledger", .glo "Ledger", .free "max", .free "min", .free "range", .glo "_law_start", .glo "_law_digit", .meth "Ledger" "note_write", .meth "Ledger" "note_read", .meth "Ledger" "note_finish", .glo "_law_holds", .glo "_law_same_keys", .glo "law"]
structure Sy (K : PySem.W.Frag) (mg : Str → Option Value) : Prop where
  c : He.SaysD faT fnT K
  g : ∃ h : Heap, K.In h ∧ h.Ns mainGlobals mg
namespace Sy
variable {K : PySem.W.Frag} {mg : Str → Option Value} (S : Sy K mg)
include S
theorem cl_Ledger : Cls K (He.ga K "Ledger") := He.cls_ok (S.c.fact 0 (f := .cls "Ledger") rfl)
theorem na_Ledger_order : NoAttr K (He.ga K "Ledger") "order" := He.noat_ok (S.c.fact 1 (f := .noat "Ledger" "order") rfl)
theorem na_Ledger_taken : NoAttr K (He.ga K "Ledger") "taken" := He.noat_ok (S.c.fact 2 (f := .noat "Ledger" "taken") rfl)
theorem na_Ledger_given : NoAttr K (He.ga K "Ledger") "given" := He.noat_ok (S.c.fact 3 (f := .noat "Ledger" "given") rfl)
theorem na_Ledger_ends : NoAttr K (He.ga K "Ledger") "ends" := He.noat_ok (S.c.fact 4 (f := .noat "Ledger" "ends") rfl)
theorem mt_Ledger_note : Meth K (He.ga K "Ledger") "note" (He.ma K (He.ga K "Ledger") "note") := He.meth_ok (S.c.fact 5 (f := .meth "Ledger" "note") rfl)
theorem fr_list : mg "list" = none := let ⟨_, X, G⟩ := S.g; He.free_ok X G (S.c.fact 6 (f := .free "list") rfl)
theorem fr_iter : mg "iter" = none := let ⟨_, X, G⟩ := S.g; He.free_ok X G (S.c.fact 7 (f := .free "iter") rfl)
theorem fr_len : mg "len" = none := let ⟨_, X, G⟩ := S.g; He.free_ok X G (S.c.fact 8 (f := .free "len") rfl)
theorem fr_int : mg "int" = none := let ⟨_, X, G⟩ := S.g; He.free_ok X G (S.c.fact 9 (f := .free "int") rfl)
theorem fr_isinstance : mg "isinstance" = none := let ⟨_, X, G⟩ := S.g; He.free_ok X G (S.c.fact 10 (f := .free "isinstance") rfl)
theorem fr_bool : mg "bool" = none := let ⟨_, X, G⟩ := S.g; He.free_ok X G (S.c.fact 11 (f := .free "bool") rfl)
theorem mg__law_is_integer : mg "_law_is_integer" = some (.ref (He.ga K "_law_is_integer")) := let ⟨_, X, G⟩ := S.g; He.glo_ok X G (S.c.fact 12 (f := .glo "_law_is_integer") rfl)
theorem mt_Ledger_written : Meth K (He.ga K "Ledger") "written" (He.ma K (He.ga K "Ledger") "written") := He.meth_ok (S.c.fact 13 (f := .meth "Ledger" "written") rfl)
theorem mg__law_octets : mg "_law_octets" = some (.ref (He.ga K "_law_octets")) := let ⟨_, X, G⟩ := S.g; He.glo_ok X G (S.c.fact 14 (f := .glo "_law_octets") rfl)
theorem mt_Ledger_was_read : Meth K (He.ga K "Ledger") "was_read" (He.ma K (He.ga K "Ledger") "was_read") := He.meth_ok (S.c.fact 15 (f := .meth "Ledger" "was_read") rfl)
theorem mt_Ledger_has_finished : Meth K (He.ga K "Ledger") "has_finished" (He.ma K (He.ga K "Ledger") "has_finished") := He.meth_ok (S.c.fact 16 (f := .meth "Ledger" "has_finished") rfl)
theorem mt_Ledger___iter__ : Meth K (He.ga K "Ledger") "__iter__" (He.ma K (He.ga K "Ledger") "__iter__") := He.meth_ok (S.c.fact 17 (f := .meth "Ledger" "__iter__") rfl)
theorem fr_tuple : mg "tuple" = none := let ⟨_, X, G⟩ := S.g; He.free_ok X G (S.c.fact 18 (f := .free "tuple") rfl)
theorem mg__law_keys : mg "_law_keys" = some (.ref (He.ga K "_law_keys")) := let ⟨_, X, G⟩ := S.g; He.glo_ok X G (S.c.fact 19 (f := .glo "_law_keys") rfl)
theorem mg__law_cell : mg "_law_cell" = some (.ref (He.ga K "_law_cell")) := let ⟨_, X, G⟩ := S.g; He.glo_ok X G (S.c.fact 20 (f := .glo "_law_cell") rfl)
theorem mk_Ledger : Mk K (He.ga K "Ledger") (He.ma K (He.ga K "Ledger") "__init__") := He.mkr_ok (S.c.fact 21 (f := .mkr "Ledger") rfl)
theorem mg_Ledger : mg "Ledger" = some (.ref (He.ga K "Ledger")) := let ⟨_, X, G⟩ := S.g; He.glo_ok X G (S.c.fact 22 (f := .glo "Ledger") rfl)
theorem fr_max : mg "max" = none := let ⟨_, X, G⟩ := S.g; He.free_ok X G (S.c.fact 23 (f := .free "max") rfl)
theorem fr_min : mg "min" = none := let ⟨_, X, G⟩ := S.g; He.free_ok X G (S.c.fact 24 (f := .free "min") rfl)
theorem fr_range : mg "range" = none := let ⟨_, X, G⟩ := S.g; He.free_ok X G (S.c.fact 25 (f := .free "range") rfl)
theorem mg__law_start : mg "_law_start" = some (.ref (He.ga K "_law_start")) := let ⟨_, X, G⟩ := S.g; He.glo_ok X G (S.c.fact 26 (f := .glo "_law_start") rfl)
theorem mg__law_digit : mg "_law_digit" = some (.ref (He.ga K "_law_digit")) := let ⟨_, X, G⟩ := S.g; He.glo_ok X G (S.c.fact 27 (f := .glo "_law_digit") rfl)
theorem mt_Ledger_note_write : Meth K (He.ga K "Ledger") "note_write" (He.ma K (He.ga K "Ledger") "note_write") := He.meth_ok (S.c.fact 28 (f := .meth "Ledger" "note_write") rfl)
theorem mt_Ledger_note_read : Meth K (He.ga K "Ledger") "note_read" (He.ma K (He.ga K "Ledger") "note_read") := He.meth_ok (S.c.fact 29 (f := .meth "Ledger" "note_read") rfl)
theorem mt_Ledger_note_finish : Meth K (He.ga K "Ledger") "note_finish" (He.ma K (He.ga K "Ledger") "note_finish") := He.meth_ok (S.c.fact 30 (f := .meth "Ledger" "note_finish") rfl)
theorem mg__law_holds : mg "_law_holds" = some (.ref (He.ga K "_law_holds")) := let ⟨_, X, G⟩ := S.g; He.glo_ok X G (S.c.fact 31 (f := .glo "_law_holds") rfl)
theorem mg__law_same_keys : mg "_law_same_keys" = some (.ref (He.ga K "_law_same_keys")) := let ⟨_, X, G⟩ := S.g; He.glo_ok X G (S.c.fact 32 (f := .glo "_law_same_keys") rfl)
theorem mg_law : mg "law" = some (.ref (He.ga K "law")) := let ⟨_, X, G⟩ := S.g; He.glo_ok X G (S.c.fact 33 (f := .glo "law") rfl)
theorem fd_Ledger___init__ : ∃ fd, FunD K "__init__" "Ledger.__init__" (defArgs st_Ledger___init__) (defBody st_Ledger___init__) (defScope st_Ledger___init__) [] [] (a_Ledger___init__ K) fd := S.c.def_ 0 (d := d_Ledger___init__) rfl
theorem fd_Ledger_note : ∃ fd, FunD K "note" "Ledger.note" (defArgs st_Ledger_note) (defBody st_Ledger_note) (defScope st_Ledger_note) [] [] (a_Ledger_note K) fd := S.c.def_ 1 (d := d_Ledger_note) rfl
theorem fd_Ledger_note_write : ∃ fd, FunD K "note_write" "Ledger.note_write" (defArgs st_Ledger_note_write) (defBody st_Ledger_note_write) (defScope st_Ledger_note_write) [] [] (a_Ledger_note_write K) fd := S.c.def_ 2 (d := d_Ledger_note_write) rfl
theorem fd_Ledger_note_read : ∃ fd, FunD K "note_read" "Ledger.note_read" (defArgs st_Ledger_note_read) (defBody st_Ledger_note_read) (defScope st_Ledger_note_read) [] [] (a_Ledger_note_read K) fd := S.c.def_ 3 (d := d_Ledger_note_read) rfl
theorem fd_Ledger_note_finish : ∃ fd, FunD K "note_finish" "Ledger.note_finish" (defArgs st_Ledger_note_finish) (defBody st_Ledger_note_finish) (defScope st_Ledger_note_finish) [] [] (a_Ledger_note_finish K) fd := S.c.def_ 4 (d := d_Ledger_note_finish) rfl
theorem fd_Ledger_written : ∃ fd, FunD K "written" "Ledger.written" (defArgs st_Ledger_written) (defBody st_Ledger_written) (defScope st_Ledger_written) [] [] (a_Ledger_written K) fd := S.c.def_ 5 (d := d_Ledger_written) rfl
theorem fd_Ledger_was_read : ∃ fd, FunD K "was_read" "Ledger.was_read" (defArgs st_Ledger_was_read) (defBody st_Ledger_was_read) (defScope st_Ledger_was_read) [] [] (a_Ledger_was_read K) fd := S.c.def_ 6 (d := d_Ledger_was_read) rfl
theorem fd_Ledger_has_finished : ∃ fd, FunD K "has_finished" "Ledger.has_finished" (defArgs st_Ledger_has_finished) (defBody st_Ledger_has_finished) (defScope st_Ledger_has_finished) [] [] (a_Ledger_has_finished K) fd := S.c.def_ 7 (d := d_Ledger_has_finished) rfl
theorem fd_Ledger___iter__ : ∃ fd, FunD K "__iter__" "Ledger.__iter__" (defArgs st_Ledger___iter__) (defBody st_Ledger___iter__) (defScope st_Ledger___iter__) [] [] (a_Ledger___iter__ K) fd := S.c.def_ 8 (d := d_Ledger___iter__) rfl
theorem fd__law_cell : ∃ fd, FunD K "_law_cell" "_law_cell" (defArgs st__law_cell) (defBody st__law_cell) (defScope st__law_cell) [] [] (a__law_cell K) fd := S.c.def_ 9 (d := d__law_cell) rfl
theorem fd__law_is_integer : ∃ fd, FunD K "_law_is_integer" "_law_is_integer" (defArgs st__law_is_integer) (defBody st__law_is_integer) (defScope st__law_is_integer) [] [] (a__law_is_integer K) fd := S.c.def_ 10 (d := d__law_is_integer) rfl
theorem fd__law_start : ∃ fd, FunD K "_law_start" "_law_start" (defArgs st__law_start) (defBody st__law_start) (defScope st__law_start) [] [] (a__law_start K) fd := S.c.def_ 11 (d := d__law_start) rfl
theorem fd__law_digit : ∃ fd, FunD K "_law_digit" "_law_digit" (defArgs st__law_digit) (defBody st__law_digit) (defScope st__law_digit) [] [] (a__law_digit K) fd := S.c.def_ 12 (d := d__law_digit) rfl
theorem fd__law_octets : ∃ fd, FunD K "_law_octets" "_law_octets" (defArgs st__law_octets) (defBody st__law_octets) (defScope st__law_octets) [] [] (a__law_octets K) fd := S.c.def_ 13 (d := d__law_octets) rfl
theorem fd__law_holds : ∃ fd, FunD K "_law_holds" "_law_holds" (defArgs st__law_holds) (defBody st__law_holds) (defScope st__law_holds) [] [] (a__law_holds K) fd := S.c.def_ 14 (d := d__law_holds) rfl
theorem fd__law_keys : ∃ fd, FunD K "_law_keys" "_law_keys" (defArgs st__law_keys) (defBody st__law_keys) (defScope st__law_keys) [] [] (a__law_keys K) fd := S.c.def_ 15 (d := d__law_keys) rfl
theorem fd__law_same_keys : ∃ fd, FunD K "_law_same_keys" "_law_same_keys" (defArgs st__law_same_keys) (defBody st__law_same_keys) (defScope st__law_same_keys) [] [] (a__law_same_keys K) fd := S.c.def_ 16 (d := d__law_same_keys) rfl
theorem fd_law : ∃ fd, FunD K "law" "law" (defArgs st_law) (defBody st_law) (defScope st_law) [] [] (a_law K) fd := S.c.def_ 17 (d := d_law) rfl
end Sy
def fs_Ledger (v0 v1 v2 v3 : V) : List (Str × V) := [("order", v0), ("taken", v1), ("given", v2), ("ends", v3)]
theorem fs_Ledger_order (v0 v1 v2 v3 : V) : (fs_Ledger v0 v1 v2 v3).lookup ("order" : Str) = some v0 := by kernel_rfl
theorem fp_Ledger_order (v0 v1 v2 v3 w : V) : putF "order" w (fs_Ledger v0 v1 v2 v3) = fs_Ledger w v1 v2 v3 := by kernel_rfl
theorem fs_Ledger_taken (v0 v1 v2 v3 : V) : (fs_Ledger v0 v1 v2 v3).lookup ("taken" : Str) = some v1 := by kernel_rfl
theorem fp_Ledger_taken (v0 v1 v2 v3 w : V) : putF "taken" w (fs_Ledger v0 v1 v2 v3) = fs_Ledger v0 w v2 v3 := by kernel_rfl
theorem fs_Ledger_given (v0 v1 v2 v3 : V) : (fs_Ledger v0 v1 v2 v3).lookup ("given" : Str) = some v2 := by kernel_rfl
theorem fp_Ledger_given (v0 v1 v2 v3 w : V) : putF "given" w (fs_Ledger v0 v1 v2 v3) = fs_Ledger v0 v1 w v3 := by kernel_rfl
theorem fs_Ledger_ends (v0 v1 v2 v3 : V) : (fs_Ledger v0 v1 v2 v3).lookup ("ends" : Str) = some v3 := by kernel_rfl
theorem fp_Ledger_ends (v0 v1 v2 v3 w : V) : putF "ends" w (fs_Ledger v0 v1 v2 v3) = fs_Ledger v0 v1 v2 w := by kernel_rfl
theorem fi_Ledger_0 (w : V) : putF "order" w ([] : List (Str × V)) = ([("order", w)] : List (Str × V)) := by kernel_rfl
theorem fi_Ledger_1 (v0 w : V) : putF "taken" w ([("order", v0)] : List (Str × V)) = ([("order", v0), ("taken", w)] : List (Str × V)) := by kernel_rfl
theorem fi_Ledger_2 (v0 v1 w : V) : putF "given" w ([("order", v0), ("taken", v1)] : List (Str × V)) = ([("order", v0), ("taken", v1), ("given", w)] : List (Str × V)) := by kernel_rfl
theorem fi_Ledger_3 (v0 v1 v2 w : V) : putF "ends" w ([("order", v0), ("taken", v1), ("given", v2)] : List (Str × V)) = fs_Ledger v0 v1 v2 w := by kernel_rfl
theorem fn_Ledger___iter__ (v0 v1 v2 v3 : V) : (fs_Ledger v0 v1 v2 v3).lookup ("__iter__" : Str) = none := by kernel_rfl
theorem fn_Ledger_note (v0 v1 v2 v3 : V) : (fs_Ledger v0 v1 v2 v3).lookup ("note" : Str) = none := by kernel_rfl
theorem fn_Ledger_note_write (v0 v1 v2 v3 : V) : (fs_Ledger v0 v1 v2 v3).lookup ("note_write" : Str) = none := by kernel_rfl
theorem fn_Ledger_note_read (v0 v1 v2 v3 : V) : (fs_Ledger v0 v1 v2 v3).lookup ("note_read" : Str) = none := by kernel_rfl
theorem fn_Ledger_note_finish (v0 v1 v2 v3 : V) : (fs_Ledger v0 v1 v2 v3).lookup ("note_finish" : Str) = none := by kernel_rfl
theorem fn_Ledger_written (v0 v1 v2 v3 : V) : (fs_Ledger v0 v1 v2 v3).lookup ("written" : Str) = none := by kernel_rfl
theorem fn_Ledger_was_read (v0 v1 v2 v3 : V) : (fs_Ledger v0 v1 v2 v3).lookup ("was_read" : Str) = none := by kernel_rfl
theorem fn_Ledger_has_finished (v0 v1 v2 v3 : V) : (fs_Ledger v0 v1 v2 v3).lookup ("has_finished" : Str) = none := by kernel_rfl
theorem fn_Ledger_fork (v0 v1 v2 v3 : V) : (fs_Ledger v0 v1 v2 v3).lookup ("fork" : Str) = none := by kernel_rfl
theorem fl_Ledger (v0 v1 v2 v3 : V) : (fs_Ledger v0 v1 v2 v3).length = 4 := rfl
abbrev R : PySem.W.OpenRow := PySem.W.OpenLaw.row PySem.Challenge.rw_throughline_k62_ledger
abbrev hk : PySem.W.Hook := He.hookD 5 faT fnT
def ob (s : PySem.W.SharedT) : He.AlD := He.obsDG 5 faT fnT (HandSHeadRun.getT s)
theorem ob_eq (s : PySem.W.SharedT) : ob s = hk.obs s.abs := He.obsDG_eq (HandSHeadRun.getT_eq s)
def loose : List Str := ["_wall", "Ledger", "_law_cell", "_law_is_integer", "_law_start", "_law_digit", "_law_octets", "_law_holds", "_law_keys", "_law_same_keys"]
theorem run (w : World) : HandSHeadRun.RunEq R (PySem.W.view R.prog [12]) hk ob 4000 loose w := by
  intro os
  kernel_rfl

/-! ### steps -/
local macro_rules | `(tactic| walk_at "mem") => `(tactic| first
  | (with_reducible assumption)
  | exact List.Mem.head _
  | (refine List.mem_append_left _ ?_; walk_at "mem")
  | (refine List.Mem.tail _ ?_; walk_at "mem")
  | (refine List.mem_append_right _ ?_; walk_at "mem")
  | assumption)
local macro_rules | `(tactic| walk_at "put") => `(tactic| first
  | (with_reducible exact Put.head)
  | ((with_reducible apply Put.tail); walk_at "put")
  | ((with_reducible apply Put.left); walk_at "put")
  | ((with_reducible apply Put.right); walk_at "put"))
local macro_rules | `(tactic| walk_at "subl") => `(tactic| first
  | (with_reducible exact List.Sublist.refl _)
  | ((with_reducible apply List.Sublist.cons₂); walk_at "subl")
  | ((with_reducible refine List.Sublist.append (List.Sublist.refl _) ?_); walk_at "subl")
  | ((apply List.Sublist.cons₂); walk_at "subl")
  | ((with_reducible apply List.Sublist.cons); walk_at "subl")
  | ((with_reducible apply List.Sublist.trans _ (List.sublist_append_right _ _)); walk_at "subl")
  | exact List.Sublist.refl _)
local macro_rules | `(tactic| walk_at "nrm") => `(tactic| rfl)
local macro_rules | `(tactic| walk_at "sat") => `(tactic| first
  | assumption
  | exact Sat.made (by walk_at "sat") (by assumption) (by assumption) (by assumption)
  | exact Sat.new (by walk_at "sat") (by assumption)
  | exact Sat.putE (by walk_at "sat") (by walk_at "nrm") (by walk_at "put"))
local macro_rules | `(tactic| walk_at "heap") => `(tactic| first
  | exact upd_same
  | exact Sat.get (by walk_at "sat") (by walk_at "mem")
  | assumption)
local macro_rules | `(tactic| walk_at "fld") => `(tactic| fail "no field rule")
local macro_rules | `(tactic| walk_at "leaf") => `(tactic| first
  | with_reducible rfl
  | ((with_reducible show _ = some _); (first | walk_at "heap" | walk_at "fld" | rfl | assumption))
  | ((with_reducible show SqL _ _ _ _); (first | assumption | exact sql_of (by walk_at "heap") | exact ‹∀ H', Sat H' _ → SqL _ H' _ _› _ (by walk_at "less")))
  | ((with_reducible show SqT _ _ _ _); (first | assumption | exact sqt_of (by walk_at "heap")))
  | ((with_reducible show tyV _ _ _ _); (exact tyL_of (by walk_at "leaf")))
  | walk_at "fld"
  | assumption
  | rfl)
local macro_rules | `(tactic| walk_at "leaf") => `(tactic| ((with_reducible show IsD _ _); exact Or.inr ⟨_, Rd.of (by walk_at "heap")⟩))
local macro_rules | `(tactic| walk_at "leaf") => `(tactic| ((with_reducible show IsD _ _); exact Or.inl ⟨_, Rd.of (by walk_at "heap")⟩))
local macro_rules | `(tactic| walk_at "leaf") => `(tactic| ((with_reducible show DGet _ _ _ _); exact dget_ii (by walk_at "heap") (by walk_at "heap")))
local macro_rules | `(tactic| walk_at "leaf") => `(tactic| ((with_reducible show DPut _ _ _ _ _); exact dput_ii (by walk_at "heap") (by walk_at "heap") (by walk_at "leaf")))
local macro_rules | `(tactic| walk_at "len") => `(tactic| ((try simp only [List.length_map, List.length_append, List.length_cons, List.length_nil]); omega))
local macro_rules | `(tactic| walk_at "leaf") => `(tactic| ((with_reducible show _ < _); (first | decide | exact of_decide_eq_true rfl | omega | exact szLt (by walk_at "len"))))
local macro_rules | `(tactic| walk_at "leaf") => `(tactic| ((with_reducible show _ ≤ _); (first | decide | exact of_decide_eq_true rfl | omega | exact szLe (by walk_at "len"))))
local macro_rules | `(tactic| walk_at "leaf") => `(tactic| ((with_reducible show CDivW _ _); (first | assumption | exact ⟨by decide, by decide +kernel⟩)))
local macro_rules | `(tactic| walk_at "leaf") => `(tactic| ((with_reducible show CMul _ _); (first | assumption | exact .inl ⟨by decide, by decide⟩ | exact .inr ⟨by decide, by decide⟩ | exact .inl ⟨by omega, by omega⟩ | exact .inr ⟨by omega, by omega⟩)))
local macro_rules | `(tactic| walk_at "leaf") => `(tactic| ((with_reducible show CPow _ _); exact ⟨by decide, by decide, by decide⟩))
local macro_rules | `(tactic| walk_at "leaf") => `(tactic| ((with_reducible show ClsV _ _); (first | exact .ty _ | exact .own _)))
local macro_rules | `(tactic| walk_at "leaf") => `(tactic| ((with_reducible show TyX _ _ _ _); (first | exact .base (.int _) | exact .base (.bl _) | exact .base .non | exact .base (.str _) | exact .base (.lst (by walk_at "heap")) | exact .base (.tup (by walk_at "heap")) | assumption)))
local macro_rules | `(tactic| walk_at "leaf") => `(tactic| ((with_reducible show PySem.W.kitOne _ _ _ = some _); (first | exact kitT (by decide +kernel) | exact kitF (by decide +kernel))))
local macro_rules | `(tactic| walk_at "leaf") => `(tactic| ((with_reducible show ∃ _, SqL _ _ _ _); exact ⟨_, by walk_at "leaf"⟩))
local macro_rules | `(tactic| walk_at "leaf") => `(tactic| ((with_reducible show ∃ _, SqT _ _ _ _); exact ⟨_, by walk_at "leaf"⟩))
local macro_rules | `(tactic| walk_at "leaf") => `(tactic| ((with_reducible show SqL _ _ _ _ ∨ SqT _ _ _ _); (first | exact Or.inl (by walk_at "leaf") | exact Or.inr (by walk_at "leaf"))))
local macro_rules | `(tactic| walk_at "ext") => `(tactic| first
  | (with_reducible exact ext_here)
  | ((with_reducible apply ext_one); (focus (rfl; done)))
  | (with_reducible exact ext_nil)
  | ((with_reducible apply ext_skip); walk_at "ext")
  | ((with_reducible apply ext_app); walk_at "ext")
  | ((with_reducible apply ext_left); walk_at "ext"))
local macro_rules | `(tactic| walk_at "ext2") => `(tactic| first
  | walk_at "ext"
  | ((with_reducible apply ext_two); (focus (walk_at "ext"; done)); walk_at "ext2"))
local macro_rules | `(tactic| walk_at "leaf") => `(tactic| ((with_reducible show Sat _ _); (first | walk_at "sat" | exact Sat.perm (by walk_at "sat") (by walk_at "ext2"))))
local macro_rules | `(tactic| walk_at "leaf") => `(tactic| ((with_reducible show _ ∈ _); walk_at "mem"))
local macro_rules | `(tactic| walk_at "leaf") => `(tactic| ((with_reducible show Put _ _ _ _); walk_at "put"))
local macro_rules | `(tactic| walk_at "leaf") => `(tactic| ((with_reducible show Dp _ _ _ _); (first | exact .int _ | exact .non | exact .bl _ | exact dp_ints (by walk_at "leaf") | assumption)))
local macro_rules | `(tactic| walk_at "leaf") => `(tactic| ((with_reducible show SeqAt.shaped _ = true); (first | exact shaped_ints _ | exact shaped_tups _ | rfl | assumption)))
local macro_rules | `(tactic| walk_at "leaf") => `(tactic| ((with_reducible show LenV _ _ _ _); (first | exact Or.inl ⟨_, by walk_at "leaf", rfl⟩ | exact Or.inr ⟨_, by walk_at "leaf", rfl⟩)))
local macro_rules | `(tactic| walk_at "go1") => `(tactic| first
  | (apply And.intro; (focus (walk_at "leaf"; done)))
  | refine fun _ (_ : (_ : Option HO) = none) => ?_
  | refine fun _ _ (_ : (_ : Option HO) = none) (_ : (_ : Option HO) = none) (_ : (_ : Addr) ≠ _) => ?_
  | (apply Exists.intro; walk_at "go1")
  | (apply Or.inl; walk_at "go1")
  | (apply Or.inr; walk_at "go1"))
local macro_rules | `(tactic| walk_at "go") => `(tactic| repeat (walk_at "go1"))
local macro_rules | `(tactic| walk_at "perm") => `(tactic| (refine perm_count fun _ => ?_; simp only [List.count_append, List.count_cons, List.count_nil, List.append_assoc, List.cons_append, List.nil_append, List.append_nil]; try omega))
local macro_rules | `(tactic| walk_at "has") => `(tactic| first
  | ((with_reducible apply has_cons); (focus (walk_at "ext"; done)); walk_at "has")
  | ((with_reducible apply has_app); (focus (walk_at "ext"; done)); walk_at "has")
  | (with_reducible exact has_nil)
  | walk_at "ext")
local macro_rules | `(tactic| walk_at "less") => `(tactic| first
  | (apply Sat.sub; (focus (walk_at "sat"; done)); (focus (walk_at "subl"; done)))
  | (apply Sat.has; (focus (walk_at "sat"; done)); (focus (walk_at "has"; done))))
local macro_rules | `(tactic| walk_at "fld") => `(tactic| first | (exact fs_Ledger_order ..) | (exact fs_Ledger_taken ..) | (exact fs_Ledger_given ..) | (exact fs_Ledger_ends ..) | (exact fn_Ledger___iter__ ..) | (exact fn_Ledger_note ..) | (exact fn_Ledger_note_write ..) | (exact fn_Ledger_note_read ..) | (exact fn_Ledger_note_finish ..) | (exact fn_Ledger_written ..) | (exact fn_Ledger_was_read ..) | (exact fn_Ledger_has_finished ..) | (exact fn_Ledger_fork ..))
local macro_rules | `(tactic| walk_at "nrm") => `(tactic| first | (exact congrArg (HO.ins _ _) (fp_Ledger_order ..)) | (exact congrArg (HO.ins _ _) (fp_Ledger_taken ..)) | (exact congrArg (HO.ins _ _) (fp_Ledger_given ..)) | (exact congrArg (HO.ins _ _) (fp_Ledger_ends ..)) | (exact congrArg (HO.ins _ _) (fi_Ledger_0 ..)) | (exact congrArg (HO.ins _ _) (fi_Ledger_1 ..)) | (exact congrArg (HO.ins _ _) (fi_Ledger_2 ..)) | (exact congrArg (HO.ins _ _) (fi_Ledger_3 ..)))
local macro_rules | `(tactic| walk_at "fld") => `(tactic| first | exact Sy.cl_Ledger (by assumption) | exact Sy.na_Ledger_order (by assumption) | exact Sy.na_Ledger_taken (by assumption) | exact Sy.na_Ledger_given (by assumption) | exact Sy.na_Ledger_ends (by assumption) | exact Sy.mt_Ledger_note (by assumption) | exact Sy.mt_Ledger_written (by assumption) | exact Sy.mt_Ledger_was_read (by assumption) | exact Sy.mt_Ledger_has_finished (by assumption) | exact Sy.mt_Ledger___iter__ (by assumption) | exact Sy.mk_Ledger (by assumption) | exact Sy.mt_Ledger_note_write (by assumption) | exact Sy.mt_Ledger_note_read (by assumption) | exact Sy.mt_Ledger_note_finish (by assumption))
/-! ### the ledger as data, its addresses among it -/
structure Row where
  k : Addr
  h : Int
  s : Int
  ta : Addr
  ga : Addr
  t : List Int
  g : List Int
  e : Bool
abbrev Row.key (r : Row) : List Key := [.inl r.h, .inl r.s]
theorem key_mk (k : Addr) (h s : Int) (ta ga : Addr) (t g : List Int) (e : Bool) : Row.key ⟨k, h, s, ta, ga, t, g, e⟩ = [Sum.inl h, Sum.inl s] := rfl
def Row.cells (r : Row) : Cells := [(r.k, .tup [.int r.h, .int r.s]), (r.ta, .lst (r.t.map V.int)), (r.ga, .lst (r.g.map V.int))]
structure Led where
  p : Addr
  dx : Addr
  o : Addr
  t : Addr
  g : Addr
  e : Addr
  rows : List Row
def Led.cells (C : Addr) (L : Led) : Cells :=
  (L.p, .ins C L.dx (fs_Ledger (.ref L.o) (.ref L.t) (.ref L.g) (.ref L.e))) :: (L.o, .lst (L.rows.map fun r => .ref r.k)) ::
  (L.t, .dT (L.rows.map fun r => (r.key, .ref r.ta))) :: (L.g, .dT (L.rows.map fun r => (r.key, .ref r.ga))) :: (L.e, .dT (L.rows.map fun r => (r.key, .bl r.e))) :: L.rows.flatMap Row.cells
/-- the row of (h, s) -/
def isAt (h s : Int) (r : Row) : Bool := decide (r.key = [.inl h, .inl s])
theorem isAt_iff {h s : Int} {r : Row} : isAt h s r = true ↔ r.h = h ∧ r.s = s := by
  unfold isAt Row.key
  simp
theorem valV_rows (f : Row → V) (h s : Int) : ∀ rs : List Row, valV (rs.map fun r => (r.key, f r)) [Sum.inl h, Sum.inl s] = (rs.find? (isAt h s)).map f
  | [] => rfl
  | r :: rs => by
    rw [List.map_cons, List.find?_cons]
    cases e : isAt h s r with
    | true => exact valV_pos (of_decide_eq_true e)
    | false => exact (valV_neg (of_decide_eq_false e : ¬ r.key = _)).trans (valV_rows f h s rs)
theorem putK_rows_new (f : Row → V) (h s : Int) (rs : List Row) (v : V) (e : rs.find? (isAt h s) = none) : putK (rs.map fun r => (r.key, f r)) [Sum.inl h, Sum.inl s] v = (rs.map fun r => (r.key, f r)) ++ [([Sum.inl h, Sum.inl s], v)] := by
  refine putK_new _ ?_
  rw [valV_rows, e]
  rfl
/-- what note does -/
def addRow (h s : Int) (rs : List Row) (k ta ga : Addr) : List Row := match rs.find? (isAt h s) with
  | some _ => rs
  | none => rs ++ [⟨k, h, s, ta, ga, [], [], false⟩]
theorem addRow_found (h s : Int) (rs : List Row) (k ta ga : Addr) : ∃ r, (addRow h s rs k ta ga).find? (isAt h s) = some r := by
  unfold addRow
  cases e : rs.find? (isAt h s) with
  | some r => exact ⟨r, e⟩
  | none =>
    refine ⟨⟨k, h, s, ta, ga, [], [], false⟩, ?_⟩
    show (rs ++ [_]).find? (isAt h s) = _
    rw [List.find?_append, e]
    have : isAt h s ⟨k, h, s, ta, ga, [], [], false⟩ = true := isAt_iff.mpr ⟨rfl, rfl⟩
    simp [List.find?_cons, this]
theorem addRow_len (h s : Int) (rs : List Row) (k ta ga : Addr) : (addRow h s rs k ta ga).length ≤ rs.length + 1 := by
  unfold addRow
  split <;> simp
section
variable {P : Program} {w : World} {K : PySem.W.Frag} {mg : Str → Option Value} {base : Heap}
def spInit (C : Addr) : Sp := fun vs H Q _ => ∃ (p dx : Addr) (F : Cells), vs = [.ref p] ∧ Sat H ((p, .ins C dx []) :: F) ∧
  ∀ (L : Led) (H' : Hp), L.p = p → L.rows = [] → Sat H' (L.cells C ++ F) → Q .non H'
theorem ok_Ledger___init__ (S : Sy K mg) : Cb P w K mg base CX0 1 (a_Ledger___init__ K) ["self"] (spInit (He.ga K "Ledger")) := by
  obtain ⟨fd, F⟩ := S.fd_Ledger___init__
  refine ⟨⟨fd, F.ok sc_Ledger___init__ (fun vs H Q E h => ?_) (fun cdv A outer s_ H vs Q E hr h => ?_), F.bindsN fun _ _ _ _ _ _ us hl => match us, hl with | [_], _ => rfl⟩, F.kp⟩
  · obtain ⟨p, dx, F, rfl, _⟩ := h
    rfl
  · obtain ⟨p, dx, F, rfl, hS, k⟩ := h
    refine ⟨_, PSs.nox (pss_cons (ps_fld (pv 0) (pe_lst (pa_nil)) rfl)
 (pss_cons (ps_fld (pv 0) pe_dnewT rfl)
 (pss_cons (ps_fld (pv 0) pe_dnewT rfl)
 (pss_one (ps_fld (pv 0) pe_dnewT rfl))))), ?_⟩
    walk_at "go"
    rename_i o _ t _ g _ e _
    refine k ⟨p, dx, o, t, g, e, []⟩ _ rfl rfl (Sat.perm (by walk_at "sat") ?_)
    simp only [Led.cells, List.map_nil, List.flatMap_nil]
    walk_at "perm"
def spNote (C : Addr) : Sp := fun vs H Q _ => ∃ (L : Led) (F : Cells) (h s : Int), vs = [.ref L.p, .int h, .int s] ∧ Sat H (L.cells C ++ F) ∧ L.rows.length ≤ 500 ∧
  ∀ (kk k ta ga : Addr) (H' : Hp), Sat H' (({ L with rows := addRow h s L.rows k ta ga } : Led).cells C ++ F) → H' kk = some (.tup [.int h, .int s]) → Q (.ref kk) H'
theorem ok_Ledger_note (S : Sy K mg) : Cb P w K mg base CX0 1 (a_Ledger_note K) ["self", "host", "socket"] (spNote (He.ga K "Ledger")) := by
  obtain ⟨fd, F⟩ := S.fd_Ledger_note
  refine ⟨⟨fd, F.ok sc_Ledger_note (fun vs H Q E h => ?_) (fun cdv A outer s_ H vs Q E hr h => ?_), F.bindsN fun _ _ _ _ _ _ us hl => match us, hl with | [_, _, _], _ => rfl⟩, F.kp⟩
  · obtain ⟨L, F, h, s, rfl, _⟩ := h
    rfl
  · obtain ⟨L, F, h, s, rfl, hS, hl, k⟩ := h
    refine ⟨_, PSs.nox (pss_cons (ps_set (i := 3) sc_Ledger_note.nd rfl (Or.inl rfl) (pe_tup (pa_cons (pv 1) (pa_cons (pv 2) pa_nil))))
 (pss_cons (ps_if (pt_cmp (pc_dnotin (hu_of hr) (pv 3) (pe_fld (pv 0) rfl)))
 (pss_cons (ps_expr (pe_bm PySem.F.plainAttrs_list PySem.F.slot_list_append PySem.F.type_list_append mt_append (pe_fld (pv 0) rfl) (pa_cons (pv 3) pa_nil)))
 (pss_cons (ps_dput (hu_of hr) (pe_fld (pv 0) rfl) (pv 3) (pe_lst (pa_nil)) rfl)
 (pss_cons (ps_dput (hu_of hr) (pe_fld (pv 0) rfl) (pv 3) (pe_lst (pa_nil)) rfl)
 (pss_one (ps_dput (hu_of hr) (pe_fld (pv 0) rfl) (pv 3) (pe_bl) rfl)))))
 (pss_nil))
 (pss_one (ps_ret (pv 3))))), ?_⟩
    simp only [Led.cells, List.cons_append] at hS
    walk_at "go"
    rw [valV_rows]
    cases e : L.rows.find? (isAt h s) with
    | some r =>
      refine iteF ?_
      walk_at "go"
      refine k _ 0 0 0 _ ?_ upd_same
      unfold addRow
      rw [e]
      exact Sat.tl (c := (_, _)) (by walk_at "sat")
    | none =>
      refine iteT ?_
      walk_at "go"
      rename_i kk _ ta _ ga _
      refine k kk kk ta ga _ ?_ (by walk_at "heap")
      unfold addRow
      rw [e]
      refine Sat.perm (by walk_at "sat") ?_
      simp only [putK_rows_new _ h s L.rows _ e, Led.cells, List.map_append, List.flatMap_append, List.map_cons, List.map_nil, List.flatMap_cons, List.flatMap_nil, Row.cells, key_mk]
      walk_at "perm"
end
/-! ### writing, reading, finishing -/
def upT (h s : Int) (xs : List Int) (r : Row) : Row := if isAt h s r then { r with t := r.t ++ xs } else r
def upG (h s : Int) (xs : List Int) (r : Row) : Row := if isAt h s r then { r with g := r.g ++ xs } else r
def upE (h s : Int) (r : Row) : Row := if isAt h s r then { r with e := true } else r
/-- no two rows of one key -/
def Uniq (rs : List Row) : Prop := (rs.map Row.key).Nodup
theorem uniq_add {h s : Int} {rs : List Row} (u : Uniq rs) (k ta ga : Addr) : Uniq (addRow h s rs k ta ga) := by
  unfold addRow
  cases e : rs.find? (isAt h s) with
  | some r => exact u
  | none =>
    show ((rs ++ [_]).map Row.key).Nodup
    rw [List.map_append, List.nodup_append]
    refine ⟨u, by simp, fun a ha b hb => ?_⟩
    rintro rfl
    obtain ⟨r, hr, er⟩ := List.mem_map.mp ha
    have n := List.find?_eq_none.mp e r hr
    have eb : a = [Sum.inl h, Sum.inl s] := by simpa using hb
    exact n (decide_eq_true (er.trans eb))
/-- the row that is found parts the rows; the others are of other keys -/
theorem parts {h s : Int} {rs : List Row} {r : Row} (u : Uniq rs) (e : rs.find? (isAt h s) = some r) : ∃ a b, rs = a ++ r :: b ∧ isAt h s r = true ∧ (∀ x ∈ a, isAt h s x = false) ∧ ∀ x ∈ b, isAt h s x = false := by
  obtain ⟨hr, a, b, rfl, ha⟩ := List.find?_eq_some_iff_append.mp e
  refine ⟨a, b, rfl, hr, fun x hx => by simpa using ha x hx, fun x hx => ?_⟩
  cases q : isAt h s x with
  | false => rfl
  | true =>
    unfold Uniq at u
    rw [List.map_append, List.map_cons, List.nodup_append, List.nodup_cons] at u
    have e1 : r.key = _ := of_decide_eq_true hr
    have e2 : x.key = _ := of_decide_eq_true q
    exact absurd (List.mem_map.mpr ⟨x, hx, e2.trans e1.symm⟩) u.2.1.1
theorem map_parts {h s : Int} {a b : List Row} {r : Row} {f : Row → Row} (hf : ∀ x, isAt h s x = false → f x = x) (ha : ∀ x ∈ a, isAt h s x = false) (hb : ∀ x ∈ b, isAt h s x = false) : (a ++ r :: b).map f = a ++ f r :: b := by
  have one : ∀ l : List Row, (∀ x ∈ l, isAt h s x = false) → l.map f = l := fun l hl => by
    induction l with
    | nil => rfl
    | cons x l ih => rw [List.map_cons, hf x (hl x List.mem_cons_self), ih fun y hy => hl y (List.mem_cons_of_mem _ hy)]
  rw [List.map_append, List.map_cons, one a ha, one b hb]
theorem dget_some {H : Hp} {a b : Addr} {kvs : List (List Key × V)} {i j : Int} {v : V} (e : H a = some (.dT kvs)) (eb : H b = some (.tup [.int i, .int j])) (h : valV kvs [.inl i, .inl j] = some v) : DGet H a (.ref b) (some v) := h ▸ dget_ii e eb
section
variable {P : Program} {w : World} {K : PySem.W.Frag} {mg : Str → Option Value} {base : Heap}
def spExt (C : Addr) (up : Int → Int → List Int → Row → Row) : Sp := fun vs H Q _ => ∃ (L : Led) (F : Cells) (h s : Int) (b : Addr) (xs : List Int), vs = [.ref L.p, .int h, .int s, .ref b] ∧ Sat H (L.cells C ++ F) ∧ (b, HO.lst (xs.map V.int)) ∈ F ∧ L.rows.length ≤ 500 ∧ Uniq L.rows ∧
  (∀ r ∈ L.rows, r.t.length ≤ 1000 ∧ r.g.length ≤ 1000) ∧ xs.length ≤ 1000 ∧
  ∀ (k ta ga : Addr) (H' : Hp), Sat H' (({ L with rows := (addRow h s L.rows k ta ga).map (up h s xs) } : Led).cells C ++ F) → Q .non H'
theorem add_small {h s : Int} {rs : List Row} {k ta ga : Addr} (hs : ∀ r ∈ rs, r.t.length ≤ 1000 ∧ r.g.length ≤ 1000) : ∀ r ∈ addRow h s rs k ta ga, r.t.length ≤ 1000 ∧ r.g.length ≤ 1000 := by
  unfold addRow
  cases e : rs.find? (isAt h s) with
  | some r => exact hs
  | none =>
    intro r hr
    rcases List.mem_append.mp hr with hr | hr
    · exact hs r hr
    · obtain rfl : r = _ := by simpa using hr
      exact ⟨Nat.zero_le _, Nat.zero_le _⟩
theorem ok_Ledger_note_write (S : Sy K mg) : Cb P w K mg base CX0 2 (a_Ledger_note_write K) ["self", "host", "socket", "octets"] (spExt (He.ga K "Ledger") upT) := by
  obtain ⟨fd, F⟩ := S.fd_Ledger_note_write
  refine ⟨⟨fd, F.ok sc_Ledger_note_write (fun vs H Q E h => ?_) (fun cdv A outer s_ H vs Q E hr h => ?_), F.bindsN fun _ _ _ _ _ _ us hl => match us, hl with | [_, _, _, _], _ => rfl⟩, F.kp⟩
  · obtain ⟨L, F, h, s, b, xs, rfl, _⟩ := h
    rfl
  · obtain ⟨L, F, h, s, b, xs, rfl, hS, hb, hl, hu, hz, hx, k⟩ := h
    refine ⟨_, PSs.nox (pss_one (ps_expr (pe_bm PySem.F.plainAttrs_list PySem.F.slot_list_extend PySem.F.type_list_extend mt_extend (pe_dget (hu_of hr) (pe_fld (pv 0) rfl) (pe_methC (pv 0) S.cl_Ledger S.mt_Ledger_note (ok_Ledger_note (K := K) S) (hr.mono (by decide)) pass0 (pa_cons (pv 1) (pa_cons (pv 2) pa_nil))) (fun _ _ => rfl)) (pa_cons (pv 3) pa_nil)))), ?_⟩
    have hS2 := hS
    simp only [Led.cells, List.cons_append] at hS2
    walk_at "go"
    intro kk k0 ta ga H1 hS1 hk
    have hu1 := uniq_add hu k0 ta ga (h := h) (s := s)
    have hz1 := add_small (h := h) (s := s) (k := k0) (ta := ta) (ga := ga) hz
    obtain ⟨r, hr⟩ := addRow_found h s L.rows k0 ta ga
    obtain ⟨pa, pb, e, h1, h2, h3⟩ := parts hu1 hr
    replace k := fun H' => k k0 ta ga H'
    rw [e] at hS1 hz1 k hr
    rw [map_parts (fun x q => by unfold upT; rw [q]; rfl) h2 h3] at k
    clear hS hS2
    simp only [Led.cells, List.cons_append, List.flatMap_append, List.flatMap_cons, Row.cells, List.append_assoc, List.nil_append] at hS1
    refine ⟨L.t, V.ref r.ta, rfl, dget_some (by walk_at "heap") hk (by rw [valV_rows, hr]; rfl), ?_⟩
    have hzr := hz1 r (by simp)
    walk_at "go"
    refine k _ (Sat.perm (by walk_at "sat") ?_)
    simp only [upT, h1, if_true, Led.cells, List.map_append, List.flatMap_append, List.map_cons, List.flatMap_cons, Row.cells]
    walk_at "perm"
theorem ok_Ledger_note_read (S : Sy K mg) : Cb P w K mg base CX0 2 (a_Ledger_note_read K) ["self", "host", "socket", "octets"] (spExt (He.ga K "Ledger") upG) := by
  obtain ⟨fd, F⟩ := S.fd_Ledger_note_read
  refine ⟨⟨fd, F.ok sc_Ledger_note_read (fun vs H Q E h => ?_) (fun cdv A outer s_ H vs Q E hr h => ?_), F.bindsN fun _ _ _ _ _ _ us hl => match us, hl with | [_, _, _, _], _ => rfl⟩, F.kp⟩
  · obtain ⟨L, F, h, s, b, xs, rfl, _⟩ := h
    rfl
  · obtain ⟨L, F, h, s, b, xs, rfl, hS, hb, hl, hu, hz, hx, k⟩ := h
    refine ⟨_, PSs.nox (pss_one (ps_expr (pe_bm PySem.F.plainAttrs_list PySem.F.slot_list_extend PySem.F.type_list_extend mt_extend (pe_dget (hu_of hr) (pe_fld (pv 0) rfl) (pe_methC (pv 0) S.cl_Ledger S.mt_Ledger_note (ok_Ledger_note (K := K) S) (hr.mono (by decide)) pass0 (pa_cons (pv 1) (pa_cons (pv 2) pa_nil))) (fun _ _ => rfl)) (pa_cons (pv 3) pa_nil)))), ?_⟩
    have hS2 := hS
    simp only [Led.cells, List.cons_append] at hS2
    walk_at "go"
    intro kk k0 ta ga H1 hS1 hk
    have hu1 := uniq_add hu k0 ta ga (h := h) (s := s)
    have hz1 := add_small (h := h) (s := s) (k := k0) (ta := ta) (ga := ga) hz
    obtain ⟨r, hr⟩ := addRow_found h s L.rows k0 ta ga
    obtain ⟨pa, pb, e, h1, h2, h3⟩ := parts hu1 hr
    replace k := fun H' => k k0 ta ga H'
    rw [e] at hS1 hz1 k hr
    rw [map_parts (fun x q => by unfold upG; rw [q]; rfl) h2 h3] at k
    clear hS hS2
    simp only [Led.cells, List.cons_append, List.flatMap_append, List.flatMap_cons, Row.cells, List.append_assoc, List.nil_append] at hS1
    refine ⟨L.g, V.ref r.ga, rfl, dget_some (by walk_at "heap") hk (by rw [valV_rows, hr]; rfl), ?_⟩
    have hzr := hz1 r (by simp)
    walk_at "go"
    refine k _ (Sat.perm (by walk_at "sat") ?_)
    simp only [upG, h1, if_true, Led.cells, List.map_append, List.flatMap_append, List.map_cons, List.flatMap_cons, Row.cells]
    walk_at "perm"
theorem putK_rows_old (f : Row → V) (h s : Int) (rs : List Row) (v : V) {r : Row} (e : rs.find? (isAt h s) = some r) : putK (rs.map fun r => (r.key, f r)) [Sum.inl h, Sum.inl s] v = rs.map fun r => (r.key, if isAt h s r then v else f r) := by
  have a : ((rs.map fun r => (r.key, f r)).any fun kv => decide (kv.1 = [Sum.inl h, Sum.inl s])) = true := by
    rw [valV_any, valV_rows, e]
    rfl
  unfold putK
  rw [if_pos a, List.map_map]
  refine List.map_congr_left fun x _ => ?_
  show (if x.key = _ then (x.key, v) else (x.key, f x)) = _
  unfold isAt
  by_cases q : x.key = [Sum.inl h, Sum.inl s]
  · rw [if_pos q, if_pos (decide_eq_true q)]
  · rw [if_neg q, if_neg (by simpa using q)]
theorem map_up (g : Row → Row) (up : Row → Row) (hk : ∀ r, (up r).key = r.key) (f f2 : Row → V) (hf : ∀ r, f2 r = f (up r)) (rs : List Row) : (rs.map up).map (fun r => (r.key, f r)) = rs.map fun r => (r.key, f2 r) := by
  rw [List.map_map]
  refine List.map_congr_left fun x _ => ?_
  show ((up x).key, f (up x)) = _
  rw [hk, hf]
def spFin (C : Addr) : Sp := fun vs H Q _ => ∃ (L : Led) (F : Cells) (h s : Int), vs = [.ref L.p, .int h, .int s] ∧ Sat H (L.cells C ++ F) ∧ L.rows.length ≤ 500 ∧ Uniq L.rows ∧
  ∀ (k ta ga : Addr) (H' : Hp), Sat H' (({ L with rows := (addRow h s L.rows k ta ga).map (upE h s) } : Led).cells C ++ F) → Q .non H'
theorem ok_Ledger_note_finish (S : Sy K mg) : Cb P w K mg base CX0 2 (a_Ledger_note_finish K) ["self", "host", "socket"] (spFin (He.ga K "Ledger")) := by
  obtain ⟨fd, F⟩ := S.fd_Ledger_note_finish
  refine ⟨⟨fd, F.ok sc_Ledger_note_finish (fun vs H Q E h => ?_) (fun cdv A outer s_ H vs Q E hr h => ?_), F.bindsN fun _ _ _ _ _ _ us hl => match us, hl with | [_, _, _], _ => rfl⟩, F.kp⟩
  · obtain ⟨L, F, h, s, rfl, _⟩ := h
    rfl
  · obtain ⟨L, F, h, s, rfl, hS, hl, hu, k⟩ := h
    refine ⟨_, PSs.nox (pss_one (ps_dput (hu_of hr) (pe_fld (pv 0) rfl) (pe_methC (pv 0) S.cl_Ledger S.mt_Ledger_note (ok_Ledger_note (K := K) S) (hr.mono (by decide)) pass0 (pa_cons (pv 1) (pa_cons (pv 2) pa_nil))) (pe_bl) rfl)), ?_⟩
    have hS2 := hS
    simp only [Led.cells, List.cons_append] at hS2
    walk_at "go"
    intro kk k0 ta ga H1 hS1 hk
    have hl1 := addRow_len h s L.rows k0 ta ga
    have hu1 := uniq_add hu k0 ta ga (h := h) (s := s)
    obtain ⟨r, hr⟩ := addRow_found h s L.rows k0 ta ga
    obtain ⟨pa, pb, e, h1, h2, h3⟩ := parts hu1 hr
    replace k := fun H' => k k0 ta ga H'
    rw [e] at hS1 k hr hl1
    rw [map_parts (fun x q => by unfold upE; rw [q]; rfl) h2 h3] at k
    clear hS hS2
    simp only [Led.cells, List.cons_append] at hS1
    simp only [List.length_append, List.length_cons] at hl1
    walk_at "go"
    refine k _ (Sat.perm (by walk_at "sat") ?_)
    rw [putK_rows_old _ h s _ _ hr]
    have q1 : ∀ l : List Row, (∀ x ∈ l, isAt h s x = false) → l.map (fun r => (r.key, if isAt h s r = true then V.bl true else V.bl r.e)) = l.map fun r => (r.key, V.bl r.e) := fun l hl =>
      List.map_congr_left fun x hx => by rw [hl x hx]; rfl
    simp only [upE, h1, if_true, Led.cells, List.map_append, List.flatMap_append, List.map_cons, List.flatMap_cons, Row.cells, q1 pa h2, q1 pb h3]
    walk_at "perm"
def tOf (rs : List Row) (h s : Int) : List Int := ((rs.find? (isAt h s)).map Row.t).getD []
def gOf (rs : List Row) (h s : Int) : List Int := ((rs.find? (isAt h s)).map Row.g).getD []
def eOf (rs : List Row) (h s : Int) : Bool := ((rs.find? (isAt h s)).map Row.e).getD false
def spGet (C : Addr) (of : List Row → Int → Int → List Int) : Sp := fun vs H Q _ => ∃ (L : Led) (F : Cells) (h s : Int), vs = [.ref L.p, .int h, .int s] ∧ Sat H (L.cells C ++ F) ∧ Uniq L.rows ∧
  ∀ (p : Addr) (H' : Hp), Sat H' ((p, .lst ((of L.rows h s).map V.int)) :: (L.cells C ++ F)) → Q (.ref p) H'
theorem ok_Ledger_written (S : Sy K mg) : Cb P w K mg base CX0 1 (a_Ledger_written K) ["self", "host", "socket"] (spGet (He.ga K "Ledger") tOf) := by
  obtain ⟨fd, F⟩ := S.fd_Ledger_written
  refine ⟨⟨fd, F.ok sc_Ledger_written (fun vs H Q E h => ?_) (fun cdv A outer s_ H vs Q E hr h => ?_), F.bindsN fun _ _ _ _ _ _ us hl => match us, hl with | [_, _, _], _ => rfl⟩, F.kp⟩
  · obtain ⟨L, F, h, s, rfl, _⟩ := h
    rfl
  · obtain ⟨L, F, h, s, rfl, hS, hu, k⟩ := h
    refine ⟨_, PSs.nox (pss_one (ps_ret (pe_callTy call_list_of (by rfl) S.fr_list (by decide +kernel) (pa_cons (pe_dget2 (hu_of hr) (pe_fld (pv 0) rfl) (pe_tup (pa_cons (pv 1) (pa_cons (pv 2) pa_nil))) (pe_tup (pa_nil)) ⟨rfl, rfl, rfl, rfl⟩) pa_nil)))), ?_⟩
    have hS2 := hS
    simp only [Led.cells, List.cons_append] at hS2
    walk_at "go"
    rw [valV_rows]
    unfold tOf at k
    cases e : L.rows.find? (isAt h s) with
    | some r =>
      rw [e] at k
      obtain ⟨pa, pb, ep, h1, h2, h3⟩ := parts hu e
      rw [ep] at hS2
      simp only [List.flatMap_append, List.flatMap_cons, Row.cells, List.append_assoc] at hS2
      refine ⟨r.ta, r.t.map V.int, rfl, .inl (by walk_at "leaf"), ?_⟩
      walk_at "go"
      clear hS2
      exact k _ _ (by walk_at "less")
    | none =>
      rw [e] at k
      refine ⟨_, _, rfl, .inr (by walk_at "leaf"), ?_⟩
      walk_at "go"
      clear hS2
      exact k _ _ (by walk_at "less")
theorem ok_Ledger_was_read (S : Sy K mg) : Cb P w K mg base CX0 1 (a_Ledger_was_read K) ["self", "host", "socket"] (spGet (He.ga K "Ledger") gOf) := by
  obtain ⟨fd, F⟩ := S.fd_Ledger_was_read
  refine ⟨⟨fd, F.ok sc_Ledger_was_read (fun vs H Q E h => ?_) (fun cdv A outer s_ H vs Q E hr h => ?_), F.bindsN fun _ _ _ _ _ _ us hl => match us, hl with | [_, _, _], _ => rfl⟩, F.kp⟩
  · obtain ⟨L, F, h, s, rfl, _⟩ := h
    rfl
  · obtain ⟨L, F, h, s, rfl, hS, hu, k⟩ := h
    refine ⟨_, PSs.nox (pss_one (ps_ret (pe_callTy call_list_of (by rfl) S.fr_list (by decide +kernel) (pa_cons (pe_dget2 (hu_of hr) (pe_fld (pv 0) rfl) (pe_tup (pa_cons (pv 1) (pa_cons (pv 2) pa_nil))) (pe_tup (pa_nil)) ⟨rfl, rfl, rfl, rfl⟩) pa_nil)))), ?_⟩
    have hS2 := hS
    simp only [Led.cells, List.cons_append] at hS2
    walk_at "go"
    rw [valV_rows]
    unfold gOf at k
    cases e : L.rows.find? (isAt h s) with
    | some r =>
      rw [e] at k
      obtain ⟨pa, pb, ep, h1, h2, h3⟩ := parts hu e
      rw [ep] at hS2
      simp only [List.flatMap_append, List.flatMap_cons, Row.cells, List.append_assoc] at hS2
      refine ⟨r.ga, r.g.map V.int, rfl, .inl (sql_of (by walk_at "heap")), ?_⟩
      walk_at "go"
      clear hS2
      exact k _ _ (by walk_at "less")
    | none =>
      rw [e] at k
      refine ⟨_, _, rfl, .inr (by walk_at "leaf"), ?_⟩
      walk_at "go"
      clear hS2
      exact k _ _ (by walk_at "less")
def spFinished (C : Addr) : Sp := fun vs H Q _ => ∃ (L : Led) (F : Cells) (h s : Int), vs = [.ref L.p, .int h, .int s] ∧ Sat H (L.cells C ++ F) ∧
  ∀ (H' : Hp), Sat H' (L.cells C ++ F) → Q (.bl (eOf L.rows h s)) H'
theorem ok_Ledger_has_finished (S : Sy K mg) : Cb P w K mg base CX0 1 (a_Ledger_has_finished K) ["self", "host", "socket"] (spFinished (He.ga K "Ledger")) := by
  obtain ⟨fd, F⟩ := S.fd_Ledger_has_finished
  refine ⟨⟨fd, F.ok sc_Ledger_has_finished (fun vs H Q E h => ?_) (fun cdv A outer s_ H vs Q E hr h => ?_), F.bindsN fun _ _ _ _ _ _ us hl => match us, hl with | [_, _, _], _ => rfl⟩, F.kp⟩
  · obtain ⟨L, F, h, s, rfl, _⟩ := h
    rfl
  · obtain ⟨L, F, h, s, rfl, hS, k⟩ := h
    refine ⟨_, PSs.nox (pss_one (ps_ret (pe_dget2 (hu_of hr) (pe_fld (pv 0) rfl) (pe_tup (pa_cons (pv 1) (pa_cons (pv 2) pa_nil))) (pe_bl) ⟨rfl, rfl, rfl, rfl⟩))), ?_⟩
    have hS2 := hS
    simp only [Led.cells, List.cons_append] at hS2
    walk_at "go"
    rw [valV_rows]
    unfold eOf at k
    clear hS2
    cases e : L.rows.find? (isAt h s) with
    | some r =>
      rw [e] at k
      exact k _ (by walk_at "less")
    | none =>
      rw [e] at k
      exact k _ (by walk_at "less")
theorem ok_Ledger___iter__ (S : Sy K mg) : CbS P w K mg base CX0 1 (a_Ledger___iter__ K) ["self"] (spIt (He.ga K "Ledger") fun a H l => ∃ (dx : Addr) (v1 v2 v3 : V) (xs : List V), H a = some (.ins (He.ga K "Ledger") dx (fs_Ledger (.ref l) v1 v2 v3)) ∧ SqL K H l xs) := by
  obtain ⟨fd, F⟩ := S.fd_Ledger___iter__
  refine ⟨⟨fd, fnS_of F sc_Ledger___iter__ (fun cdv A outer s_ H vs Q E hr h => ?_), F.bindsN fun _ _ _ _ _ _ us hl => match us, hl with | [_], _ => rfl⟩, F.kp⟩
  obtain ⟨a, dx0, fs, l, rfl, _, ⟨dx, v1, v2, v3, xs, ha, hl⟩, k⟩ := h
  refine ⟨_, PSs.nox (pss_one (ps_ret (pe_callB ItX.call_iterN (by rfl) S.fr_iter (by decide +kernel) (pa_cons (pe_fld (pv 0) rfl) pa_nil)))), ?_⟩
  refine ⟨_, rfl, a, _, dx, _, _, rfl, ha, S.cl_Ledger, S.na_Ledger_order, fs_Ledger_order .., l, xs, rfl, hl, ?_⟩
  exact fun it h1 h2 => k it h1 h2
end
/-! ### the law's own helpers -/
def cellOf (ns : List Int) (k : Int) : Int := ns.getD k.toNat 0
def startP : Int := 618970019642690137449562111
def startOf (c k : Int) : Int := if -1000000000000000000 < c ∧ c < 1000000000000000000 then
  ((c * 2654435761 + (k + 1) * 6700417) % startP * ((c * 2654435761 + (k + 1) * 6700417) % startP) + 7 * ((c * 2654435761 + (k + 1) * 6700417) % startP) + k) % startP else c
theorem startM (x : Int) : 0 ≤ x % startP ∧ x % startP < 2 ^ 90 := by
  have h1 : 0 ≤ x % startP := Int.emod_nonneg x (by decide)
  have h2 : x % startP < startP := Int.emod_lt_of_pos x (by decide)
  have h3 : startP < 2 ^ 90 := by decide
  exact ⟨h1, Int.lt_trans h2 h3⟩
theorem atI_getD {ns : List Int} {k : Int} (h0 : 0 ≤ k) (h : k < (ns.length : Int)) : atI (ns.map V.int) k = some (V.int (cellOf ns k)) := by
  obtain ⟨n, rfl⟩ := Int.eq_ofNat_of_zero_le h0
  have hn : n < ns.length := by omega
  unfold cellOf
  refine atI_nat ?_
  simp [List.getElem?_eq_getElem hn, List.getD_eq_getElem?_getD]
theorem cellOf_out {ns : List Int} {k : Int} (h : ¬ k < (ns.length : Int)) : cellOf ns k = 0 := by
  unfold cellOf
  rw [List.getD_eq_getElem?_getD, List.getElem?_eq_none (by omega)]
  rfl
section
variable {P : Program} {w : World} {K : PySem.W.Frag} {mg : Str → Option Value} {base : Heap}
def spCellI (K : PySem.W.Frag) : Sp := fun vs H Q _ => ∃ (a : Addr) (ns : List Int) (k : Int), vs = [.ref a, .int k] ∧ SqL K H a (ns.map V.int) ∧ 0 ≤ k ∧ Q (.int (cellOf ns k)) H
theorem ok__law_cell (S : Sy K mg) : Cb P w K mg base CX0 1 (a__law_cell K) ["_law_script", "_law_k"] (spCellI K) := by
  obtain ⟨fd, F⟩ := S.fd__law_cell
  refine ⟨⟨fd, F.ok sc__law_cell (fun vs H Q E h => ?_) (fun cdv A outer s_ H vs Q E hr h => ?_), F.bindsN fun _ _ _ _ _ _ us hl => match us, hl with | [_, _], _ => rfl⟩, F.kp⟩
  · obtain ⟨a, ns, k, rfl, _⟩ := h
    rfl
  · obtain ⟨a, ns, k, rfl, hS, h0, q⟩ := h
    refine ⟨_, PSs.nox (pss_cons (ps_if (pt_cmpR op_lt (pv 1) (pe_callB call_len (by rfl) S.fr_len (by decide +kernel) (pa_cons (pv 0) pa_nil)) (nomark _))
 (pss_one (ps_ret (pe_ix ix_list (pv 0) (pv 1) (fun _ _ => rfl))))
 (pss_nil))
 (pss_one (ps_ret (pe_int)))), ?_⟩
    refine ⟨_, rfl, _, rfl, V.ref a, (ns.map V.int).length, rfl, .inl ⟨_, hS, rfl⟩, _, _, rfl, rfl, _, rfl, ?_⟩
    rw [List.length_map]
    refine ite2 (fun e => ?_) (fun e => ?_)
    · have e : k < (ns.length : Int) := of_decide_eq_true e
      exact ⟨_, rfl, _, rfl, a, _, k, _, rfl, rfl, hS, atI_getD h0 e, q⟩
    · have e : ¬ k < (ns.length : Int) := fun z => e (decide_eq_true z)
      rw [cellOf_out e] at q
      exact q
def spIsInt : Sp := fun vs H Q _ => ∃ i : Int, vs = [.int i] ∧ Q (.bl true) H
theorem ok__law_is_integer (S : Sy K mg) : Cb P w K mg base CX0 1 (a__law_is_integer K) ["_law_told"] spIsInt := by
  obtain ⟨fd, F⟩ := S.fd__law_is_integer
  refine ⟨⟨fd, F.ok sc__law_is_integer (fun vs H Q E h => ?_) (fun cdv A outer s_ H vs Q E hr h => ?_), F.bindsN fun _ _ _ _ _ _ us hl => match us, hl with | [_], _ => rfl⟩, F.kp⟩
  · obtain ⟨i, rfl, _⟩ := h
    rfl
  · obtain ⟨i, rfl, q⟩ := h
    refine ⟨_, PSs.nox (pss_one (ps_ret (pe_and (pe_callB call_isi (by rfl) S.fr_isinstance (by decide +kernel) (pa_cons (pv 0) (pa_cons (pe_bltn (v := .ty "int") (by rfl) S.fr_int (by decide +kernel) rfl) pa_nil))) (pe_one (pe_not (pe_callB call_isi (by rfl) S.fr_isinstance (by decide +kernel) (pa_cons (pv 0) (pa_cons (pe_bltn (v := .ty "bool") (by rfl) S.fr_bool (by decide +kernel) rfl) pa_nil)))))))), ?_⟩
    refine ⟨_, rfl, _, _, _, _, true, rfl, .ty _, .base (.int i), kit_ty (by decide +kernel), true, rfl, ?_⟩
    refine iteT ?_
    exact ⟨_, rfl, _, _, _, _, false, rfl, .ty _, .base (.int i), kit_ty (by decide +kernel), false, rfl, q⟩
def spStart : Sp := fun vs H Q _ => ∃ (c k : Int) (A : Cells), vs = [.int c, .int k] ∧ 0 ≤ k ∧ k < 1000 ∧ Sat H A ∧ ∀ (p : Addr) (H' : Hp), Sat H' ((p, .lst [.int (startOf c k)]) :: A) → Q (.ref p) H'
theorem ok__law_start (S : Sy K mg) : Cb P w K mg base CX0 1 (a__law_start K) ["_law_cell_here", "_law_k"] spStart := by
  obtain ⟨fd, F⟩ := S.fd__law_start
  refine ⟨⟨fd, F.ok sc__law_start (fun vs H Q E h => ?_) (fun cdv A outer s_ H vs Q E hr h => ?_), F.bindsN fun _ _ _ _ _ _ us hl => match us, hl with | [_, _], _ => rfl⟩, F.kp⟩
  · obtain ⟨c, k, A, rfl, _⟩ := h
    rfl
  · obtain ⟨c, k, A', rfl, h0, h1, hS, q⟩ := h
    refine ⟨_, PSs.nox (pss_cons (ps_set (i := 2) sc__law_start.nd rfl (Or.inl rfl) (pe_int))
 (pss_cons (ps_if (pt_chain op_lt op_lt (pe_un un_neg (pe_int)) (pv 0) (pe_int))
 (pss_cons (ps_set (i := 3) sc__law_start.nd rfl (Or.inl rfl) (pe_op op_mod (pe_callTy call_int1 (by rfl) S.fr_int (by decide +kernel) (pa_cons (pe_op op_add (pe_op op_mul (pv 0) (pe_int)) (pe_op op_mul (pe_op op_add (pv 1) (pe_int)) (pe_int))) pa_nil)) (pv 2)))
 (pss_one (ps_ret (pe_lst (pa_cons (pe_op op_mod (pe_callTy call_int1 (by rfl) S.fr_int (by decide +kernel) (pa_cons (pe_op op_add (pe_op op_add (pe_op op_mulW (pv 3) (pv 3)) (pe_op op_mul (pe_int) (pv 3))) (pv 1)) pa_nil)) (pv 2)) pa_nil)))))
 (pss_nil))
 (pss_one (ps_ret (pe_lst (pa_cons (pv 0) pa_nil)))))), ?_⟩
    walk_at "go"
    unfold startOf at q
    by_cases c1 : -1000000000000000000 < c
    · rw [decide_eq_true c1]
      refine iteT ?_
      walk_at "go"
      by_cases c2 : c < 1000000000000000000
      · rw [decide_eq_true c2]
        refine iteT ?_
        rw [if_pos ⟨c1, c2⟩] at q
        have hm := startM (c * 2654435761 + (k + 1) * 6700417)
        unfold startP at q hm
        have hw : CMulW ((c * 2654435761 + (k + 1) * 6700417) % 618970019642690137449562111) ((c * 2654435761 + (k + 1) * 6700417) % 618970019642690137449562111) :=
          wide_mul (a := 90) (b := 90) (by omega) (by omega) (by decide) (by decide) (by decide)
        walk_at "go"
        exact q _ _ (by walk_at "sat")
      · rw [decide_eq_false c2]
        refine iteF ?_
        rw [if_neg (fun z => c2 z.2)] at q
        walk_at "go"
        exact q _ _ (by walk_at "sat")
    · rw [decide_eq_false c1]
      refine iteF ?_
      rw [if_neg (fun z => c1 z.1)] at q
      walk_at "go"
      exact q _ _ (by walk_at "sat")
def spDigit : Sp := fun vs H Q _ => ∃ (a : Addr) (z m : Int) (A B : Cells), vs = [.ref a, .int m] ∧ 0 < m ∧ m < 2 ^ 64 ∧ Sat H A ∧ (a, HO.lst [.int z]) ∈ A ∧ Put A a (.lst [.int (z / m)]) B ∧ ∀ H', Sat H' B → Q (.int (z % m)) H'
theorem ok__law_digit (S : Sy K mg) : Cb P w K mg base CX0 1 (a__law_digit K) ["_law_state", "_law_many"] spDigit := by
  obtain ⟨fd, F⟩ := S.fd__law_digit
  refine ⟨⟨fd, F.ok sc__law_digit (fun vs H Q E h => ?_) (fun cdv A outer s_ H vs Q E hr h => ?_), F.bindsN fun _ _ _ _ _ _ us hl => match us, hl with | [_, _], _ => rfl⟩, F.kp⟩
  · obtain ⟨a, z, m, A, B, rfl, _⟩ := h
    rfl
  · obtain ⟨a, z, m, A', B, rfl, h0, h1, hS, hm, hp, q⟩ := h
    refine ⟨_, PSs.nox (pss_cons (ps_set (i := 2) sc__law_digit.nd rfl (Or.inl rfl) (pe_op op_mod (pe_callTy call_int1 (by rfl) S.fr_int (by decide +kernel) (pa_cons (pe_ix ix_list (pv 0) (pe_int) (fun _ _ => rfl)) pa_nil)) (pv 1)))
 (pss_cons (ps_asg (pe_op op_fdivW (pe_ix ix_list (pv 0) (pe_int) (fun _ _ => rfl)) (pv 1)) (pg_sub (pv 0) (pe_int) set_list))
 (pss_one (ps_ret (pv 2))))), ?_⟩
    have hd : CDivW z m := wide_div h0 (b := 64) (by omega) (by decide) (by decide)
    walk_at "go"
    exact q _ (hS.put hp)
end
/-! ### what the law keeps of its notes -/
structure Rec where
  tp : Addr
  h : Int
  s : Int
  k : Int
  oa : Addr
  xs : List Int
def Rec.cells (r : Rec) : Cells := [(r.tp, .tup [.int r.h, .int r.s, .int r.k, .ref r.oa]), (r.oa, .lst (r.xs.map V.int))]
def rowsCells (ra : Addr) (RR : List Rec) : Cells := (ra, .lst (RR.map fun r => .ref r.tp)) :: RR.flatMap Rec.cells
theorem rec_mem {RR : List Rec} {r : Rec} (h : r ∈ RR) : (r.tp, HO.tup [.int r.h, .int r.s, .int r.k, .ref r.oa]) ∈ RR.flatMap Rec.cells ∧ (r.oa, HO.lst (r.xs.map V.int)) ∈ RR.flatMap Rec.cells :=
  ⟨List.mem_flatMap.mpr ⟨r, h, by simp [Rec.cells]⟩, List.mem_flatMap.mpr ⟨r, h, by simp [Rec.cells]⟩⟩
def wrOne (h s : Int) (r : Rec) : List Int := if r.h = h ∧ r.s = s ∧ r.k = 0 then r.xs else []
def gvOne (h s : Int) (r : Rec) : List Int := if r.h = h ∧ r.s = s ∧ r.k = 1 then r.xs else []
def enOne (h s : Int) (r : Rec) : Bool := decide (r.h = h ∧ r.s = s ∧ r.k ≠ 0 ∧ r.k ≠ 1)
def wrOf (RR : List Rec) (h s : Int) : List Int := RR.flatMap (wrOne h s)
def gvOf (RR : List Rec) (h s : Int) : List Int := RR.flatMap (gvOne h s)
def enOf (RR : List Rec) (h s : Int) : Bool := RR.any (enOne h s)
theorem take_snoc {α : Type} {l : List α} {i : Nat} {x : α} (h : l[i]? = some x) : l.take (i + 1) = l.take i ++ [x] := by
  obtain ⟨hi, e⟩ := List.getElem?_eq_some_iff.mp h
  rw [List.take_succ, h]
  rfl
section
variable {P : Program} {w : World} {K : PySem.W.Frag} {mg : Str → Option Value} {base : Heap}
def spOctets : Sp := fun vs H Q _ => ∃ (a : Addr) (xs : List Int) (A : Cells), vs = [.ref a] ∧ Sat H A ∧ (a, HO.lst (xs.map V.int)) ∈ A ∧ ∀ (p : Addr) (H' : Hp), Sat H' ((p, .lst (xs.map V.int)) :: A) → Q (.ref p) H'
theorem ok__law_octets (S : Sy K mg) : Cb P w K mg base CX0 2 (a__law_octets K) ["_law_told"] spOctets := by
  obtain ⟨fd, F⟩ := S.fd__law_octets
  refine ⟨⟨fd, F.ok sc__law_octets (fun vs H Q E h => ?_) (fun cdv A outer s_ H vs Q E hr h => ?_), F.bindsN fun _ _ _ _ _ _ us hl => match us, hl with | [_], _ => rfl⟩, F.kp⟩
  · obtain ⟨a, xs, A, rfl, _⟩ := h
    rfl
  · obtain ⟨a, xs, A', rfl, hS, ha, q⟩ := h
    refine ⟨_, PSs.nox (pss_cons (ps_if (pt_not (pt_val (pe_callB call_isi (by rfl) S.fr_isinstance (by decide +kernel) (pa_cons (pv 0) (pa_cons (pe_bltn (v := .ty "list") (by rfl) S.fr_list (by decide +kernel) rfl) pa_nil)))))
 (pss_one (ps_ret (pe_non)))
 (pss_nil))
 (pss_cons (ps_for PassesOwn.never rfl (pi_list (pv 0)) (pg_name (i := 1) sc__law_octets.nd rfl (Or.inl rfl))
 (pss_one (ps_if (pt_not (pt_val (pe_callC (ok__law_is_integer (K := K) S) (hr.mono (by decide)) rfl S.mg__law_is_integer pass0 (pa_cons (pv 1) pa_nil))))
 (pss_one (ps_ret (pe_non)))
 (pss_nil))))
 (pss_one (ps_ret (pe_callTy call_list_of (by rfl) S.fr_list (by decide +kernel) (pa_cons (pv 0) pa_nil)))))), ?_⟩
    walk_at "go"
    refine for_list (K := K) (a := a) (xs := xs.map V.int) (fun i σ H' => H' = H ∧ ∃ v, σ = [some (.ref a), v]) ⟨rfl, _, rfl⟩ (fun i σ H' _ ⟨e, _⟩ => by subst e; exact sql_of (by walk_at "heap")) ?_ ?_
    · rintro i x σ H' hi ⟨rfl, v, rfl⟩
      obtain ⟨u, rfl⟩ : ∃ u, x = V.int u := by
        obtain ⟨u, _, e⟩ := List.mem_map.mp (List.mem_of_getElem? hi)
        exact ⟨u, e.symm⟩
      walk_at "go"
      exact ⟨_, rfl⟩
    · rintro σ H' ⟨rfl, v, rfl⟩
      walk_at "go"
      exact q _ _ (by walk_at "sat")
/-- the keys of the notes, as they first came -/
def addKey (ks : List (List Int)) (r : Rec) : List (List Int) := if [r.h, r.s] ∈ ks then ks else ks ++ [[r.h, r.s]]
def keysOf (RR : List Rec) : List (List Int) := RR.foldl addKey []
theorem keys_snoc (l : List Rec) (r : Rec) : keysOf (l ++ [r]) = addKey (keysOf l) r := by
  unfold keysOf
  rw [List.foldl_append]
  rfl
/-- the ledger tells what the notes say -/
structure Agree (rs : List Row) (RR : List Rec) : Prop where
  u : Uniq rs
  t : ∀ h s, tOf rs h s = wrOf RR h s
  g : ∀ h s, gOf rs h s = gvOf RR h s
  e : ∀ h s, eOf rs h s = enOf RR h s
  k : rs.map (fun r => [r.h, r.s]) = keysOf RR
theorem flat_len {f : Rec → List Int} {n : Nat} : ∀ {RR : List Rec}, (∀ r ∈ RR, (f r).length ≤ n) → (RR.flatMap f).length ≤ n * RR.length
  | [], _ => Nat.zero_le _
  | r :: RR, h => by
    have h1 := h r List.mem_cons_self
    have h2 := flat_len (RR := RR) (f := f) (n := n) fun x hx => h x (List.mem_cons_of_mem _ hx)
    rw [List.flatMap_cons, List.length_append, List.length_cons, Nat.mul_add]
    omega
theorem wr_len {RR : List Rec} (hx : ∀ r ∈ RR, r.xs.length ≤ 4) (hl : RR.length ≤ 100) (h s : Int) (i : Nat) : (wrOf (RR.take i) h s).length ≤ 400 := by
  have a := flat_len (RR := RR.take i) (f := wrOne h s) (n := 4) fun r hr => by
    unfold wrOne
    split
    · exact hx r (List.mem_of_mem_take hr)
    · exact Nat.zero_le _
  have b : (RR.take i).length ≤ RR.length := by rw [List.length_take]; omega
  unfold wrOf
  omega
theorem gv_len {RR : List Rec} (hx : ∀ r ∈ RR, r.xs.length ≤ 4) (hl : RR.length ≤ 100) (h s : Int) (i : Nat) : (gvOf (RR.take i) h s).length ≤ 400 := by
  have a := flat_len (RR := RR.take i) (f := gvOne h s) (n := 4) fun r hr => by
    unfold gvOne
    split
    · exact hx r (List.mem_of_mem_take hr)
    · exact Nat.zero_le _
  have b : (RR.take i).length ≤ RR.length := by rw [List.length_take]; omega
  unfold gvOf
  omega
theorem decI {i j : Int} : decide (V.int i = V.int j) = decide (i = j) := by simp
theorem wr_snoc (l : List Rec) (r : Rec) (h s : Int) : wrOf (l ++ [r]) h s = wrOf l h s ++ wrOne h s r := by simp [wrOf]
theorem gv_snoc (l : List Rec) (r : Rec) (h s : Int) : gvOf (l ++ [r]) h s = gvOf l h s ++ gvOne h s r := by simp [gvOf]
theorem en_snoc (l : List Rec) (r : Rec) (h s : Int) : enOf (l ++ [r]) h s = (enOf l h s || enOne h s r) := by simp [enOf]
def spHolds (C : Addr) : Sp := fun vs H Q _ => ∃ (L : Led) (F : Cells) (ra : Addr) (RR : List Rec) (h s : Int), vs = [.ref L.p, .int h, .int s, .ref ra] ∧ Sat H (L.cells C ++ (rowsCells ra RR ++ F)) ∧
  Agree L.rows RR ∧ RR.length ≤ 100 ∧ (∀ r ∈ RR, r.xs.length ≤ 4) ∧ ∀ H', Sat H' (L.cells C ++ (rowsCells ra RR ++ F)) → Q (.bl true) H'
theorem ok__law_holds (S : Sy K mg) : Cb P w K mg base CX0 3 (a__law_holds K) ["_law_ledger", "_law_host", "_law_socket", "_law_rows"] (spHolds (He.ga K "Ledger")) := by
  obtain ⟨fd, F⟩ := S.fd__law_holds
  refine ⟨⟨fd, F.ok sc__law_holds (fun vs H Q E h => ?_) (fun cdv A outer s_ H vs Q E hr h => ?_), F.bindsN fun _ _ _ _ _ _ us hl => match us, hl with | [_, _, _, _], _ => rfl⟩, F.kp⟩
  · obtain ⟨L, F, ra, RR, h, s, rfl, _⟩ := h
    rfl
  · obtain ⟨L, F, ra, RR, h, s, rfl, hS, hA, hl, hx, q⟩ := h
    refine ⟨_, PSs.nox (pss_cons (ps_set (i := 4) sc__law_holds.nd rfl (Or.inl rfl) (pe_lst (pa_nil)))
 (pss_cons (ps_set (i := 5) sc__law_holds.nd rfl (Or.inl rfl) (pe_lst (pa_nil)))
 (pss_cons (ps_set (i := 6) sc__law_holds.nd rfl (Or.inl rfl) (pe_bl))
 (pss_cons (ps_for PassesOwn.never rfl (pi_list (pv 3)) (pg_name (i := 7) sc__law_holds.nd rfl (Or.inl rfl))
 (pss_one (ps_if (PW.pt (pw_and (pt_cmpR op_eq (pe_ix ix_tup (pv 7) (pe_int) (fun _ _ => rfl)) (pv 1) (nomark _)) (pw_and1 (pt_cmpR op_eq (pe_ix ix_tup (pv 7) (pe_int) (fun _ _ => rfl)) (pv 2) (nomark _)))))
 (pss_one (ps_if (pt_cmpR op_eq (pe_ix ix_tup (pv 7) (pe_int) (fun _ _ => rfl)) (pe_int) (nomark _))
 (pss_one (ps_set (i := 4) sc__law_holds.nd rfl (Or.inl rfl) (pe_op op_cat (pv 4) (pe_ix ix_tup (pv 7) (pe_int) (fun _ _ => rfl)))))
 (pss_one (ps_if (pt_cmpR op_eq (pe_ix ix_tup (pv 7) (pe_int) (fun _ _ => rfl)) (pe_int) (nomark _))
 (pss_one (ps_set (i := 5) sc__law_holds.nd rfl (Or.inl rfl) (pe_op op_cat (pv 5) (pe_ix ix_tup (pv 7) (pe_int) (fun _ _ => rfl)))))
 (pss_one (ps_set (i := 6) sc__law_holds.nd rfl (Or.inl rfl) (pe_bl)))))))
 (pss_nil))))
 (pss_cons (ps_set (i := 8) sc__law_holds.nd rfl (Or.inl rfl) (pe_methC (pv 0) S.cl_Ledger S.mt_Ledger_written (ok_Ledger_written (K := K) S) (hr.mono (by decide)) pass0 (pa_cons (pv 1) (pa_cons (pv 2) pa_nil))))
 (pss_cons (ps_if (PW.pt (pw_or (pt_cmpR (op_neD hr.units) (pe_callC (ok__law_octets (K := K) S) (hr.mono (by decide)) rfl S.mg__law_octets pass0 (pa_cons (pv 8) pa_nil)) (pv 4) (nomark _)) (pw_or1 (pt_cmpR (op_neD hr.units) (pe_callC (ok__law_octets (K := K) S) (hr.mono (by decide)) rfl S.mg__law_octets pass0 (pa_cons (pe_methC (pv 0) S.cl_Ledger S.mt_Ledger_was_read (ok_Ledger_was_read (K := K) S) (hr.mono (by decide)) pass0 (pa_cons (pv 1) (pa_cons (pv 2) pa_nil))) pa_nil)) (pv 5) (nomark _)))))
 (pss_one (ps_ret (pe_bl)))
 (pss_nil))
 (pss_cons (ps_expr (pe_bm PySem.F.plainAttrs_list PySem.F.slot_list_append PySem.F.type_list_append mt_append (pv 8) (pa_cons (pe_int) pa_nil)))
 (pss_cons (ps_set (i := 9) sc__law_holds.nd rfl (Or.inl rfl) (pe_methC (pv 0) S.cl_Ledger S.mt_Ledger_was_read (ok_Ledger_was_read (K := K) S) (hr.mono (by decide)) pass0 (pa_cons (pv 1) (pa_cons (pv 2) pa_nil))))
 (pss_cons (ps_expr (pe_bm PySem.F.plainAttrs_list PySem.F.slot_list_append PySem.F.type_list_append mt_append (pv 9) (pa_cons (pe_int) pa_nil)))
 (pss_cons (ps_if (PW.pt (pw_or (pt_cmpR (op_neD hr.units) (pe_callC (ok__law_octets (K := K) S) (hr.mono (by decide)) rfl S.mg__law_octets pass0 (pa_cons (pe_methC (pv 0) S.cl_Ledger S.mt_Ledger_written (ok_Ledger_written (K := K) S) (hr.mono (by decide)) pass0 (pa_cons (pv 1) (pa_cons (pv 2) pa_nil))) pa_nil)) (pv 4) (nomark _)) (pw_or1 (pt_cmpR (op_neD hr.units) (pe_callC (ok__law_octets (K := K) S) (hr.mono (by decide)) rfl S.mg__law_octets pass0 (pa_cons (pe_methC (pv 0) S.cl_Ledger S.mt_Ledger_was_read (ok_Ledger_was_read (K := K) S) (hr.mono (by decide)) pass0 (pa_cons (pv 1) (pa_cons (pv 2) pa_nil))) pa_nil)) (pv 5) (nomark _)))))
 (pss_one (ps_ret (pe_bl)))
 (pss_nil))
 (pss_cons (ps_set (i := 10) sc__law_holds.nd rfl (Or.inl rfl) (pe_methC (pv 0) S.cl_Ledger S.mt_Ledger_has_finished (ok_Ledger_has_finished (K := K) S) (hr.mono (by decide)) pass0 (pa_cons (pv 1) (pa_cons (pv 2) pa_nil))))
 (pss_one (ps_ret (pe_and (pe_callB call_isi (by rfl) S.fr_isinstance (by decide +kernel) (pa_cons (pv 10) (pa_cons (pe_bltn (v := .ty "bool") (by rfl) S.fr_bool (by decide +kernel) rfl) pa_nil))) (pe_one (pe_cmpR op_eq (pv 10) (pv 6) (nomark _))))))))))))))))), ?_⟩
    walk_at "go"
    rename_i wa _ ga _
    refine for_list (K := K) (a := ra) (xs := RR.map fun r => .ref r.tp) (fun i σ H' => ∃ (wa ga : Addr) (v : Option V), σ = [some (.ref L.p), some (.int h), some (.int s), some (.ref ra), some (.ref wa), some (.ref ga), some (.bl (enOf (RR.take i) h s)), v, none, none, none] ∧
      Sat H' ((wa, .lst ((wrOf (RR.take i) h s).map V.int)) :: (ga, .lst ((gvOf (RR.take i) h s).map V.int)) :: (L.cells (He.ga K "Ledger") ++ (rowsCells ra RR ++ F)))) ?_ ?_ ?_ ?_
    · exact ⟨wa, ga, _, rfl, Sat.perm (by walk_at "sat") (List.Perm.swap _ _ _)⟩
    · rintro i σ H' _ ⟨wa, ga, v, _, hS⟩
      exact sql_of (by walk_at "heap")
    · clear hS
      rintro i x σ H' hi ⟨wa, ga, v, rfl, hS⟩
      obtain ⟨r, hr, rfl⟩ : ∃ r, RR[i]? = some r ∧ V.ref r.tp = x := by simpa using hi
      have hm := List.mem_of_getElem? hr
      have hm1 := (rec_mem hm).1
      have hm2 := (rec_mem hm).2
      have hw := wr_len hx hl h s i
      have hg := gv_len hx hl h s i
      have hxr := hx r hm
      have eT := take_snoc hr
      rw [eT]
      simp only [wr_snoc, gv_snoc, en_snoc]
      walk_at "go"
      refine ite2 (fun c1 => ?_) (fun c1 => ?_)
      · rw [decI, decide_eq_true_eq] at c1
        walk_at "go"
        refine ite2 (fun c2 => ?_) (fun c2 => ?_)
        · rw [decI, decide_eq_true_eq] at c2
          walk_at "go"
          refine ite2 (fun c3 => ?_) (fun c3 => ?_)
          · rw [decI, decide_eq_true_eq] at c3
            have e1 : wrOne h s r = r.xs := if_pos ⟨c1, c2, c3⟩
            have e2 : gvOne h s r = [] := if_neg (by omega)
            have e3 : enOne h s r = false := decide_eq_false (by omega)
            rw [e1, e2, e3, Bool.or_false, List.append_nil, List.map_append]
            walk_at "go"
            walk_at "less"
          · rw [decI, decide_eq_true_eq] at c3
            walk_at "go"
            refine ite2 (fun c4 => ?_) (fun c4 => ?_)
            · rw [decI, decide_eq_true_eq] at c4
              have e1 : wrOne h s r = [] := if_neg (by omega)
              have e2 : gvOne h s r = r.xs := if_pos ⟨c1, c2, c4⟩
              have e3 : enOne h s r = false := decide_eq_false (by omega)
              rw [e1, e2, e3, Bool.or_false, List.append_nil, List.map_append]
              walk_at "go"
              refine Sat.perm (Sat.sub (by walk_at "sat") (List.Sublist.cons₂ _ (List.Sublist.cons₂ _ (List.Sublist.cons _ (List.Sublist.refl _))))) (List.Perm.swap _ _ _)
            · rw [decI, decide_eq_true_eq] at c4
              have e1 : wrOne h s r = [] := if_neg (by omega)
              have e2 : gvOne h s r = [] := if_neg (by omega)
              have e3 : enOne h s r = true := decide_eq_true (by omega)
              rw [e1, e2, e3, Bool.or_true, List.append_nil, List.append_nil]
              walk_at "go"
              exact hS
        · rw [decI, decide_eq_true_eq] at c2
          have e1 : wrOne h s r = [] := if_neg (by omega)
          have e2 : gvOne h s r = [] := if_neg (by omega)
          have e3 : enOne h s r = false := decide_eq_false (by omega)
          rw [e1, e2, e3, Bool.or_false, List.append_nil, List.append_nil]
          walk_at "go"
          exact hS
      · rw [decI, decide_eq_true_eq] at c1
        have e1 : wrOne h s r = [] := if_neg (by omega)
        have e2 : gvOne h s r = [] := if_neg (by omega)
        have e3 : enOne h s r = false := decide_eq_false (by omega)
        rw [e1, e2, e3, Bool.or_false, List.append_nil, List.append_nil]
        walk_at "go"
        exact hS
    · clear hS
      rintro σ H' ⟨wa, ga, v, rfl, hS⟩
      rw [List.length_map, List.take_length] at hS ⊢
      have hu := hA.u
      have htl : (tOf L.rows h s).length ≤ 400 := by
        rw [hA.t]
        have := wr_len hx hl h s RR.length
        rwa [List.take_length] at this
      have hgl : (gOf L.rows h s).length ≤ 400 := by
        rw [hA.g]
        have := gv_len hx hl h s RR.length
        rwa [List.take_length] at this
      walk_at "go"
      intro p1 H1 hS1
      clear hS
      walk_at "go"
      intro p2 H2 hS2
      clear hS1
      walk_at "go"
      rw [eqv_ints, decide_eq_true (hA.t h s)]
      walk_at "go"
      intro p3 H3 hS3
      clear hS2
      walk_at "go"
      intro p4 H4 hS4
      clear hS3
      walk_at "go"
      rw [eqv_ints, decide_eq_true (hA.g h s)]
      walk_at "go"
      intro p5 H5 hS5
      clear hS4
      walk_at "go"
      intro p6 H6 hS6
      clear hS5
      walk_at "go"
      intro p7 H7 hS7
      clear hS6
      walk_at "go"
      rw [eqv_ints, decide_eq_true (hA.t h s)]
      walk_at "go"
      intro p8 H8 hS8
      clear hS7
      walk_at "go"
      intro p9 H9 hS9
      clear hS8
      walk_at "go"
      rw [eqv_ints, decide_eq_true (hA.g h s)]
      walk_at "go"
      intro H10 hS10
      clear hS9
      walk_at "go"
      rw [hA.e, decide_eq_true rfl]
      exact q _ (by walk_at "less")
end
/-! ### the keys -/
def kcells (kz : List (Addr × List Int)) : Cells := kz.map fun q => (q.1, .tup (q.2.map V.int))
theorem paired_kz {K : PySem.W.Frag} {H : Hp} {A : Cells} (hS : Sat H A) : ∀ {kz : List (Addr × List Int)}, (∀ c ∈ kcells kz, c ∈ A) → Paired (fun p z => SqT K H p (z.map V.int)) (kz.map (·.1)) (kz.map (·.2))
  | [], _ => .nil
  | q :: kz, h => .cons (sqt_of (hS.get (h (q.1, _) List.mem_cons_self))) (paired_kz hS fun c hc => h c (List.mem_cons_of_mem _ hc))
theorem rd_ints2 (a b : Int) : ([V.int a, V.int b] : List V) = ([a, b] : List Int).map V.int := rfl
section
variable {P : Program} {w : World} {K : PySem.W.Frag} {mg : Str → Option Value} {base : Heap}
def spKeys : Sp := fun vs H Q _ => ∃ (ra : Addr) (RR : List Rec) (F : Cells), vs = [.ref ra] ∧ Sat H (rowsCells ra RR ++ F) ∧ RR.length ≤ 100 ∧
  ∀ (p : Addr) (kz : List (Addr × List Int)) (H' : Hp), kz.map (·.2) = keysOf RR → Sat H' ((p, .lst ((kz.map (·.1)).map V.ref)) :: (kcells kz ++ (rowsCells ra RR ++ F))) → Q (.ref p) H'
theorem ok__law_keys (S : Sy K mg) : Cb P w K mg base CX0 1 (a__law_keys K) ["_law_rows"] spKeys := by
  obtain ⟨fd, F⟩ := S.fd__law_keys
  refine ⟨⟨fd, F.ok sc__law_keys (fun vs H Q E h => ?_) (fun cdv A outer s_ H vs Q E hr h => ?_), F.bindsN fun _ _ _ _ _ _ us hl => match us, hl with | [_], _ => rfl⟩, F.kp⟩
  · obtain ⟨ra, RR, F, rfl, _⟩ := h
    rfl
  · obtain ⟨ra, RR, F, rfl, hS, hl, q⟩ := h
    refine ⟨_, PSs.nox (pss_cons (ps_set (i := 1) sc__law_keys.nd rfl (Or.inl rfl) (pe_lst (pa_nil)))
 (pss_cons (ps_for PassesOwn.never rfl (pi_list (pv 0)) (pg_name (i := 2) sc__law_keys.nd rfl (Or.inl rfl))
 (pss_one (ps_if (pt_cmpR (op_notInD (units65 hr)) (pe_tup (pa_cons (pe_ix ix_tup (pv 2) (pe_int) (fun _ _ => rfl)) (pa_cons (pe_ix ix_tup (pv 2) (pe_int) (fun _ _ => rfl)) pa_nil))) (pv 1) (by rfl))
 (pss_one (ps_expr (pe_bm PySem.F.plainAttrs_list PySem.F.slot_list_append PySem.F.type_list_append mt_append (pv 1) (pa_cons (pe_tup (pa_cons (pe_ix ix_tup (pv 2) (pe_int) (fun _ _ => rfl)) (pa_cons (pe_ix ix_tup (pv 2) (pe_int) (fun _ _ => rfl)) pa_nil))) pa_nil))))
 (pss_nil))))
 (pss_one (ps_ret (pv 1))))), ?_⟩
    walk_at "go"
    rename_i p _
    refine for_list (K := K) (a := ra) (xs := RR.map fun r => .ref r.tp) (fun i σ H' => Bx (∃ (kz : List (Addr × List Int)) (v : Option V), σ = [some (.ref ra), some (.ref p), v] ∧ kz.map (·.2) = keysOf (RR.take i) ∧ kz.length ≤ i ∧
      Sat H' ((p, .lst ((kz.map (·.1)).map V.ref)) :: (kcells kz ++ (rowsCells ra RR ++ F))))) ?_ ?_ ?_ ?_
    · exact ⟨⟨[], _, rfl, rfl, Nat.le_refl _, by walk_at "sat"⟩⟩
    · rintro i σ H' _ ⟨⟨kz, v, _, _, _, hS⟩⟩
      exact sql_of (by walk_at "heap")
    · clear hS
      rintro i x σ H' hi ⟨⟨kz, v, rfl, hk, hn, hS⟩⟩
      obtain ⟨r, hr, rfl⟩ : ∃ r, RR[i]? = some r ∧ V.ref r.tp = x := by simpa using hi
      have hm := List.mem_of_getElem? hr
      have hm1 := (rec_mem hm).1
      have hil : i < RR.length := (List.getElem?_eq_some_iff.mp hr).1
      have eT := take_snoc hr
      rw [eT, keys_snoc]
      walk_at "go"
      rename_i t _
      have hS2 := Sat.new (o := .tup [.int r.h, .int r.s]) hS ‹H' t = none›
      refine ⟨.tuple (([r.h, r.s] : List Int).map .int), tupsD (kz.map (·.2)), dp_intsT (xs := [r.h, r.s]) (sqt_of (by walk_at "heap")), .lst (sql_of (by walk_at "heap")) (dpAll_tups (paired_kz hS2 fun c hc => by walk_at "mem")), shaped_intsT _, shaped_tups _, ?_⟩
      rw [any_tups, hk]
      unfold addKey
      by_cases c : [r.h, r.s] ∈ keysOf (RR.take i)
      · rw [decide_eq_true c]
        rw [if_pos c]
        walk_at "go"
        exact ⟨⟨kz, _, rfl, hk, by omega, by walk_at "less"⟩⟩
      · rw [decide_eq_false c]
        rw [if_neg c]
        clear hS2
        walk_at "go"
        rename_i t2 _
        refine ⟨⟨kz ++ [(t2, [r.h, r.s])], _, rfl, by simp [hk], by simp; omega, ?_⟩⟩
        refine Sat.perm (Sat.sub (by walk_at "sat") (List.Sublist.cons₂ _ (List.Sublist.cons _ (List.Sublist.refl _)))) ?_
        simp only [kcells, List.map_append, List.map_cons, List.map_nil]
        walk_at "perm"
    · clear hS
      rintro σ H' ⟨⟨kz, v, rfl, hk, hn, hS⟩⟩
      rw [List.length_map, List.take_length] at hk
      walk_at "go"
      exact q _ _ _ hk hS
theorem row_mem {L : Led} {C : Addr} {r : Row} (h : r ∈ L.rows) : (r.k, HO.tup [.int r.h, .int r.s]) ∈ L.cells C := by
  unfold Led.cells
  refine .tail _ (.tail _ (.tail _ (.tail _ (.tail _ (List.mem_flatMap.mpr ⟨r, h, by simp [Row.cells]⟩)))))
theorem paired_rows {K : PySem.W.Frag} {H : Hp} {A : Cells} (hS : Sat H A) : ∀ {rs : List Row}, (∀ r ∈ rs, (r.k, HO.tup [.int r.h, .int r.s]) ∈ A) → Paired (fun p z => SqT K H p (z.map V.int)) (rs.map (·.k)) (rs.map fun r => [r.h, r.s])
  | [], _ => .nil
  | q :: rs, h => .cons (sqt_of (hS.get (h q List.mem_cons_self))) (paired_rows hS fun c hc => h c (List.mem_cons_of_mem _ hc))
def spSame (C : Addr) : Sp := fun vs H Q _ => ∃ (L : Led) (F : Cells) (ra : Addr) (RR : List Rec), vs = [.ref L.p, .ref ra] ∧ Sat H (L.cells C ++ (rowsCells ra RR ++ F)) ∧
  Agree L.rows RR ∧ RR.length ≤ 100 ∧ L.rows.length ≤ 500 ∧ ∀ H', Sat H' (L.cells C ++ (rowsCells ra RR ++ F)) → Q (.bl true) H'
theorem ok__law_same_keys (S : Sy K mg) : Cb P w K mg base CX0 3 (a__law_same_keys K) ["_law_ledger", "_law_rows"] (spSame (He.ga K "Ledger")) := by
  obtain ⟨fd, F⟩ := S.fd__law_same_keys
  refine ⟨⟨fd, F.ok sc__law_same_keys (fun vs H Q E h => ?_) (fun cdv A outer s_ H vs Q E hr h => ?_), F.bindsN fun _ _ _ _ _ _ us hl => match us, hl with | [_, _], _ => rfl⟩, F.kp⟩
  · obtain ⟨L, F, ra, RR, rfl, _⟩ := h
    rfl
  · obtain ⟨L, F, ra, RR, rfl, hS, hA, hl, hl2, q⟩ := h
    refine ⟨_, PSs.nox (pss_cons (ps_setLc (i := 2) (own := [("_law_key", 3)]) (g := gName 3) (tt := tYes) rfl sc__law_same_keys.nd rfl rfl (sw_true rfl rfl rfl (by decide +kernel)) (pi_own (pv 0) S.mt_Ledger___iter__ (ok_Ledger___iter__ (K := K) S) (hr.mono (by decide))) (blkOk_by (N := ["_law_ledger", "_law_rows", "_law_told", "_law_key"]) (sc := defScope st__law_same_keys) (by decide +kernel)) (fun _ _ _ _ _ => pg_name (i := 3) sc__law_same_keys.nd rfl (Or.inl rfl)) (fun _ _ _ _ _ => pts_nil) (fun _ _ _ _ _ => pv 3))
 (pss_cons (ps_for PassesOwn.never rfl (pi_list (pv 2)) (pg_name (i := 3) sc__law_same_keys.nd rfl (Or.inl rfl))
 (pss_one (ps_if (pt_not (pt_val (pe_callB call_isi (by rfl) S.fr_isinstance (by decide +kernel) (pa_cons (pv 3) (pa_cons (pe_bltn (v := .ty "tuple") (by rfl) S.fr_tuple (by decide +kernel) rfl) pa_nil)))))
 (pss_one (ps_ret (pe_bl)))
 (pss_nil))))
 (pss_one (ps_ret (pe_cmpR (op_eqD hr.units) (pv 2) (pe_callC (ok__law_keys (K := K) S) (hr.mono (by decide)) rfl S.mg__law_keys pass0 (pa_cons (pv 1) pa_nil)) (nomark _)))))), ?_⟩
    have hS2 := hS
    simp only [Led.cells, List.cons_append] at hS2
    refine ⟨_, rfl, L.p, L.dx, _, L.o, rfl, by walk_at "heap", ⟨L.dx, _, _, _, _, by walk_at "heap", sql_of (by walk_at "heap")⟩, fun D hD => ?_⟩
    clear hS2
    refine lc_list (K := K) (a := L.o) (xs := L.rows.map fun r => .ref r.k) (fun i H' => Bx (Sat H' ((D, .lst ((L.rows.take i).map fun r => .ref r.k)) :: (L.cells (He.ga K "Ledger") ++ (rowsCells ra RR ++ F))))) ⟨by walk_at "sat"⟩ ?_ ?_ ?_
    · rintro i H' _ ⟨hS⟩
      simp only [Led.cells, List.cons_append] at hS
      exact sql_of (by walk_at "heap")
    · clear hS
      rintro i x H' hi ⟨hS⟩
      obtain ⟨r, hr, rfl⟩ : ∃ r, L.rows[i]? = some r ∧ V.ref r.k = x := by simpa using hi
      have hlt : (L.rows.take i).length ≤ L.rows.length := by rw [List.length_take]; omega
      walk_at "go"
      refine ⟨?_⟩
      rw [take_snoc hr, List.map_append, List.map_cons, List.map_nil]
      walk_at "sat"
    · clear hS
      rintro H' ⟨hS⟩
      rw [List.length_map, List.take_length] at hS
      walk_at "go"
      refine for_list (K := K) (a := D) (xs := L.rows.map fun r => .ref r.k) (fun i σ H2 => Bx (H2 = H' ∧ ∃ v, σ = [some (.ref L.p), some (.ref ra), some (.ref D), v])) ⟨rfl, _, rfl⟩ (fun i σ H2 _ ⟨⟨e, _⟩⟩ => by subst e; exact sql_of (by walk_at "heap")) ?_ ?_
      · rintro i x σ H2 hi ⟨⟨rfl, v, rfl⟩⟩
        obtain ⟨r, hr, rfl⟩ : ∃ r, L.rows[i]? = some r ∧ V.ref r.k = x := by simpa using hi
        have hm := row_mem (C := He.ga K "Ledger") (List.mem_of_getElem? hr)
        walk_at "go"
        exact ⟨rfl, _, rfl⟩
      · rintro σ H2 ⟨⟨rfl, v, rfl⟩⟩
        walk_at "go"
        intro p kz H3 hk hS3
        refine ⟨.list (tupsD (L.rows.map fun r => [r.h, r.s])), .list (tupsD (keysOf RR)), .lst (xs := (L.rows.map (·.k)).map V.ref) (sql_of (by rw [List.map_map]; walk_at "heap")) (dpAll_tups (paired_rows hS3 fun r hr => ?_)), .lst (sql_of (by walk_at "heap")) (hk ▸ dpAll_tups (paired_kz hS3 fun c hc => by walk_at "mem")), shaped_tups _, shaped_tups _, ?_⟩
        · have hm := row_mem (C := He.ga K "Ledger") hr
          walk_at "mem"
        · rw [eqv_tups, hA.k, decide_eq_true rfl]
          exact q _ (by walk_at "less")
end
/-! ### the notes and the ledger go on agreeing -/
theorem find_map (up : Row → Row) (hk : ∀ r, (up r).key = r.key) (h s : Int) : ∀ rs : List Row, (rs.map up).find? (isAt h s) = (rs.find? (isAt h s)).map up
  | [] => rfl
  | r :: rs => by
    have e : isAt h s (up r) = isAt h s r := by unfold isAt; rw [hk]
    rw [List.map_cons, List.find?_cons, List.find?_cons, e]
    cases isAt h s r with
    | true => rfl
    | false => exact find_map up hk h s rs
theorem find_add (h s h' s' : Int) (rs : List Row) (k ta ga : Addr) : (addRow h s rs k ta ga).find? (isAt h' s') = (rs.find? (isAt h' s')).or (if h = h' ∧ s = s' ∧ rs.find? (isAt h s) = none then some ⟨k, h, s, ta, ga, [], [], false⟩ else none) := by
  unfold addRow
  cases e : rs.find? (isAt h s) with
  | some r =>
    rw [if_neg (fun z => by cases z.2.2)]
    simp
  | none =>
    show (rs ++ [_]).find? _ = _
    rw [List.find?_append]
    by_cases c : h = h' ∧ s = s'
    · rw [if_pos ⟨c.1, c.2, rfl⟩, List.find?_cons, show isAt h' s' ⟨k, h, s, ta, ga, [], [], false⟩ = true from isAt_iff.mpr c]
    · rw [if_neg (fun z => c ⟨z.1, z.2.1⟩), List.find?_cons]
      cases q : isAt h' s' ⟨k, h, s, ta, ga, [], [], false⟩ with
      | true => exact absurd (isAt_iff.mp q) c
      | false => rfl
theorem tOf_add (h s : Int) (rs : List Row) (k ta ga : Addr) (h' s' : Int) : tOf (addRow h s rs k ta ga) h' s' = tOf rs h' s' := by
  unfold tOf
  rw [find_add]
  cases rs.find? (isAt h' s') with
  | some r => rfl
  | none => split <;> rfl
theorem gOf_add (h s : Int) (rs : List Row) (k ta ga : Addr) (h' s' : Int) : gOf (addRow h s rs k ta ga) h' s' = gOf rs h' s' := by
  unfold gOf
  rw [find_add]
  cases rs.find? (isAt h' s') with
  | some r => rfl
  | none => split <;> rfl
theorem eOf_add (h s : Int) (rs : List Row) (k ta ga : Addr) (h' s' : Int) : eOf (addRow h s rs k ta ga) h' s' = eOf rs h' s' := by
  unfold eOf
  rw [find_add]
  cases rs.find? (isAt h' s') with
  | some r => rfl
  | none => split <;> rfl
theorem found_is {rs : List Row} {h s : Int} {r : Row} (e : rs.find? (isAt h s) = some r) : r.h = h ∧ r.s = s := isAt_iff.mp (List.find?_some e)
theorem upT_key (h s : Int) (xs : List Int) (r : Row) : (upT h s xs r).key = r.key := by unfold upT; split <;> rfl
theorem upG_key (h s : Int) (xs : List Int) (r : Row) : (upG h s xs r).key = r.key := by unfold upG; split <;> rfl
theorem upE_key (h s : Int) (r : Row) : (upE h s r).key = r.key := by unfold upE; split <;> rfl
/-- what a map over the rows does to a part f of the row of h', s' -/
theorem part_map {α : Type} (f : Row → α) (d : α) (up : Row → Row) (hk : ∀ r, (up r).key = r.key) (rs : List Row) (h' s' : Int) (g : α → α) (hg : ∀ r, r.h = h' → r.s = s' → f (up r) = g (f r)) (hd : rs.find? (isAt h' s') = none → g d = d) :
    (((rs.map up).find? (isAt h' s')).map f).getD d = g (((rs.find? (isAt h' s')).map f).getD d) := by
  rw [find_map up hk]
  cases e : rs.find? (isAt h' s') with
  | some r =>
    have q := found_is e
    exact hg r q.1 q.2
  | none => exact (hd e).symm
theorem isAt_no {h s : Int} {r : Row} (h' s' : Int) (e1 : r.h = h') (e2 : r.s = s') (n : ¬ (h = h' ∧ s = s')) : isAt h s r = false := by
  cases q : isAt h s r with
  | false => rfl
  | true =>
    have := isAt_iff.mp q
    exact absurd ⟨this.1.symm.trans e1, this.2.symm.trans e2⟩ n
theorem isAt_yes {h s : Int} {r : Row} (e1 : r.h = h) (e2 : r.s = s) : isAt h s r = true := isAt_iff.mpr ⟨e1, e2⟩
theorem uniq_map {up : Row → Row} (hk : ∀ r, (up r).key = r.key) {rs : List Row} (u : Uniq rs) : Uniq (rs.map up) := by
  unfold Uniq at *
  rw [List.map_map]
  have : (Row.key ∘ up) = Row.key := funext hk
  rw [this]
  exact u
theorem key_pair {r : Row} : r.key = [Sum.inl r.h, Sum.inl r.s] := rfl
theorem keys_map {up : Row → Row} (hk : ∀ r, (up r).key = r.key) (rs : List Row) : (rs.map up).map (fun r => [r.h, r.s]) = rs.map fun r => [r.h, r.s] := by
  rw [List.map_map]
  refine List.map_congr_left fun r _ => ?_
  have e := hk r
  simp only [Row.key, List.cons.injEq, Sum.inl.injEq, and_true] at e
  show [(up r).h, (up r).s] = _
  rw [e.1, e.2]
theorem mem_keys {rs : List Row} {h s : Int} : [h, s] ∈ rs.map (fun r => [r.h, r.s]) ↔ rs.find? (isAt h s) ≠ none := by
  constructor
  · intro m
    obtain ⟨r, hr, e⟩ := List.mem_map.mp m
    simp only [List.cons.injEq, and_true] at e
    intro n
    exact List.find?_eq_none.mp n r hr (isAt_yes e.1 e.2)
  · intro n
    cases e : rs.find? (isAt h s) with
    | none => exact absurd e n
    | some r =>
      have q := found_is e
      exact List.mem_map.mpr ⟨r, List.mem_of_find?_eq_some e, by rw [q.1, q.2]⟩
theorem keys_add (h s : Int) (rs : List Row) (k ta ga : Addr) : (addRow h s rs k ta ga).map (fun r => [r.h, r.s]) = if [h, s] ∈ rs.map (fun r => [r.h, r.s]) then rs.map (fun r => [r.h, r.s]) else rs.map (fun r => [r.h, r.s]) ++ [[h, s]] := by
  unfold addRow
  cases e : rs.find? (isAt h s) with
  | some r => rw [if_pos (mem_keys.mpr (by rw [e]; simp))]
  | none =>
    rw [if_neg (fun z => mem_keys.mp z e), List.map_append]
    rfl
theorem Agree.next {rs : List Row} {RR : List Rec} (A : Agree rs RR) {r : Rec} {up : Row → Row} (k ta ga : Addr) (hk : ∀ r, (up r).key = r.key)
    (ht : ∀ (x : Row) h' s', x.h = h' → x.s = s' → (up x).t = x.t ++ wrOne h' s' r) (hg : ∀ (x : Row) h' s', x.h = h' → x.s = s' → (up x).g = x.g ++ gvOne h' s' r) (he : ∀ (x : Row) h' s', x.h = h' → x.s = s' → (up x).e = (x.e || enOne h' s' r)) :
    Agree ((addRow r.h r.s rs k ta ga).map up) (RR ++ [r]) := by
  have none_ne : ∀ h' s', (addRow r.h r.s rs k ta ga).find? (isAt h' s') = none → ¬ (r.h = h' ∧ r.s = s') := fun h' s' n c => by
    obtain ⟨x, hx⟩ := addRow_found r.h r.s rs k ta ga
    rw [c.1, c.2] at hx
    rw [c.1, c.2] at n
    rw [n] at hx
    cases hx
  refine ⟨uniq_map hk (uniq_add A.u _ _ _), fun h' s' => ?_, fun h' s' => ?_, fun h' s' => ?_, ?_⟩
  · rw [wr_snoc, ← A.t, ← tOf_add r.h r.s rs k ta ga]
    exact part_map Row.t [] up hk _ h' s' (· ++ wrOne h' s' r) (fun x e1 e2 => ht x h' s' e1 e2) fun n => by
      have := none_ne h' s' n
      have e : wrOne h' s' r = [] := if_neg (fun z => this ⟨z.1, z.2.1⟩)
      rw [e]
      rfl
  · rw [gv_snoc, ← A.g, ← gOf_add r.h r.s rs k ta ga]
    exact part_map Row.g [] up hk _ h' s' (· ++ gvOne h' s' r) (fun x e1 e2 => hg x h' s' e1 e2) fun n => by
      have := none_ne h' s' n
      have e : gvOne h' s' r = [] := if_neg (fun z => this ⟨z.1, z.2.1⟩)
      rw [e]
      rfl
  · rw [en_snoc, ← A.e, ← eOf_add r.h r.s rs k ta ga]
    exact part_map Row.e false up hk _ h' s' (· || enOne h' s' r) (fun x e1 e2 => he x h' s' e1 e2) fun n => by
      have := none_ne h' s' n
      have e : enOne h' s' r = false := decide_eq_false (fun z => this ⟨z.1, z.2.1⟩)
      rw [e]
      rfl
  · rw [keys_map hk, keys_add, A.k, keys_snoc]
    rfl
theorem Agree.write {rs : List Row} {RR : List Rec} (A : Agree rs RR) (tp oa : Addr) (h s : Int) (xs : List Int) (k ta ga : Addr) : Agree ((addRow h s rs k ta ga).map (upT h s xs)) (RR ++ [⟨tp, h, s, 0, oa, xs⟩]) := by
  refine A.next (r := ⟨tp, h, s, 0, oa, xs⟩) k ta ga (upT_key h s xs) (fun x h' s' e1 e2 => ?_) (fun x h' s' e1 e2 => ?_) (fun x h' s' e1 e2 => ?_)
  · by_cases c : h = h' ∧ s = s'
    · unfold upT wrOne
      rw [isAt_yes (e1.trans c.1.symm) (e2.trans c.2.symm), if_pos rfl, if_pos ⟨c.1, c.2, rfl⟩]
    · have e : wrOne h' s' ⟨tp, h, s, 0, oa, xs⟩ = [] := if_neg (fun z => c ⟨z.1, z.2.1⟩)
      rw [e, List.append_nil]
      unfold upT
      rw [isAt_no h' s' e1 e2 c]
      rfl
  · have e : gvOne h' s' ⟨tp, h, s, 0, oa, xs⟩ = [] := if_neg (fun z => absurd z.2.2 (by show ¬ ((0 : Int) = 1); decide))
    rw [e, List.append_nil]
    unfold upT
    split <;> rfl
  · have e : enOne h' s' ⟨tp, h, s, 0, oa, xs⟩ = false := decide_eq_false (fun z => z.2.2.1 rfl)
    rw [e, Bool.or_false]
    unfold upT
    split <;> rfl
theorem Agree.read {rs : List Row} {RR : List Rec} (A : Agree rs RR) (tp oa : Addr) (h s : Int) (xs : List Int) (k ta ga : Addr) : Agree ((addRow h s rs k ta ga).map (upG h s xs)) (RR ++ [⟨tp, h, s, 1, oa, xs⟩]) := by
  refine A.next (r := ⟨tp, h, s, 1, oa, xs⟩) k ta ga (upG_key h s xs) (fun x h' s' e1 e2 => ?_) (fun x h' s' e1 e2 => ?_) (fun x h' s' e1 e2 => ?_)
  · have e : wrOne h' s' ⟨tp, h, s, 1, oa, xs⟩ = [] := if_neg (fun z => absurd z.2.2 (by show ¬ ((1 : Int) = 0); decide))
    rw [e, List.append_nil]
    unfold upG
    split <;> rfl
  · by_cases c : h = h' ∧ s = s'
    · unfold upG gvOne
      rw [isAt_yes (e1.trans c.1.symm) (e2.trans c.2.symm), if_pos rfl, if_pos ⟨c.1, c.2, rfl⟩]
    · have e : gvOne h' s' ⟨tp, h, s, 1, oa, xs⟩ = [] := if_neg (fun z => c ⟨z.1, z.2.1⟩)
      rw [e, List.append_nil]
      unfold upG
      rw [isAt_no h' s' e1 e2 c]
      rfl
  · have e : enOne h' s' ⟨tp, h, s, 1, oa, xs⟩ = false := decide_eq_false (fun z => z.2.2.2 rfl)
    rw [e, Bool.or_false]
    unfold upG
    split <;> rfl
theorem Agree.fin {rs : List Row} {RR : List Rec} (A : Agree rs RR) (tp oa : Addr) (h s q : Int) (xs : List Int) (k ta ga : Addr) (h0 : q ≠ 0) (h1 : q ≠ 1) : Agree ((addRow h s rs k ta ga).map (upE h s)) (RR ++ [⟨tp, h, s, q, oa, xs⟩]) := by
  refine A.next (r := ⟨tp, h, s, q, oa, xs⟩) k ta ga (upE_key h s) (fun x h' s' e1 e2 => ?_) (fun x h' s' e1 e2 => ?_) (fun x h' s' e1 e2 => ?_)
  · have e : wrOne h' s' ⟨tp, h, s, q, oa, xs⟩ = [] := if_neg (fun z => h0 z.2.2)
    rw [e, List.append_nil]
    unfold upE
    split <;> rfl
  · have e : gvOne h' s' ⟨tp, h, s, q, oa, xs⟩ = [] := if_neg (fun z => h1 z.2.2)
    rw [e, List.append_nil]
    unfold upE
    split <;> rfl
  · unfold upE enOne
    by_cases c : h = h' ∧ s = s'
    · rw [isAt_yes (e1.trans c.1.symm) (e2.trans c.2.symm), if_pos rfl, decide_eq_true (⟨c.1, c.2, h0, h1⟩ : h = h' ∧ s = s' ∧ q ≠ 0 ∧ q ≠ 1), Bool.or_true]
    · rw [isAt_no h' s' e1 e2 c, decide_eq_false (fun z : h = h' ∧ s = s' ∧ q ≠ 0 ∧ q ≠ 1 => c ⟨z.1, z.2.1⟩), Bool.or_false]
      rfl
theorem Agree.nil : Agree [] [] := ⟨List.nodup_nil, fun _ _ => rfl, fun _ _ => rfl, fun _ _ => rfl, rfl⟩
/-! ### the law -/
theorem scr_of {K : PySem.W.Frag} {H : Hp} {a : Addr} {xs : List V} (h : SqL K H a xs) : ∃ A0 : Cells, Sat H A0 ∧ ∀ H', Sat H' A0 → SqL K H' a xs := by
  rcases h with (h | ⟨o, h⟩) | h
  · exact ⟨[(a, .lst xs)], ⟨by simp, by simpa using h⟩, fun H' s => .inl (.inl (s.get (by simp)))⟩
  · exact ⟨[(a, .frz o (.lst xs))], ⟨by simp, by simpa using h⟩, fun H' s => .inl (.inr ⟨o, s.get (by simp)⟩)⟩
  · exact ⟨[], Sat.nil, fun _ _ => .inr h⟩
theorem rows_small {rs : List Row} {RR : List Rec} (A : Agree rs RR) (hx : ∀ r ∈ RR, r.xs.length ≤ 4) (hl : RR.length ≤ 100) : ∀ r ∈ rs, r.t.length ≤ 1000 ∧ r.g.length ≤ 1000 := by
  intro r hr
  have hf : rs.find? (isAt r.h r.s) ≠ none := fun n => List.find?_eq_none.mp n r hr (isAt_yes rfl rfl)
  cases e : rs.find? (isAt r.h r.s) with
  | none => exact absurd e hf
  | some x =>
    obtain ⟨a, b, rfl, h1, h2, h3⟩ := parts A.u e
    have hxr : x = r := by
      rcases List.mem_append.mp hr with hr | hr
      · exact absurd (isAt_yes rfl rfl) (by rw [h2 r hr]; simp)
      · rcases List.mem_cons.mp hr with hr | hr
        · exact hr.symm
        · exact absurd (isAt_yes rfl rfl) (by rw [h3 r hr]; simp)
    subst hxr
    have t1 := A.t x.h x.s
    have g1 := A.g x.h x.s
    unfold tOf at t1
    unfold gOf at g1
    rw [e] at t1 g1
    have a1 := wr_len hx hl x.h x.s RR.length
    have a2 := gv_len hx hl x.h x.s RR.length
    rw [List.take_length] at a1 a2
    have t2 : x.t = wrOf RR x.h x.s := t1
    have g2 : x.g = gvOf RR x.h x.s := g1
    rw [t2, g2]
    omega
section
variable {P : Program} {w : World} {K : PySem.W.Frag} {mg : Str → Option Value} {base : Heap}
def spLaw (K : PySem.W.Frag) : Sp := fun vs H Q _ => ∃ (a : Addr) (ns : List Int), vs = [.ref a] ∧ SqL K H a (ns.map V.int) ∧ ns.length ≤ 63 ∧ ∀ H', Q (.bl true) H'
theorem ok_law (S : Sy K mg) {fd : FuncData} (F : FunD K "law" "law" (defArgs st_law) (defBody st_law) (defScope st_law) [] [] (a_law K) fd) : FnOk P w K mg base CX0 4 (a_law K) fd ["_law_script"] (spLaw K) := by
  refine F.ok sc_law (fun vs H Q E h => ?_) (fun cdv A outer s_ H vs Q E hr h => ?_)
  · obtain ⟨a, ns, rfl, _⟩ := h
    rfl
  · obtain ⟨a, ns, rfl, hS0, hlen, q⟩ := h
    obtain ⟨A0, hA, hscr⟩ := scr_of hS0
    refine ⟨_, PSs.nox (pss_cons (ps_set (i := 1) sc_law.nd rfl (Or.inl rfl) (pe_callTy call_int1 (by rfl) S.fr_int (by decide +kernel) (pa_cons (pe_callC (ok__law_cell (K := K) S) (hr.mono (by decide)) rfl S.mg__law_cell pass0 (pa_cons (pv 0) (pa_cons (pe_int) pa_nil))) pa_nil)))
 (pss_cons (ps_set (i := 2) sc_law.nd rfl (Or.inl rfl) (pe_int))
 (Evl.pss_cut (ps_if (pt_cmpR op_eq (pe_op op_mod (pe_callTy call_int1 (by rfl) S.fr_int (by decide +kernel) (pa_cons (pv 1) pa_nil)) (pe_int)) (pe_int) (nomark _))
 (pss_one (ps_set (i := 2) sc_law.nd rfl (Or.inl rfl) (pe_op op_add (pe_int) (pe_op op_mod (pe_callTy call_int1 (by rfl) S.fr_int (by decide +kernel) (pa_cons (pe_op op_fdivW (pv 1) (pe_int)) pa_nil)) (pe_int)))))
 (pss_nil))
 (pss_cons (ps_set (i := 3) sc_law.nd rfl (Or.inl rfl) (pe_makeC0 S.mk_Ledger (ok_Ledger___init__ (K := K) S) (hr.mono (by decide)) rfl S.mg_Ledger pass0))
 (pss_cons (ps_set (i := 4) sc_law.nd rfl (Or.inl rfl) (pe_lst (pa_nil)))
 (pss_cons (ps_for PassesOwn.never rfl (pi_range1 rfl S.fr_range (pa_cons (pe_callB (call_min2 rfl) (by rfl) S.fr_min (by decide +kernel) (pa_cons (pe_int) (pa_cons (pe_callB (call_max2 rfl) (by rfl) S.fr_max (by decide +kernel) (pa_cons (pe_int) (pa_cons (pe_op op_sub (pe_callB call_len (by rfl) S.fr_len (by decide +kernel) (pa_cons (pv 0) pa_nil)) (pe_int)) pa_nil))) pa_nil))) (pa_nil))) (pg_name (i := 5) sc_law.nd rfl (Or.inl rfl))
 (pss_cons (ps_set (i := 7) sc_law.nd rfl (Or.inr rfl) (pe_callC (ok__law_start (K := K) S) (hr.mono (by decide)) rfl S.mg__law_start pass0 (pa_cons (pe_callC (ok__law_cell (K := K) S) (hr.mono (by decide)) rfl S.mg__law_cell pass0 (pa_cons (pv 0) (pa_cons (pe_op op_add (pe_int) (pv 5)) pa_nil))) (pa_cons (pv 5) pa_nil))))
 (pss_cons (ps_set (i := 8) sc_law.nd rfl (Or.inl rfl) (pe_callC (ok__law_digit (K := K) S) (hr.mono (by decide)) rfl S.mg__law_digit pass0 (pa_cons (pv 7) (pa_cons (pe_int) pa_nil))))
 (pss_cons (ps_set (i := 9) sc_law.nd rfl (Or.inl rfl) (pe_op op_add (pe_int) (pe_callC (ok__law_digit (K := K) S) (hr.mono (by decide)) rfl S.mg__law_digit pass0 (pa_cons (pv 7) (pa_cons (pv 2) pa_nil)))))
 (pss_cons (ps_set (i := 10) sc_law.nd rfl (Or.inl rfl) (pe_op op_mod (pe_callTy call_int1 (by rfl) S.fr_int (by decide +kernel) (pa_cons (pe_callC (ok__law_digit (K := K) S) (hr.mono (by decide)) rfl S.mg__law_digit pass0 (pa_cons (pv 7) (pa_cons (pe_int) pa_nil))) pa_nil)) (pe_int)))
 (pss_cons (ps_setLc (i := 11) (own := [("_law_j", 13)]) (g := gName 13) (tt := tYes) rfl sc_law.nd rfl rfl (sw_true rfl rfl rfl (by decide +kernel)) (pi_range1 rfl S.fr_range (pa_cons (pe_callC (ok__law_digit (K := K) S) (hr.mono (by decide)) rfl S.mg__law_digit pass0 (pa_cons (pv 7) (pa_cons (pe_int) pa_nil))) (pa_nil))) (blkOk_by (N := ["_law_script", "_law_first", "_law_most", "_law_ledger", "_law_rows", "_law_k", "_law_row", "_law_state", "_law_host", "_law_socket", "_law_kind", "_law_octets_here", "_law_given", "_law_j"]) (sc := defScope st_law) (by decide +kernel)) (fun _ _ _ _ _ => pg_name (i := 13) sc_law.nd rfl (Or.inl rfl)) (fun _ _ _ _ _ => pts_nil) (fun _ _ _ _ _ => pe_callC (ok__law_digit (K := K) S) (hr.mono (by decide)) rfl S.mg__law_digit pass0 (pa_cons (pv 7) (pa_cons (pe_int) pa_nil))))
 (pss_cons (ps_set (i := 12) sc_law.nd rfl (Or.inl rfl) (pe_callTy call_list_of (by rfl) S.fr_list (by decide +kernel) (pa_cons (pv 11) pa_nil)))
 (Evl.pss_cut (ps_if (pt_cmpR op_eq (pv 10) (pe_int) (nomark _))
 (pss_one (ps_expr (pe_methC (pv 3) S.cl_Ledger S.mt_Ledger_note_write (ok_Ledger_note_write (K := K) S) (hr.mono (by decide)) pass0 (pa_cons (pv 8) (pa_cons (pv 9) (pa_cons (pv 12) pa_nil))))))
 (pss_one (ps_if (pt_cmpR op_eq (pv 10) (pe_int) (nomark _))
 (pss_one (ps_expr (pe_methC (pv 3) S.cl_Ledger S.mt_Ledger_note_read (ok_Ledger_note_read (K := K) S) (hr.mono (by decide)) pass0 (pa_cons (pv 8) (pa_cons (pv 9) (pa_cons (pv 12) pa_nil))))))
 (pss_one (ps_expr (pe_methC (pv 3) S.cl_Ledger S.mt_Ledger_note_finish (ok_Ledger_note_finish (K := K) S) (hr.mono (by decide)) pass0 (pa_cons (pv 8) (pa_cons (pv 9) pa_nil))))))))
 (pss_cons (ps_expr (pe_bm PySem.F.plainAttrs_list PySem.F.slot_list_append PySem.F.type_list_append mt_append (pv 12) (pa_cons (pe_int) pa_nil)))
 (pss_cons (ps_expr (pe_bm PySem.F.plainAttrs_list PySem.F.slot_list_append PySem.F.type_list_append mt_append (pv 4) (pa_cons (pe_tup (pa_cons (pv 8) (pa_cons (pv 9) (pa_cons (pv 10) (pa_cons (pv 11) pa_nil))))) pa_nil)))
 (pss_cons (ps_if (PW.pt (pw_or (pt_not (pt_val (pe_callC (ok__law_holds (K := K) S) (hr.mono (by decide)) rfl S.mg__law_holds pass0 (pa_cons (pv 3) (pa_cons (pv 8) (pa_cons (pv 9) (pa_cons (pv 4) pa_nil))))))) (pw_or1 (pt_not (pt_val (pe_callC (ok__law_same_keys (K := K) S) (hr.mono (by decide)) rfl S.mg__law_same_keys pass0 (pa_cons (pv 3) (pa_cons (pv 4) pa_nil))))))))
 (pss_one (ps_ret (pe_bl)))
 (pss_nil))
 (pss_one (ps_if (PW.pt (pw_or (pt_not (pt_val (pe_callC (ok__law_holds (K := K) S) (hr.mono (by decide)) rfl S.mg__law_holds pass0 (pa_cons (pv 3) (pa_cons (pe_op op_sub (pe_int) (pv 8)) (pa_cons (pv 9) (pa_cons (pv 4) pa_nil))))))) (pw_or1 (pt_not (pt_val (pe_callC (ok__law_same_keys (K := K) S) (hr.mono (by decide)) rfl S.mg__law_same_keys pass0 (pa_cons (pv 3) (pa_cons (pv 4) pa_nil))))))))
 (pss_one (ps_ret (pe_bl)))
 (pss_nil))))))))))))))
 (pss_cons (ps_for PassesOwn.never rfl (pi_list (pv 4)) (pg_name (i := 6) sc_law.nd rfl (Or.inl rfl))
 (pss_one (ps_if (pt_not (pt_val (pe_callC (ok__law_holds (K := K) S) (hr.mono (by decide)) rfl S.mg__law_holds pass0 (pa_cons (pv 3) (pa_cons (pe_ix ix_tup (pv 6) (pe_int) (fun _ _ => rfl)) (pa_cons (pe_ix ix_tup (pv 6) (pe_int) (fun _ _ => rfl)) (pa_cons (pv 4) pa_nil)))))))
 (pss_one (ps_ret (pe_bl)))
 (pss_nil))))
 (pss_one (ps_ret (pe_bl)))))))))), ?_⟩
    walk_at "go"
    refine ⟨fun σ' H' => Bx (∃ m : Int, 0 < m ∧ m < 2 ^ 64 ∧ H' = H ∧ σ' = [some (.ref a), some (.int (cellOf ns 0)), some (.int m), none, none, none, none, none, none, none, none, none, none, none]), ?_, ?_⟩
    · walk_at "go"
      refine ite2 (fun c => ?_) (fun c => ?_)
      · walk_at "go"
        exact ⟨⟨_, by omega, by omega, rfl, rfl⟩⟩
      · exact ⟨⟨4, by decide, by decide, rfl, rfl⟩⟩
    · rintro σ' H' ⟨⟨m, hm0, hm1, rfl, rfl⟩⟩
      walk_at "go"
      intro L0 H1 hp hr0 hS1
      subst hp
      walk_at "go"
      rename_i ra _
      refine for_range (lo := 0) (fun i σ H' => Bx (∃ (L : Led) (RR : List Rec) (v5 v6 v7 v8 v9 v10 v11 v12 v13 : Option V), σ = [some (.ref a), some (.int (cellOf ns 0)), some (.int m), some (.ref L.p), some (.ref ra), v5, v6, v7, v8, v9, v10, v11, v12, v13] ∧
        Agree L.rows RR ∧ RR.length ≤ i ∧ (∀ r ∈ RR, r.xs.length ≤ 4) ∧ L.rows.length ≤ i ∧ Sat H' (L.cells (He.ga K "Ledger") ++ (rowsCells ra RR ++ A0)))) ?_ ?_ ?_
      · refine ⟨⟨L0, [], _, _, _, _, _, _, _, _, _, rfl, by rw [hr0]; exact Agree.nil, Nat.le_refl _, fun r hr => (nomatch hr), by rw [hr0]; exact Nat.le_refl _, ?_⟩⟩
        simp only [rowsCells, List.map_nil, List.flatMap_nil, List.cons_append, List.nil_append]
        walk_at "less"
      · clear hS1 hA hS0
        rintro i σ H' hi ⟨⟨L, RR, v5, v6, v7, v8, v9, v10, v11, v12, v13, rfl, hA, hR, hX, hrs, hS⟩⟩
        have hi62 : i < 62 := by omega
        walk_at "go"
        intro st H2 hS2
        clear hS
        generalize startOf (cellOf ns (1 + (0 + (i : Int)))) (0 + (i : Int)) = z at hS2
        walk_at "go"
        intro H3 hS3
        clear hS2
        generalize z % 8 = h
        generalize z / 8 = z at hS3
        walk_at "go"
        intro H4 hS4
        clear hS3
        generalize z % m = s
        generalize z / m = z at hS4
        walk_at "go"
        intro H5 hS5
        clear hS4
        generalize z % 5 = q5
        generalize z / 5 = z at hS5
        walk_at "go"
        intro H6 hS6
        clear hS5
        have hn5 : (z % 5).toNat ≤ 4 := by omega
        generalize hz5 : z % 5 = n5 at hn5
        have hn5' : 0 ≤ n5 ∧ n5 < 5 := by omega
        clear hz5
        generalize z / 5 = z at hS6
        walk_at "go"
        rename_i D hD
        refine lc_range (lo := 0) (fun j H' => Bx (∃ (xs : List Int) (z : Int), xs.length = j ∧ Sat H' ((D, .lst (xs.map V.int)) :: (st, .lst [.int z]) :: (L.cells (He.ga K "Ledger") ++ (rowsCells ra RR ++ A0))))) ⟨[], z, rfl, by walk_at "sat"⟩ ?_ ?_
        · clear hS6
          rintro j H' hj ⟨⟨xs, z, hx, hS⟩⟩
          walk_at "go"
          intro H7 hS7
          clear hS
          walk_at "go"
          refine ⟨⟨xs ++ [z % 256], z / 256, by simp [hx], ?_⟩⟩
          rw [List.map_append, List.map_cons, List.map_nil]
          walk_at "sat"
        · clear hS6
          rintro H' ⟨⟨xs, z, hx, hS⟩⟩
          walk_at "go"
          rename_i gv _
          have hz := rows_small hA hX (by omega)
          refine ⟨fun σ' H' => Bx (∃ (L' : Led), (∀ tp oa, Agree L'.rows (RR ++ [⟨tp, h, 1 + s, q5 % 3, oa, xs⟩])) ∧ L'.rows.length ≤ L.rows.length + 1 ∧
            σ' = [some (.ref a), some (.int (cellOf ns 0)), some (.int m), some (.ref L'.p), some (.ref ra), some (.int (0 + (i : Int))), v6, some (.ref st), some (.int h), some (.int (1 + s)), some (.int (q5 % 3)), some (.ref D), some (.ref gv), v13] ∧
            Sat H' (L'.cells (He.ga K "Ledger") ++ ((gv, .lst (xs.map V.int)) :: (D, .lst (xs.map V.int)) :: (st, .lst [.int z]) :: (rowsCells ra RR ++ A0)))), ?_, ?_⟩
          · have hu := hA.u
            walk_at "go"
            refine ite2 (fun c => ?_) (fun c => ?_)
            · rw [decI, decide_eq_true_eq] at c
              walk_at "go"
              intro k ta ga H2 hS2
              refine ⟨⟨({ L with rows := (addRow h (1 + s) L.rows k ta ga).map (upT h (1 + s) xs) } : Led), fun tp oa => by rw [c]; exact hA.write tp oa h (1 + s) xs k ta ga, ?_, rfl, by walk_at "less"⟩⟩
              have := addRow_len h (1 + s) L.rows k ta ga
              simpa using this
            · rw [decI, decide_eq_true_eq] at c
              walk_at "go"
              refine ite2 (fun c2 => ?_) (fun c2 => ?_)
              · rw [decI, decide_eq_true_eq] at c2
                walk_at "go"
                intro k ta ga H2 hS2
                refine ⟨⟨({ L with rows := (addRow h (1 + s) L.rows k ta ga).map (upG h (1 + s) xs) } : Led), fun tp oa => by rw [c2]; exact hA.read tp oa h (1 + s) xs k ta ga, ?_, rfl, by walk_at "less"⟩⟩
                have := addRow_len h (1 + s) L.rows k ta ga
                simpa using this
              · rw [decI, decide_eq_true_eq] at c2
                walk_at "go"
                intro k ta ga H2 hS2
                refine ⟨⟨({ L with rows := (addRow h (1 + s) L.rows k ta ga).map (upE h (1 + s)) } : Led), fun tp oa => hA.fin tp oa h (1 + s) _ xs k ta ga c c2, ?_, rfl, by walk_at "less"⟩⟩
                have := addRow_len h (1 + s) L.rows k ta ga
                simpa using this
          · clear hS
            rintro σ' H' ⟨⟨L', hA', hl', rfl, hS⟩⟩
            simp only [rowsCells, List.cons_append] at hS
            walk_at "go"
            rename_i tp _
            refine ⟨Sat.perm (B := L'.cells (He.ga K "Ledger") ++ (rowsCells ra (RR ++ [⟨tp, h, 1 + s, q5 % 3, D, xs⟩]) ++ ((gv, .lst (xs.map V.int ++ [.int 9])) :: (st, .lst [.int z]) :: A0))) (by walk_at "sat") ?_, hA' _ _, ?_⟩
            · simp only [rowsCells, List.map_append, List.map_cons, List.map_nil, List.flatMap_append, List.flatMap_cons, List.flatMap_nil, Rec.cells]
              walk_at "perm"
            have hX' : ∀ r ∈ RR ++ [(⟨tp, h, 1 + s, q5 % 3, D, xs⟩ : Rec)], r.xs.length ≤ 4 := by
              intro r hr
              rcases List.mem_append.mp hr with hr | hr
              · exact hX r hr
              · obtain rfl : r = _ := by simpa using hr
                show xs.length ≤ 4
                omega
            have hR' : (RR ++ [(⟨tp, h, 1 + s, q5 % 3, D, xs⟩ : Rec)]).length ≤ i + 1 := by simpa using hR
            have hrs' : L'.rows.length ≤ i + 1 := by omega
            have hA2 := hA' tp D
            clear hA' hS
            generalize RR ++ [(⟨tp, h, 1 + s, q5 % 3, D, xs⟩ : Rec)] = RR' at hA2 hX' hR' ⊢
            refine ⟨by omega, hX', fun H2 hS2 => ?_⟩
            walk_at "go"
            intro H3 hS3
            clear hS2
            walk_at "go"
            intro H4 hS4
            clear hS3
            walk_at "go"
            intro H5 hS5
            clear hS4
            walk_at "go"
            refine ⟨⟨L', RR', _, _, _, _, _, _, _, _, _, rfl, hA2, hR', hX', hrs', by walk_at "less"⟩⟩
      · clear hS1 hA hS0
        rintro σ H' ⟨⟨L, RR, v5, v6, v7, v8, v9, v10, v11, v12, v13, rfl, hA, hR, hX, hrs, hS⟩⟩
        have hR : RR.length ≤ 62 := by omega
        walk_at "go"
        refine for_list (K := K) (a := ra) (xs := RR.map fun r => .ref r.tp) (fun i σ H' => Bx (∃ (v6 : Option V), σ = [some (.ref a), some (.int (cellOf ns 0)), some (.int m), some (.ref L.p), some (.ref ra), v5, v6, v7, v8, v9, v10, v11, v12, v13] ∧
          Sat H' (L.cells (He.ga K "Ledger") ++ (rowsCells ra RR ++ A0)))) ⟨_, rfl, hS⟩ ?_ ?_ ?_
        · rintro i σ H' _ ⟨⟨v, _, hS⟩⟩
          exact sql_of (by walk_at "heap")
        · clear hS
          rintro i x σ H' hi ⟨⟨v, rfl, hS⟩⟩
          obtain ⟨r, hr, rfl⟩ : ∃ r, RR[i]? = some r ∧ V.ref r.tp = x := by simpa using hi
          have hm := List.mem_of_getElem? hr
          have hm1 := (rec_mem hm).1
          walk_at "go"
          intro H2 hS2
          clear hS
          walk_at "go"
          exact ⟨⟨_, rfl, by walk_at "less"⟩⟩
        · rintro σ H' ⟨⟨v, rfl, hS⟩⟩
          walk_at "go"
          exact q _
end
end TL
namespace TL
open PySem PySem.Spec PyProof.Rows L2
theorem law_facts {P : Program} {w : World} {K : PySem.W.Frag} {h : Heap} {mg : Str → Option Value} {f : Addr} (X : K.In h) (G : h.Ns mainGlobals mg) (hfa : mg ("law" : Str) = some (.ref f)) (c : He.SaysD faT fnT K) :
    ∃ fd : FuncData, (∀ (s : Shared) (v : Value), BindsTo s fd ⟨[v], []⟩ [("_law_script", v)]) ∧ ∀ base : Heap, K.In base → base.Ns mainGlobals mg → FnOk P w K mg base CX0 4 f fd ["_law_script"] (spLaw K) := by
  have S : Sy K mg := ⟨c, h, X, G⟩
  obtain ⟨fd, F⟩ := S.fd_law
  have e := hfa.symm.trans S.mg_law
  cases e
  have b := FunD.bindsA (ps := ["_law_script"]) F fun _ _ _ _ _ _ us hl => match us, hl with | [_], _ => rfl
  exact ⟨fd, fun s v => b s [v] rfl, fun base _ _ => ok_law S F⟩
end TL
open PySem PySem.W PySem.Calls PyProof.Rows
theorem PySem.Challenge.cw_throughline_k62_ledger_holds : PySem.Challenge.rw_throughline_k62_ledger.Holds := by
  w_on; o_law
  refine HandSHeadRun.head_any (r := OpenLaw.row PySem.Challenge.rw_throughline_k62_ledger) (q := view (OpenLaw.row PySem.Challenge.rw_throughline_k62_ledger).prog [12]) (H := TL.hk) (ob := TL.ob) (M := 4000) (loose := TL.loose) (d := HandSHeadRun.topDef (OpenLaw.row PySem.Challenge.rw_throughline_k62_ledger).prog 12) (kwd := []) TL.ob_eq
    (by kernel_rfl) (fun s => by kernel_rfl) TL.run (by kernel_rfl) (by kernel_rfl) (by kernel_rfl) (by rfl) (by first | assumption | decide +kernel) (by decide +kernel) ⟨rfl, rfl, rfl, rfl, rfl, by decide +kernel⟩ ?hw ?hc
  case hw => w_witness2
  case hc =>
    refine L2.walk_ofE (l := PySem.Challenge.rw_throughline_k62_ledger) (n := 63) (k := 4) (x := "_law_script") (CX := L2.CX0) rfl (by decide) (by kernel_rfl) ⟨rfl, by decide, by decide⟩ ?F (fun _ _ _ _ z => z)
    intro w mg fa h Y G hmg0
    obtain ⟨K, KX, c⟩ := Y
    have hmg : mg ("law" : PySem.Str) = some (.ref fa) := by
      have e : (HandSHeadRun.topDef (OpenLaw.row PySem.Challenge.rw_throughline_k62_ledger).prog 12).name = ("law" : PySem.Str) := by kernel_rfl
      rw [← e]
      exact hmg0
    obtain ⟨fd, hb, hF⟩ := TL.law_facts (P := (PySem.Challenge.rw_throughline_k62_ledger).prog) (w := w) KX G hmg c
    exact ⟨K, fd, TL.spLaw K, KX, hb, fun H a ns hl _ hS => ⟨a, ns, rfl, hS, hl, fun _ => rfl⟩, hF⟩
#print axioms PySem.Challenge.cw_throughline_k62_ledger_holds

