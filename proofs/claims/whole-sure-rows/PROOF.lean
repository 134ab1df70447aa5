import PyProof.Rows.All
import Wide.All
import OpenK.AllK
import Wide.FinOn
import HandS.ForMost
import HandS.TupAny
import HandS.IsInst
import HandS.Deep
import HandS.DictComp
import HandS.Conv
import HandS.Rev
import HandS.SortKw
import HandS.SortOrd
import HandS.SetKeys
import HandS.Walk
import PySem.Challenge.RW_everymending_k36_whole_sure_rows
import HandS.Strs
import HandS.ReCall
import KE.DataEq
import KE.SortKeyHeap
import KE.SortData
import KE.KDictKeyed
import KE.KeyNested
import HandS.DictTup
set_option Elab.async false
set_option linter.all false
set_option maxRecDepth 100000
set_option maxHeartbeats 4000000
/-! everymending: the layer of this proof over HandS: data in the heap (Den), what may change (St), defs by their names (DefAt, Has). -/
namespace EM
open PySem PySem.Spec PyProof.Rows L2
/-! ### defs by name -/
def topS (i : Nat) : Stmt := PySem.Challenge.pw_everymending_k36_whole_sure_rows.main.body.getD i (.Pass ⟨0, 0, 0, 0⟩)
structure DefAt (K : PySem.W.Frag) (mg : Str → Option Value) (x : Str) (st : Stmt) (ps : List Str) : Prop where
  ex : ∃ (f : Addr) (fd : FuncData), Fun K x x st f fd ∧ mg x = some (.ref f) ∧ Binds K fd ps []
structure Has (P : Program) (w : World) (K : PySem.W.Frag) (mg : Str → Option Value) (base : Heap) (k : Nat) (x : Str) (ps : List Str) (sp : Sp) : Prop where
  ex : ∃ (f : Addr) (fd : FuncData), FnOk P w K mg base CX0 k f fd ps sp ∧ mg x = some (.ref f) ∧ PySem.W.keepIn K (.ref f) = true ∧ Binds K fd ps []
section
variable {P : Program} {w : World} {K : PySem.W.Frag} {mg : Str → Option Value} {base : Heap}
theorem DefAt.has {x : Str} {st : Stmt} {ps N : List Str} {sp : Sp} {k : Nat} (D : DefAt K mg x st ps) (S : FnScope N ps (defScope st)) (len : ∀ vs H Q E, sp vs H Q E → vs.length = ps.length)
    (hbody : ∀ (f : Addr) (cdv : Value) (A : Around) (outer : List Env) (s : Shared) (H : Hp) (vs : List V) (Q : VK) (E : XK), Room k (A.deeper (envOfC x (defScope st) s.heap.objs.size f cdv)) → sp vs H Q E →
      ∃ t, PSs (cxOf CX0 P w K mg base N x (defScope st) f cdv A outer s H E).nox (defBody st) t ∧ t { nx := fun _ H' => Q .non H', rt := Q } (start N vs) H) : Has P w K mg base (k + 1) x ps sp := by
  obtain ⟨f, fd, F, g, b⟩ := D.ex
  exact ⟨f, fd, F.ok S len (hbody f), g, F.kp, b⟩
theorem Has.imp {k : Nat} {x : Str} {ps : List Str} {sp sp' : Sp} (h : Has P w K mg base k x ps sp) (i : ∀ vs H Q E, sp' vs H Q E → sp vs H Q E) : Has P w K mg base k x ps sp' := by
  obtain ⟨f, fd, F, r⟩ := h.ex
  exact ⟨f, fd, F.imp i, r⟩
end
section
variable {X : Cx} {e : Expr} {es : List Expr} {x : Str} {p pos : Pos} {t : TA} {k k' : Nat} {ps : List Str} {sp : Sp}
theorem pe_own (h : Has X.prog X.w X.K X.mg X.base k x ps sp) (hr : Room k' X.A) (hk : k ≤ k') (hg : Gl X x) (ha : PA X (e :: es) t)
    (hdb : (x == ("__debug__" : Str)) = false := by decide) (he : starEach (e :: es) X.env = (false, eval e X.env) :: starEach es X.env := by rfl) (hpl : (backTo pos (starEach es X.env)).any (·.1) = false := by rfl) :
    PE X (.Call (.Name x p) (e :: es) [] pos) (tCall sp [] E0 t) := by
  obtain ⟨f, fd, F, g, kp, b⟩ := h.ex
  exact pe_call F (hr.mono hk) hg g kp b .nil pass0 ha hdb he hpl
end
/-! ### the layer's rules with K as a letter (a comprehension's block has the same K) -/
section
variable {X : Cx} (K : PySem.W.Frag)
theorem ixL (hK : X.K = K := by rfl) : IxR X (rIxL K) := hK ▸ ix_list
theorem ixT (hK : X.K = K := by rfl) : IxR X (rIxT K) := hK ▸ ix_tup
theorem ixQ (hK : X.K = K := by rfl) : IxR X (rIx K) := hK ▸ ix_seq
theorem slL (hK : X.K = K := by rfl) : SlR X (rSlL K) := hK ▸ sl_list
theorem slT (hK : X.K = K := by rfl) : SlR X (rSlA K) := hK ▸ sl_tupA
def rLenS (K : PySem.W.Frag) : List V → Hp → VK → Prop := fun xs H Q => ∃ p ys, xs = [.ref p] ∧ (SqL K H p ys ∨ SqT K H p ys) ∧ Q (.int ys.length) H
theorem lenS (hK : X.K = K := by rfl) : CallR X (.builtin "len") (rLenS K) := hK ▸ call_len_seq
def rLstOf (K : PySem.W.Frag) : List V → Hp → VK → Prop := fun xs H Q => ∃ p ys, xs = [.ref p] ∧ (SqL K H p ys ∨ SqT K H p ys) ∧ ∀ l, H l = none → Q (.ref l) (upd H l (.lst ys))
theorem lstOf (hK : X.K = K := by rfl) : CallR X (.type "list") (rLstOf K) := hK ▸ call_list_of
def rTupOf (K : PySem.W.Frag) : List V → Hp → VK → Prop := fun xs H Q => ∃ p ys, xs = [.ref p] ∧ ((SqL K H p ys ∧ ∀ l, H l = none → Q (.ref l) (upd H l (.tup ys))) ∨ (SqT K H p ys ∧ Q (.ref p) H))
theorem tupOf (hK : X.K = K := by rfl) : CallR X (.type "tuple") (rTupOf K) := hK ▸ call_tuple_of
theorem isi (hK : X.K = K := by rfl) : CallR X (.builtin "isinstance") (rIsi K) := hK ▸ call_isi
theorem isiT (hK : X.K = K := by rfl) : CallR X (.builtin "isinstance") (rIsiT K) := hK ▸ call_isiT
theorem catT (hK : X.K = K := by rfl) : OpR X (binaryOp .Add) (rCatA K) := hK ▸ op_catA
theorem inS (hK : X.K = K := by rfl) : OpR X (compareOp .In) (rIn K false) := hK ▸ op_in_seq
theorem ninS (hK : X.K = K := by rfl) : OpR X (compareOp .NotIn) (rIn K true) := hK ▸ op_notIn_seq
theorem eqD {k : Nat} (hr : Room k X.A) (hK : X.K = K := by rfl) : OpR X (compareOp .Eq) (rEqD K) := hK ▸ op_eqD hr.units
theorem neD {k : Nat} (hr : Room k X.A) (hK : X.K = K := by rfl) : OpR X (compareOp .NotEq) (rNeD K) := hK ▸ op_neD hr.units
theorem room65 {k : Nat} {A : Around} (hr : Room k A) : A.units + 65 < cLine := by have := hr.un; omega
theorem inD {k : Nat} (hr : Room k X.A) (hK : X.K = K := by rfl) : OpR X (compareOp .In) (rInD K) := hK ▸ op_inD (room65 hr)
theorem ninD {k : Nat} (hr : Room k X.A) (hK : X.K = K := by rfl) : OpR X (compareOp .NotIn) (rNotInD K) := hK ▸ op_notInD (room65 hr)
theorem itL {tg l : Expr} {tl : TE} (hl : PE X l tl) (hK : X.K = K := by rfl) : PI X tg l (iList K tl) := hK ▸ pi_list hl
theorem itT {tg l : Expr} {tl : TE} (hl : PE X l tl) (hK : X.K = K := by rfl) : PI X tg l (iTup K tl) := hK ▸ pi_tup hl
theorem gT {es : List Expr} {k : Nat} {pos : Pos} {t : TGs} {n : Nat} (hc : X.calm = true) (h : PGs X es t) (hn : (assignEach es X.env).length = n := by rfl) (hst : (assignEach es X.env).findIdx? (·.1) = none := by rfl) (hK : X.K = K := by rfl) : PG X (.Tuple es k pos) (gTup K n t) := by
  subst hK
  exact pg_tup hc h hn hst
theorem bm0 {T : String} {name : Str} {id : String} {r : V → List V → Hp → VK → Prop} {o : Expr} {to : TE} {apos cpos : Pos} (h : PE X (.Call (.Attribute o name apos) [] [] cpos) (tBM0 X.K T r to)) (hK : X.K = K := by rfl) :
    PE X (.Call (.Attribute o name apos) [] [] cpos) (tBM0 K T r to) := hK ▸ h
theorem bm {T : String} {name : Str} {r : V → List V → Hp → VK → Prop} {o : Expr} {es : List Expr} {t : TA} {to : TE} {apos cpos : Pos} (h : PE X (.Call (.Attribute o name apos) es [] cpos) (tBM X.K T r to t)) (hK : X.K = K := by rfl) :
    PE X (.Call (.Attribute o name apos) es [] cpos) (tBM K T r to t) := hK ▸ h
end
end EM
namespace EM
open PySem PySem.Spec PyProof.Rows L2
/-! ### data in the heap -/
mutual
/-- v stands for the datum d (whole numbers, texts, tuples of these; a «list» is a tuple whose object is known to have no dict of its own) -/
def Den (H : Hp) : PyData → V → Prop
  | .int i, v => v = .int i
  | .str x, v => v = .str x
  | .tuple ds, v => ∃ p xs, v = .ref p ∧ H p = some (.tup xs) ∧ DenL H ds xs
  | .none, _ => False
  | .bool _, _ => False
  | .list ds, v => ∃ p xs o, v = .ref p ∧ H p = some (.frz o (.tup xs)) ∧ o.dict = none ∧ DenL H ds xs
  | .dict _, _ => False
def DenL (H : Hp) : List PyData → List V → Prop
  | [], xs => xs = []
  | d :: ds, xs => ∃ x r, xs = x :: r ∧ Den H d x ∧ DenL H ds r
end
theorem den_int {H : Hp} {i : Int} {v : V} : Den H (.int i) v ↔ v = .int i := by rw [Den]
theorem den_str {H : Hp} {x : Str} {v : V} : Den H (.str x) v ↔ v = .str x := by rw [Den]
theorem den_tup {H : Hp} {ds : List PyData} {v : V} : Den H (.tuple ds) v ↔ ∃ p xs, v = .ref p ∧ H p = some (.tup xs) ∧ DenL H ds xs := by rw [Den]
theorem den_lst {H : Hp} {ds : List PyData} {v : V} : Den H (.list ds) v ↔ ∃ p xs o, v = .ref p ∧ H p = some (.frz o (.tup xs)) ∧ o.dict = none ∧ DenL H ds xs := by rw [Den]
theorem denL_nil {H : Hp} {xs : List V} : DenL H [] xs ↔ xs = [] := by rw [DenL]
theorem denL_cons {H : Hp} {d : PyData} {ds : List PyData} {xs : List V} : DenL H (d :: ds) xs ↔ ∃ x r, xs = x :: r ∧ Den H d x ∧ DenL H ds r := by rw [DenL]
/-- tuples stay -/
def Kp : HO → Prop
  | .tup _ => True
  | .frz _ (.tup _) => True
  | _ => False
structure TK (H H' : Hp) : Prop where
  run : ∀ p u, H p = some u → Kp u → H' p = some u
theorem TK.go {H H' : Hp} (t : TK H H') (p : Addr) (u : HO) (h : H p = some u) (k : Kp u := by exact True.intro) : H' p = some u := t.run p u h k
instance {H H' : Hp} : CoeFun (TK H H') (fun _ => ∀ (p : Addr) (u : HO), H p = some u → (k : Kp u := by exact True.intro) → H' p = some u) := ⟨fun t => @TK.go _ _ t⟩
theorem TK.refl (H : Hp) : TK H H := ⟨fun _ _ h _ => h⟩
theorem TK.trans {H H1 H2 : Hp} (a : TK H H1) (b : TK H1 H2) : TK H H2 := ⟨fun p u h k => b.run p u (a.run p u h k) k⟩
mutual
theorem Den.tk {H H' : Hp} (k : TK H H') : ∀ (d : PyData) (v : V), Den H d v → Den H' d v
  | .int i, v, h => by rw [den_int] at h ⊢; exact h
  | .str x, v, h => by rw [den_str] at h ⊢; exact h
  | .tuple ds, v, h => by
    rw [den_tup] at h ⊢
    obtain ⟨p, xs, e, hp, hd⟩ := h
    exact ⟨p, xs, e, k.go p _ hp, DenL.tk k ds xs hd⟩
  | .none, v, h => by rw [Den] at h; exact h.elim
  | .bool _, v, h => by rw [Den] at h; exact h.elim
  | .list ds, v, h => by
    rw [den_lst] at h ⊢
    obtain ⟨p, xs, o, e, hp, ho, hd⟩ := h
    exact ⟨p, xs, o, e, k.go p _ hp, ho, DenL.tk k ds xs hd⟩
  | .dict _, v, h => by rw [Den] at h; exact h.elim
theorem DenL.tk {H H' : Hp} (k : TK H H') : ∀ (ds : List PyData) (xs : List V), DenL H ds xs → DenL H' ds xs
  | [], xs, h => by rw [denL_nil] at h ⊢; exact h
  | d :: ds, xs, h => by
    rw [denL_cons] at h ⊢
    obtain ⟨x, r, e, h1, h2⟩ := h
    exact ⟨x, r, e, Den.tk k d x h1, DenL.tk k ds r h2⟩
end
mutual
def noL : PyData → Bool
  | .tuple ds => noLs ds
  | .list _ => false
  | _ => true
def noLs : List PyData → Bool
  | [] => true
  | d :: ds => noL d && noLs ds
end
mutual
theorem Den.dp {K : PySem.W.Frag} {H : Hp} : ∀ (d : PyData) (v : V), noL d = true → Den H d v → Dp K H v d
  | .int i, v, _, h => by rw [den_int] at h; subst h; exact .int i
  | .str x, v, _, h => by rw [den_str] at h; subst h; exact .str x
  | .tuple ds, v, n, h => by
    rw [den_tup] at h
    obtain ⟨p, xs, rfl, hp, hd⟩ := h
    exact .tup (SqT.of hp) (DenL.dp ds xs (by rw [noL] at n; exact n) hd)
  | .none, v, _, h => by rw [Den] at h; exact h.elim
  | .bool _, v, _, h => by rw [Den] at h; exact h.elim
  | .list _, v, n, h => by rw [noL] at n; cases n
  | .dict _, v, _, h => by rw [Den] at h; exact h.elim
theorem DenL.dp {K : PySem.W.Frag} {H : Hp} : ∀ (ds : List PyData) (xs : List V), noLs ds = true → DenL H ds xs → DpAll K H xs ds
  | [], xs, _, h => by rw [denL_nil] at h; subst h; exact .nil
  | d :: ds, xs, n, h => by
    rw [denL_cons] at h
    rw [noLs, Bool.and_eq_true] at n
    obtain ⟨x, r, rfl, h1, h2⟩ := h
    exact .cons (Den.dp d x n.1 h1) (DenL.dp ds r n.2 h2)
end
theorem DenL.len {H : Hp} : ∀ {ds : List PyData} {xs : List V}, DenL H ds xs → xs.length = ds.length
  | [], xs, h => by rw [denL_nil] at h; subst h; rfl
  | d :: ds, xs, h => by
    rw [denL_cons] at h
    obtain ⟨x, r, rfl, h1, h2⟩ := h
    rw [List.length_cons, List.length_cons, DenL.len h2]
theorem DenL.get {H : Hp} : ∀ {ds : List PyData} {xs : List V} {i : Nat} {d : PyData}, DenL H ds xs → ds[i]? = some d → ∃ x, xs[i]? = some x ∧ Den H d x
  | [], xs, i, d, h, e => by simp at e
  | c :: ds, xs, 0, d, h, e => by
    rw [denL_cons] at h
    obtain ⟨x, r, rfl, h1, h2⟩ := h
    obtain rfl : c = d := Option.some.inj e
    exact ⟨x, rfl, h1⟩
  | c :: ds, xs, i + 1, d, h, e => by
    rw [denL_cons] at h
    obtain ⟨x, r, rfl, h1, h2⟩ := h
    obtain ⟨y, h3, h4⟩ := DenL.get (i := i) h2 (by simpa using e)
    exact ⟨y, by simpa using h3, h4⟩
theorem DenL.back {H : Hp} {ds : List PyData} {xs : List V} {i : Nat} {x : V} (h : DenL H ds xs) (e : xs[i]? = some x) : ∃ d, ds[i]? = some d ∧ Den H d x := by
  have hl := h.len
  have hi : i < xs.length := (List.getElem?_eq_some_iff.mp e).1
  obtain ⟨y, h1, h2⟩ := h.get (i := i) (List.getElem?_eq_getElem (by omega))
  rw [e] at h1
  obtain rfl := Option.some.inj h1
  exact ⟨_, List.getElem?_eq_getElem (by omega), h2⟩
theorem DenL.append {H : Hp} : ∀ {ds es : List PyData} {xs ys : List V}, DenL H ds xs → DenL H es ys → DenL H (ds ++ es) (xs ++ ys)
  | [], es, xs, ys, h, h' => by rw [denL_nil] at h; subst h; exact h'
  | d :: ds, es, xs, ys, h, h' => by
    rw [denL_cons] at h
    obtain ⟨x, r, rfl, h1, h2⟩ := h
    show DenL H (d :: (ds ++ es)) (x :: (r ++ ys))
    rw [denL_cons]
    exact ⟨x, _, rfl, h1, DenL.append h2 h'⟩
theorem DenL.one {H : Hp} {d : PyData} {x : V} (h : Den H d x) : DenL H [d] [x] := by
  rw [denL_cons]
  exact ⟨x, [], rfl, h, by rw [denL_nil]⟩
theorem DenL.snoc {H : Hp} {ds : List PyData} {xs : List V} {d : PyData} {x : V} (h : DenL H ds xs) (hx : Den H d x) : DenL H (ds ++ [d]) (xs ++ [x]) := h.append (.one hx)
theorem DenL.two {H : Hp} {d e : PyData} {x y : V} (h : Den H d x) (h2 : Den H e y) : DenL H [d, e] [x, y] := (DenL.one h).append (.one h2)
theorem DenL.three {H : Hp} {d e f : PyData} {x y z : V} (h : Den H d x) (h2 : Den H e y) (h3 : Den H f z) : DenL H [d, e, f] [x, y, z] := (DenL.two h h2).append (.one h3)
theorem DenL.nil {H : Hp} : DenL H [] [] := by rw [denL_nil]
theorem DenL.take {H : Hp} : ∀ {ds : List PyData} {xs : List V} (n : Nat), DenL H ds xs → DenL H (ds.take n) (xs.take n)
  | _, _, 0, _ => by rw [List.take_zero, List.take_zero]; exact .nil
  | [], xs, n + 1, h => by rw [denL_nil] at h; subst h; exact .nil
  | d :: ds, xs, n + 1, h => by
    rw [denL_cons] at h
    obtain ⟨x, r, rfl, h1, h2⟩ := h
    rw [List.take_succ_cons, List.take_succ_cons, denL_cons]
    exact ⟨x, _, rfl, h1, DenL.take n h2⟩
theorem DenL.drop {H : Hp} : ∀ {ds : List PyData} {xs : List V} (n : Nat), DenL H ds xs → DenL H (ds.drop n) (xs.drop n)
  | _, _, 0, h => h
  | [], xs, n + 1, h => by rw [denL_nil] at h; subst h; exact .nil
  | d :: ds, xs, n + 1, h => by
    rw [denL_cons] at h
    obtain ⟨x, r, rfl, h1, h2⟩ := h
    exact DenL.drop n h2
theorem DenL.set {H : Hp} {d : PyData} {x : V} (hx : Den H d x) : ∀ {ds : List PyData} {xs : List V} (n : Nat), DenL H ds xs → DenL H (ds.set n d) (xs.set n x)
  | [], xs, n, h => by rw [denL_nil] at h; subst h; exact .nil
  | c :: ds, xs, 0, h => by
    rw [denL_cons] at h
    obtain ⟨y, r, rfl, h1, h2⟩ := h
    show DenL H (d :: ds) (x :: r)
    rw [denL_cons]
    exact ⟨x, r, rfl, hx, h2⟩
  | c :: ds, xs, n + 1, h => by
    rw [denL_cons] at h
    obtain ⟨y, r, rfl, h1, h2⟩ := h
    show DenL H (c :: ds.set n d) (y :: r.set n x)
    rw [denL_cons]
    exact ⟨y, _, rfl, h1, DenL.set hx n h2⟩
theorem DenL.of_get {H : Hp} : ∀ {ds : List PyData} {xs : List V}, xs.length = ds.length → (∀ (i : Nat) (d : PyData) (x : V), ds[i]? = some d → xs[i]? = some x → Den H d x) → DenL H ds xs
  | [], [], _, _ => .nil
  | d :: ds, [], h, _ => by simp at h
  | [], x :: xs, h, _ => by simp at h
  | d :: ds, x :: xs, h, k => by
    rw [denL_cons]
    exact ⟨x, xs, rfl, k 0 d x rfl rfl, DenL.of_get (by simpa using h) fun i d' x' h1 h2 => k (i + 1) d' x' (by simpa using h1) (by simpa using h2)⟩
/-! ### the encodings -/
abbrev Val := Key
abbrev Row := List Key
abbrev Fact := Str × Row
abbrev Tab := Str × Nat × Nat
inductive Tm where
  | var (x : Str)
  | val (v : Key)
  deriving DecidableEq
abbrev Atom := Str × List Tm
abbrev Join := List Tm × List Atom
abbrev Block := Str × Row × List Row
abbrev Mapping := List (Str × Key)
def eV : Key → PyData
  | .inl i => .int i
  | .inr x => .str x
def eRow (r : Row) : PyData := .tuple (r.map eV)
def eFact (f : Fact) : PyData := .tuple [.str f.1, eRow f.2]
def eTab (t : Tab) : PyData := .tuple [.str t.1, .int (t.2.1 : Nat), .int (t.2.2 : Nat)]
def eSchema (S : List Tab) : PyData := .tuple (S.map eTab)
def eStore (s : List Fact) : PyData := .tuple (s.map eFact)
def eTm : Tm → PyData
  | .var x => .tuple [.str "var", .str x]
  | .val v => .tuple [.str "value", eV v]
def eAtom (a : Atom) : PyData := .tuple [.str a.1, .list (a.2.map eTm)]
def eJoin (j : Join) : PyData := .tuple [.tuple (j.1.map eTm), .tuple (j.2.map eAtom)]
def eQ (n : Int) (q : List Join) : PyData := .tuple [.int n, .tuple (q.map eJoin)]
def eBlock (b : Block) : PyData := .tuple [.str b.1, eRow b.2.1, .tuple (b.2.2.map eRow)]
def eRows (rs : List Row) : PyData := .tuple (rs.map eRow)
def ePair (p : Str × Key) : PyData := .tuple [.str p.1, eV p.2]
theorem den_V {H : Hp} {k : Key} {v : V} : Den H (eV k) v ↔ v = kV k := by
  cases k with
  | inl i => exact den_int
  | inr x => exact den_str
theorem denL_row {H : Hp} : ∀ {r : Row} {xs : List V}, DenL H (r.map eV) xs ↔ xs = r.map kV
  | [], xs => by rw [List.map_nil, denL_nil, List.map_nil]
  | k :: r, xs => by
    rw [List.map_cons, denL_cons, List.map_cons]
    constructor
    · rintro ⟨x, r', rfl, h1, h2⟩
      rw [den_V.mp h1, denL_row.mp h2]
    · intro e
      exact ⟨kV k, r.map kV, e, den_V.mpr rfl, denL_row.mpr rfl⟩
theorem den_row {H : Hp} {r : Row} {v : V} : Den H (eRow r) v ↔ ∃ p, v = .ref p ∧ H p = some (.tup (r.map kV)) := by
  unfold eRow
  rw [den_tup]
  constructor
  · rintro ⟨p, xs, e, h, d⟩
    rw [denL_row.mp d] at h
    exact ⟨p, e, h⟩
  · rintro ⟨p, e, h⟩
    exact ⟨p, _, e, h, denL_row.mpr rfl⟩
theorem denL_two {H : Hp} {d e : PyData} {xs : List V} : DenL H [d, e] xs ↔ ∃ x y, xs = [x, y] ∧ Den H d x ∧ Den H e y := by
  rw [denL_cons]
  constructor
  · rintro ⟨x, r, rfl, h1, h2⟩
    rw [denL_cons] at h2
    obtain ⟨y, r', rfl, h3, h4⟩ := h2
    rw [denL_nil] at h4
    subst h4
    exact ⟨x, y, rfl, h1, h3⟩
  · rintro ⟨x, y, rfl, h1, h2⟩
    exact ⟨x, [y], rfl, h1, .one h2⟩
theorem denL_three {H : Hp} {d e f : PyData} {xs : List V} : DenL H [d, e, f] xs ↔ ∃ x y z, xs = [x, y, z] ∧ Den H d x ∧ Den H e y ∧ Den H f z := by
  rw [denL_cons]
  constructor
  · rintro ⟨x, r, rfl, h1, h2⟩
    obtain ⟨y, z, rfl, h3, h4⟩ := denL_two.mp h2
    exact ⟨x, y, z, rfl, h1, h3, h4⟩
  · rintro ⟨x, y, z, rfl, h1, h2, h3⟩
    exact ⟨x, [y, z], rfl, h1, .two h2 h3⟩
theorem den_fact {H : Hp} {f : Fact} {v : V} : Den H (eFact f) v ↔ ∃ p q, v = .ref p ∧ H p = some (.tup [.str f.1, .ref q]) ∧ H q = some (.tup (f.2.map kV)) := by
  unfold eFact
  rw [den_tup]
  constructor
  · rintro ⟨p, xs, e, h, d⟩
    obtain ⟨x, y, rfl, h1, h2⟩ := denL_two.mp d
    obtain rfl := den_str.mp h1
    obtain ⟨q, rfl, hq⟩ := den_row.mp h2
    exact ⟨p, q, e, h, hq⟩
  · rintro ⟨p, q, e, h, hq⟩
    exact ⟨p, _, e, h, .two (den_str.mpr rfl) (den_row.mpr ⟨q, rfl, hq⟩)⟩
theorem den_tab {H : Hp} {t : Tab} {v : V} : Den H (eTab t) v ↔ ∃ p, v = .ref p ∧ H p = some (.tup [.str t.1, .int (t.2.1 : Nat), .int (t.2.2 : Nat)]) := by
  unfold eTab
  rw [den_tup]
  constructor
  · rintro ⟨p, xs, e, h, d⟩
    obtain ⟨x, y, z, rfl, h1, h2, h3⟩ := denL_three.mp d
    rw [den_str.mp h1, den_int.mp h2, den_int.mp h3] at h
    exact ⟨p, e, h⟩
  · rintro ⟨p, e, h⟩
    exact ⟨p, _, e, h, .three (den_str.mpr rfl) (den_int.mpr rfl) (den_int.mpr rfl)⟩
/-- a term's first word and its second part -/
def Tm.kind : Tm → Str
  | .var _ => "var"
  | .val _ => "value"
def Tm.worth : Tm → Key
  | .var x => .inr x
  | .val v => v
theorem den_tm {H : Hp} {t : Tm} {v : V} : Den H (eTm t) v ↔ ∃ p, v = .ref p ∧ H p = some (.tup [.str t.kind, kV t.worth]) := by
  cases t with
  | var x =>
    show Den H (.tuple [.str "var", .str x]) v ↔ _
    rw [den_tup]
    constructor
    · rintro ⟨p, xs, e, h, d⟩
      obtain ⟨a, b, rfl, h1, h2⟩ := denL_two.mp d
      rw [den_str.mp h1, den_str.mp h2] at h
      exact ⟨p, e, h⟩
    · rintro ⟨p, e, h⟩
      exact ⟨p, _, e, h, .two (den_str.mpr rfl) (den_str.mpr rfl)⟩
  | val k =>
    show Den H (.tuple [.str "value", eV k]) v ↔ _
    rw [den_tup]
    constructor
    · rintro ⟨p, xs, e, h, d⟩
      obtain ⟨a, b, rfl, h1, h2⟩ := denL_two.mp d
      rw [den_str.mp h1, den_V.mp h2] at h
      exact ⟨p, e, h⟩
    · rintro ⟨p, e, h⟩
      exact ⟨p, _, e, h, .two (den_str.mpr rfl) (den_V.mpr rfl)⟩
theorem den_pair {H : Hp} {t : Str × Key} {v : V} : Den H (ePair t) v ↔ ∃ p, v = .ref p ∧ H p = some (.tup [.str t.1, kV t.2]) := by
  unfold ePair
  rw [den_tup]
  constructor
  · rintro ⟨p, xs, e, h, d⟩
    obtain ⟨a, b, rfl, h1, h2⟩ := denL_two.mp d
    rw [den_str.mp h1, den_V.mp h2] at h
    exact ⟨p, e, h⟩
  · rintro ⟨p, e, h⟩
    exact ⟨p, _, e, h, .two (den_str.mpr rfl) (den_V.mpr rfl)⟩
/-- a tuple of two data -/
theorem den_2 {H : Hp} {d e : PyData} {v : V} : Den H (.tuple [d, e]) v ↔ ∃ p x y, v = .ref p ∧ H p = some (.tup [x, y]) ∧ Den H d x ∧ Den H e y := by
  rw [den_tup]
  constructor
  · rintro ⟨p, xs, e', h, dd⟩
    obtain ⟨x, y, rfl, h1, h2⟩ := denL_two.mp dd
    exact ⟨p, x, y, e', h, h1, h2⟩
  · rintro ⟨p, x, y, e', h, h1, h2⟩
    exact ⟨p, _, e', h, .two h1 h2⟩
theorem den_3 {H : Hp} {d e f : PyData} {v : V} : Den H (.tuple [d, e, f]) v ↔ ∃ p x y z, v = .ref p ∧ H p = some (.tup [x, y, z]) ∧ Den H d x ∧ Den H e y ∧ Den H f z := by
  rw [den_tup]
  constructor
  · rintro ⟨p, xs, e', h, dd⟩
    obtain ⟨x, y, z, rfl, h1, h2, h3⟩ := denL_three.mp dd
    exact ⟨p, x, y, z, e', h, h1, h2, h3⟩
  · rintro ⟨p, x, y, z, e', h, h1, h2, h3⟩
    exact ⟨p, _, e', h, .three h1 h2 h3⟩
theorem den_map {α : Type} {f : α → PyData} {H : Hp} {l : List α} {v : V} : Den H (.tuple (l.map f)) v ↔ ∃ p xs, v = .ref p ∧ H p = some (.tup xs) ∧ DenL H (l.map f) xs := den_tup
theorem den_mapL {α : Type} {f : α → PyData} {H : Hp} {l : List α} {v : V} : Den H (.list (l.map f)) v ↔ ∃ p xs o, v = .ref p ∧ H p = some (.frz o (.tup xs)) ∧ o.dict = none ∧ DenL H (l.map f) xs := den_lst
theorem DenL.mget {α : Type} {f : α → PyData} {H : Hp} {l : List α} {xs : List V} {i : Nat} {a : α} (h : DenL H (l.map f) xs) (e : l[i]? = some a) : ∃ x, xs[i]? = some x ∧ Den H (f a) x :=
  h.get (by rw [List.getElem?_map, e]; rfl)
theorem DenL.mback {α : Type} {f : α → PyData} {H : Hp} {l : List α} {xs : List V} {i : Nat} {x : V} (h : DenL H (l.map f) xs) (e : xs[i]? = some x) : ∃ a, l[i]? = some a ∧ Den H (f a) x := by
  obtain ⟨d, h1, h2⟩ := h.back e
  rw [List.getElem?_map] at h1
  cases q : l[i]? with
  | none => rw [q] at h1; cases h1
  | some a =>
    rw [q] at h1
    obtain rfl : f a = d := Option.some.inj h1
    exact ⟨a, rfl, h2⟩
theorem DenL.mlen {α : Type} {f : α → PyData} {H : Hp} {l : List α} {xs : List V} (h : DenL H (l.map f) xs) : xs.length = l.length := by rw [h.len, List.length_map]
theorem DenL.msnoc {α : Type} {f : α → PyData} {H : Hp} {l : List α} {a : α} {xs : List V} {x : V} (h : DenL H (l.map f) xs) (hx : Den H (f a) x) : DenL H ((l ++ [a]).map f) (xs ++ [x]) := by
  rw [List.map_append]
  exact h.append (.one hx)
/-! ### what may change: nothing that stood, or the list of draws alone -/
def dV (n : Nat) : V := .int (n : Int)
def DrawsOk (H : Hp) (a : Addr) : Prop := ∃ ds : List Nat, H a = some (.lst (ds.map dV))
structure St (m : Option Addr) (H H' : Hp) : Prop where
  keep : ∀ b o, H b = some o → m ≠ some b → H' b = some o
  tup : TK H H'
  drw : ∀ a, m = some a → DrawsOk H a → DrawsOk H' a
section
variable {m : Option Addr} {H H1 H2 H' : Hp} {p : Addr} {o : HO} {a : Addr}
theorem DrawsOk.ne (h : DrawsOk H a) (n : H p = none) : a ≠ p := by
  obtain ⟨ds, e⟩ := h
  exact ne_of_none e n
theorem St.refl (m : Option Addr) (H : Hp) : St m H H := ⟨fun _ _ e _ => e, .refl _, fun _ _ d => d⟩
theorem St.trans (s : St m H H1) (t : St m H1 H2) : St m H H2 := ⟨fun b o e n => t.keep b o (s.keep b o e n) n, s.tup.trans t.tup, fun a e d => t.drw a e (s.drw a e d)⟩
theorem St.mut (s : St m H H') (n : H p = none) : St m H (upd H' p o) :=
  ⟨fun b u e nb => by rw [upd_ne (ne_of_none e n)]; exact s.keep b u e nb, ⟨fun b u e k => by rw [upd_ne (ne_of_none e n)]; exact s.tup.run b u e k⟩,
    fun a e d => by
      obtain ⟨ds, h⟩ := s.drw a e d
      exact ⟨ds, by rw [upd_ne (d.ne n)]; exact h⟩⟩
theorem St.new (n : H p = none) : St m H (upd H p o) := (St.refl m H).mut n
theorem St.of (s : Same H H') : St m H H' := ⟨fun b o e _ => s b o e, ⟨fun b u e _ => s b _ e⟩, fun a _ ⟨ds, e⟩ => ⟨ds, s a _ e⟩⟩
theorem St.same (s : St none H H') : Same H H' := fun b o e => s.keep b o e (fun z => nomatch z)
theorem St.weak (s : St none H H') : St m H H' := .of s.same
/-- what was not there at the start is not there at the start -/
theorem St.free (s : St m H H') (d : ∀ a, m = some a → DrawsOk H a) (n : H' p = none) : H p = none := by
  cases q : H p with
  | none => rfl
  | some u =>
    by_cases e : m = some p
    · obtain ⟨ds, h⟩ := s.drw p e (d p e)
      rw [h] at n
      cases n
    · rw [s.keep p u q e] at n
      cases n
theorem St.free0 (s : St none H H') (n : H' p = none) : H p = none := s.free (fun _ z => nomatch z) n
theorem St.freeD (s : St (some a) H H') (d : DrawsOk H a) (n : H' p = none) : H p = none := s.free (fun b z => by cases z; exact d) n
theorem St.den {d : PyData} {v : V} (s : St m H H') (h : Den H d v) : Den H' d v := Den.tk s.tup d v h
theorem St.denL {ds : List PyData} {xs : List V} (s : St m H H') (h : DenL H ds xs) : DenL H' ds xs := DenL.tk s.tup ds xs h
theorem St.draws (s : St (some a) H H') (d : DrawsOk H a) : DrawsOk H' a := s.drw a rfl d
/-- the draws' list itself may change -/
theorem St.draw (ds : List Nat) (h : DrawsOk H a) : St (some a) H (upd H a (.lst (ds.map dV))) :=
  ⟨fun b u e n => by rw [upd_ne (fun z => n (by rw [z]))]; exact e, ⟨fun b u e k => by
    obtain ⟨es, q⟩ := h
    rw [upd_ne (ne_of e q (by intro z; rw [z] at k; exact k))]
    exact e⟩, fun b e d => by cases e; exact ⟨ds, upd_same⟩⟩
end
end EM
namespace EM
open PySem PySem.Spec PyProof.Rows L2
abbrev stPValueKey : Stmt := topS 1
abbrev nmPValueKey : List Str := ["value"]
theorem scPValueKey : FnScope nmPValueKey ["value"] (defScope stPValueKey) := ⟨rfl, rfl, rfl, by decide +kernel, rfl, by decide +kernel, by decide +kernel⟩
abbrev stPRowKey : Stmt := topS 2
abbrev nmPRowKey : List Str := ["row", "value"]
theorem scPRowKey : FnScope nmPRowKey ["row"] (defScope stPRowKey) := ⟨rfl, rfl, rfl, by decide +kernel, rfl, by decide +kernel, by decide +kernel⟩
abbrev stPSortedRows : Stmt := topS 3
abbrev nmPSortedRows : List Str := ["rows", "found", "row"]
theorem scPSortedRows : FnScope nmPSortedRows ["rows"] (defScope stPSortedRows) := ⟨rfl, rfl, rfl, by decide +kernel, rfl, by decide +kernel, by decide +kernel⟩
abbrev stPTableOf : Stmt := topS 5
abbrev nmPTableOf : List Str := ["schema", "name", "table"]
theorem scPTableOf : FnScope nmPTableOf ["schema", "name"] (defScope stPTableOf) := ⟨rfl, rfl, rfl, by decide +kernel, rfl, by decide +kernel, by decide +kernel⟩
abbrev stPKeyOf : Stmt := topS 6
abbrev nmPKeyOf : List Str := ["schema", "fact"]
theorem scPKeyOf : FnScope nmPKeyOf ["schema", "fact"] (defScope stPKeyOf) := ⟨rfl, rfl, rfl, by decide +kernel, rfl, by decide +kernel, by decide +kernel⟩
abbrev stPBlocksOf : Stmt := topS 8
abbrev nmPBlocksOf : List Str := ["schema", "store", "groups", "fact", "place", "rows"]
theorem scPBlocksOf : FnScope nmPBlocksOf ["schema", "store"] (defScope stPBlocksOf) := ⟨rfl, rfl, rfl, by decide +kernel, rfl, by decide +kernel, by decide +kernel⟩
abbrev stPCountMendings : Stmt := topS 10
abbrev nmPCountMendings : List Str := ["schema", "store", "many", "block"]
theorem scPCountMendings : FnScope nmPCountMendings ["schema", "store"] (defScope stPCountMendings) := ⟨rfl, rfl, rfl, by decide +kernel, rfl, by decide +kernel, by decide +kernel⟩
abbrev stPMendingAt : Stmt := topS 11
abbrev nmPMendingAt : List Str := ["schema", "store", "n", "facts", "name", "key", "rows"]
theorem scPMendingAt : FnScope nmPMendingAt ["schema", "store", "n"] (defScope stPMendingAt) := ⟨rfl, rfl, rfl, by decide +kernel, rfl, by decide +kernel, by decide +kernel⟩
abbrev stPBoundValues : Stmt := topS 13
abbrev nmPBoundValues : List Str := ["terms", "row", "values", "grown", "k", "kind", "worth"]
theorem scPBoundValues : FnScope nmPBoundValues ["terms", "row", "values"] (defScope stPBoundValues) := ⟨rfl, rfl, rfl, by decide +kernel, rfl, by decide +kernel, by decide +kernel⟩
abbrev stPFoundValues : Stmt := topS 15
abbrev nmPFoundValues : List Str := ["store", "join", "found", "name", "terms", "row", "rows", "grown", "values", "more", "known"]
theorem scPFoundValues : FnScope nmPFoundValues ["store", "join"] (defScope stPFoundValues) := ⟨rfl, rfl, rfl, by decide +kernel, rfl, by decide +kernel, by decide +kernel⟩
abbrev stPAnswers : Stmt := topS 16
abbrev nmPAnswers : List Str := ["store", "question", "rows", "join", "values", "kind", "worth"]
theorem scPAnswers : FnScope nmPAnswers ["store", "question"] (defScope stPAnswers) := ⟨rfl, rfl, rfl, by decide +kernel, rfl, by decide +kernel, by decide +kernel⟩
abbrev stPSurePlainly : Stmt := topS 17
abbrev nmPSurePlainly : List Str := ["schema", "store", "question", "rows", "n", "there", "row"]
theorem scPSurePlainly : FnScope nmPSurePlainly ["schema", "store", "question"] (defScope stPSurePlainly) := ⟨rfl, rfl, rfl, by decide +kernel, rfl, by decide +kernel, by decide +kernel⟩
abbrev stLDraws : Stmt := topS 19
abbrev nmLDraws : List Str := ["_law_script", "_law_many", "_law_cells", "_law_rest", "_law_draws_here", "_law_k", "_law_at", "_law_mixed", "_law_cell"]
theorem scLDraws : FnScope nmLDraws ["_law_script", "_law_many"] (defScope stLDraws) := ⟨rfl, rfl, rfl, by decide +kernel, rfl, by decide +kernel, by decide +kernel⟩
abbrev stLTake : Stmt := topS 20
abbrev nmLTake : List Str := ["_law_draws_here", "_law_many"]
theorem scLTake : FnScope nmLTake ["_law_draws_here", "_law_many"] (defScope stLTake) := ⟨rfl, rfl, rfl, by decide +kernel, rfl, by decide +kernel, by decide +kernel⟩
abbrev stLPick : Stmt := topS 21
abbrev nmLPick : List Str := ["_law_draws_here", "_law_row"]
theorem scLPick : FnScope nmLPick ["_law_draws_here", "_law_row"] (defScope stLPick) := ⟨rfl, rfl, rfl, by decide +kernel, rfl, by decide +kernel, by decide +kernel⟩
abbrev stLSize : Stmt := topS 22
abbrev nmLSize : List Str := ["_law_draws_here", "_law_script", "_law_kind", "_law_number_here", "_law_k"]
theorem scLSize : FnScope nmLSize ["_law_draws_here", "_law_script"] (defScope stLSize) := ⟨rfl, rfl, rfl, by decide +kernel, rfl, by decide +kernel, by decide +kernel⟩
abbrev stLSame : Stmt := topS 23
abbrev nmLSame : List Str := ["_law_actual", "_law_due", "_law_k"]
theorem scLSame : FnScope nmLSame ["_law_actual", "_law_due"] (defScope stLSame) := ⟨rfl, rfl, rfl, by decide +kernel, rfl, by decide +kernel, by decide +kernel⟩
abbrev stLPool : Stmt := topS 24
abbrev nmLPool : List Str := ["_law_draws_here", "_law_many", "_law_pool_here", "_law_k", "_law_letters", "_law_word", "_law_j"]
theorem scLPool : FnScope nmLPool ["_law_draws_here", "_law_many"] (defScope stLPool) := ⟨rfl, rfl, rfl, by decide +kernel, rfl, by decide +kernel, by decide +kernel⟩
abbrev stLValues : Stmt := topS 25
abbrev nmLValues : List Str := ["_law_draws_here", "_law_words_here", "_law_low", "_law_values_here"]
theorem scLValues : FnScope nmLValues ["_law_draws_here", "_law_words_here"] (defScope stLValues) := ⟨rfl, rfl, rfl, by decide +kernel, rfl, by decide +kernel, by decide +kernel⟩
abbrev stLValue : Stmt := topS 26
abbrev nmLValue : List Str := ["_law_draws_here", "_law_values_here"]
theorem scLValue : FnScope nmLValue ["_law_draws_here", "_law_values_here"] (defScope stLValue) := ⟨rfl, rfl, rfl, by decide +kernel, rfl, by decide +kernel, by decide +kernel⟩
abbrev stLKey : Stmt := topS 27
abbrev nmLKey : List Str := ["_law_value_here"]
theorem scLKey : FnScope nmLKey ["_law_value_here"] (defScope stLKey) := ⟨rfl, rfl, rfl, by decide +kernel, rfl, by decide +kernel, by decide +kernel⟩
abbrev stLRowKey : Stmt := topS 28
abbrev nmLRowKey : List Str := ["_law_row", "_law_value_here"]
theorem scLRowKey : FnScope nmLRowKey ["_law_row"] (defScope stLRowKey) := ⟨rfl, rfl, rfl, by decide +kernel, rfl, by decide +kernel, by decide +kernel⟩
abbrev stLSorted : Stmt := topS 29
abbrev nmLSorted : List Str := ["_law_rows", "_law_found", "_law_row"]
theorem scLSorted : FnScope nmLSorted ["_law_rows"] (defScope stLSorted) := ⟨rfl, rfl, rfl, by decide +kernel, rfl, by decide +kernel, by decide +kernel⟩
abbrev stLSchema : Stmt := topS 30
abbrev nmLSchema : List Str := ["_law_draws_here", "_law_names", "_law_found", "_law_name", "_law_key_here", "_law_rest"]
theorem scLSchema : FnScope nmLSchema ["_law_draws_here", "_law_names"] (defScope stLSchema) := ⟨rfl, rfl, rfl, by decide +kernel, rfl, by decide +kernel, by decide +kernel⟩
abbrev stLWorld : Stmt := topS 31
abbrev nmLWorld : List Str := ["_law_draws_here", "_law_pool_here", "_law_many"]
theorem scLWorld : FnScope nmLWorld ["_law_draws_here"] (defScope stLWorld) := ⟨rfl, rfl, rfl, by decide +kernel, rfl, by decide +kernel, by decide +kernel⟩
abbrev stLTable : Stmt := topS 32
abbrev nmLTable : List Str := ["_law_schema_here", "_law_name", "_law_table_here"]
theorem scLTable : FnScope nmLTable ["_law_schema_here", "_law_name"] (defScope stLTable) := ⟨rfl, rfl, rfl, by decide +kernel, rfl, by decide +kernel, by decide +kernel⟩
abbrev stLKeyOf : Stmt := topS 33
abbrev nmLKeyOf : List Str := ["_law_schema_here", "_law_fact"]
theorem scLKeyOf : FnScope nmLKeyOf ["_law_schema_here", "_law_fact"] (defScope stLKeyOf) := ⟨rfl, rfl, rfl, by decide +kernel, rfl, by decide +kernel, by decide +kernel⟩
abbrev stLFactKey : Stmt := topS 34
abbrev nmLFactKey : List Str := ["_law_fact"]
theorem scLFactKey : FnScope nmLFactKey ["_law_fact"] (defScope stLFactKey) := ⟨rfl, rfl, rfl, by decide +kernel, rfl, by decide +kernel, by decide +kernel⟩
abbrev stLStore : Stmt := topS 35
abbrev nmLStore : List Str := ["_law_facts_here", "_law_found", "_law_fact"]
theorem scLStore : FnScope nmLStore ["_law_facts_here"] (defScope stLStore) := ⟨rfl, rfl, rfl, by decide +kernel, rfl, by decide +kernel, by decide +kernel⟩
abbrev stLBlocks : Stmt := topS 36
abbrev nmLBlocks : List Str := ["_law_schema_here", "_law_store_here", "_law_found", "_law_fact", "_law_key_here"]
theorem scLBlocks : FnScope nmLBlocks ["_law_schema_here", "_law_store_here"] (defScope stLBlocks) := ⟨rfl, rfl, rfl, by decide +kernel, rfl, by decide +kernel, by decide +kernel⟩
abbrev stLMendings : Stmt := topS 37
abbrev nmLMendings : List Str := ["_law_schema_here", "_law_store_here", "_law_found", "_law_block", "_law_grown_here", "_law_mending", "_law_row"]
theorem scLMendings : FnScope nmLMendings ["_law_schema_here", "_law_store_here"] (defScope stLMendings) := ⟨rfl, rfl, rfl, by decide +kernel, rfl, by decide +kernel, by decide +kernel⟩
abbrev stLTerm : Stmt := topS 38
abbrev nmLTerm : List Str := ["_law_draws_here", "_law_world_here"]
theorem scLTerm : FnScope nmLTerm ["_law_draws_here", "_law_world_here"] (defScope stLTerm) := ⟨rfl, rfl, rfl, by decide +kernel, rfl, by decide +kernel, by decide +kernel⟩
abbrev stLAtom : Stmt := topS 39
abbrev nmLAtom : List Str := ["_law_draws_here", "_law_world_here", "_law_table_here", "_law_k"]
theorem scLAtom : FnScope nmLAtom ["_law_draws_here", "_law_world_here", "_law_table_here"] (defScope stLAtom) := ⟨rfl, rfl, rfl, by decide +kernel, rfl, by decide +kernel, by decide +kernel⟩
abbrev stLJoin : Stmt := topS 40
abbrev nmLJoin : List Str := ["_law_draws_here", "_law_world_here", "_law_width", "_law_simple", "_law_tables", "_law_body", "_law_k", "_law_at", "_law_terms", "_law_atom_here", "_law_term_here"]
theorem scLJoin : FnScope nmLJoin ["_law_draws_here", "_law_world_here", "_law_width", "_law_simple"] (defScope stLJoin) := ⟨rfl, rfl, rfl, by decide +kernel, rfl, by decide +kernel, by decide +kernel⟩
abbrev stLQuestion : Stmt := topS 41
abbrev nmLQuestion : List Str := ["_law_draws_here", "_law_world_here", "_law_width", "_law_many", "_law_k"]
theorem scLQuestion : FnScope nmLQuestion ["_law_draws_here", "_law_world_here", "_law_width"] (defScope stLQuestion) := ⟨rfl, rfl, rfl, by decide +kernel, rfl, by decide +kernel, by decide +kernel⟩
abbrev stLPut : Stmt := topS 42
abbrev nmLPut : List Str := ["_law_term_here", "_law_mapping", "_law_pair"]
theorem scLPut : FnScope nmLPut ["_law_term_here", "_law_mapping"] (defScope stLPut) := ⟨rfl, rfl, rfl, by decide +kernel, rfl, by decide +kernel, by decide +kernel⟩
abbrev stLFacts : Stmt := topS 43
abbrev nmLFacts : List Str := ["_law_draws_here", "_law_world_here", "_law_joins", "_law_many", "_law_atoms", "_law_join_here", "_law_facts_here", "_law_k", "_law_table_here", "_law_j", "_law_row", "_law_atom_here", "_law_alike", "_law_term_here", "_law_fact"]
theorem scLFacts : FnScope nmLFacts ["_law_draws_here", "_law_world_here", "_law_joins", "_law_many"] (defScope stLFacts) := ⟨rfl, rfl, rfl, by decide +kernel, rfl, by decide +kernel, by decide +kernel⟩
abbrev stLGrown : Stmt := topS 44
abbrev nmLGrown : List Str := ["_law_atom_here", "_law_row", "_law_mapping", "_law_k", "_law_term_here"]
theorem scLGrown : FnScope nmLGrown ["_law_atom_here", "_law_row", "_law_mapping"] (defScope stLGrown) := ⟨rfl, rfl, rfl, by decide +kernel, rfl, by decide +kernel, by decide +kernel⟩
abbrev stLValuations : Stmt := topS 45
abbrev nmLValuations : List Str := ["_law_store_here", "_law_join_here", "_law_found", "_law_atom_here", "_law_grown_here", "_law_mapping", "_law_fact", "_law_more"]
theorem scLValuations : FnScope nmLValuations ["_law_store_here", "_law_join_here"] (defScope stLValuations) := ⟨rfl, rfl, rfl, by decide +kernel, rfl, by decide +kernel, by decide +kernel⟩
abbrev stLAnswers : Stmt := topS 46
abbrev nmLAnswers : List Str := ["_law_store_here", "_law_question_here", "_law_rows", "_law_join_here", "_law_mapping", "_law_term_here"]
theorem scLAnswers : FnScope nmLAnswers ["_law_store_here", "_law_question_here"] (defScope stLAnswers) := ⟨rfl, rfl, rfl, by decide +kernel, rfl, by decide +kernel, by decide +kernel⟩
abbrev stLSure : Stmt := topS 47
abbrev nmLSure : List Str := ["_law_schema_here", "_law_store_here", "_law_question_here", "_law_rows", "_law_mending", "_law_there", "_law_row"]
theorem scLSure : FnScope nmLSure ["_law_schema_here", "_law_store_here", "_law_question_here"] (defScope stLSure) := ⟨rfl, rfl, rfl, by decide +kernel, rfl, by decide +kernel, by decide +kernel⟩
abbrev stLWords : Stmt := topS 48
abbrev nmLWords : List Str := ["_law_draws_here", "_law_many", "_law_words_here", "_law_k", "_law_size_here", "_law_word", "_law_j"]
theorem scLWords : FnScope nmLWords ["_law_draws_here", "_law_many"] (defScope stLWords) := ⟨rfl, rfl, rfl, by decide +kernel, rfl, by decide +kernel, by decide +kernel⟩
abbrev stLNumber : Stmt := topS 49
abbrev nmLNumber : List Str := ["_law_draws_here", "_law_script"]
theorem scLNumber : FnScope nmLNumber ["_law_draws_here", "_law_script"] (defScope stLNumber) := ⟨rfl, rfl, rfl, by decide +kernel, rfl, by decide +kernel, by decide +kernel⟩
abbrev stLAnySchema : Stmt := topS 50
abbrev nmLAnySchema : List Str := ["_law_draws_here", "_law_words_here", "_law_many", "_law_names", "_law_found", "_law_name", "_law_total", "_law_key_here", "_law_letter"]
theorem scLAnySchema : FnScope nmLAnySchema ["_law_draws_here", "_law_words_here"] (defScope stLAnySchema) := ⟨rfl, rfl, rfl, by decide +kernel, rfl, by decide +kernel, by decide +kernel⟩
abbrev stLBroadWorld : Stmt := topS 51
abbrev nmLBroadWorld : List Str := ["_law_draws_here", "_law_script", "_law_words_here", "_law_schema_here", "_law_low", "_law_values_here"]
theorem scLBroadWorld : FnScope nmLBroadWorld ["_law_draws_here", "_law_script"] (defScope stLBroadWorld) := ⟨rfl, rfl, rfl, by decide +kernel, rfl, by decide +kernel, by decide +kernel⟩
abbrev stLBroadTerm : Stmt := topS 52
abbrev nmLBroadTerm : List Str := ["_law_draws_here", "_law_world_here"]
theorem scLBroadTerm : FnScope nmLBroadTerm ["_law_draws_here", "_law_world_here"] (defScope stLBroadTerm) := ⟨rfl, rfl, rfl, by decide +kernel, rfl, by decide +kernel, by decide +kernel⟩
abbrev stLBroadJoin : Stmt := topS 53
abbrev nmLBroadJoin : List Str := ["_law_draws_here", "_law_world_here", "_law_width", "_law_most", "_law_body", "_law_k", "_law_table_here", "_law_terms", "_law_known", "_law_atom_here", "_law_j", "_law_term_here"]
theorem scLBroadJoin : FnScope nmLBroadJoin ["_law_draws_here", "_law_world_here", "_law_width", "_law_most"] (defScope stLBroadJoin) := ⟨rfl, rfl, rfl, by decide +kernel, rfl, by decide +kernel, by decide +kernel⟩
abbrev stLBroadQuestion : Stmt := topS 54
abbrev nmLBroadQuestion : List Str := ["_law_draws_here", "_law_world_here", "_law_width", "_law_most", "_law_many", "_law_k"]
theorem scLBroadQuestion : FnScope nmLBroadQuestion ["_law_draws_here", "_law_world_here", "_law_width", "_law_most"] (defScope stLBroadQuestion) := ⟨rfl, rfl, rfl, by decide +kernel, rfl, by decide +kernel, by decide +kernel⟩
abbrev stLNearValuation : Stmt := topS 55
abbrev nmLNearValuation : List Str := ["_law_draws_here", "_law_world_here", "_law_main", "_law_mapping", "_law_k", "_law_value_here"]
theorem scLNearValuation : FnScope nmLNearValuation ["_law_draws_here", "_law_world_here", "_law_main"] (defScope stLNearValuation) := ⟨rfl, rfl, rfl, by decide +kernel, rfl, by decide +kernel, by decide +kernel⟩
abbrev stLBroadFacts : Stmt := topS 56
abbrev nmLBroadFacts : List Str := ["_law_draws_here", "_law_world_here", "_law_joins", "_law_many", "_law_main", "_law_atoms", "_law_join_here", "_law_facts_here", "_law_k", "_law_table_here", "_law_row", "_law_atom_here", "_law_mapping", "_law_alike", "_law_x", "_law_j", "_law_term_here", "_law_fact"]
theorem scLBroadFacts : FnScope nmLBroadFacts ["_law_draws_here", "_law_world_here", "_law_joins", "_law_many"] (defScope stLBroadFacts) := ⟨rfl, rfl, rfl, by decide +kernel, rfl, by decide +kernel, by decide +kernel⟩
abbrev stPLaw : Stmt := topS 57
abbrev nmPLaw : List Str := ["_law_script", "_law_draws_here", "_law_world_here", "_law_question_here", "_law_store_here"]
theorem scPLaw : FnScope nmPLaw ["_law_script"] (defScope stPLaw) := ⟨rfl, rfl, rfl, by decide +kernel, rfl, by decide +kernel, by decide +kernel⟩
/-- what the top has left: the defs, and the built-in names that no def hides -/
structure Txt (K : PySem.W.Frag) (mg : Str → Option Value) : Prop where
  dPValueKey : DefAt K mg "value_key" stPValueKey ["value"]
  dPRowKey : DefAt K mg "row_key" stPRowKey ["row"]
  dPSortedRows : DefAt K mg "sorted_rows" stPSortedRows ["rows"]
  dPTableOf : DefAt K mg "table_of" stPTableOf ["schema", "name"]
  dPKeyOf : DefAt K mg "key_of" stPKeyOf ["schema", "fact"]
  dPBlocksOf : DefAt K mg "blocks_of" stPBlocksOf ["schema", "store"]
  dPCountMendings : DefAt K mg "count_mendings" stPCountMendings ["schema", "store"]
  dPMendingAt : DefAt K mg "mending_at" stPMendingAt ["schema", "store", "n"]
  dPBoundValues : DefAt K mg "bound_values" stPBoundValues ["terms", "row", "values"]
  dPFoundValues : DefAt K mg "found_values" stPFoundValues ["store", "join"]
  dPAnswers : DefAt K mg "answers" stPAnswers ["store", "question"]
  dPSurePlainly : DefAt K mg "sure_plainly" stPSurePlainly ["schema", "store", "question"]
  dLDraws : DefAt K mg "_law_draws" stLDraws ["_law_script", "_law_many"]
  dLTake : DefAt K mg "_law_take" stLTake ["_law_draws_here", "_law_many"]
  dLPick : DefAt K mg "_law_pick" stLPick ["_law_draws_here", "_law_row"]
  dLSize : DefAt K mg "_law_size" stLSize ["_law_draws_here", "_law_script"]
  dLSame : DefAt K mg "_law_same" stLSame ["_law_actual", "_law_due"]
  dLPool : DefAt K mg "_law_pool" stLPool ["_law_draws_here", "_law_many"]
  dLValues : DefAt K mg "_law_values" stLValues ["_law_draws_here", "_law_words_here"]
  dLValue : DefAt K mg "_law_value" stLValue ["_law_draws_here", "_law_values_here"]
  dLKey : DefAt K mg "_law_key" stLKey ["_law_value_here"]
  dLRowKey : DefAt K mg "_law_row_key" stLRowKey ["_law_row"]
  dLSorted : DefAt K mg "_law_sorted" stLSorted ["_law_rows"]
  dLSchema : DefAt K mg "_law_schema" stLSchema ["_law_draws_here", "_law_names"]
  dLWorld : DefAt K mg "_law_world" stLWorld ["_law_draws_here"]
  dLTable : DefAt K mg "_law_table" stLTable ["_law_schema_here", "_law_name"]
  dLKeyOf : DefAt K mg "_law_key_of" stLKeyOf ["_law_schema_here", "_law_fact"]
  dLFactKey : DefAt K mg "_law_fact_key" stLFactKey ["_law_fact"]
  dLStore : DefAt K mg "_law_store" stLStore ["_law_facts_here"]
  dLBlocks : DefAt K mg "_law_blocks" stLBlocks ["_law_schema_here", "_law_store_here"]
  dLMendings : DefAt K mg "_law_mendings" stLMendings ["_law_schema_here", "_law_store_here"]
  dLTerm : DefAt K mg "_law_term" stLTerm ["_law_draws_here", "_law_world_here"]
  dLAtom : DefAt K mg "_law_atom" stLAtom ["_law_draws_here", "_law_world_here", "_law_table_here"]
  dLJoin : DefAt K mg "_law_join" stLJoin ["_law_draws_here", "_law_world_here", "_law_width", "_law_simple"]
  dLQuestion : DefAt K mg "_law_question" stLQuestion ["_law_draws_here", "_law_world_here", "_law_width"]
  dLPut : DefAt K mg "_law_put" stLPut ["_law_term_here", "_law_mapping"]
  dLFacts : DefAt K mg "_law_facts" stLFacts ["_law_draws_here", "_law_world_here", "_law_joins", "_law_many"]
  dLGrown : DefAt K mg "_law_grown" stLGrown ["_law_atom_here", "_law_row", "_law_mapping"]
  dLValuations : DefAt K mg "_law_valuations" stLValuations ["_law_store_here", "_law_join_here"]
  dLAnswers : DefAt K mg "_law_answers" stLAnswers ["_law_store_here", "_law_question_here"]
  dLSure : DefAt K mg "_law_sure" stLSure ["_law_schema_here", "_law_store_here", "_law_question_here"]
  dLWords : DefAt K mg "_law_words" stLWords ["_law_draws_here", "_law_many"]
  dLNumber : DefAt K mg "_law_number" stLNumber ["_law_draws_here", "_law_script"]
  dLAnySchema : DefAt K mg "_law_any_schema" stLAnySchema ["_law_draws_here", "_law_words_here"]
  dLBroadWorld : DefAt K mg "_law_broad_world" stLBroadWorld ["_law_draws_here", "_law_script"]
  dLBroadTerm : DefAt K mg "_law_broad_term" stLBroadTerm ["_law_draws_here", "_law_world_here"]
  dLBroadJoin : DefAt K mg "_law_broad_join" stLBroadJoin ["_law_draws_here", "_law_world_here", "_law_width", "_law_most"]
  dLBroadQuestion : DefAt K mg "_law_broad_question" stLBroadQuestion ["_law_draws_here", "_law_world_here", "_law_width", "_law_most"]
  dLNearValuation : DefAt K mg "_law_near_valuation" stLNearValuation ["_law_draws_here", "_law_world_here", "_law_main"]
  dLBroadFacts : DefAt K mg "_law_broad_facts" stLBroadFacts ["_law_draws_here", "_law_world_here", "_law_joins", "_law_many"]
  dPLaw : DefAt K mg "law" stPLaw ["_law_script"]
  misinstance : mg "isinstance" = none
  mstr : mg "str" = none
  mtuple : mg "tuple" = none
  msorted : mg "sorted" = none
  mlist : mg "list" = none
  mdict : mg "dict" = none
  mrange : mg "range" = none
  mlen : mg "len" = none
  mreversed : mg "reversed" = none
  mint : mg "int" = none
  mabs : mg "abs" = none
  mbool : mg "bool" = none
section
variable {X : Cx}
/-- a built-in class as a value -/
theorem pe_ty {x : Str} {n : String} {pos : Pos} (hm : X.mg x = none) (hv : bootBuiltins x = some (.type n)) (hg : Gl X x := by rfl) (hn : x ≠ "__name__" := by decide) (hd : (x == ("__debug__" : Str)) = false := by decide) : PE X (.Name x pos) (tC (.ty n)) :=
  pe_bltn hg hm hv rfl hn hd
end
end EM
namespace EM
open PySem PySem.Spec PyProof.Rows L2
theorem sz_lt {n : Nat} (h : n < 10000000) : n < sizeLine := Nat.lt_of_lt_of_le h (by rw [sizeLine_eq]; decide)
theorem sz_le {n : Nat} (h : n ≤ 10000000) : n ≤ sizeLine := Nat.le_trans h (by rw [sizeLine_eq]; decide)
/-- a store to a list keeps the tuples -/
theorem TK.lst {H : Hp} {p : Addr} {xs : List V} {o : HO} (h : H p = some (.lst xs)) : TK H (upd H p o) := ⟨fun b u e k => by
  rw [upd_ne (ne_of e h (by intro z; rw [z] at k; exact k))]
  exact e⟩
theorem TK.new {H : Hp} {p : Addr} {o : HO} (h : H p = none) : TK H (upd H p o) := ⟨fun b u e k => by
  rw [upd_ne (ne_of_none e h)]
  exact e⟩
section
variable {J : It} {n : Nat} {G : Hp → Prop} {it : Nat → V → Prop} {m : Option Addr} {g : TG} {te : TE} {tt : TT} {vs : List Nat} {σ : L2.St} {H1 : Hp} {Q : Addr → Hp → Prop}
theorem dne {H : Hp} {D : Addr} (hd : ∀ a, m = some a → DrawsOk H a) (n : H D = none) : m ≠ some D := fun z => by
  obtain ⟨ds, e⟩ := hd D z
  rw [e] at n
  cases n
/-- a comprehension without a test: what each turn gives is told by Pd -/
theorem gather (w : Walk J n G fun i H x H' => H' = H ∧ it i x) (hG : ∀ H, St m H1 H → G H) (hd : ∀ a, m = some a → DrawsOk H1 a) (hn : n < 1000000) (Pd : Nat → V → Hp → Prop)
    (mono : ∀ i v H H', TK H H' → Pd i v H → Pd i v H')
    (turn : ∀ i x H, i < n → it i x → St m H1 H → ∀ R : VK, (∀ v H', St m H H' → Pd i v H' → R v H') → g x (wipe σ vs) H fun σ2 H2 => wipe σ2 vs = wipe σ vs ∧ te σ2 H2 R)
    (done : ∀ D xs H', St m H1 H' → H1 D = none → H' D = some (.lst xs) → xs.length = n → (∀ (i : Nat) (v : V), xs[i]? = some v → Pd i v H') → Q D H')
    (gmono : ∀ x σ H Q Q', (∀ σ2 H2, Q σ2 H2 → Q' σ2 H2) → g x σ H Q → g x σ H Q') :
    ∀ D, H1 D = none → ∃ W : Nat → Nat → Hp → Prop, (∃ k, W 0 k (upd H1 D (.lst []))) ∧ ∀ i k H, W i k H →
      (J.stop i H ∧ Q D H) ∨ (J.go i H ∧ ∃ Nx : Hp → Prop, (∀ H', Nx H' → ∃ k', k' < k ∧ W (i + 1) k' H') ∧ ∀ x H', J.yld i H x H' → g x (wipe σ vs) H' fun σ2 H2 => wipe σ2 vs = wipe σ vs ∧ tYes σ2 H2 fun b H3 =>
        if b = true then te σ2 H3 fun y H4 => ∃ acc, H4 D = some (.lst acc) ∧ acc.length < sizeLine ∧ Nx (upd H4 D (.lst (acc ++ [y]))) else Nx H3) := by
  intro D nD
  refine lc_it (tt := tYes) w (fun i H => St m H1 H ∧ ∃ xs, H D = some (.lst xs) ∧ xs.length = i ∧ ∀ (k : Nat) (v : V), xs[k]? = some v → Pd k v H)
    ⟨(St.refl m H1).mut nD, [], upd_same, rfl, fun k v e => by simp at e⟩ (fun i H _ p => hG H p.1) (fun i x H H' hi p y => ?_) (fun H p => ?_)
  · obtain ⟨e, y⟩ := y
    subst e
    obtain ⟨s, xs, hx, hl, hp⟩ := p
    refine gmono _ _ _ _ _ ?_ (turn i x H' hi y s (fun v H4 => ∃ acc, H4 D = some (.lst acc) ∧ acc.length < sizeLine ∧ (St m H1 (upd H4 D (.lst (acc ++ [v]))) ∧ ∃ ys, (upd H4 D (.lst (acc ++ [v]))) D = some (.lst ys) ∧ ys.length = i + 1 ∧ ∀ (k : Nat) (u : V), ys[k]? = some u → Pd k u (upd H4 D (.lst (acc ++ [v])))))
      (fun v H4 s4 pd => ?_))
    · rintro σ2 H2 ⟨e1, e2⟩
      refine ⟨e1, ?_⟩
      delta tYes
      exact iteT e2
    · have h4 : H4 D = some (.lst xs) := s4.keep D _ hx (dne hd nD)
      refine ⟨xs, h4, sz_lt (by omega), (s.trans s4).mut nD, xs ++ [v], upd_same, by simp [hl], fun k u e => ?_⟩
      refine mono k u H4 _ (.lst h4) ?_
      by_cases hk : k < xs.length
      · rw [List.getElem?_append_left hk] at e
        exact mono k u H' _ s4.tup (hp k u e)
      · have hk2 : k = xs.length := by
          have := (List.getElem?_eq_some_iff.mp e).1
          simp at this
          omega
        subst hk2
        rw [List.getElem?_append_right (Nat.le_refl _)] at e
        simp at e
        subst e
        rw [hl]
        exact pd
  · obtain ⟨s, xs, hx, hl, hp⟩ := p
    exact done D xs H s nD hx hl hp
/-- a comprehension that maps and leaves out: the datum of each item is told by φ -/
theorem gatherD {α β : Type} {l : List α} {φ : α → Option β} {enc : β → PyData} (w : Walk J n G fun i H x H' => H' = H ∧ it i x) (hl : l.length = n) (hG : ∀ H, St m H1 H → G H) (hd : ∀ a, m = some a → DrawsOk H1 a) (hn : n < 1000000)
    (turn : ∀ i x H a, l[i]? = some a → it i x → St m H1 H → ∀ (R : VK) (N : Hp → Prop), (∀ v H' b, St m H H' → φ a = some b → Den H' (enc b) v → R v H') → (∀ H', St m H H' → φ a = none → N H') →
      g x (wipe σ vs) H fun σ2 H2 => wipe σ2 vs = wipe σ vs ∧ tt σ2 H2 fun b H3 => if b = true then te σ2 H3 R else N H3)
    (done : ∀ D xs H', St m H1 H' → H1 D = none → H' D = some (.lst xs) → DenL H' ((l.filterMap φ).map enc) xs → Q D H') :
    ∀ D, H1 D = none → ∃ W : Nat → Nat → Hp → Prop, (∃ k, W 0 k (upd H1 D (.lst []))) ∧ ∀ i k H, W i k H →
      (J.stop i H ∧ Q D H) ∨ (J.go i H ∧ ∃ Nx : Hp → Prop, (∀ H', Nx H' → ∃ k', k' < k ∧ W (i + 1) k' H') ∧ ∀ x H', J.yld i H x H' → g x (wipe σ vs) H' fun σ2 H2 => wipe σ2 vs = wipe σ vs ∧ tt σ2 H2 fun b H3 =>
        if b = true then te σ2 H3 fun y H4 => ∃ acc, H4 D = some (.lst acc) ∧ acc.length < sizeLine ∧ Nx (upd H4 D (.lst (acc ++ [y]))) else Nx H3) := by
  intro D nD
  refine lc_it w (fun i H => St m H1 H ∧ ∃ xs, H D = some (.lst xs) ∧ DenL H (((l.take i).filterMap φ).map enc) xs)
    ⟨(St.refl m H1).mut nD, [], upd_same, by rw [List.take_zero]; exact .nil⟩ (fun i H _ p => hG H p.1) (fun i x H H' hi p y => ?_) (fun H p => ?_)
  · obtain ⟨e, y⟩ := y
    subst e
    obtain ⟨s, xs, hx, hp⟩ := p
    obtain ⟨a, ha⟩ : ∃ a, l[i]? = some a := ⟨_, List.getElem?_eq_getElem (by omega)⟩
    have et : l.take (i + 1) = l.take i ++ [a] := by rw [List.take_add_one, ha]; rfl
    refine turn i x H' a ha y s _ _ (fun v H4 b s4 hb db => ?_) (fun H4 s4 hb => ?_)
    · have h4 : H4 D = some (.lst xs) := s4.keep D _ hx (dne hd nD)
      have hlen : xs.length ≤ i := by
        rw [hp.mlen]
        refine Nat.le_trans (List.length_filterMap_le _ _) ?_
        rw [List.length_take]
        exact Nat.min_le_left _ _
      refine ⟨xs, h4, sz_lt (by omega), (s.trans s4).mut nD, xs ++ [v], upd_same, ?_⟩
      have e1 : ((l.take (i + 1)).filterMap φ) = (l.take i).filterMap φ ++ [b] := by rw [et, List.filterMap_append]; simp [hb]
      rw [e1]
      exact (DenL.tk (s4.tup.trans (.lst h4)) _ _ hp).msnoc (Den.tk (.lst h4) _ _ db)
    · have h4 : H4 D = some (.lst xs) := s4.keep D _ hx (dne hd nD)
      have e1 : ((l.take (i + 1)).filterMap φ) = (l.take i).filterMap φ := by rw [et, List.filterMap_append]; simp [hb]
      exact ⟨s.trans s4, xs, h4, by rw [e1]; exact s4.denL hp⟩
  · obtain ⟨s, xs, hx, hp⟩ := p
    rw [← hl, List.take_length] at hp
    exact done D xs H s nD hx hp
theorem gname_mono {j : Nat} : ∀ x σ H Q Q', (∀ σ2 H2, Q σ2 H2 → Q' σ2 H2) → gName j x σ H Q → gName j x σ H Q' := fun _ _ _ _ _ f h => f _ _ h
end
section
variable {X : Cx}
/-- tuple(xs), the new tuple's object told -/
def rTupZ (K : PySem.W.Frag) : List V → Hp → VK → Prop := fun xs H Q => ∃ p ys, xs = [.ref p] ∧ SqL K H p ys ∧ ∀ l o, H l = none → o.dict = none → Q (.ref l) (upd H l (.frz o (.tup ys)))
theorem tupZ (K : PySem.W.Frag) (hK : X.K = K := by rfl) : CallR X (.type "tuple") (rTupZ K) := by
  subst hK
  intro pins s σ H xs us Q I r ⟨p, ys, hxs, hq, q⟩
  subst hxs
  obtain ⟨u, rfl, rx⟩ := vals1 r
  cases rx
  obtain ⟨its, r', pl, hz⟩ := I.list hq
  have hlen := r'.length
  refine call_tuple_list pl.isList (fun h' kp => ?_) (by simp only [List.size_toArray] <;> omega)
  have I1 : Inv X pins σ H { s with heap := h' } := I.kept (t' := s.toks) kp
  have I2 : Inv X pins σ (upd H h'.objs.size (.frz { cls := .type "tuple", data := .seq its.toArray } (.tup ys))) { s with heap := h'.push { cls := .type "tuple", data := .seq its.toArray } } :=
    I1.laid (t' := s.toks) (fun b o e => Heap.get?_push_of_some _ e) (Nat.le_refl _) (show ObjOk X.prog X.w _ _ _ (.frz _ (.tup ys)) from ⟨Heap.get?_push_size _ rfl, hz, its, r', IsTup.new _ _⟩)
  exact ⟨.ref h'.objs.size, _, I2, rfl, q _ _ (I1.hok.fresh (Nat.le_refl _)) rfl⟩
end
theorem SqT.z {K : PySem.W.Frag} {H : Hp} {p : Addr} {o : Obj} {xs : List V} (h : H p = some (.frz o (.tup xs))) : SqT K H p xs := .inl (.inr ⟨o, h⟩)
/-- a statement's ways meet behind it in P -/
def tCut (t : TS) : TS := fun D σ H => ∃ P : L2.St → Hp → Prop, t { D with nx := P } σ H ∧ ∀ σ' H', P σ' H' → D.nx σ' H'
theorem ps_cut {X : Cx} {st : Stmt} {t : TS} (h : PS X st t) : PS X st (tCut t) := ⟨fun pins s σ H D I hh => by
  obtain ⟨P, h1, h2⟩ := hh
  refine thn (h.run pins s σ H { D with nx := P } I h1) fun f s' q => ?_
  cases f with
  | next =>
    obtain ⟨σ', H', I', q'⟩ := q
    exact ⟨σ', H', I', h2 _ _ q'⟩
  | brk => exact q
  | cont => exact q
  | ret u => exact q⟩
/-- walks -/
theorem wkR {n : Nat} : Walk (Itr 0 n) n (fun _ => True) fun i H x H' => H' = H ∧ x = .int (i : Int) :=
  (walk_range (lo := 0) (n := n)).mono (fun _ h => h) fun i H x H' _ _ y => ⟨y.1, by rw [y.2]; show V.int (0 + (i : Int)) = _; rw [Int.zero_add]⟩
theorem wkL {K : PySem.W.Frag} {a : Addr} {xs : List V} : Walk (Itl K a) xs.length (fun H => SqL K H a xs) fun i H x H' => H' = H ∧ xs[i]? = some x := walk_list
theorem wkT {K : PySem.W.Frag} {a : Addr} {xs : List V} : Walk (Itt K a) xs.length (fun H => SqT K H a xs) fun i H x H' => H' = H ∧ xs[i]? = some x := walk_tup
end EM
/-! what the defs compute, in plain words of Lean -/
namespace EM
open PySem PySem.Spec PyProof.Rows L2
/-! ### orders -/
def kLt : Key → Key → Bool
  | .inl i, .inl j => decide (i < j)
  | .inl _, .inr _ => true
  | .inr _, .inl _ => false
  | .inr x, .inr y => decide (x.cps.toList < y.cps.toList)
def rLt : Row → Row → Bool
  | [], [] => false
  | [], _ :: _ => true
  | _ :: _, [] => false
  | a :: r, b :: s => if a = b then rLt r s else kLt a b
def fLt (f g : Fact) : Bool := if f.1 = g.1 then rLt f.2 g.2 else decide (f.1.cps.toList < g.1.cps.toList)
/-! ### tables, keys, blocks, mendings -/
def tabOf (S : List Tab) (n : Str) : Option Tab := S.find? fun t => decide (t.1 = n)
def keyN (S : List Tab) (n : Str) : Nat := (tabOf S n).elim 0 (·.2.1)
def keyOf (S : List Tab) (f : Fact) : Row := f.2.take (keyN S f.1)
def Fits (S : List Tab) (n : Str) (k : Nat) : Prop := ∃ t ∈ S, t.1 = n ∧ t.2.1 + t.2.2 = k
structure WfS (S : List Tab) : Prop where
  ne : S ≠ []
  nd : (S.map (·.1)).Nodup
  few : S.length ≤ 20
  small : ∀ t ∈ S, t.2.1 + t.2.2 ≤ 8
def FactOk (S : List Tab) (f : Fact) : Prop := Fits S f.1 f.2.length
def AtomOk (S : List Tab) (a : Atom) : Prop := Fits S a.1 a.2.length
structure JoinOk (S : List Tab) (n : Nat) (j : Join) : Prop where
  atoms : ∀ a ∈ j.2, AtomOk S a
  few : j.2.length ≤ 3
  wide : j.1.length = n
  vars : ∀ x, Tm.var x ∈ j.1 → ∃ a ∈ j.2, Tm.var x ∈ a.2
structure QOk (S : List Tab) (n : Nat) (qs : List Join) : Prop where
  joins : ∀ j ∈ qs, JoinOk S n j
  few : qs.length ≤ 3
/-- the program's grouping, by a dict -/
def addP (S : List Tab) (bs : List Block) (f : Fact) : List Block :=
  if (bs.any fun b => decide ((b.1, b.2.1) = (f.1, keyOf S f))) = true then bs.map fun b => if (b.1, b.2.1) = (f.1, keyOf S f) then (b.1, b.2.1, b.2.2 ++ [f.2]) else b
  else bs ++ [(f.1, keyOf S f, [f.2])]
def groupsP (S : List Tab) (fs : List Fact) : List Block := fs.foldl (addP S) []
/-- the law's grouping, of neighbours -/
def addL (S : List Tab) (bs : List Block) (f : Fact) : List Block :=
  match bs.getLast? with
  | some b => if (b.1, b.2.1) = (f.1, keyOf S f) then bs.dropLast ++ [(f.1, keyOf S f, b.2.2 ++ [f.2])] else bs ++ [(f.1, keyOf S f, [f.2])]
  | none => bs ++ [(f.1, keyOf S f, [f.2])]
def groupsL (S : List Tab) (fs : List Fact) : List Block := fs.foldl (addL S) []
def count (bs : List Block) : Nat := bs.foldl (fun n b => n * b.2.2.length) 1
def digs : List Block → Nat → List Fact
  | [], _ => []
  | b :: r, n => (b.1, b.2.2.getD (n % b.2.2.length) []) :: digs r (n / b.2.2.length)
def mendAt (bs : List Block) (n : Nat) : List Fact := (digs bs.reverse n).reverse
def mends (bs : List Block) : List (List Fact) := bs.foldl (fun found b => found.flatMap fun m => b.2.2.map fun r => m ++ [(b.1, r)]) [[]]
/-! ### valuations, answers -/
def lookM (m : Mapping) (x : Str) : Option Key := (m.find? fun p => decide (p.1 = x)).map (·.2)
/-- a term with the values of a mapping put in -/
def putM (m : Mapping) : Tm → Tm
  | .var x => match lookM m x with
    | some v => .val v
    | none => .var x
  | .val v => .val v
def grow : List Tm → Row → Mapping → Option Mapping
  | t :: ts, v :: vs, m => match putM m t with
    | .var x => grow ts vs (m ++ [(x, v)])
    | .val c => if c = v then grow ts vs m else none
  | _, _, m => some m
def stepV (store : List Fact) (found : List Mapping) (a : Atom) : List Mapping :=
  found.flatMap fun m => (store.filter fun f => decide (f.1 = a.1)).filterMap fun f => grow a.2 f.2 m
def valsOf (store : List Fact) (j : Join) : List Mapping := j.2.foldl (stepV store) [[]]
def rowOf (m : Mapping) (ts : List Tm) : Row := ts.map fun t => (putM m t).worth
def rowsOf (store : List Fact) (qs : List Join) : List Row := qs.flatMap fun j => (valsOf store j).map fun m => rowOf m j.1
/-- out is rs in ascending order, each once -/
structure Sorts (rs out : List Row) : Prop where
  up : out.Pairwise fun r s => rLt r s = true
  mem : ∀ r, r ∈ out ↔ r ∈ rs
structure SureP (S : List Tab) (store : List Fact) (qs : List Join) (out : List Row) : Prop where
  up : out.Pairwise fun r s => rLt r s = true
  mem : ∀ r, r ∈ out ↔ ∀ n, n < count (groupsP S store) → r ∈ rowsOf (mendAt (groupsP S store) n) qs
structure SureL (S : List Tab) (store : List Fact) (qs : List Join) (out : List Row) : Prop where
  up : out.Pairwise fun r s => rLt r s = true
  mem : ∀ r, r ∈ out ↔ r ∈ rowsOf store qs ∧ ∀ m, m ∈ mends (groupsL S store) → r ∈ rowsOf m qs
structure StoreOk (S : List Tab) (fs : List Fact) : Prop where
  fit : ∀ f ∈ fs, FactOk S f
  few : fs.length ≤ 7
  up : fs.Pairwise fun f g => fLt f g = true
/-! ### the law's world in the heap -/
structure WorldAt (a : Addr) (H : Hp) (wd : Addr) (S : List Tab) (vars : List Str) (vals : List Key) : Prop where
  ex : ∃ s vr vl xs, H wd = some (.lst [.ref s, .ref vr, .ref vl]) ∧ H s = some (.tup xs) ∧ DenL H (S.map eTab) xs ∧ H vr = some (.lst (vars.map V.str)) ∧ H vl = some (.lst (vals.map kV)) ∧ wd ≠ a ∧ vr ≠ a ∧ vl ≠ a
  wf : WfS S
  nv : 0 < vars.length
  nl : 3 ≤ vals.length
theorem WorldAt.st {a wd : Addr} {H H' : Hp} {S : List Tab} {vars : List Str} {vals : List Key} (s : EM.St (some a) H H') (W : WorldAt a H wd S vars vals) : WorldAt a H' wd S vars vals := by
  obtain ⟨⟨b, vr, vl, xs, h1, h2, h3, h4, h5, n1, n2, n3⟩, wf, nv, nl⟩ := W
  have ne : ∀ {c : Addr}, c ≠ a → some a ≠ some c := fun h z => h (Option.some.inj z).symm
  exact ⟨⟨b, vr, vl, xs, s.keep _ _ h1 (ne n1), s.tup _ _ h2, s.denL h3, s.keep _ _ h4 (ne n2), s.keep _ _ h5 (ne n3), n1, n2, n3⟩, wf, nv, nl⟩
theorem WfS.uniq {S : List Tab} (w : WfS S) : ∀ {t u : Tab}, t ∈ S → u ∈ S → t.1 = u.1 → t = u := by
  have key : ∀ (S : List Tab), (S.map (·.1)).Nodup → ∀ {t u : Tab}, t ∈ S → u ∈ S → t.1 = u.1 → t = u := by
    intro S
    induction S with
    | nil => intro _ t u h; exact absurd h (by simp)
    | cons x S ih =>
      intro nd t u ht hu e
      rw [List.map_cons, List.nodup_cons] at nd
      rcases List.mem_cons.mp ht with h1 | h1
      · rcases List.mem_cons.mp hu with h2 | h2
        · rw [h1, h2]
        · subst h1
          exact absurd (List.mem_map.mpr ⟨u, h2, e.symm⟩ : t.1 ∈ S.map (·.1)) nd.1
      · rcases List.mem_cons.mp hu with h2 | h2
        · subst h2
          exact absurd (List.mem_map.mpr ⟨t, h1, e⟩ : u.1 ∈ S.map (·.1)) nd.1
        · exact ih nd.2 h1 h2 e
  intro t u
  exact key S w.nd
theorem WfS.fits {S : List Tab} (w : WfS S) {n : Str} {k l : Nat} (h : Fits S n k) (h' : Fits S n l) : k = l := by
  obtain ⟨t, ht, e1, e2⟩ := h
  obtain ⟨u, hu, e3, e4⟩ := h'
  obtain rfl := w.uniq ht hu (e1.trans e3.symm)
  omega
theorem tabOf_some {S : List Tab} {n : Str} {k : Nat} (h : Fits S n k) : ∃ t, tabOf S n = some t ∧ t ∈ S ∧ t.1 = n := by
  obtain ⟨t, ht, e, _⟩ := h
  unfold tabOf
  cases q : S.find? fun t => decide (t.1 = n) with
  | none => exact absurd (decide_eq_true e) (List.find?_eq_none.mp q t ht)
  | some u => exact ⟨u, rfl, List.mem_of_find?_eq_some q, of_decide_eq_true (List.find?_some (p := fun t : Tab => decide (t.1 = n)) q)⟩
end EM
namespace EM
open PySem PySem.Spec PyProof.Rows L2
section
variable {P : Program} {w : World} {K : PySem.W.Frag} {mg : Str → Option Value} {base : Heap}
/-! ### the next draw -/
def spTake : Sp := fun vs H Q _ => ∃ (a : Addr) (m : Nat), vs = [.ref a, .int (m : Int)] ∧ DrawsOk H a ∧ 0 < m ∧ ∀ (n : Nat) H', St (some a) H H' → n < m → Q (.int (n : Int)) H'
theorem hasLTake (T : Txt K mg) : Has P w K mg base 1 "_law_take" ["_law_draws_here", "_law_many"] spTake := by
  refine T.dLTake.has scLTake (fun vs H Q E h => ?_) (fun f cdv A outer s H vs Q E hr h => ?_)
  · obtain ⟨a, m, rfl, _⟩ := h
    rfl
  · obtain ⟨a, m, rfl, hd, hm, q⟩ := h
    obtain ⟨ds, ha⟩ := id hd
    refine ⟨_,
      (pss_cons (ps_if (pt_cmpR op_eq (pe_callB (lenS K) (by rfl) T.mlen PySem.boot_len (pa_cons (pv 0) pa_nil)) pe_int (nomark _))
        (pss_one (ps_ret pe_int))
        pss_nil)
      (pss_one (ps_ret (pe_op op_mod (pe_callTy call_int1 (by rfl) T.mint (by decide +kernel) (pa_cons (pe_bm0 PySem.F.plainAttrs_list PySem.F.slot_list_pop PySem.F.type_list_pop mt_pop (pv 0)) pa_nil)) (pv 1))))), ?_⟩
    refine ⟨.ref a, rfl, a, _, rfl, .inl (SqL.of ha), rfl, _, rfl, ite2 (fun e => ?_) (fun e => ?_)⟩
    · exact q 0 H (St.refl _ _) hm
    · have hl : ds ≠ [] := fun z => e (by subst z; exact decide_eq_true rfl)
      have hx : (ds.map dV)[(ds.map dV).length - 1]? = some (dV (ds.getLast hl)) := by
        rw [← List.getLast?_eq_getElem?, List.getLast?_map, List.getLast?_eq_some_getLast hl]
        rfl
      refine ⟨.ref a, rfl, .inl ⟨rfl, _, SqL.of ha⟩, a, _, _, rfl, rfl, ha, hx, .inl ⟨_, rfl, ?_⟩⟩
      refine ⟨.int (m : Int), rfl, _, _, rfl, rfl, (by show (0 : Int) < (m : Int); omega), ?_⟩
      have e1 : ((ds.getLast hl : Nat) : Int) % (m : Int) = ((ds.getLast hl % m : Nat) : Int) := by omega
      show Q (.int (((ds.getLast hl : Nat) : Int) % (m : Int))) _
      rw [e1]
      refine q _ _ ?_ (Nat.mod_lt _ hm)
      rw [← List.map_dropLast]
      exact St.draw _ hd
/-! ### one of a row -/
def spPick : Sp := fun vs H Q _ => ∃ (a r : Addr) (xs : List V), vs = [.ref a, .ref r] ∧ DrawsOk H a ∧ (H r = some (.lst xs) ∨ H r = some (.tup xs)) ∧ r ≠ a ∧ 0 < xs.length ∧ ∀ x H', St (some a) H H' → x ∈ xs → Q x H'
theorem hasLPick (T : Txt K mg) : Has P w K mg base 2 "_law_pick" ["_law_draws_here", "_law_row"] spPick := by
  refine T.dLPick.has scLPick (fun vs H Q E h => ?_) (fun f cdv A outer s H vs Q E hr h => ?_)
  · obtain ⟨a, r, xs, rfl, _⟩ := h
    rfl
  · obtain ⟨a, r, xs, rfl, hd, hx, hra, hl, q⟩ := h
    refine ⟨_,
      (pss_one (ps_ret (pe_ix (ixQ K) (pv 1) (pe_own (hasLTake T) hr (by decide) (by rfl) (pa_cons (pv 0) (pa_cons (pe_callB (lenS K) (by rfl) T.mlen PySem.boot_len (pa_cons (pv 1) pa_nil)) pa_nil))) (fun _ _ => rfl)))), ?_⟩
    have hs : SqL K H r xs ∨ SqT K H r xs := hx.elim (fun z => .inl (SqL.of z)) fun z => .inr (SqT.of z)
    refine ⟨.ref r, rfl, .ref a, rfl, .ref r, rfl, r, xs, rfl, hs, a, xs.length, rfl, hd, hl, fun n H' st hn => ?_⟩
    have hg : xs[n]? = some xs[n] := List.getElem?_eq_getElem hn
    have kp : ∀ o, H r = some o → H' r = some o := fun o e => st.keep r o e (fun z => hra (Option.some.inj z).symm)
    rcases hx with hx | hx
    · exact .inl ⟨r, xs, n, _, rfl, rfl, SqL.of (kp _ hx), atI_nat hg, q _ _ st (List.getElem_mem hn)⟩
    · exact .inr (.inl ⟨r, xs, n, _, rfl, rfl, SqT.of (kp _ hx), atI_nat hg, q _ _ st (List.getElem_mem hn)⟩)
end
end EM
namespace EM
open PySem PySem.Spec PyProof.Rows L2
theorem dV_of {z : Int} (h : 0 ≤ z) : V.int z = dV z.toNat := by
  unfold dV
  rw [Int.toNat_of_nonneg h]
theorem imod (i n : Nat) : ((0 : Int) + (i : Int)) % (n : Int) = ((i % n : Nat) : Int) := by
  rw [Int.zero_add]
  rfl
section
variable {P : Program} {w : World} {K : PySem.W.Frag} {mg : Str → Option Value} {base : Heap}
/-! ### the draws -/
def spDraws (K : PySem.W.Frag) : Sp := fun vs H Q _ => ∃ (l : Addr) (ns : List Int), vs = [.ref l, .int 700] ∧ SqL K H l (ns.map V.int) ∧ ns.length ≤ 63 ∧ ∀ a H', Same H H' → H a = none → DrawsOk H' a → Q (.ref a) H'
theorem hasLDraws (T : Txt K mg) : Has P w K mg base 1 "_law_draws" ["_law_script", "_law_many"] (spDraws K) := by
  refine T.dLDraws.has scLDraws (fun vs H Q E h => ?_) (fun f cdv A outer s H vs Q E hr h => ?_)
  · obtain ⟨a, m, rfl, _⟩ := h
    rfl
  · obtain ⟨l, ns, rfl, hS, hl, q⟩ := h
    refine ⟨_,
      (pss_cons (ps_setLc (i := 2) (own := [("_law_cell", 8)]) (g := (gName 8)) (tt := tYes) rfl scLDraws.nd rfl rfl (sw_true rfl rfl rfl (by decide +kernel)) (itL K (pv 0)) (blkOk_by (N := nmLDraws) (sc := defScope stLDraws) (by decide +kernel)) (fun _ _ _ _ _ => (pg_name (i := 8) scLDraws.nd rfl (Or.inl rfl))) (fun _ _ _ _ _ => pts_nil) (fun _ _ _ _ _ => (pe_callTy call_int1 (by rfl) T.mint (by decide +kernel) (pa_cons (pv 8) pa_nil))))
      (pss_cons (ps_cut (ps_if (pt_cmpR op_eq (pe_callB (lenS K) (by rfl) T.mlen PySem.boot_len (pa_cons (pv 2) pa_nil)) pe_int (nomark _))
        (pss_one (ps_expr (pe_bm PySem.F.plainAttrs_list PySem.F.slot_list_append PySem.F.type_list_append mt_append (pv 2) (pa_cons pe_int pa_nil))))
        pss_nil))
      (pss_cons (ps_set (i := 3) scLDraws.nd rfl (.inl rfl) (pe_callTy (lstOf K) (by rfl) T.mlist (by decide +kernel) (pa_cons (pv 2) pa_nil)))
      (pss_cons (ps_set (i := 4) scLDraws.nd rfl (.inl rfl) (pe_lst pa_nil))
      (pss_cons (ps_for PassesOwn.never rfl (pi_range1 (by rfl) T.mrange (pa_cons (pv 1) pa_nil)) (pg_name (i := 5) scLDraws.nd rfl (Or.inl rfl))
        (pss_cons (ps_set (i := 6) scLDraws.nd rfl (.inl rfl) (pe_op op_mod (pv 5) (pe_callB (lenS K) (by rfl) T.mlen PySem.boot_len (pa_cons (pv 2) pa_nil))))
        (pss_one (ps_if (pt_cmpR op_ge (pe_ix (ixL K) (pv 2) (pv 6) (fun _ _ => rfl)) (pe_op op_pow pe_int pe_int) (nomark _))
          (pss_cons (ps_expr (pe_bm PySem.F.plainAttrs_list PySem.F.slot_list_append PySem.F.type_list_append mt_append (pv 4) (pa_cons (pe_op op_mod (pe_callTy call_int1 (by rfl) T.mint (by decide +kernel) (pa_cons (pe_ix (ixL K) (pv 3) (pv 6) (fun _ _ => rfl)) pa_nil)) pe_int) pa_nil)))
          (pss_one (ps_asg (pe_op op_fdiv (pe_ix (ixL K) (pv 3) (pv 6) (fun _ _ => rfl)) pe_int) (pg_sub (pv 3) (pv 6) set_list))))
          (pss_cons (ps_set (i := 7) scLDraws.nd rfl (.inl rfl) (pe_op op_mod (pe_callTy call_int1 (by rfl) T.mint (by decide +kernel) (pa_cons (pe_op op_add (pe_op op_add (pe_op op_mul (pe_ix (ixL K) (pv 2) (pv 6) (fun _ _ => rfl)) pe_int) (pe_op op_mul (pv 5) pe_int)) pe_int) pa_nil)) pe_int))
          (pss_one (ps_expr (pe_bm PySem.F.plainAttrs_list PySem.F.slot_list_append PySem.F.type_list_append mt_append (pv 4) (pa_cons (pe_op op_mod (pe_callTy call_int1 (by rfl) T.mint (by decide +kernel) (pa_cons (pe_op op_add (pe_op op_add (pe_op op_mul (pv 7) (pv 7)) (pe_op op_mul pe_int (pv 7))) (pv 5)) pa_nil)) pe_int) pa_nil)))))))))
      (pss_cons (ps_expr (pe_bm0 PySem.F.plainAttrs_list PySem.F.slot_list_reverse PySem.F.type_list_reverse mt_reverse (pv 4)))
      (pss_one (ps_ret (pv 4))))))))), ?_⟩
    -- the cells
    refine ⟨.ref l, rfl, l, rfl, ⟨_, hS⟩, gather (m := none) wkL (fun H s => s.same.seq hS) (fun _ z => nomatch z) (by rw [List.length_map]; omega) (fun i v _ => ∀ z, ns[i]? = some z → v = .int z) (fun _ _ _ _ _ h => h)
      (fun i x H hi hx s R k => ?_) (fun D xs H1 s1 nD hD hlen hp => ?_) gname_mono⟩
    · rw [List.getElem?_map] at hx
      obtain ⟨z, hz, rfl⟩ := Option.map_eq_some_iff.mp hx
      exact ⟨rfl, .int z, rfl, .inl ⟨z, rfl, k _ _ (.refl _ _) fun y e => by rw [hz] at e; rw [Option.some.inj e]⟩⟩
    · have exs : xs = ns.map V.int := by
        apply List.ext_getElem?
        intro i
        rw [List.getElem?_map]
        by_cases hi : i < ns.length
        · have hx : i < xs.length := by rw [hlen, List.length_map]; exact hi
          rw [List.getElem?_eq_getElem hi, List.getElem?_eq_getElem hx]
          rw [hp i _ (List.getElem?_eq_getElem hx) _ (List.getElem?_eq_getElem hi)]
          rfl
        · rw [List.getElem?_eq_none (l := ns) (by omega), List.getElem?_eq_none (l := xs) (by rw [hlen, List.length_map]; omega)]
          rfl
      subst exs
      -- an empty script has one cell
      refine ⟨fun σ' H' => σ' = [some (.ref l), some (.int 700), some (.ref D), none, none, none, none, none, none] ∧ ∃ cs : List Int, St none H H' ∧ H' D = some (.lst (cs.map V.int)) ∧ 0 < cs.length ∧ cs.length ≤ 63, ?_, ?_⟩
      · refine ⟨.ref D, rfl, D, _, rfl, .inl (SqL.of hD), rfl, _, rfl, ite2 (fun e => ?_) (fun e => ?_)⟩
        · have e0 : (((ns.map V.int).length : Nat) : Int) = 0 := V.int.inj (of_decide_eq_true e)
          have e1 : ns = [] := List.eq_nil_of_length_eq_zero (by rw [List.length_map] at e0; omega)
          subst e1
          exact ⟨.ref D, rfl, .inl ⟨rfl, _, SqL.of hD⟩, D, _, _, rfl, rfl, hD, sz_lt (by decide), rfl, [0], s1.mut nD, upd_same, by decide, by decide⟩
        · refine ⟨rfl, ns, s1, hD, ?_, hl⟩
          cases ns with
          | nil => exact absurd (decide_eq_true rfl) e
          | cons _ _ => exact Nat.succ_pos _
      rintro σ' H2 ⟨rfl, cs, s2, h2, hc0, hc⟩
      -- rest = list(cells), draws = []
      refine ⟨.ref D, rfl, D, _, rfl, .inl (SqL.of h2), fun L nL => ⟨Nat.zero_le _, fun B nB => ?_⟩⟩
      have DL : D ≠ L := ne_of_none h2 nL
      have h2' : (upd H2 L (.lst (cs.map V.int))) D = some (.lst (cs.map V.int)) := by rw [upd_ne DL]; exact h2
      have DB : D ≠ B := ne_of_none h2' nB
      have LB : L ≠ B := ne_of_none upd_same nB
      have nB2 : H2 B = none := by rw [upd_ne LB.symm] at nB; exact nB
      have nL0 := s2.free0 nL
      have nB0 := s2.free0 nB2
      refine ⟨.int 700, rfl, 700, rfl, by decide, by decide, for_range (lo := 0) (n := 700) (fun i σ H3 => ∃ y5 y6 y7 : Option V, σ = [some (.ref l), some (.int 700), some (.ref D), some (.ref L), some (.ref B), y5, y6, y7, none] ∧ ∃ (rs : List Int) (ds : List Nat),
        St none H H3 ∧ H3 D = some (.lst (cs.map V.int)) ∧ H3 L = some (.lst (rs.map V.int)) ∧ rs.length = cs.length ∧ H3 B = some (.lst (ds.map dV)) ∧ ds.length ≤ i)
        ⟨none, none, none, rfl, cs, [], (s2.mut nL0).mut nB0, by rw [upd_ne DB]; exact h2', by rw [upd_ne LB, upd_same], rfl, upd_same, Nat.le_refl _⟩ ?_ ?_⟩
      · rintro i σ H3 hi ⟨y5, y6, y7, rfl, rs, ds, s3, eD, eL, hrl, eB, hds⟩
        have hj : i % cs.length < cs.length := Nat.mod_lt _ hc0
        have ej : ((0 : Int) + (i : Int)) % ((cs.map V.int).length : Nat) = ((i % cs.length : Nat) : Int) := by rw [List.length_map]; exact imod _ _
        have gc : (cs.map V.int)[i % cs.length]? = some (.int (cs[i % cs.length]'hj)) := by rw [List.getElem?_map, List.getElem?_eq_getElem hj]; rfl
        have hj2 : i % cs.length < rs.length := by omega
        have gr : (rs.map V.int)[i % cs.length]? = some (.int (rs[i % cs.length]'hj2)) := by rw [List.getElem?_map, List.getElem?_eq_getElem hj2]; rfl
        -- at = k % len(cells)
        refine ⟨_, rfl, .ref D, rfl, D, _, rfl, .inl (SqL.of eD), _, _, rfl, rfl, (by rw [List.length_map]; show (0 : Int) < (cs.length : Nat); omega), ?_⟩
        dsimp only
        rw [ej]
        -- cells[at] >= 10 ** 18
        refine ⟨.ref D, rfl, _, rfl, D, _, _, _, rfl, rfl, SqL.of eD, atI_nat gc, 10, 18, rfl, rfl, ⟨by decide, by decide, by decide⟩, _, _, rfl, rfl, _, rfl, ite2 (fun e => ?_) (fun e => ?_)⟩
        · -- draws.append(int(rest[at]) % 1000)
          refine ⟨.ref B, rfl, .inl ⟨rfl, _, SqL.of eB⟩, .ref L, rfl, _, rfl, L, _, _, _, rfl, rfl, SqL.of eL, atI_nat gr, .inl ⟨_, rfl, _, _, rfl, rfl, (by show (0 : Int) < 1000; decide), B, _, _, rfl, rfl, eB, sz_lt (by rw [List.length_map]; omega), ?_⟩⟩
          dsimp only
          rw [dV_of (Int.emod_nonneg _ (by decide))]
          have eL2 : (upd H3 B (.lst (ds.map dV ++ [dV ((rs[i % cs.length]'hj2) % 1000).toNat]))) L = some (.lst (rs.map V.int)) := by rw [upd_ne LB]; exact eL
          -- rest[at] = rest[at] // 1000
          refine ⟨.ref L, rfl, _, rfl, L, _, _, _, rfl, rfl, SqL.of eL2, atI_nat gr, _, _, rfl, rfl, ⟨by decide, by decide⟩, .ref L, rfl, _, rfl, L, _, _, i % cs.length, rfl, rfl, eL2, ?_, ?_⟩
          · unfold ixN
            rw [if_pos (by omega), if_pos (by rw [List.length_map]; omega)]
            rfl
          · refine ⟨_, _, _, rfl, rs.set (i % cs.length) ((rs[i % cs.length]'hj2) / 1000), ds ++ [((rs[i % cs.length]'hj2) % 1000).toNat], (s3.mut nB0).mut nL0, ?_, ?_, ?_, ?_, ?_⟩
            · rw [upd_ne DL, upd_ne DB]; exact eD
            · rw [upd_same, List.map_set]
            · rw [List.length_set]; exact hrl
            · rw [upd_ne LB.symm, upd_same, List.map_append]; rfl
            · rw [List.length_append]; show ds.length + 1 ≤ i + 1; omega
        · -- mixed
          refine ⟨.ref D, rfl, _, rfl, D, _, _, _, rfl, rfl, SqL.of eD, atI_nat gc, _, 48271, rfl, rfl, .inr ⟨by decide, by decide⟩, _, rfl, _, 69621, rfl, rfl, .inr ⟨by decide, by decide⟩, _, _, rfl, rfl, _, 11, rfl, rfl, .inl ⟨_, rfl, _, 2147483647, rfl, rfl, (by show (0 : Int) < 2147483647; decide), ?_⟩⟩
          have m0 := Int.emod_nonneg ((cs[i % cs.length]'hj) * 48271 + (0 + (i : Int)) * 69621 + 11) (show (2147483647 : Int) ≠ 0 by decide)
          have m1 := Int.emod_lt_of_pos ((cs[i % cs.length]'hj) * 48271 + (0 + (i : Int)) * 69621 + 11) (show (0 : Int) < 2147483647 by decide)
          dsimp only
          generalize ((cs[i % cs.length]'hj) * 48271 + (0 + (i : Int)) * 69621 + 11) % 2147483647 = mx at m0 m1
          refine ⟨.ref B, rfl, .inl ⟨rfl, _, SqL.of eB⟩, _, rfl, _, rfl, mx, mx, rfl, rfl, .inl ⟨by omega, by omega⟩, _, rfl, 3, mx, rfl, rfl, .inl ⟨by decide, by decide⟩, _, _, rfl, rfl, _, rfl, _, _, rfl, rfl, .inl ⟨_, rfl, _, 1000003, rfl, rfl, (by show (0 : Int) < 1000003; decide),
            B, _, _, rfl, rfl, eB, sz_lt (by rw [List.length_map]; omega), ?_⟩⟩
          dsimp only
          rw [dV_of (Int.emod_nonneg _ (by decide))]
          refine ⟨_, _, _, rfl, rs, ds ++ [((mx * mx + 3 * mx + (0 + (i : Int))) % 1000003).toNat], s3.mut nB0, by rw [upd_ne DB]; exact eD, by rw [upd_ne LB]; exact eL, hrl, ?_, ?_⟩
          · rw [upd_same, List.map_append]; rfl
          · rw [List.length_append]; show ds.length + 1 ≤ i + 1; omega
      · rintro σ H3 ⟨y5, y6, y7, rfl, rs, ds, s3, eD, eL, hrl, eB, hds⟩
        refine ⟨.ref B, rfl, .inl ⟨rfl, _, SqL.of eB⟩, B, _, rfl, rfl, eB, .ref B, rfl, q B _ (s3.mut nB0).same nB0 ⟨ds.reverse, ?_⟩⟩
        rw [upd_same, List.map_reverse]
end
end EM
namespace EM
open PySem PySem.Spec PyProof.Rows L2
/-! ### texts -/
def abc : Str := "abcdefghijklmnopqrstuvwxyz"
theorem abc_len : abc.length = 26 := by decide +kernel
theorem abc_at : ∀ k, k < 26 → abc.cps[k]? = some (97 + k) := by decide +kernel
theorem empty_len : ("" : Str).length = 0 := by decide +kernel
theorem join_len (ys : List Str) : (Txt.join "" ys).length = (ys.map (·.length)).sum := by
  cases ys with
  | nil => rfl
  | cons a r =>
    show (Builtin.Str.glued "" (a :: r)).length = _
    rw [StrLaws.glued_eq_join, PyProof.Rows.len_join_cons, empty_len, Nat.mul_zero, Nat.add_zero]
theorem strs_of {Pr : Str → Prop} : ∀ (xs : List V), (∀ v ∈ xs, ∃ y, v = .str y ∧ Pr y) → ∃ ys : List Str, xs = ys.map V.str ∧ ∀ y ∈ ys, Pr y
  | [], _ => ⟨[], rfl, fun y h => absurd h (by simp)⟩
  | v :: xs, h => by
    obtain ⟨y, rfl, hy⟩ := h v List.mem_cons_self
    obtain ⟨ys, rfl, hs⟩ := strs_of xs fun u hu => h u (List.mem_cons_of_mem _ hu)
    exact ⟨y :: ys, rfl, fun z hz => (List.mem_cons.mp hz).elim (fun e => e ▸ hy) (hs z)⟩
theorem sum_const : ∀ {ys : List Str} {c : Nat}, (∀ y ∈ ys, y.length = c) → (ys.map (·.length)).sum = ys.length * c
  | [], c, _ => by simp
  | y :: ys, c, h => by
    rw [List.map_cons, List.sum_cons, h y List.mem_cons_self, sum_const fun z hz => h z (List.mem_cons_of_mem _ hz), List.length_cons, Nat.succ_mul, Nat.add_comm]
theorem le_sum {ys : List Str} {y : Str} (h : y ∈ ys) : y.length ≤ (ys.map (·.length)).sum := by
  induction ys with
  | nil => exact absurd h (by simp)
  | cons z ys ih =>
    rw [List.map_cons, List.sum_cons]
    rcases List.mem_cons.mp h with e | h
    · rw [e]; omega
    · have := ih h; omega
theorem inV_strs {w : Str} : ∀ {ws : List Str}, inV (.str w) (ws.map V.str) = decide (w ∈ ws)
  | [] => by simp [inV]
  | x :: ws => by
    have ih := inV_strs (w := w) (ws := ws)
    have e : inV (.str w) ((x :: ws).map V.str) = ((x == w) || inV (.str w) (ws.map V.str)) := rfl
    rw [e, ih]
    by_cases h : x = w
    · subst h; simp
    · have h2 : ¬ w = x := fun z => h z.symm
      simp [h, h2]
theorem flat_strs (ws : List Str) : (ws.map V.str).all flatV = true := by
  rw [List.all_eq_true]
  intro x hx
  obtain ⟨w, _, rfl⟩ := List.mem_map.mp hx
  rfl
theorem nodup_snoc {α : Type} {l : List α} {x : α} (h : l.Nodup) (hx : ¬ x ∈ l) : (l ++ [x]).Nodup := by
  rw [List.nodup_append]
  refine ⟨h, by simp, fun a ha b hb e => ?_⟩
  rw [List.mem_singleton] at hb
  subst hb
  subst e
  exact hx ha
/-- a word of single letters: joined, its length is their number -/
theorem St.kp {a b : Addr} {H H' : Hp} {o : HO} (s : EM.St (some a) H H') (h : H b = some o) (n : b ≠ a) : H' b = some o := s.keep b o h fun z => n (Option.some.inj z).symm
theorem St.mutD {a p : Addr} {H H' : Hp} {o : HO} (s : EM.St (some a) H H') (d : DrawsOk H a) (n : H p = none) : EM.St (some a) H (upd H' p o) := s.mut n
section
variable {X : Cx}
theorem sortS (K : PySem.W.Frag) (hK : X.K = K := by rfl) : CallR X (.builtin "sorted") (rSortedS K) := hK ▸ cr_sortedS
end
/-- one of the letters, drawn -/
theorem item26 {R : VK} {n : Nat} {H : Hp} (hn : n < 26) (q : R (.str ⟨#[97 + n]⟩) H) : ∃ (z : Str) (i : Int) (c : Nat), V.str abc = .str z ∧ V.int (n : Int) = .int i ∧ 0 ≤ i ∧ i < 2 ^ 63 ∧ i < z.length ∧ z.cps[i.toNat]? = some c ∧ R (.str ⟨#[c]⟩) H :=
  ⟨abc, n, 97 + n, rfl, rfl, by omega, by omega, by rw [abc_len]; omega, by rw [Int.toNat_natCast]; exact abc_at n hn, q⟩
section
variable {P : Program} {w : World} {K : PySem.W.Frag} {mg : Str → Option Value} {base : Heap}
/-! ### a size, a number -/
def spSize (K : PySem.W.Frag) : Sp := fun vs H Q _ => ∃ (a l : Addr) (ns : List Int), vs = [.ref a, .ref l] ∧ DrawsOk H a ∧ (∀ H', EM.St (some a) H H' → SqL K H' l (ns.map V.int)) ∧ ∀ z H', EM.St (some a) H H' → Q (.int z) H'
theorem hasLSize (T : Txt K mg) : Has P w K mg base 2 "_law_size" ["_law_draws_here", "_law_script"] (spSize K) := by
  refine T.dLSize.has scLSize (fun vs H Q E h => ?_) (fun f cdv A outer s H vs Q E hr h => ?_)
  · obtain ⟨a, l, ns, rfl, _⟩ := h
    rfl
  · obtain ⟨a, l, ns, rfl, hd, hS, q⟩ := h
    refine ⟨_,
      (pss_cons (ps_set (i := 2) scLSize.nd rfl (.inl rfl) (pe_own (hasLTake T) hr (by decide) (by rfl) (pa_cons (pv 0) (pa_cons pe_int pa_nil))))
      (pss_cons (ps_if (pt_cmpR op_lt (pv 2) pe_int (nomark _))
        (pss_one (ps_ret (pe_own (hasLTake T) hr (by decide) (by rfl) (pa_cons (pv 0) (pa_cons pe_int pa_nil)))))
        pss_nil)
      (pss_cons (ps_if (pt_cmpR op_eq (pv 2) pe_int (nomark _))
        (pss_one (ps_ret (pe_own (hasLTake T) hr (by decide) (by rfl) (pa_cons (pv 0) (pa_cons pe_int pa_nil)))))
        pss_nil)
      (pss_cons (ps_if (PW.pt (pw_or (pt_cmpR op_eq (pv 2) pe_int (nomark _)) (pw_or1 (pt_cmpR op_eq (pe_callB (lenS K) (by rfl) T.mlen PySem.boot_len (pa_cons (pv 1) pa_nil)) pe_int (nomark _)))))
        (pss_cons (ps_set (i := 3) scLSize.nd rfl (.inl rfl) pe_int)
        (pss_cons (ps_for PassesOwn.never rfl (pi_range1 (by rfl) T.mrange (pa_cons pe_int pa_nil)) (pg_name (i := 4) scLSize.nd rfl (Or.inl rfl))
          (pss_one (ps_set (i := 3) scLSize.nd rfl (.inl rfl) (pe_op op_add (pe_op op_mul (pv 3) pe_int) (pe_own (hasLTake T) hr (by decide) (by rfl) (pa_cons (pv 0) (pa_cons pe_int pa_nil)))))))
        (pss_one (ps_ret (pv 3)))))
        pss_nil)
      (pss_one (ps_ret (pe_callB call_abs (by rfl) T.mabs (by decide +kernel) (pa_cons (pe_callTy call_int1 (by rfl) T.mint (by decide +kernel) (pa_cons (pe_ix (ixL K) (pv 1) (pe_own (hasLTake T) hr (by decide) (by rfl) (pa_cons (pv 0) (pa_cons (pe_callB (lenS K) (by rfl) T.mlen PySem.boot_len (pa_cons (pv 1) pa_nil)) pa_nil))) (fun _ _ => rfl)) pa_nil)) pa_nil)))))))), ?_⟩
    refine ⟨.ref a, rfl, a, 8, rfl, hd, by decide, fun n0 H1 s1 hn0 => ?_⟩
    have d1 := s1.draws hd
    refine ⟨_, rfl, _, _, rfl, rfl, _, rfl, ite2 (fun e => ?_) (fun e => ?_)⟩
    · exact ⟨.ref a, rfl, a, 12, rfl, d1, by decide, fun n H2 s2 hn => q _ _ (s1.trans s2)⟩
    refine ⟨_, rfl, rfl, _, rfl, ite2 (fun e => ?_) (fun e => ?_)⟩
    · exact ⟨.ref a, rfl, a, 100, rfl, d1, by decide, fun n H2 s2 hn => q _ _ (s1.trans s2)⟩
    have big : EM.St (some a) H H1 → tSeq (tAsg (tC (.int 0)) (gName 3)) (tSeq (tFor (iRng1 (tCons (tC (.int 5)) tNil)) (gName 4) (tAsg (tOp (rI0 fun i j => .int (i + j)) (tOp (rI CMul fun i j => .int (i * j)) (tVar 3) (tC (.int 1000))) (tCall spTake [] E0 (tCons (tVar 0) (tCons (tC (.int 1000)) tNil)))) (gName 3))) (tRet (tVar 3)))
        { nx := fun _ _ => True, rt := Q } [some (.ref a), some (.ref l), some (.int (n0 : Int)), none, none] H1 := fun _ => by
      refine ⟨5, rfl, by decide, by decide, for_range (lo := 0) (n := 5) (fun i σ H2 => ∃ (z : Int) (y : Option V), σ = [some (.ref a), some (.ref l), some (.int (n0 : Int)), some (.int z), y] ∧ EM.St (some a) H H2) ⟨0, none, rfl, s1⟩ ?_ ?_⟩
      · rintro i σ H2 hi ⟨z, y, rfl, s2⟩
        refine ⟨_, rfl, _, 1000, rfl, rfl, .inr ⟨by decide, by decide⟩, .ref a, rfl, a, 1000, rfl, s2.draws hd, by decide, fun n H3 s3 hn => ⟨_, _, rfl, rfl, z * 1000 + n, _, rfl, s2.trans s3⟩⟩
      · rintro σ H2 ⟨z, y, rfl, s2⟩
        exact ⟨_, rfl, q _ _ s2⟩
    refine ⟨_, rfl, rfl, _, rfl, ite2 (fun e => big s1) (fun e => ?_)⟩
    refine ⟨.ref l, rfl, l, _, rfl, .inl (hS _ s1), rfl, _, rfl, ite2 (fun e => big s1) (fun e => ?_)⟩
    have hl : 0 < ns.length := by
      cases ns with
      | nil => exact absurd (decide_eq_true rfl) e
      | cons _ _ => exact Nat.succ_pos _
    refine ⟨.ref l, rfl, .ref a, rfl, .ref l, rfl, l, _, rfl, .inl (hS _ s1), a, (ns.map V.int).length, rfl, d1, by rw [List.length_map]; exact hl, fun n H2 s2 hn => ?_⟩
    rw [List.length_map] at hn
    have g : (ns.map V.int)[n]? = some (.int ns[n]) := by rw [List.getElem?_map, List.getElem?_eq_getElem hn]; rfl
    exact ⟨l, _, _, _, rfl, rfl, hS _ (s1.trans s2), atI_nat g, .inl ⟨_, rfl, _, rfl, q _ _ (s1.trans s2)⟩⟩
def spNumber (K : PySem.W.Frag) : Sp := spSize K
theorem hasLNumber (T : Txt K mg) : Has P w K mg base 3 "_law_number" ["_law_draws_here", "_law_script"] (spNumber K) := by
  refine T.dLNumber.has scLNumber (fun vs H Q E h => ?_) (fun f cdv A outer s H vs Q E hr h => ?_)
  · obtain ⟨a, l, ns, rfl, _⟩ := h
    rfl
  · obtain ⟨a, l, ns, rfl, hd, hS, q⟩ := h
    refine ⟨_,
      (pss_one (ps_ret (pe_op op_mul (pe_own (hasLSize T) hr (by decide) (by rfl) (pa_cons (pv 0) (pa_cons (pv 1) pa_nil))) (pe_op op_sub pe_int (pe_op op_mul pe_int (pe_own (hasLTake T) hr (by decide) (by rfl) (pa_cons (pv 0) (pa_cons pe_int pa_nil)))))))), ?_⟩
    refine ⟨.ref a, rfl, .ref l, rfl, a, l, ns, rfl, hd, hS, fun z H1 s1 => ?_⟩
    refine ⟨.ref a, rfl, a, 2, rfl, s1.draws hd, by decide, fun n H2 s2 hn => ?_⟩
    refine ⟨2, _, rfl, rfl, .inl ⟨by decide, by decide⟩, 1, _, rfl, rfl, z, _, rfl, rfl, .inr ⟨?_, ?_⟩, q _ _ (s1.trans s2)⟩
    · show -(2 ^ 64) < 1 - 2 * (n : Int); omega
    · show 1 - 2 * (n : Int) < 2 ^ 64; omega
end
end EM
namespace EM
open PySem PySem.Spec PyProof.Rows L2
section
variable {P : Program} {w : World} {K : PySem.W.Frag} {mg : Str → Option Value} {base : Heap}
/-! ### words -/
def spWords (many : Nat) : Sp := fun vs H Q _ => ∃ (a : Addr), vs = [.ref a, .int (many : Int)] ∧ DrawsOk H a ∧
  ∀ (l : Addr) (ws : List Str) H', EM.St (some a) H H' → H l = none → H' l = some (.lst (ws.map V.str)) → ws.length = many → ws.Nodup → (∀ x ∈ ws, x.length ≤ 1000) → Q (.ref l) H'
theorem hasLPool (T : Txt K mg) : Has P w K mg base 2 "_law_pool" ["_law_draws_here", "_law_many"] (spWords 8) := by
  refine T.dLPool.has scLPool (fun vs H Q E h => ?_) (fun f cdv A outer s H vs Q E hr h => ?_)
  · obtain ⟨a, rfl, _⟩ := h
    rfl
  · obtain ⟨a, rfl, hd, q⟩ := h
    refine ⟨_,
      (pss_cons (ps_set (i := 2) scLPool.nd rfl (.inl rfl) (pe_lst pa_nil))
      (pss_cons (ps_for PassesOwn.never rfl (pi_range1 (by rfl) T.mrange (pa_cons (pv 1) pa_nil)) (pg_name (i := 3) scLPool.nd rfl (Or.inl rfl))
        (pss_cons (ps_setLc (i := 4) (own := [("_law_j", 6)]) (g := (gName 6)) (tt := tYes) rfl scLPool.nd rfl rfl (sw_true rfl rfl rfl (by decide +kernel)) (pi_range1 (by rfl) T.mrange (pa_cons (pe_op op_add pe_int (pe_own (hasLTake T) hr (by decide) (by rfl) (pa_cons (pv 0) (pa_cons pe_int pa_nil)))) pa_nil)) (blkOk_by (N := nmLPool) (sc := defScope stLPool) (by decide +kernel)) (fun _ _ _ _ _ => (pg_name (i := 6) scLPool.nd rfl (Or.inl rfl))) (fun _ _ _ _ _ => pts_nil) (fun _ _ _ _ _ => (pe_item_str pe_str (pe_own (hasLTake T) hr (by decide) (by rfl) (pa_cons (pv 0) (pa_cons pe_int pa_nil))) (fun _ _ => rfl))))
        (pss_cons (ps_set (i := 5) scLPool.nd rfl (.inl rfl) (pe_join pe_str (pv 4)))
        (pss_cons (ps_cut (ps_if (pt_cmpR (inS K) (pv 5) (pv 2) (by rfl))
          (pss_one (ps_set (i := 5) scLPool.nd rfl (.inl rfl) (pe_op op_add_str (pe_join pe_str (pv 2)) pe_str)))
          pss_nil))
        (pss_one (ps_expr (pe_bm PySem.F.plainAttrs_list PySem.F.slot_list_append PySem.F.type_list_append mt_append (pv 2) (pa_cons (pv 5) pa_nil))))))))
      (pss_one (ps_ret (pv 2))))), ?_⟩
    refine ⟨Nat.zero_le _, fun L nL => ?_⟩
    have aL : a ≠ L := hd.ne nL
    refine ⟨.int 8, rfl, 8, rfl, by decide, by decide, for_range (lo := 0) (n := 8) (fun i σ H3 => ∃ (y3 y4 y5 : Option V) (ws : List Str), σ = [some (.ref a), some (.int 8), some (.ref L), y3, y4, y5, none] ∧ EM.St (some a) H H3 ∧ H3 L = some (.lst (ws.map V.str)) ∧
      ws.length = i ∧ ws.Nodup ∧ (ws.map (·.length)).sum + 3 ≤ 3 * 2 ^ i) ⟨none, none, none, [], rfl, St.new nL, upd_same, rfl, List.nodup_nil, by decide⟩ ?_ ?_⟩
    · rintro i σ H3 hi ⟨y3, y4, y5, ws, rfl, s3, eL, hl, hnd, hsum⟩
      have h2i : 3 * 2 ^ i ≤ 3 * 2 ^ 7 := Nat.mul_le_mul_left _ (Nat.pow_le_pow_right (by decide) (by omega))
      have d3 := s3.draws hd
      -- letters
      refine ⟨.ref a, rfl, a, 3, rfl, d3, by decide, fun n H4 s4 hn => ⟨1, _, rfl, rfl, _, rfl, by omega, by omega, gather (m := some a) (n := (1 + (n : Int)).toNat) wkR (fun _ _ => trivial) (fun b z => by cases z; exact s4.draws d3) (by omega)
        (fun i v _ => ∃ y, v = V.str y ∧ y.length = 1) (fun _ _ _ _ _ h => h) (fun i2 x H5 hi2 hx s5 R k => ?_) (fun D xs H5 s5 nD hD hlen hp => ?_) gname_mono⟩⟩
      · exact ⟨rfl, .ref a, rfl, a, 26, rfl, s5.draws (s4.draws d3), by decide, fun n2 H6 s6 hn2 => item26 hn2 (k _ _ s6 ⟨_, rfl, rfl⟩)⟩
      · obtain ⟨ys, rfl, hy⟩ := strs_of (Pr := fun y => y.length = 1) xs (fun v hv => by
          obtain ⟨j, hj⟩ := List.getElem?_of_mem hv
          exact hp j v hj)
        have hs := sum_const hy
        rw [List.length_map] at hlen
        have s35 : EM.St (some a) H H5 := (s3.trans s4).trans s5
        have eL5 : H5 L = some (.lst (ws.map V.str)) := s5.kp (s4.kp eL aL.symm) aL.symm
        -- word = ''.join(letters)
        refine ⟨⟨_, rfl⟩, .ref D, rfl, _, D, ys, rfl, rfl, .inl (SqL.of hD), by rw [hs, hlen, empty_len]; omega, ?_⟩
        have lw : (Txt.join "" ys).length ≤ 3 := by rw [join_len, hs, hlen]; omega
        generalize Txt.join "" ys = wd at lw
        refine ⟨fun σ' H' => H' = H5 ∧ ∃ w' : Str, σ' = [some (.ref a), some (.int 8), some (.ref L), some (.int (0 + (i : Int))), some (.ref D), some (.str w'), none] ∧ ¬ w' ∈ ws ∧ w'.length ≤ 3 * 2 ^ i, ?_, ?_⟩
        · refine ⟨_, rfl, .ref L, rfl, L, _, rfl, .inl (SqL.of eL5), rfl, flat_strs ws, _, rfl, ite2 (fun e => ?_) (fun e => ?_)⟩
          · have e1 : inV (.str wd) (ws.map V.str) = true := e
            rw [inV_strs] at e1
            have hw := of_decide_eq_true e1
            -- ''.join(pool) + 'z'
            refine ⟨⟨_, rfl⟩, .ref L, rfl, _, L, ws, rfl, rfl, .inl (SqL.of eL5), by rw [empty_len]; omega, _, _, rfl, rfl, ?_, ?_⟩
            · have e2 : ("z" : Str).length = 1 := by decide +kernel
              rw [join_len, e2]
              exact sz_le (by omega)
            · have e2 : ("z" : Str).length = 1 := by decide +kernel
              have e3 : (Txt.join "" ws ++ "z" : Str).length = (ws.map (·.length)).sum + 1 := by rw [Str.length_append, join_len, e2]
              refine ⟨rfl, _, rfl, fun hm => ?_, by omega⟩
              have := le_sum hm
              omega
          · have e1 : ¬ inV (.str wd) (ws.map V.str) = true := e
            rw [inV_strs] at e1
            have hp2 : 1 ≤ 2 ^ i := Nat.one_le_two_pow
            exact ⟨rfl, wd, rfl, fun hm => e1 (decide_eq_true hm), by omega⟩
        · rintro σ' H' ⟨rfl, w', rfl, hnw, hlw⟩
          -- append
          refine ⟨.ref L, rfl, .inl ⟨rfl, _, SqL.of eL5⟩, _, rfl, L, _, _, rfl, rfl, eL5, sz_lt (by rw [List.length_map]; omega), ?_⟩
          refine ⟨_, _, _, ws ++ [w'], rfl, s35.mut nL, ?_, by simp [hl], nodup_snoc hnd hnw, ?_⟩
          · rw [upd_same, List.map_append]; rfl
          · rw [List.map_append, List.sum_append, Nat.pow_succ]
            show (ws.map (·.length)).sum + (w'.length + 0) + 3 ≤ _
            omega
    · rintro σ H3 ⟨y3, y4, y5, ws, rfl, s3, eL, hl, hnd, hsum⟩
      exact ⟨.ref L, rfl, q L ws H3 s3 nL eL hl hnd fun x hx => by have := le_sum hx; omega⟩
/-- the word that stands in for one drawn twice -/
def zw (j : Nat) : Str := ⟨#[122, 122, 122, 122, 97 + j]⟩
theorem zw_eq (j : Nat) : (("zzzz" : Str) ++ (⟨#[97 + j]⟩ : Str)) = zw j := rfl
theorem zw_inj {i j : Nat} (h : zw i = zw j) : i = j := by
  have e := congrArg (fun s : Str => s.cps[4]?) h
  have e2 : some (97 + i) = some (97 + j) := e
  have e3 := Option.some.inj e2
  omega
theorem hasLWords (T : Txt K mg) : Has P w K mg base 2 "_law_words" ["_law_draws_here", "_law_many"] (spWords 10) := by
  refine T.dLWords.has scLWords (fun vs H Q E h => ?_) (fun f cdv A outer s H vs Q E hr h => ?_)
  · obtain ⟨a, rfl, _⟩ := h
    rfl
  · obtain ⟨a, rfl, hd, q⟩ := h
    refine ⟨_,
      (pss_cons (ps_set (i := 2) scLWords.nd rfl (.inl rfl) (pe_lst pa_nil))
      (pss_cons (ps_for PassesOwn.never rfl (pi_range1 (by rfl) T.mrange (pa_cons (pv 1) pa_nil)) (pg_name (i := 3) scLWords.nd rfl (Or.inl rfl))
        (pss_cons (ps_set (i := 4) scLWords.nd rfl (.inl rfl) (pe_op op_add pe_int (pe_own (hasLTake T) hr (by decide) (by rfl) (pa_cons (pv 0) (pa_cons pe_int pa_nil)))))
        (pss_cons (ps_cut (ps_if (pt_cmpR op_eq (pe_own (hasLTake T) hr (by decide) (by rfl) (pa_cons (pv 0) (pa_cons pe_int pa_nil))) pe_int (nomark _))
          (pss_one (ps_set (i := 4) scLWords.nd rfl (.inl rfl) (pe_op op_add (pe_op op_add (pv 4) pe_int) (pe_own (hasLTake T) hr (by decide) (by rfl) (pa_cons (pv 0) (pa_cons pe_int pa_nil))))))
          pss_nil))
        (pss_cons (ps_set (i := 5) scLWords.nd rfl (.inl rfl) (pe_join pe_str (pe_lc (own := [("_law_j", 6)]) (g := (gName 6)) (tt := tYes) rfl scLWords.nd (pi_range1 (by rfl) T.mrange (pa_cons (pv 4) pa_nil)) (blkOk_by (N := nmLWords) (sc := defScope stLWords) (by decide +kernel)) (fun _ _ _ _ _ => (pg_name (i := 6) scLWords.nd rfl (Or.inl rfl))) (fun _ _ _ _ _ => pts_nil) (fun _ _ _ _ _ => (pe_item_str pe_str (pe_own (hasLTake T) hr (by decide) (by rfl) (pa_cons (pv 0) (pa_cons pe_int pa_nil))) (fun _ _ => rfl))))))
        (pss_cons (ps_cut (ps_if (pt_cmpR (inS K) (pv 5) (pv 2) (by rfl))
          (pss_one (ps_set (i := 5) scLWords.nd rfl (.inl rfl) (pe_op op_add_str pe_str (pe_item_str pe_str (pv 3) (fun _ _ => rfl)))))
          pss_nil))
        (pss_one (ps_expr (pe_bm PySem.F.plainAttrs_list PySem.F.slot_list_append PySem.F.type_list_append mt_append (pv 2) (pa_cons (pv 5) pa_nil)))))))))
      (pss_one (ps_ret (pv 2))))), ?_⟩
    refine ⟨Nat.zero_le _, fun L nL => ?_⟩
    have aL : a ≠ L := hd.ne nL
    refine ⟨.int 10, rfl, 10, rfl, by decide, by decide, for_range (lo := 0) (n := 10) (fun i σ H3 => ∃ (y3 y4 y5 : Option V) (ws : List Str), σ = [some (.ref a), some (.int 10), some (.ref L), y3, y4, y5, none] ∧ EM.St (some a) H H3 ∧ H3 L = some (.lst (ws.map V.str)) ∧
      ws.length = i ∧ ws.Nodup ∧ (∀ x ∈ ws, x.length ≤ 100) ∧ ∀ x ∈ ws, x.length = 5 → ∃ j, j < i ∧ x = zw j) ⟨none, none, none, [], rfl, St.new nL, upd_same, rfl, List.nodup_nil, fun x h => absurd h (by simp), fun x h => absurd h (by simp)⟩ ?_ ?_⟩
    · rintro i σ H3 hi ⟨y3, y4, y5, ws, rfl, s3, eL, hl, hnd, hsz, h5⟩
      have d3 := s3.draws hd
      -- size
      refine ⟨.ref a, rfl, a, 3, rfl, d3, by decide, fun n H4 s4 hn => ⟨1, _, rfl, rfl, ?_⟩⟩
      have d4 := s4.draws d3
      refine ⟨fun σ' H' => EM.St (some a) H4 H' ∧ ∃ z : Nat, (z ≤ 3 ∨ 10 ≤ z) ∧ 1 ≤ z ∧ z ≤ 23 ∧ σ' = [some (.ref a), some (.int 10), some (.ref L), some (.int (0 + (i : Int))), some (.int (z : Int)), y5, none], ?_, ?_⟩
      · refine ⟨.ref a, rfl, a, 12, rfl, d4, by decide, fun n2 H5 s5 hn2 => ⟨rfl, _, rfl, ite2 (fun e => ?_) (fun e => ?_)⟩⟩
        · refine ⟨_, rfl, _, 9, rfl, rfl, .ref a, rfl, a, 12, rfl, s5.draws d4, by decide, fun n3 H6 s6 hn3 => ⟨_, _, rfl, rfl, s5.trans s6, 1 + n + 9 + n3, .inr (by omega), by omega, by omega, ?_⟩⟩
          have e1 : ((1 : Int) + (n : Int) + 9 + (n3 : Int)) = ((1 + n + 9 + n3 : Nat) : Int) := by omega
          show [some (V.ref a), some (V.int 10), some (V.ref L), some (V.int (0 + (i : Int))), some (V.int ((1 : Int) + (n : Int) + 9 + (n3 : Int))), y5, none] = _
          rw [e1]
        · refine ⟨s5, 1 + n, .inl (by omega), by omega, by omega, ?_⟩
          have e1 : ((1 : Int) + (n : Int)) = ((1 + n : Nat) : Int) := by omega
          show [some (V.ref a), some (V.int 10), some (V.ref L), some (V.int (0 + (i : Int))), some (V.int ((1 : Int) + (n : Int))), y5, none] = _
          rw [e1]
      · rintro σ' H5 ⟨s5, z, hz1, hz2, hz3, rfl⟩
        have d5 := s5.draws d4
        -- word = ''.join([..])
        refine ⟨⟨_, rfl⟩, _, rfl, _, rfl, by omega, by omega, gather (m := some a) (n := (z : Int).toNat) wkR (fun _ _ => trivial) (fun b z => by cases z; exact d5) (by omega)
          (fun i v _ => ∃ y, v = V.str y ∧ y.length = 1) (fun _ _ _ _ _ h => h) (fun i2 x H6 hi2 hx s6 R k => ?_) (fun D xs H6 s6 nD hD hlen hp => ?_) gname_mono⟩
        · exact ⟨rfl, .ref a, rfl, a, 26, rfl, s6.draws d5, by decide, fun n2 H7 s7 hn2 => item26 hn2 (k _ _ s7 ⟨_, rfl, rfl⟩)⟩
        · obtain ⟨ys, rfl, hy⟩ := strs_of (Pr := fun y => y.length = 1) xs (fun v hv => by
            obtain ⟨j, hj⟩ := List.getElem?_of_mem hv
            exact hp j v hj)
          have hs := sum_const hy
          rw [List.length_map, Int.toNat_natCast] at hlen
          have s36 : EM.St (some a) H H6 := ((s3.trans s4).trans s5).trans s6
          have eL6 : H6 L = some (.lst (ws.map V.str)) := s6.kp (s5.kp (s4.kp eL aL.symm) aL.symm) aL.symm
          refine ⟨_, D, ys, rfl, rfl, .inl (SqL.of hD), by rw [hs, hlen, empty_len]; omega, ?_⟩
          have lw : (Txt.join "" ys).length = z := by rw [join_len, hs, hlen]; omega
          generalize Txt.join "" ys = wd at lw
          refine ⟨fun σ' H' => H' = H6 ∧ ∃ w' : Str, σ' = [some (.ref a), some (.int 10), some (.ref L), some (.int (0 + (i : Int))), some (.int (z : Int)), some (.str w'), none] ∧ ¬ w' ∈ ws ∧ w'.length ≤ 100 ∧ (w'.length = 5 → w' = zw i), ?_, ?_⟩
          · refine ⟨_, rfl, .ref L, rfl, L, _, rfl, .inl (SqL.of eL6), rfl, flat_strs ws, _, rfl, ite2 (fun e => ?_) (fun e => ?_)⟩
            · -- 'zzzz' + a letter
              have e0 : (0 : Int) + (i : Int) = (i : Int) := Int.zero_add _
              refine ⟨_, rfl, ?_⟩
              rw [e0]
              refine ⟨abc, i, 97 + i, rfl, rfl, by omega, by omega, by rw [abc_len]; omega, by rw [Int.toNat_natCast]; exact abc_at i (by omega), _, _, rfl, rfl, sz_le (by show (5 : Nat) ≤ 10000000; decide), ?_⟩
              rw [zw_eq]
              refine ⟨rfl, zw i, rfl, fun hm => ?_, by show (5 : Nat) ≤ 100; decide, fun _ => rfl⟩
              obtain ⟨j, hj, ej⟩ := h5 _ hm rfl
              have := zw_inj ej
              omega
            · have e1 : ¬ inV (.str wd) (ws.map V.str) = true := e
              rw [inV_strs] at e1
              exact ⟨rfl, wd, rfl, fun hm => e1 (decide_eq_true hm), by omega, fun h => absurd h (by omega)⟩
          · rintro σ' H' ⟨rfl, w', rfl, hnw, hlw, hw5⟩
            refine ⟨.ref L, rfl, .inl ⟨rfl, _, SqL.of eL6⟩, _, rfl, L, _, _, rfl, rfl, eL6, sz_lt (by rw [List.length_map]; omega), ?_⟩
            refine ⟨_, _, _, ws ++ [w'], rfl, s36.mut nL, ?_, by simp [hl], nodup_snoc hnd hnw, fun x hx => ?_, fun x hx h => ?_⟩
            · rw [upd_same, List.map_append]; rfl
            · rcases List.mem_append.mp hx with hx | hx
              · exact hsz x hx
              · rw [List.mem_singleton.mp hx]; exact hlw
            · rcases List.mem_append.mp hx with hx | hx
              · obtain ⟨j, hj, e⟩ := h5 x hx h
                exact ⟨j, by omega, e⟩
              · have e := List.mem_singleton.mp hx
                subst e
                exact ⟨i, by omega, hw5 h⟩
    · rintro σ H3 ⟨y3, y4, y5, ws, rfl, s3, eL, hl, hnd, hsz, h5⟩
      exact ⟨.ref L, rfl, q L ws H3 s3 nL eL hl hnd fun x hx => by have := hsz x hx; omega⟩
end
end EM
namespace EM
open PySem PySem.Spec PyProof.Rows L2
theorem cut_take (xs : List V) (n : Nat) : cutV xs none (some (n : Int)) = xs.take n := by
  unfold cutV
  rw [HT.sIx_none, HT.sIx_nat, Nat.sub_zero, List.drop_zero]
  by_cases h : n ≤ xs.length
  · rw [Nat.min_eq_left h]
  · rw [Nat.min_eq_right (by omega), List.take_length, List.take_of_length_le (by omega)]
theorem cut_drop (xs : List V) (n : Nat) : cutV xs (some (n : Int)) none = xs.drop n := by
  unfold cutV
  rw [HT.sIx_none, HT.sIx_nat]
  by_cases h : n ≤ xs.length
  · rw [Nat.min_eq_left h, List.take_of_length_le (by rw [List.length_drop]; omega)]
  · rw [Nat.min_eq_right (by omega), List.drop_length, List.drop_eq_nil_of_le (by omega)]
    simp
theorem cut_mid (xs : List V) (n k : Nat) (h : n ≤ k) (hk : k ≤ xs.length) : cutV xs (some (n : Int)) (some (k : Int)) = (xs.drop n).take (k - n) := by
  unfold cutV
  rw [HT.sIx_nat, HT.sIx_nat, Nat.min_eq_left hk, Nat.min_eq_left (by omega)]
/-- an item of a written list of small numbers -/
theorem lit_at {xs : List Nat} {n : Nat} (h : n < xs.length) : ∃ j, j ∈ xs ∧ (xs.map dV)[n]? = some (dV j) :=
  ⟨xs[n], List.getElem_mem h, by rw [List.getElem?_map, List.getElem?_eq_getElem h]; rfl⟩
section
variable {P : Program} {w : World} {K : PySem.W.Frag} {mg : Str → Option Value} {base : Heap}
def spValues : Sp := fun vs H Q _ => ∃ (a l : Addr) (ws : List Str), vs = [.ref a, .ref l] ∧ DrawsOk H a ∧ H l = some (.lst (ws.map V.str)) ∧ l ≠ a ∧ 2 ≤ ws.length ∧
  ∀ (p : Addr) (ks : List Key) H', EM.St (some a) H H' → H p = none → H' p = some (.lst (ks.map kV)) → 3 ≤ ks.length → Q (.ref p) H'
theorem hasLValues (T : Txt K mg) : Has P w K mg base 2 "_law_values" ["_law_draws_here", "_law_words_here"] spValues := by
  refine T.dLValues.has scLValues (fun vs H Q E h => ?_) (fun f cdv A outer s H vs Q E hr h => ?_)
  · obtain ⟨a, l, ws, rfl, _⟩ := h
    rfl
  · obtain ⟨a, l, ws, rfl, hd, hl, la, h2, q⟩ := h
    refine ⟨_,
      (pss_cons (ps_set (i := 2) scLValues.nd rfl (.inl rfl) (pe_op op_sub (pe_own (hasLTake T) hr (by decide) (by rfl) (pa_cons (pv 0) (pa_cons pe_int pa_nil))) pe_int))
      (pss_cons (ps_set (i := 3) scLValues.nd rfl (.inl rfl) (pe_lst (pa_cons (pv 2) (pa_cons (pe_op op_add (pe_op op_add (pv 2) pe_int) (pe_own (hasLTake T) hr (by decide) (by rfl) (pa_cons (pv 0) (pa_cons pe_int pa_nil)))) (pa_cons (pe_ix (ixL K) (pv 1) pe_int (fun _ _ => rfl)) pa_nil)))))
      (pss_cons (ps_cut (ps_if (pt_cmpR op_eq (pe_own (hasLTake T) hr (by decide) (by rfl) (pa_cons (pv 0) (pa_cons pe_int pa_nil))) pe_int (nomark _))
        (pss_one (ps_asg (pe_ix (ixL K) (pv 1) pe_int (fun _ _ => rfl)) (pg_sub (pv 3) pe_int set_list)))
        pss_nil))
      (pss_one (ps_ret (pv 3)))))), ?_⟩
    refine ⟨.ref a, rfl, a, 7, rfl, hd, by decide, fun n H1 s1 hn => ⟨_, 3, rfl, rfl, ?_⟩⟩
    have d1 := s1.draws hd
    refine ⟨_, rfl, _, rfl, _, 1, rfl, rfl, .ref a, rfl, a, 5, rfl, d1, by decide, fun n2 H2 s2 hn2 => ⟨_, _, rfl, rfl, ?_⟩⟩
    have l2 : H2 l = some (.lst (ws.map V.str)) := s2.kp (s1.kp hl la) la
    have g0 : (ws.map V.str)[0]? = some (.str ws[0]) := by rw [List.getElem?_map, List.getElem?_eq_getElem (by omega)]; rfl
    have g1 : (ws.map V.str)[1]? = some (.str ws[1]) := by rw [List.getElem?_map, List.getElem?_eq_getElem (by omega)]; rfl
    refine ⟨.ref l, rfl, l, _, 0, _, rfl, rfl, SqL.of l2, atI_nat (j := 0) g0, sz_le (by show 3 ≤ 10000000; decide), fun p np => ?_⟩
    have s02 := s1.trans s2
    have d2 := s2.draws d1
    have np0 := s02.freeD hd np
    have ap : a ≠ p := hd.ne np0
    have lp : l ≠ p := ne_of_none hl np0
    have d3 : DrawsOk (upd H2 p (.lst [V.int ((n : Int) - 3), V.int ((n : Int) - 3 + 1 + (n2 : Int)), V.str ws[0]])) a := (St.new np).draws d2
    refine ⟨fun σ' H' => σ' = [some (.ref a), some (.ref l), some (.int ((n : Int) - 3)), some (.ref p)] ∧ EM.St (some a) H H' ∧ ∃ ks : List Key, H' p = some (.lst (ks.map kV)) ∧ ks.length = 3, ?_, ?_⟩
    · refine ⟨.ref a, rfl, a, 3, rfl, d3, by decide, fun n3 H4 s4 hn3 => ⟨rfl, _, rfl, ite2 (fun e => ?_) (fun e => ?_)⟩⟩
      · have l4 : H4 l = some (.lst (ws.map V.str)) := s4.kp (by rw [upd_ne lp]; exact l2) la
        have p4 := s4.kp upd_same ap.symm
        refine ⟨.ref l, rfl, l, _, 1, _, rfl, rfl, SqL.of l4, atI_nat (j := 1) g1, .ref p, rfl, p, _, 1, 1, rfl, rfl, p4, rfl, rfl, ?_, [.inl ((n : Int) - 3), .inr ws[1], .inr ws[0]], ?_, rfl⟩
        · exact (s02.trans ((St.new np).trans s4)).mut np0
        · rw [upd_same]; rfl
      · exact ⟨rfl, s02.trans ((St.new np).trans s4), [.inl ((n : Int) - 3), .inl ((n : Int) - 3 + 1 + (n2 : Int)), .inr ws[0]], s4.kp upd_same ap.symm, rfl⟩
    · rintro σ' H' ⟨rfl, s5, ks, hk, lk⟩
      exact ⟨.ref p, rfl, q p ks H' s5 np0 hk (by omega)⟩
def spValue : Sp := fun vs H Q _ => ∃ (a l : Addr) (ks : List Key), vs = [.ref a, .ref l] ∧ DrawsOk H a ∧ H l = some (.lst (ks.map kV)) ∧ l ≠ a ∧ 3 ≤ ks.length ∧ ∀ (k : Key) H', EM.St (some a) H H' → k ∈ ks → Q (kV k) H'
theorem hasLValue (T : Txt K mg) : Has P w K mg base 2 "_law_value" ["_law_draws_here", "_law_values_here"] spValue := by
  refine T.dLValue.has scLValue (fun vs H Q E h => ?_) (fun f cdv A outer s H vs Q E hr h => ?_)
  · obtain ⟨a, l, ws, rfl, _⟩ := h
    rfl
  · obtain ⟨a, l, ks, rfl, hd, hl, la, h3, q⟩ := h
    refine ⟨_,
      (pss_one (ps_ret (pe_ix (ixL K) (pv 1) (pe_ix (ixL K) (pe_lst (pa_cons pe_int (pa_cons pe_int (pa_cons pe_int (pa_cons pe_int (pa_cons pe_int pa_nil)))))) (pe_own (hasLTake T) hr (by decide) (by rfl) (pa_cons (pv 0) (pa_cons pe_int pa_nil))) (fun _ _ => rfl)) (fun _ _ => rfl)))), ?_⟩
    refine ⟨.ref l, rfl, sz_le (by show 5 ≤ 10000000; decide), fun p np => ?_⟩
    have ap : a ≠ p := hd.ne np
    refine ⟨.ref a, rfl, a, 5, rfl, (St.new np).draws hd, by decide, fun n H1 s1 hn => ?_⟩
    obtain ⟨j, hj, gj⟩ := lit_at (xs := [0, 1, 0, 2, 1]) hn
    have j2 : j < ks.length := by
      have : j ≤ 2 := by
        revert hj
        exact (by decide : ∀ z, z ∈ [0, 1, 0, 2, 1] → z ≤ 2) j
      omega
    have s01 := (St.new (m := some a) np).trans s1
    refine ⟨p, _, n, _, rfl, rfl, SqL.of (s1.kp upd_same ap.symm), atI_nat gj, l, _, (j : Int), _, rfl, rfl, SqL.of (s01.kp hl la), atI_nat (by rw [List.getElem?_map, List.getElem?_eq_getElem j2]; rfl), q _ _ s01 (List.getElem_mem j2)⟩
/-! ### schemas -/
def spSchema : Sp := fun vs H Q _ => ∃ (a l : Addr) (ws : List Str), vs = [.ref a, .ref l] ∧ DrawsOk H a ∧ H l = some (.lst (ws.map V.str)) ∧ l ≠ a ∧ 0 < ws.length ∧ ws.length ≤ 20 ∧ ws.Nodup ∧
  ∀ (v : V) (S : List Tab) H', EM.St (some a) H H' → Den H' (eSchema S) v → WfS S → Q v H'
theorem hasLSchema (T : Txt K mg) : Has P w K mg base 2 "_law_schema" ["_law_draws_here", "_law_names"] spSchema := by
  refine T.dLSchema.has scLSchema (fun vs H Q E h => ?_) (fun f cdv A outer s H vs Q E hr h => ?_)
  · obtain ⟨a, l, ws, rfl, _⟩ := h
    rfl
  · obtain ⟨a, l, ws, rfl, hd, hl, la, h0, h20, hnd, q⟩ := h
    refine ⟨_,
      (pss_cons (ps_set (i := 2) scLSchema.nd rfl (.inl rfl) (pe_lst pa_nil))
      (pss_cons (ps_for PassesOwn.never rfl (itL K (pe_callB (sortS K) (by rfl) T.msorted (by decide +kernel) (pa_cons (pv 1) pa_nil))) (pg_name (i := 3) scLSchema.nd rfl (Or.inl rfl))
        (pss_cons (ps_set (i := 4) scLSchema.nd rfl (.inl rfl) (pe_ix (ixL K) (pe_lst (pa_cons pe_int (pa_cons pe_int (pa_cons pe_int (pa_cons pe_int (pa_cons pe_int (pa_cons pe_int (pa_cons pe_int (pa_cons pe_int pa_nil))))))))) (pe_own (hasLTake T) hr (by decide) (by rfl) (pa_cons (pv 0) (pa_cons pe_int pa_nil))) (fun _ _ => rfl)))
        (pss_cons (ps_set (i := 5) scLSchema.nd rfl (.inl rfl) (pe_ix (ixL K) (pe_lst (pa_cons pe_int (pa_cons pe_int (pa_cons pe_int (pa_cons pe_int (pa_cons pe_int (pa_cons pe_int (pa_cons pe_int (pa_cons pe_int pa_nil))))))))) (pe_own (hasLTake T) hr (by decide) (by rfl) (pa_cons (pv 0) (pa_cons pe_int pa_nil))) (fun _ _ => rfl)))
        (pss_one (ps_expr (pe_bm PySem.F.plainAttrs_list PySem.F.slot_list_append PySem.F.type_list_append mt_append (pv 2) (pa_cons (pe_tup (pa_cons (pv 3) (pa_cons (pv 4) (pa_cons (pv 5) pa_nil)))) pa_nil)))))))
      (pss_one (ps_ret (pe_callTy (tupOf K) (by rfl) T.mtuple (by decide +kernel) (pa_cons (pv 2) pa_nil)))))), ?_⟩
    refine ⟨Nat.zero_le _, fun L nL => ?_⟩
    have aL : a ≠ L := hd.ne nL
    have lL : l ≠ L := ne_of_none hl nL
    refine ⟨.ref l, rfl, l, ws, rfl, SqL.of (by rw [upd_ne lL]; exact hl), by omega, fun ys p hperm _ np => ?_⟩
    have Lp : L ≠ p := ne_of_none upd_same np
    have np0 : H p = none := by rw [upd_ne Lp.symm] at np; exact np
    have ap : a ≠ p := hd.ne np0
    have yl : ys.length = ws.length := hperm.length_eq
    refine ⟨p, rfl, ⟨_, SqL.of upd_same⟩, for_list (K := K) (a := p) (xs := ys.map V.str) (fun i σ H3 => ∃ (y3 y4 y5 : Option V) (S : List Tab) (xs : List V), σ = [some (.ref a), some (.ref l), some (.ref L), y3, y4, y5] ∧ EM.St (some a) H H3 ∧
      H3 L = some (.lst xs) ∧ H3 p = some (.lst (ys.map V.str)) ∧ DenL H3 (S.map eTab) xs ∧ S.map (·.1) = ys.take i ∧ ∀ t ∈ S, t.2.1 + t.2.2 ≤ 8)
      ⟨none, none, none, [], [], rfl, ((St.refl _ _).mut nL).mut np0, by rw [upd_ne Lp, upd_same], upd_same, .nil, by rw [List.take_zero]; rfl, fun t h => absurd h (by simp)⟩
      (fun i σ H3 _ h => by obtain ⟨_, _, _, _, _, _, _, _, h, _⟩ := h; exact SqL.of h) ?_ ?_⟩
    · rintro i y σ H3 hi ⟨y3, y4, y5, S, xs, rfl, s3, eL, ep, hS, hn, hsm⟩
      rw [List.getElem?_map] at hi
      obtain ⟨wd, hw, rfl⟩ := Option.map_eq_some_iff.mp hi
      have d3 := s3.draws hd
      -- key
      refine ⟨sz_le (by show 8 ≤ 10000000; decide), fun p1 np1 => ?_⟩
      refine ⟨.ref a, rfl, a, 8, rfl, (St.new np1).draws d3, by decide, fun n1 H4 s4 hn1 => ?_⟩
      obtain ⟨j1, hj1, gj1⟩ := lit_at (xs := [1, 1, 1, 2, 0, 1, 1, 3]) hn1
      refine ⟨p1, _, n1, _, rfl, rfl, SqL.of (s4.kp upd_same (d3.ne np1).symm), atI_nat gj1, ?_⟩
      have s34 := (St.new (m := some a) np1).trans s4
      have d4 := s34.draws d3
      -- rest
      refine ⟨sz_le (by show 8 ≤ 10000000; decide), fun p2 np2 => ?_⟩
      refine ⟨.ref a, rfl, a, 8, rfl, (St.new np2).draws d4, by decide, fun n2 H5 s5 hn2 => ?_⟩
      obtain ⟨j2, hj2, gj2⟩ := lit_at (xs := [1, 1, 1, 2, 0, 1, 1, 3]) hn2
      refine ⟨p2, _, n2, _, rfl, rfl, SqL.of (s5.kp upd_same (d4.ne np2).symm), atI_nat gj2, ?_⟩
      have s45 := (St.new (m := some a) np2).trans s5
      have s35 := s34.trans s45
      have eL5 : H5 L = some (.lst xs) := s35.kp eL aL.symm
      have ep5 := s35.kp ep ap.symm
      -- append((name, key, rest))
      refine ⟨.ref L, rfl, .inl ⟨rfl, _, SqL.of eL5⟩, _, rfl, _, rfl, _, rfl, sz_le (by show 3 ≤ 10000000; decide), fun t nt => ?_⟩
      have Lt : L ≠ t := ne_of_none eL5 nt
      have eL6 : (upd H5 t (.tup [V.str wd, dV j1, dV j2])) L = some (.lst xs) := by rw [upd_ne Lt]; exact eL5
      have xl : xs.length = S.length := hS.mlen
      have Sl : S.length ≤ 20 := by
        have := congrArg List.length hn
        rw [List.length_map, List.length_take] at this
        omega
      refine ⟨L, _, _, rfl, rfl, eL6, sz_lt (by omega), _, _, _, S ++ [(wd, j1, j2)], _, rfl, ?_, upd_same, ?_, ?_, ?_, ?_⟩
      · exact ((s3.trans s35).trans (St.new nt)).mut nL
      · have pt : p ≠ t := ne_of_none ep5 nt
        rw [upd_ne Lp.symm, upd_ne pt]; exact ep5
      · refine DenL.msnoc (DenL.tk ((s35.tup.trans (.new nt)).trans (.lst eL6)) _ _ hS) (den_tab.mpr ⟨t, rfl, ?_⟩)
        rw [upd_ne Lt.symm, upd_same]
        rfl
      · rw [List.map_append, hn, List.take_add_one, hw]; rfl
      · intro u hu
        rcases List.mem_append.mp hu with hu | hu
        · exact hsm u hu
        · rw [List.mem_singleton.mp hu]
          have b1 : j1 ≤ 3 := (by decide : ∀ z, z ∈ [1, 1, 1, 2, 0, 1, 1, 3] → z ≤ 3) j1 hj1
          have b2 : j2 ≤ 3 := (by decide : ∀ z, z ∈ [1, 1, 1, 2, 0, 1, 1, 3] → z ≤ 3) j2 hj2
          show j1 + j2 ≤ 8
          omega
    · rintro σ H3 ⟨y3, y4, y5, S, xs, rfl, s3, eL, ep, hS, hn, hsm⟩
      rw [List.length_map, List.take_length] at hn
      have Sl : S.length = ys.length := by rw [← hn, List.length_map]
      refine ⟨.ref L, rfl, L, xs, rfl, .inl ⟨SqL.of eL, fun t nt => ?_⟩⟩
      refine q _ S _ (s3.trans (St.new nt)) (den_map.mpr ⟨t, xs, rfl, upd_same, DenL.tk (.new nt) _ _ hS⟩) ⟨fun z => ?_, ?_, by omega, hsm⟩
      · rw [z] at Sl
        have : ys.length = 0 := Sl.symm
        omega
      · rw [hn]
        exact hperm.nodup_iff.mpr hnd
end
end EM
namespace EM
open PySem PySem.Spec PyProof.Rows L2
section
variable {P : Program} {w : World} {K : PySem.W.Frag} {mg : Str → Option Value} {base : Heap}
/-! ### the first world -/
def spWorld : Sp := fun vs H Q _ => ∃ (a : Addr), vs = [.ref a] ∧ DrawsOk H a ∧ ∀ (wd : Addr) (S : List Tab) (vars : List Str) (vals : List Key) H', EM.St (some a) H H' → WorldAt a H' wd S vars vals → Q (.ref wd) H'
theorem hasLWorld (T : Txt K mg) : Has P w K mg base 3 "_law_world" ["_law_draws_here"] spWorld := by
  refine T.dLWorld.has scLWorld (fun vs H Q E h => ?_) (fun f cdv A outer s H vs Q E hr h => ?_)
  · obtain ⟨a, rfl, _⟩ := h
    rfl
  · obtain ⟨a, rfl, hd, q⟩ := h
    refine ⟨_,
      (pss_cons (ps_set (i := 1) scLWorld.nd rfl (.inl rfl) (pe_own (hasLPool T) hr (by decide) (by rfl) (pa_cons (pv 0) (pa_cons pe_int pa_nil))))
      (pss_cons (ps_set (i := 2) scLWorld.nd rfl (.inl rfl) (pe_ix (ixL K) (pe_lst (pa_cons pe_int (pa_cons pe_int (pa_cons pe_int (pa_cons pe_int pa_nil))))) (pe_own (hasLTake T) hr (by decide) (by rfl) (pa_cons (pv 0) (pa_cons pe_int pa_nil))) (fun _ _ => rfl)))
      (pss_one (ps_ret (pe_lst (pa_cons (pe_own (hasLSchema T) hr (by decide) (by rfl) (pa_cons (pv 0) (pa_cons (pe_slice (slL K) (pv 1) po_none (po_some (pv 2))) pa_nil))) (pa_cons (pe_callB (sortS K) (by rfl) T.msorted (by decide +kernel) (pa_cons (pe_slice (slL K) (pv 1) (po_some pe_int) po_none) pa_nil)) (pa_cons (pe_own (hasLValues T) hr (by decide) (by rfl) (pa_cons (pv 0) (pa_cons (pv 1) pa_nil))) pa_nil)))))))), ?_⟩
    -- the words
    refine ⟨.ref a, rfl, a, rfl, hd, fun l ws H1 s1 nl hl hlen hnd hsz => ?_⟩
    have d1 := s1.draws hd
    have la : l ≠ a := (hd.ne nl).symm
    -- many
    refine ⟨sz_le (by show 4 ≤ 10000000; decide), fun p1 np1 => ?_⟩
    refine ⟨.ref a, rfl, a, 4, rfl, (St.new np1).draws d1, by decide, fun n1 H2 s2 hn1 => ?_⟩
    obtain ⟨m, hm, gm⟩ := lit_at (xs := [3, 2, 3, 4]) hn1
    have b1 : 2 ≤ m ∧ m ≤ 4 := (by decide : ∀ z, z ∈ [3, 2, 3, 4] → 2 ≤ z ∧ z ≤ 4) m hm
    refine ⟨p1, _, n1, _, rfl, rfl, SqL.of (s2.kp upd_same (d1.ne np1).symm), atI_nat gm, ?_⟩
    have s12 := (St.new (m := some a) np1).trans s2
    have d2 := s12.draws d1
    have hl2 := s12.kp hl la
    -- schema(pool[:many])
    refine ⟨.ref a, rfl, .ref l, rfl, _, rfl, m, rfl, l, _, rfl, SqL.of hl2, fun c nc => ?_⟩
    rw [cut_take, ← List.map_take]
    have ca : c ≠ a := (d2.ne nc).symm
    refine ⟨a, c, ws.take m, rfl, (St.new nc).draws d2, upd_same, ca, by rw [List.length_take]; omega, by rw [List.length_take]; omega, List.Sublist.nodup (List.take_sublist _ _) hnd, fun v S H3 s3 hS wf => ?_⟩
    obtain ⟨sp, sxs, rfl, hsp, hSd⟩ := den_map.mp hS
    have s23 := (St.new (m := some a) nc).trans s3
    have d3 := s23.draws d2
    have hl3 := s23.kp hl2 la
    -- sorted(pool[4:])
    refine ⟨.ref l, rfl, 4, rfl, l, _, rfl, SqL.of hl3, fun c2 nc2 => ?_⟩
    rw [show (4 : Int) = ((4 : Nat) : Int) from rfl, cut_drop, ← List.map_drop]
    refine ⟨c2, ws.drop 4, rfl, SqL.of upd_same, by rw [List.length_drop]; omega, fun vars vr hperm _ nvr => ?_⟩
    have vl4 : vars.length = 4 := by rw [hperm.length_eq, List.length_drop]; omega
    have s34 : EM.St (some a) H3 (upd (upd H3 c2 (.lst ((ws.drop 4).map V.str))) vr (.lst (vars.map V.str))) := (St.new nc2).trans (St.new nvr)
    have d4 := s34.draws d3
    have hl4 := s34.kp hl3 la
    have vra : vr ≠ a := ((St.new (m := some a) nc2).draws d3 |>.ne nvr).symm
    -- values
    refine ⟨.ref a, rfl, .ref l, rfl, a, l, ws, rfl, d4, hl4, la, by omega, fun vl ks H5 s5 nvl hvl lk => ?_⟩
    refine ⟨sz_le (by show 3 ≤ 10000000; decide), fun wd nwd => ?_⟩
    have vla : vl ≠ a := (d4.ne nvl).symm
    have wda : wd ≠ a := ((s5.draws d4).ne nwd).symm
    have hvr5 : H5 vr = some (.lst (vars.map V.str)) := s5.kp upd_same vra
    refine q wd S vars ks _ ((((s1.trans s12).trans s23).trans s34).trans s5 |>.trans (St.new nwd)) ⟨⟨sp, vr, vl, sxs, upd_same, ?_, ?_, ?_, ?_, wda, vra, vla⟩, wf, by omega, lk⟩
    · rw [upd_ne (ne_of_none (s5.tup _ _ (s34.tup _ _ hsp)) nwd)]
      exact s5.tup _ _ (s34.tup _ _ hsp)
    · exact DenL.tk (((s34.tup).trans s5.tup).trans (.new nwd)) _ _ hSd
    · rw [upd_ne (ne_of_none hvr5 nwd)]; exact hvr5
    · rw [upd_ne (ne_of_none hvl nwd)]; exact hvl
/-! ### any schema -/
def spAnySchema : Sp := fun vs H Q _ => ∃ (a l : Addr) (ws : List Str), vs = [.ref a, .ref l] ∧ DrawsOk H a ∧ H l = some (.lst (ws.map V.str)) ∧ l ≠ a ∧ ws.length = 10 ∧ ws.Nodup ∧ (∀ x ∈ ws, x.length ≤ 1000) ∧
  ∀ (v : V) (S : List Tab) H', EM.St (some a) H H' → Den H' (eSchema S) v → (S.map (·.1)).Nodup → S.length ≤ 20 → (∀ t ∈ S, t.2.1 + t.2.2 ≤ 8) → Q v H'
def abct : Str := "abcdefghijklmnopqrst"
theorem abct_size : abct.cps.size = 20 := by decide +kernel
theorem abct_at : ∀ k, k < 20 → abct.cps[k]? = some (97 + k) := by decide +kernel
theorem app_inj {x : Str} {i j : Nat} (h : x ++ (⟨#[97 + i]⟩ : Str) = x ++ (⟨#[97 + j]⟩ : Str)) : i = j := by
  have e := congrArg (fun s : Str => s.cps.toList) h
  have e2 : x.cps.toList ++ [97 + i] = x.cps.toList ++ [97 + j] := by
    have k : ∀ n : Nat, (x ++ (⟨#[97 + n]⟩ : Str)).cps.toList = x.cps.toList ++ [97 + n] := fun n => by
      rw [Str.cps_append, Array.toList_append]
    rw [← k, ← k]
    exact e
  have e3 := List.append_cancel_left e2
  have e4 := (List.cons.inj e3).1
  omega
theorem range_nodup (x : Str) : ∀ n, ((List.range n).map fun i => x ++ (⟨#[97 + i]⟩ : Str)).Nodup := by
  intro n
  rw [List.nodup_iff_pairwise_ne]
  refine List.pairwise_map.mpr ?_
  exact (List.nodup_iff_pairwise_ne.mp List.nodup_range).imp fun {i j} h e => h (app_inj e)
theorem hasLAnySchema (T : Txt K mg) : Has P w K mg base 2 "_law_any_schema" ["_law_draws_here", "_law_words_here"] spAnySchema := by
  refine T.dLAnySchema.has scLAnySchema (fun vs H Q E h => ?_) (fun f cdv A outer s H vs Q E hr h => ?_)
  · obtain ⟨a, l, ws, rfl, _⟩ := h
    rfl
  · obtain ⟨a, l, ws, rfl, hd, hl, la, hlen, hnd, hsz, q⟩ := h
    refine ⟨_,
      (pss_cons (ps_set (i := 2) scLAnySchema.nd rfl (.inl rfl) (pe_ix (ixL K) (pe_lst (pa_cons pe_int (pa_cons pe_int (pa_cons pe_int (pa_cons pe_int (pa_cons pe_int (pa_cons pe_int pa_nil))))))) (pe_own (hasLTake T) hr (by decide) (by rfl) (pa_cons (pv 0) (pa_cons pe_int pa_nil))) (fun _ _ => rfl)))
      (pss_cons (ps_set (i := 3) scLAnySchema.nd rfl (.inl rfl) (pe_slice (slL K) (pv 1) po_none (po_some (pv 2))))
      (pss_cons (ps_cut (ps_if (pt_cmpR op_eq (pe_own (hasLTake T) hr (by decide) (by rfl) (pa_cons (pv 0) (pa_cons pe_int pa_nil))) pe_int (nomark _))
        (pss_one (ps_setLc (i := 3) (own := [("_law_letter", 8)]) (g := (gName 8)) (tt := tYes) rfl scLAnySchema.nd rfl rfl (sw_true rfl rfl rfl (by decide +kernel)) (pi_str pe_str) (blkOk_by (N := nmLAnySchema) (sc := defScope stLAnySchema) (by decide +kernel)) (fun _ _ _ _ _ => (pg_name (i := 8) scLAnySchema.nd rfl (Or.inl rfl))) (fun _ _ _ _ _ => pts_nil) (fun _ _ _ _ _ => (pe_op op_add_str (pe_ix (ixL K) (pv 1) pe_int (fun _ _ => rfl)) (pv 8)))))
        pss_nil))
      (pss_cons (ps_set (i := 4) scLAnySchema.nd rfl (.inl rfl) (pe_lst pa_nil))
      (pss_cons (ps_for PassesOwn.never rfl (itL K (pe_callB (sortS K) (by rfl) T.msorted (by decide +kernel) (pa_cons (pv 3) pa_nil))) (pg_name (i := 5) scLAnySchema.nd rfl (Or.inl rfl))
        (pss_cons (ps_set (i := 6) scLAnySchema.nd rfl (.inl rfl) (pe_ix (ixL K) (pe_lst (pa_cons pe_int (pa_cons pe_int (pa_cons pe_int (pa_cons pe_int (pa_cons (pe_own (hasLTake T) hr (by decide) (by rfl) (pa_cons (pv 0) (pa_cons pe_int pa_nil))) (pa_cons pe_int pa_nil))))))) (pe_own (hasLTake T) hr (by decide) (by rfl) (pa_cons (pv 0) (pa_cons pe_int pa_nil))) (fun _ _ => rfl)))
        (pss_cons (ps_set (i := 7) scLAnySchema.nd rfl (.inl rfl) (pe_own (hasLTake T) hr (by decide) (by rfl) (pa_cons (pv 0) (pa_cons (pe_op op_add (pv 6) pe_int) pa_nil))))
        (pss_one (ps_expr (pe_bm PySem.F.plainAttrs_list PySem.F.slot_list_append PySem.F.type_list_append mt_append (pv 4) (pa_cons (pe_tup (pa_cons (pv 5) (pa_cons (pv 7) (pa_cons (pe_op op_sub (pv 6) (pv 7)) pa_nil)))) pa_nil)))))))
      (pss_one (ps_ret (pe_callTy (tupOf K) (by rfl) T.mtuple (by decide +kernel) (pa_cons (pv 4) pa_nil))))))))), ?_⟩
    -- many
    refine ⟨sz_le (by show 6 ≤ 10000000; decide), fun p1 np1 => ?_⟩
    refine ⟨.ref a, rfl, a, 6, rfl, (St.new np1).draws hd, by decide, fun n1 H2 s2 hn1 => ?_⟩
    obtain ⟨m, hm, gm⟩ := lit_at (xs := [3, 2, 4, 3, 1, 0]) hn1
    have b1 : m ≤ 4 := (by decide : ∀ z, z ∈ [3, 2, 4, 3, 1, 0] → z ≤ 4) m hm
    refine ⟨p1, _, n1, _, rfl, rfl, SqL.of (s2.kp upd_same (hd.ne np1).symm), atI_nat gm, ?_⟩
    have s12 := (St.new (m := some a) np1).trans s2
    have d2 := s12.draws hd
    have hl2 := s12.kp hl la
    -- names
    refine ⟨.ref l, rfl, _, rfl, m, rfl, l, _, rfl, SqL.of hl2, fun c nc => ?_⟩
    rw [cut_take, ← List.map_take]
    have d3 : DrawsOk (upd H2 c (.lst ((ws.take m).map V.str))) a := (St.new nc).draws d2
    have ca : c ≠ a := (d2.ne nc).symm
    refine ⟨fun σ' H' => EM.St (some a) H H' ∧ ∃ (c' : Addr) (ns : List Str), σ' = [some (.ref a), some (.ref l), some (.int (m : Int)), some (.ref c'), none, none, none, none, none] ∧ H' c' = some (.lst (ns.map V.str)) ∧ c' ≠ a ∧ ns.length ≤ 20 ∧ ns.Nodup, ?_, ?_⟩
    · refine ⟨.ref a, rfl, a, 9, rfl, d3, by decide, fun n2 H3 s3 hn2 => ⟨rfl, _, rfl, ite2 (fun e => ?_) (fun e => ?_)⟩⟩
      · have s23 := (St.new (m := some a) nc).trans s3
        have hl3 := s23.kp hl2 la
        have d4 := s3.draws d3
        have g0 : (ws.map V.str)[0]? = some (.str ws[0]) := by rw [List.getElem?_map, List.getElem?_eq_getElem (by omega)]; rfl
        refine ⟨abct, rfl, gather (m := some a) (n := abct.cps.size) walk_str (fun _ _ => trivial) (fun b z => by cases z; exact d4) (by rw [abct_size]; decide)
          (fun i v _ => v = V.str (ws[0] ++ (⟨#[97 + i]⟩ : Str))) (fun _ _ _ _ _ h => h) (fun i2 x H5 hi2 hx s5 R k => ?_) (fun D xs H5 s5 nD hD hlen5 hp => ?_) gname_mono⟩
        · obtain ⟨ch, hch, rfl⟩ := hx
          rw [abct_size] at hi2
          rw [abct_at i2 hi2] at hch
          obtain rfl := Option.some.inj hch
          have hl5 := s5.kp hl3 la
          have h0 := hsz ws[0] (List.getElem_mem _)
          refine ⟨rfl, .ref l, rfl, l, _, 0, _, rfl, rfl, SqL.of hl5, atI_nat (j := 0) g0, _, rfl, _, _, rfl, rfl, sz_le ?_, k _ _ (.refl _ _) rfl⟩
          show ws[0].length + 1 ≤ 10000000
          omega
        · have exs : xs = ((List.range 20).map fun i => ws[0] ++ (⟨#[97 + i]⟩ : Str)).map V.str := by
            apply List.ext_getElem?
            intro i
            rw [abct_size] at hlen5
            by_cases hi : i < 20
            · have hx : i < xs.length := by omega
              rw [List.getElem?_eq_getElem hx, hp i _ (List.getElem?_eq_getElem hx), List.getElem?_map, List.getElem?_map, List.getElem?_range hi]
              rfl
            · rw [List.getElem?_eq_none (l := xs) (by omega), List.getElem?_eq_none (by rw [List.length_map, List.length_map, List.length_range]; omega)]
          rw [exs] at hD
          exact ⟨(s12.trans s23).trans s5, D, _, rfl, hD, (d4.ne nD).symm, by rw [List.length_map, List.length_range]; decide, range_nodup _ _⟩
      · refine ⟨(s12.trans (St.new nc)).trans s3, c, ws.take m, rfl, s3.kp upd_same ca, ca, by rw [List.length_take]; omega, List.Sublist.nodup (List.take_sublist _ _) hnd⟩
    · rintro σ' H3 ⟨s03, c', ns, rfl, hc', cn, h20, nnd⟩
      refine ⟨Nat.zero_le _, fun L nL => ?_⟩
      have d4 := s03.draws hd
      have aL : a ≠ L := d4.ne nL
      have lL : c' ≠ L := ne_of_none hc' nL
      have nL0 := s03.freeD hd nL
      refine ⟨.ref c', rfl, c', ns, rfl, SqL.of (by rw [upd_ne lL]; exact hc'), by omega, fun ys p hperm _ np => ?_⟩
      have Lp : L ≠ p := ne_of_none upd_same np
      have np3 : H3 p = none := by rw [upd_ne Lp.symm] at np; exact np
      have np0 : H p = none := s03.freeD hd np3
      have ap : a ≠ p := hd.ne np0
      have yl : ys.length = ns.length := hperm.length_eq
      refine ⟨p, rfl, ⟨_, SqL.of upd_same⟩, for_list (K := K) (a := p) (xs := ys.map V.str) (fun i σ H3 => ∃ (y5 y6 y7 : Option V) (S : List Tab) (xs : List V), σ = [some (.ref a), some (.ref l), some (.int (m : Int)), some (.ref c'), some (.ref L), y5, y6, y7, none] ∧ EM.St (some a) H H3 ∧
        H3 L = some (.lst xs) ∧ H3 p = some (.lst (ys.map V.str)) ∧ DenL H3 (S.map eTab) xs ∧ S.map (·.1) = ys.take i ∧ ∀ t ∈ S, t.2.1 + t.2.2 ≤ 8)
        ⟨none, none, none, [], [], rfl, (s03.mut nL0).mut np0, by rw [upd_ne Lp, upd_same], upd_same, .nil, by rw [List.take_zero]; rfl, fun t h => absurd h (by simp)⟩
        (fun i σ H3 _ h => by obtain ⟨_, _, _, _, _, _, _, _, h, _⟩ := h; exact SqL.of h) ?_ ?_⟩
      · rintro i y σ H4 hi ⟨y3, y4, y5, S, xs, rfl, s4, eL, ep, hS, hn, hsm⟩
        rw [List.getElem?_map] at hi
        obtain ⟨wd, hw, rfl⟩ := Option.map_eq_some_iff.mp hi
        have d5 := s4.draws hd
        -- total
        refine ⟨.ref a, rfl, a, 9, rfl, d5, by decide, fun n9 H5 s5 hn9 => ⟨sz_le (by show 6 ≤ 10000000; decide), fun p1 np1 => ?_⟩⟩
        have d6 := s5.draws d5
        refine ⟨.ref a, rfl, a, 6, rfl, (St.new np1).draws d6, by decide, fun n1 H6 s6 hn1 => ?_⟩
        obtain ⟨j1, hj1, gj1⟩ := lit_at (xs := [2, 3, 1, 2, n9, 0]) hn1
        have bj : j1 ≤ 8 := by
          simp only [List.mem_cons, List.not_mem_nil, or_false] at hj1
          omega
        refine ⟨p1, _, n1, _, rfl, rfl, SqL.of (s6.kp upd_same (d6.ne np1).symm), atI_nat gj1, ?_⟩
        have s46 := (s5.trans (St.new np1)).trans s6
        have d7 := s46.draws d5
        -- key
        refine ⟨.ref a, rfl, _, rfl, j1, 1, rfl, rfl, a, j1 + 1, rfl, d7, by omega, fun kk H7 s7 hkk => ?_⟩
        have s47 := s46.trans s7
        have eL7 : H7 L = some (.lst xs) := s47.kp eL aL.symm
        have ep7 := s47.kp ep ap.symm
        -- append((name, key, total - key))
        refine ⟨.ref L, rfl, .inl ⟨rfl, _, SqL.of eL7⟩, _, rfl, _, rfl, _, rfl, _, rfl, j1, kk, rfl, rfl, sz_le (by show 3 ≤ 10000000; decide), fun t nt => ?_⟩
        have Lt : L ≠ t := ne_of_none eL7 nt
        have ej : (j1 : Int) - (kk : Int) = ((j1 - kk : Nat) : Int) := by omega
        have eL8 : (upd H7 t (.tup [V.str wd, V.int (kk : Int), V.int ((j1 : Int) - (kk : Int))])) L = some (.lst xs) := by rw [upd_ne Lt]; exact eL7
        have xl : xs.length = S.length := hS.mlen
        have Sl : S.length ≤ 20 := by
          have := congrArg List.length hn
          rw [List.length_map, List.length_take] at this
          omega
        refine ⟨L, _, _, rfl, rfl, eL8, sz_lt (by omega), _, _, _, S ++ [(wd, kk, j1 - kk)], _, rfl, ?_, upd_same, ?_, ?_, ?_, ?_⟩
        · exact ((s4.trans s47).trans (St.new nt)).mut nL0
        · have pt : p ≠ t := ne_of_none ep7 nt
          rw [upd_ne Lp.symm, upd_ne pt]; exact ep7
        · refine DenL.msnoc (DenL.tk ((s47.tup.trans (.new nt)).trans (.lst eL8)) _ _ hS) (den_tab.mpr ⟨t, rfl, ?_⟩)
          rw [upd_ne Lt.symm, upd_same]
          show some (HO.tup [V.str wd, V.int (kk : Int), V.int ((j1 : Int) - (kk : Int))]) = _
          rw [ej]
        · rw [List.map_append, hn, List.take_add_one, hw]; rfl
        · intro u hu
          rcases List.mem_append.mp hu with hu | hu
          · exact hsm u hu
          · rw [List.mem_singleton.mp hu]
            show kk + (j1 - kk) ≤ 8
            omega
      · rintro σ H4 ⟨y3, y4, y5, S, xs, rfl, s4, eL, ep, hS, hn, hsm⟩
        rw [List.length_map, List.take_length] at hn
        have Sl : S.length = ys.length := by rw [← hn, List.length_map]
        refine ⟨.ref L, rfl, L, xs, rfl, .inl ⟨SqL.of eL, fun t nt => ?_⟩⟩
        refine q _ S _ (s4.trans (St.new nt)) (den_map.mpr ⟨t, xs, rfl, upd_same, DenL.tk (.new nt) _ _ hS⟩) ?_ (by omega) hsm
        rw [hn]
        exact hperm.nodup_iff.mpr nnd
end
end EM
namespace EM
open PySem PySem.Spec PyProof.Rows L2
section
variable {P : Program} {w : World} {K : PySem.W.Frag} {mg : Str → Option Value} {base : Heap}
/-! ### the broad world -/
def spBroadWorld (K : PySem.W.Frag) : Sp := fun vs H Q _ => ∃ (a l : Addr) (ns : List Int), vs = [.ref a, .ref l] ∧ DrawsOk H a ∧ (∀ H', EM.St (some a) H H' → SqL K H' l (ns.map V.int)) ∧
  ∀ (wd : Addr) (S : List Tab) (vars : List Str) (vals : List Key) H', EM.St (some a) H H' → WorldAt a H' wd S vars vals → vars.length ≤ 1000 → Q (.ref wd) H'
theorem hasLBroadWorld (T : Txt K mg) : Has P w K mg base 4 "_law_broad_world" ["_law_draws_here", "_law_script"] (spBroadWorld K) := by
  refine T.dLBroadWorld.has scLBroadWorld (fun vs H Q E h => ?_) (fun f cdv A outer s H vs Q E hr h => ?_)
  · obtain ⟨a, l, ns, rfl, _⟩ := h
    rfl
  · obtain ⟨a, sl, ns, rfl, hd, hS0, q⟩ := h
    refine ⟨_,
      (pss_cons (ps_set (i := 2) scLBroadWorld.nd rfl (.inl rfl) (pe_own (hasLWords T) hr (by decide) (by rfl) (pa_cons (pv 0) (pa_cons pe_int pa_nil))))
      (pss_cons (ps_cut (ps_set (i := 3) scLBroadWorld.nd rfl (.inl rfl) (pe_slice (slT K) (pe_own (hasLAnySchema T) hr (by decide) (by rfl) (pa_cons (pv 0) (pa_cons (pv 2) pa_nil))) po_none (po_some pe_int))))
      (pss_cons (ps_cut (ps_if (pt_cmpR op_eq (pe_callB (lenS K) (by rfl) T.mlen PySem.boot_len (pa_cons (pv 3) pa_nil)) pe_int (nomark _))
        (pss_one (ps_set (i := 3) scLBroadWorld.nd rfl (.inl rfl) (pe_tup (pa_cons (pe_tup (pa_cons (pe_ix (ixL K) (pv 2) pe_int (fun _ _ => rfl)) (pa_cons pe_int (pa_cons pe_int pa_nil)))) pa_nil))))
        pss_nil))
      (pss_cons (ps_set (i := 4) scLBroadWorld.nd rfl (.inl rfl) (pe_op op_sub (pe_own (hasLTake T) hr (by decide) (by rfl) (pa_cons (pv 0) (pa_cons pe_int pa_nil))) pe_int))
      (pss_cons (ps_set (i := 5) scLBroadWorld.nd rfl (.inl rfl) (pe_lst (pa_cons (pv 4) (pa_cons (pe_ix (ixL K) (pv 2) pe_int (fun _ _ => rfl)) (pa_cons (pe_op op_add (pv 4) pe_int) (pa_cons (pe_op op_add_str (pe_ix (ixL K) (pv 2) pe_int (fun _ _ => rfl)) (pe_ix (ixL K) (pv 2) pe_int (fun _ _ => rfl))) (pa_cons (pe_own (hasLNumber T) hr (by decide) (by rfl) (pa_cons (pv 0) (pa_cons (pv 1) pa_nil))) pa_nil)))))))
      (pss_one (ps_ret (pe_lst (pa_cons (pv 3) (pa_cons (pe_callB (sortS K) (by rfl) T.msorted (by decide +kernel) (pa_cons (pe_slice (slL K) (pv 2) (po_some pe_int) (po_some pe_int)) pa_nil)) (pa_cons (pv 5) pa_nil))))))))))), ?_⟩
    -- the words
    refine ⟨.ref a, rfl, a, rfl, hd, fun l ws H1 s1 nl hl hlen hnd hsz => ?_⟩
    have d1 := s1.draws hd
    have la : l ≠ a := (hd.ne nl).symm
    have item : ∀ (H' : Hp) (j : Nat) (hj : j < 10), H' l = some (.lst (ws.map V.str)) → (ws.map V.str)[j]? = some (.str (ws[j]'(by omega))) := fun H' j hj _ => by
      rw [List.getElem?_map, List.getElem?_eq_getElem (by omega)]; rfl
    -- schema
    refine ⟨fun σ' H' => EM.St (some a) H1 H' ∧ ∃ (v : V) (S : List Tab), σ' = [some (.ref a), some (.ref sl), some (.ref l), some v, none, none] ∧ Den H' (eSchema S) v ∧ (S.map (·.1)).Nodup ∧ S.length ≤ 20 ∧ ∀ t ∈ S, t.2.1 + t.2.2 ≤ 8, ?_, ?_⟩
    · refine ⟨.ref a, rfl, .ref l, rfl, a, l, ws, rfl, d1, hl, la, hlen, hnd, hsz, fun v S H2 s2 hS nd few sm => ?_⟩
      obtain ⟨p, xs, rfl, hp, hx⟩ := den_map.mp hS
      refine ⟨4, rfl, p, xs, rfl, SqT.of hp, fun _ => ⟨s2, _, S, rfl, hS, nd, few, sm⟩, fun _ p2 np2 => ⟨s2.trans (St.new np2), _, S.take 4, rfl, ?_, ?_, ?_, ?_⟩⟩
      · rw [show (4 : Int) = ((4 : Nat) : Int) from rfl, cut_take]
        refine den_map.mpr ⟨p2, _, rfl, upd_same, ?_⟩
        rw [List.map_take]
        exact DenL.take 4 (DenL.tk (.new np2) _ _ hx)
      · rw [List.map_take]
        exact List.Sublist.nodup (List.take_sublist _ _) nd
      · rw [List.length_take]; omega
      · exact fun t ht => sm t (List.mem_of_mem_take ht)
    rintro σ' H2 ⟨s2, v, S, rfl, hS, nd, few, sm⟩
    have d2 := s2.draws d1
    have hl2 := s2.kp hl la
    refine ⟨fun σ' H' => EM.St (some a) H2 H' ∧ ∃ (v : V) (S : List Tab), σ' = [some (.ref a), some (.ref sl), some (.ref l), some v, none, none] ∧ Den H' (eSchema S) v ∧ WfS S, ?_, ?_⟩
    · obtain ⟨p, xs, rfl, hp, hx⟩ := den_map.mp hS
      have xl : xs.length = S.length := hx.mlen
      refine ⟨.ref p, rfl, p, xs, rfl, .inr (SqT.of hp), rfl, _, rfl, ite2 (fun e => ?_) (fun e => ?_)⟩
      · refine ⟨.ref l, rfl, l, _, 0, _, rfl, rfl, SqL.of hl2, atI_nat (j := 0) (item H2 0 (by decide) hl2), sz_le (by show 3 ≤ 10000000; decide), fun t nt => ⟨sz_le (by show 1 ≤ 10000000; decide), fun t2 nt2 => ?_⟩⟩
        refine ⟨(St.new nt).trans (St.new nt2), _, [(ws[0], 1, 1)], rfl, den_map.mpr ⟨t2, _, rfl, upd_same, DenL.one (den_tab.mpr ⟨t, rfl, ?_⟩)⟩, ⟨by simp, by simp, by show 1 ≤ 20; decide, fun u hu => ?_⟩⟩
        · rw [upd_ne (ne_of_none upd_same nt2), upd_same]
          rfl
        · rw [List.mem_singleton.mp hu]
          show 1 + 1 ≤ 8
          decide
      · refine ⟨.refl _ _, _, S, rfl, hS, ⟨fun z => ?_, nd, few, sm⟩⟩
        subst z
        have : xs = [] := List.eq_nil_of_length_eq_zero xl
        subst this
        exact e (decide_eq_true rfl)
    rintro σ' H3 ⟨s3, v, S, rfl, hS, wf⟩
    obtain ⟨sp, sxs, rfl, hsp, hSd⟩ := den_map.mp hS
    have d3 := s3.draws d2
    -- low
    refine ⟨.ref a, rfl, a, 9, rfl, d3, by decide, fun n4 H4 s4 hn4 => ⟨_, 4, rfl, rfl, ?_⟩⟩
    have d4 := s4.draws d3
    have s14 := (s2.trans s3).trans s4
    have hl4 := s14.kp hl la
    have h8 := hsz (ws[8]'(by omega)) (List.getElem_mem _)
    have h9 := hsz (ws[9]'(by omega)) (List.getElem_mem _)
    -- values
    refine ⟨_, rfl, .ref l, rfl, l, _, 8, _, rfl, rfl, SqL.of hl4, atI_nat (j := 8) (item H4 8 (by decide) hl4), _, rfl, _, 1, rfl, rfl, .ref l, rfl, l, _, 8, _, rfl, rfl, SqL.of hl4, atI_nat (j := 8) (item H4 8 (by decide) hl4),
      .ref l, rfl, l, _, 9, _, rfl, rfl, SqL.of hl4, atI_nat (j := 9) (item H4 9 (by decide) hl4), _, _, rfl, rfl, sz_le (by omega), .ref a, rfl, .ref sl, rfl, a, sl, ns, rfl, d4, fun H' s' => hS0 H' ((s1.trans s14).trans s'), fun z H5 s5 => ?_⟩
    have d5 := s5.draws d4
    refine ⟨sz_le (by show 5 ≤ 10000000; decide), fun vl nvl => ?_⟩
    have vla : vl ≠ a := (d5.ne nvl).symm
    have s15 : EM.St (some a) H1 (upd H5 vl (.lst [V.int ((n4 : Int) - 4), V.str (ws[8]'(by omega)), V.int ((n4 : Int) - 4 + 1), V.str ((ws[8]'(by omega)) ++ (ws[9]'(by omega))), V.int z])) := s14.trans (s5.trans (St.new nvl))
    have hl5 := s15.kp hl la
    -- the world
    refine ⟨_, rfl, .ref l, rfl, 4, rfl, 8, rfl, l, _, rfl, SqL.of hl5, fun c nc => ?_⟩
    rw [show (4 : Int) = ((4 : Nat) : Int) from rfl, show (8 : Int) = ((8 : Nat) : Int) from rfl, cut_mid _ 4 8 (by decide) (by rw [List.length_map]; omega), ← List.map_drop, ← List.map_take]
    refine ⟨c, (ws.drop 4).take (8 - 4), rfl, SqL.of upd_same, by rw [List.length_take, List.length_drop]; omega, fun vars vr hperm _ nvr => ?_⟩
    have vl4 : vars.length = 4 := by rw [hperm.length_eq, List.length_take, List.length_drop]; omega
    have d6 : DrawsOk (upd H5 vl (.lst [V.int ((n4 : Int) - 4), V.str (ws[8]'(by omega)), V.int ((n4 : Int) - 4 + 1), V.str ((ws[8]'(by omega)) ++ (ws[9]'(by omega))), V.int z])) a := (St.new (m := some a) nvl).draws d5
    have cr : c ≠ vr := ne_of_none upd_same nvr
    have vra : vr ≠ a := ((St.new (m := some a) nc).draws d6 |>.ne nvr).symm
    refine ⟨_, rfl, sz_le (by show 3 ≤ 10000000; decide), fun wd nwd => ?_⟩
    have wda : wd ≠ a := ((St.new (m := some a) nvr).draws ((St.new (m := some a) nc).draws d6) |>.ne nwd).symm
    have vlc : vl ≠ c := ne_of_none upd_same nc
    have vlvr : vl ≠ vr := ne_of_none (by rw [upd_ne vlc, upd_same]) nvr
    have vlwd : vl ≠ wd := ne_of_none (by rw [upd_ne vlvr, upd_ne vlc, upd_same]) nwd
    have vrwd : vr ≠ wd := ne_of_none upd_same nwd
    have s35 : EM.St (some a) H3 (upd (upd (upd (upd H5 vl (.lst [V.int ((n4 : Int) - 4), V.str (ws[8]'(by omega)), V.int ((n4 : Int) - 4 + 1), V.str ((ws[8]'(by omega)) ++ (ws[9]'(by omega))), V.int z])) c (.lst (((ws.drop 4).take (8 - 4)).map V.str))) vr (.lst (vars.map V.str))) wd (.lst [.ref sp, .ref vr, .ref vl])) := ((s4.trans (s5.trans (St.new nvl))).trans (St.new nc)).trans ((St.new nvr).trans (St.new nwd))
    refine q wd S vars [.inl ((n4 : Int) - 4), .inr (ws[8]'(by omega)), .inl ((n4 : Int) - 4 + 1), .inr ((ws[8]'(by omega)) ++ (ws[9]'(by omega))), .inl z] _ ((s1.trans (s2.trans s3)).trans s35) ⟨⟨sp, vr, vl, sxs, upd_same, ?_, ?_, ?_, ?_, wda, vra, vla⟩, wf, by omega, by show 3 ≤ 5; decide⟩ (by omega)
    · exact s35.tup _ _ hsp
    · exact s35.denL hSd
    · rw [upd_ne vrwd, upd_same]
    · rw [upd_ne vlwd, upd_ne vlvr, upd_ne vlc, upd_same]; rfl
end
end EM
namespace EM
open PySem PySem.Spec PyProof.Rows L2
theorem collect {α : Type} {f : α → PyData} {H : Hp} {Pr : α → Prop} : ∀ (xs : List V), (∀ v ∈ xs, ∃ a, Pr a ∧ Den H (f a) v) → ∃ l : List α, DenL H (l.map f) xs ∧ ∀ a ∈ l, Pr a
  | [], _ => ⟨[], .nil, fun a h => absurd h (by simp)⟩
  | v :: xs, h => by
    obtain ⟨a, pa, da⟩ := h v List.mem_cons_self
    obtain ⟨l, dl, pl⟩ := collect xs fun u hu => h u (List.mem_cons_of_mem _ hu)
    exact ⟨a :: l, by rw [List.map_cons, denL_cons]; exact ⟨v, xs, rfl, da, dl⟩, fun b hb => (List.mem_cons.mp hb).elim (fun e => e ▸ pa) (pl b)⟩
theorem collectI {α : Type} {f : α → PyData} {H : Hp} {Pr : α → Prop} (xs : List V) (h : ∀ (i : Nat) (v : V), xs[i]? = some v → ∃ a, Pr a ∧ Den H (f a) v) : ∃ l : List α, DenL H (l.map f) xs ∧ l.length = xs.length ∧ ∀ a ∈ l, Pr a := by
  obtain ⟨l, d, p⟩ := collect xs fun v hv => by
    obtain ⟨i, hi⟩ := List.getElem?_of_mem hv
    exact h i v hi
  exact ⟨l, d, d.mlen.symm, p⟩
theorem DenL.mem {α : Type} {f : α → PyData} {H : Hp} {l : List α} {xs : List V} {x : V} (h : DenL H (l.map f) xs) (hx : x ∈ xs) : ∃ a ∈ l, Den H (f a) x := by
  obtain ⟨i, hi⟩ := List.getElem?_of_mem hx
  obtain ⟨a, ha, d⟩ := h.mback hi
  exact ⟨a, List.mem_of_getElem? ha, d⟩
section
variable {P : Program} {w : World} {K : PySem.W.Frag} {mg : Str → Option Value} {base : Heap}
/-! ### terms -/
def spTerm : Sp := fun vs H Q _ => ∃ (a wd : Addr) (S : List Tab) (vars : List Str) (vals : List Key), vs = [.ref a, .ref wd] ∧ DrawsOk H a ∧ WorldAt a H wd S vars vals ∧ ∀ (v : V) (t : Tm) H', EM.St (some a) H H' → Den H' (eTm t) v → Q v H'
theorem hasLTerm (T : Txt K mg) : Has P w K mg base 3 "_law_term" ["_law_draws_here", "_law_world_here"] spTerm := by
  refine T.dLTerm.has scLTerm (fun vs H Q E h => ?_) (fun f cdv A outer s H vs Q E hr h => ?_)
  · obtain ⟨a, wd, S, vars, vals, rfl, _⟩ := h
    rfl
  · obtain ⟨a, wd, S, vars, vals, rfl, hd, W, q⟩ := h
    refine ⟨_,
      (pss_cons (ps_if (pt_cmpR op_eq (pe_own (hasLTake T) hr (by decide) (by rfl) (pa_cons (pv 0) (pa_cons pe_int pa_nil))) pe_int (nomark _))
        (pss_one (ps_ret (pe_tup (pa_cons pe_str (pa_cons (pe_own (hasLValue T) hr (by decide) (by rfl) (pa_cons (pv 0) (pa_cons (pe_ix (ixL K) (pv 1) pe_int (fun _ _ => rfl)) pa_nil))) pa_nil)))))
        pss_nil)
      (pss_one (ps_ret (pe_tup (pa_cons pe_str (pa_cons (pe_own (hasLPick T) hr (by decide) (by rfl) (pa_cons (pv 0) (pa_cons (pe_slice (slL K) (pe_ix (ixL K) (pv 1) pe_int (fun _ _ => rfl)) po_none (po_some pe_int)) pa_nil))) pa_nil)))))), ?_⟩
    refine ⟨.ref a, rfl, a, 7, rfl, hd, by decide, fun n H1 s1 hn => ⟨rfl, _, rfl, ite2 (fun e => ?_) (fun e => ?_)⟩⟩
    · have d1 := s1.draws hd
      obtain ⟨⟨sp, vr, vl, xs, w1, w2, w3, w4, w5, n1, n2, n3⟩, wf, nv, nl⟩ := W.st s1
      refine ⟨.ref a, rfl, .ref wd, rfl, wd, _, 2, _, rfl, rfl, SqL.of w1, atI_nat (j := 2) rfl, a, vl, vals, rfl, d1, w5, n3, nl, fun k H2 s2 _ => ⟨sz_le (by show 2 ≤ 10000000; decide), fun p np => ?_⟩⟩
      exact q _ (.val k) _ ((s1.trans s2).trans (St.new np)) (den_tm.mpr ⟨p, rfl, upd_same⟩)
    · have d1 := s1.draws hd
      obtain ⟨⟨sp, vr, vl, xs, w1, w2, w3, w4, w5, n1, n2, n3⟩, wf, nv, nl⟩ := W.st s1
      refine ⟨.ref a, rfl, .ref wd, rfl, wd, _, 1, _, rfl, rfl, SqL.of w1, atI_nat (j := 1) rfl, 3, rfl, vr, _, rfl, SqL.of w4, fun c nc => ?_⟩
      rw [show (3 : Int) = ((3 : Nat) : Int) from rfl, cut_take, ← List.map_take]
      refine ⟨a, c, _, rfl, (St.new nc).draws d1, .inl upd_same, (d1.ne nc).symm, by rw [List.length_map, List.length_take]; omega, fun x H2 s2 hx => ⟨sz_le (by show 2 ≤ 10000000; decide), fun p np => ?_⟩⟩
      obtain ⟨y, _, rfl⟩ := List.mem_map.mp hx
      exact q _ (.var y) _ (((s1.trans (St.new nc)).trans s2).trans (St.new np)) (den_tm.mpr ⟨p, rfl, upd_same⟩)
theorem hasLBroadTerm (T : Txt K mg) : Has P w K mg base 3 "_law_broad_term" ["_law_draws_here", "_law_world_here"] spTerm := by
  refine T.dLBroadTerm.has scLBroadTerm (fun vs H Q E h => ?_) (fun f cdv A outer s H vs Q E hr h => ?_)
  · obtain ⟨a, wd, S, vars, vals, rfl, _⟩ := h
    rfl
  · obtain ⟨a, wd, S, vars, vals, rfl, hd, W, q⟩ := h
    refine ⟨_,
      (pss_cons (ps_if (pt_cmpR op_eq (pe_own (hasLTake T) hr (by decide) (by rfl) (pa_cons (pv 0) (pa_cons pe_int pa_nil))) pe_int (nomark _))
        (pss_one (ps_ret (pe_tup (pa_cons pe_str (pa_cons (pe_own (hasLPick T) hr (by decide) (by rfl) (pa_cons (pv 0) (pa_cons (pe_ix (ixL K) (pv 1) pe_int (fun _ _ => rfl)) pa_nil))) pa_nil)))))
        pss_nil)
      (pss_one (ps_ret (pe_tup (pa_cons pe_str (pa_cons (pe_own (hasLPick T) hr (by decide) (by rfl) (pa_cons (pv 0) (pa_cons (pe_ix (ixL K) (pv 1) pe_int (fun _ _ => rfl)) pa_nil))) pa_nil)))))), ?_⟩
    refine ⟨.ref a, rfl, a, 7, rfl, hd, by decide, fun n H1 s1 hn => ⟨rfl, _, rfl, ite2 (fun e => ?_) (fun e => ?_)⟩⟩
    · have d1 := s1.draws hd
      obtain ⟨⟨sp, vr, vl, xs, w1, w2, w3, w4, w5, n1, n2, n3⟩, wf, nv, nl⟩ := W.st s1
      refine ⟨.ref a, rfl, .ref wd, rfl, wd, _, 2, _, rfl, rfl, SqL.of w1, atI_nat (j := 2) rfl, a, vl, _, rfl, d1, .inl w5, n3, by rw [List.length_map]; omega, fun x H2 s2 hx => ⟨sz_le (by show 2 ≤ 10000000; decide), fun p np => ?_⟩⟩
      obtain ⟨k, _, rfl⟩ := List.mem_map.mp hx
      exact q _ (.val k) _ ((s1.trans s2).trans (St.new np)) (den_tm.mpr ⟨p, rfl, upd_same⟩)
    · have d1 := s1.draws hd
      obtain ⟨⟨sp, vr, vl, xs, w1, w2, w3, w4, w5, n1, n2, n3⟩, wf, nv, nl⟩ := W.st s1
      refine ⟨.ref a, rfl, .ref wd, rfl, wd, _, 1, _, rfl, rfl, SqL.of w1, atI_nat (j := 1) rfl, a, vr, _, rfl, d1, .inl w4, n2, by rw [List.length_map]; omega, fun x H2 s2 hx => ⟨sz_le (by show 2 ≤ 10000000; decide), fun p np => ?_⟩⟩
      obtain ⟨y, _, rfl⟩ := List.mem_map.mp hx
      exact q _ (.var y) _ ((s1.trans s2).trans (St.new np)) (den_tm.mpr ⟨p, rfl, upd_same⟩)
/-! ### an atom -/
def spAtom : Sp := fun vs H Q _ => ∃ (a wd : Addr) (S : List Tab) (vars : List Str) (vals : List Key) (tv : V) (t : Tab), vs = [.ref a, .ref wd, tv] ∧ DrawsOk H a ∧ WorldAt a H wd S vars vals ∧ Den H (eTab t) tv ∧ t ∈ S ∧
  ∀ (v : V) (at' : Atom) H', EM.St (some a) H H' → Den H' (eAtom at') v → AtomOk S at' → Q v H'
theorem hasLAtom (T : Txt K mg) : Has P w K mg base 4 "_law_atom" ["_law_draws_here", "_law_world_here", "_law_table_here"] spAtom := by
  refine T.dLAtom.has scLAtom (fun vs H Q E h => ?_) (fun f cdv A outer s H vs Q E hr h => ?_)
  · obtain ⟨a, wd, S, vars, vals, tv, t, rfl, _⟩ := h
    rfl
  · obtain ⟨a, wd, S, vars, vals, tv, t, rfl, hd, W, hT, ht, q⟩ := h
    obtain ⟨tp, rfl, htp⟩ := den_tab.mp hT
    have small := W.wf.small t ht
    refine ⟨_,
      (pss_one (ps_ret (pe_tup (pa_cons (pe_ix (ixT K) (pv 2) pe_int (fun _ _ => rfl)) (pa_cons (pe_callTy (tupZ K) (by rfl) T.mtuple (by decide +kernel) (pa_cons (pe_lc (own := [("_law_k", 3)]) (g := (gName 3)) (tt := tYes) rfl scLAtom.nd (pi_range1 (by rfl) T.mrange (pa_cons (pe_op op_add (pe_ix (ixT K) (pv 2) pe_int (fun _ _ => rfl)) (pe_ix (ixT K) (pv 2) pe_int (fun _ _ => rfl))) pa_nil)) (blkOk_by (N := nmLAtom) (sc := defScope stLAtom) (by decide +kernel)) (fun _ _ _ _ _ => (pg_name (i := 3) scLAtom.nd rfl (Or.inl rfl))) (fun _ _ _ _ _ => pts_nil) (fun _ _ _ _ _ => (pe_own (hasLTerm T) hr (by decide) (by rfl) (pa_cons (pv 0) (pa_cons (pv 1) pa_nil))))) pa_nil)) pa_nil))))), ?_⟩
    refine ⟨.ref tp, rfl, tp, _, 0, _, rfl, rfl, SqT.of htp, atI_nat (j := 0) rfl, ?_⟩
    refine ⟨.ref tp, rfl, tp, _, 1, _, rfl, rfl, SqT.of htp, atI_nat (j := 1) rfl, .ref tp, rfl, tp, _, 2, _, rfl, rfl, SqT.of htp, atI_nat (j := 2) rfl, _, _, rfl, rfl, _, rfl, by omega, by omega,
      gather (m := some a) (n := ((t.2.1 : Int) + (t.2.2 : Int)).toNat) wkR (fun _ _ => trivial) (fun b z => by cases z; exact hd) (by omega) (fun i v H => ∃ t : Tm, Den H (eTm t) v) (fun _ _ _ _ k ⟨t, d⟩ => ⟨t, Den.tk k _ _ d⟩)
        (fun i2 x H5 hi2 hx s5 R k => ?_) (fun D xs H5 s5 nD hD hlen hp => ?_) gname_mono⟩
    · exact ⟨rfl, .ref a, rfl, .ref wd, rfl, a, wd, S, vars, vals, rfl, s5.draws hd, W.st s5, fun v t H6 s6 d => k _ _ s6 ⟨t, d⟩⟩
    · obtain ⟨ts, dts, lts, _⟩ := collectI (f := eTm) (Pr := fun _ => True) xs fun i v hv => by
        obtain ⟨t, d⟩ := hp i v hv
        exact ⟨t, trivial, d⟩
      refine ⟨D, xs, rfl, SqL.of hD, fun u o nu ho => ⟨sz_le (by show 2 ≤ 10000000; decide), fun p np => ?_⟩⟩
      refine q _ (t.1, ts) _ ((s5.trans (St.new nu)).trans (St.new np)) (den_2.mpr ⟨p, _, _, rfl, upd_same, den_str.mpr rfl, den_mapL.mpr ⟨u, xs, o, rfl, ?_, ho, ?_⟩⟩) ⟨t, ht, rfl, ?_⟩
      · rw [upd_ne (ne_of_none upd_same np), upd_same]
      · exact DenL.tk ((TK.new nu).trans (.new np)) _ _ dts
      · show t.2.1 + t.2.2 = ts.length
        omega
end
end EM
namespace EM
open PySem PySem.Spec PyProof.Rows L2
def varTm : Tm → Option Tm
  | .var x => some (.var x)
  | .val _ => none
theorem var_of {t u : Tm} (h : varTm t = some u) : u = t := by
  cases t with
  | var x => exact (Option.some.inj h).symm
  | val v => cases h
theorem var_str : ("value" : Str) ≠ "var" := by decide +kernel
theorem AtomOk.small {S : List Tab} {at' : Atom} (wf : WfS S) (h : AtomOk S at') : at'.2.length ≤ 8 := by
  obtain ⟨t, ht, _, e⟩ := h
  have := wf.small t ht
  omega
theorem DenL.merase {α : Type} {f : α → PyData} {H : Hp} {l : List α} {xs : List V} (h : DenL H (l.map f) xs) (k : Nat) : DenL H ((l.eraseIdx k).map f) (xs.eraseIdx k) := by
  rw [List.eraseIdx_eq_take_drop_succ, List.eraseIdx_eq_take_drop_succ, List.map_append, List.map_take, List.map_drop]
  exact (h.take k).append (h.drop (k + 1))
/-- the terms that a head may take -/
structure Terms (as : List Atom) (ts : List Tm) : Prop where
  ne : 0 < ts.length
  vars : ∀ x, Tm.var x ∈ ts → ∃ at' ∈ as, Tm.var x ∈ at'.2
section
variable {P : Program} {w : World} {K : PySem.W.Frag} {mg : Str → Option Value} {base : Heap}
/-! ### a join -/
def spJoin : Sp := fun vs H Q _ => ∃ (a wd : Addr) (S : List Tab) (vars : List Str) (vals : List Key) (n : Nat) (b : Bool), vs = [.ref a, .ref wd, .int (n : Int), .bl b] ∧ DrawsOk H a ∧ WorldAt a H wd S vars vals ∧ n ≤ 3 ∧
  ∀ (v : V) (j : Join) H', EM.St (some a) H H' → Den H' (eJoin j) v → JoinOk S n j → Q v H'
theorem hasLJoin (T : Txt K mg) : Has P w K mg base 5 "_law_join" ["_law_draws_here", "_law_world_here", "_law_width", "_law_simple"] spJoin := by
  refine T.dLJoin.has scLJoin (fun vs H Q E h => ?_) (fun f cdv A outer s H vs Q E hr h => ?_)
  · obtain ⟨a, wd, S, vars, vals, n, b, rfl, _⟩ := h
    rfl
  · obtain ⟨a, wd, S, vars, vals, n, b, rfl, hd, W, hn, q⟩ := h
    refine ⟨_,
      (pss_cons (ps_set (i := 4) scLJoin.nd rfl (.inl rfl) (pe_callTy (lstOf K) (by rfl) T.mlist (by decide +kernel) (pa_cons (pe_ix (ixL K) (pv 1) pe_int (fun _ _ => rfl)) pa_nil)))
      (pss_cons (ps_set (i := 5) scLJoin.nd rfl (.inl rfl) (pe_lst pa_nil))
      (pss_cons (ps_for PassesOwn.never rfl (pi_range1 (by rfl) T.mrange (pa_cons (pe_ix (ixL K) (pe_lst (pa_cons pe_int (pa_cons pe_int (pa_cons pe_int (pa_cons pe_int (pa_cons pe_int (pa_cons pe_int pa_nil))))))) (pe_own (hasLTake T) hr (by decide) (by rfl) (pa_cons (pv 0) (pa_cons pe_int pa_nil))) (fun _ _ => rfl)) pa_nil)) (pg_name (i := 6) scLJoin.nd rfl (Or.inl rfl))
        (pss_one (ps_if (pt_cmpR op_gt (pe_callB (lenS K) (by rfl) T.mlen PySem.boot_len (pa_cons (pv 4) pa_nil)) pe_int (nomark _))
          (pss_cons (ps_set (i := 7) scLJoin.nd rfl (.inl rfl) (pe_own (hasLTake T) hr (by decide) (by rfl) (pa_cons (pv 0) (pa_cons (pe_callB (lenS K) (by rfl) T.mlen PySem.boot_len (pa_cons (pv 4) pa_nil)) pa_nil))))
          (pss_cons (ps_expr (pe_bm PySem.F.plainAttrs_list PySem.F.slot_list_append PySem.F.type_list_append mt_append (pv 5) (pa_cons (pe_own (hasLAtom T) hr (by decide) (by rfl) (pa_cons (pv 0) (pa_cons (pv 1) (pa_cons (pe_ix (ixL K) (pv 4) (pv 7) (fun _ _ => rfl)) pa_nil)))) pa_nil)))
          (pss_one (ps_if (pt_val (pv 3))
            (pss_one (ps_expr (pe_bm PySem.F.plainAttrs_list PySem.F.slot_list_pop PySem.F.type_list_pop mt_popAt (pv 4) (pa_cons (pv 7) pa_nil))))
            pss_nil))))
          pss_nil)))
      (pss_cons (ps_cut (ps_if (pt_cmpR op_eq (pe_own (hasLTake T) hr (by decide) (by rfl) (pa_cons (pv 0) (pa_cons pe_int pa_nil))) pe_int (nomark _))
        (pss_one (ps_set (i := 5) scLJoin.nd rfl (.inl rfl) (pe_lst pa_nil)))
        pss_nil))
      (pss_cons (ps_set (i := 8) scLJoin.nd rfl (.inr rfl) (pe_lst (pa_cons (pe_tup (pa_cons pe_str (pa_cons (pe_own (hasLValue T) hr (by decide) (by rfl) (pa_cons (pv 0) (pa_cons (pe_ix (ixL K) (pv 1) pe_int (fun _ _ => rfl)) pa_nil))) pa_nil))) pa_nil)))
      (pss_cons (ps_for PassesOwn.never rfl (itL K (pv 5)) (pg_name (i := 9) scLJoin.nd rfl (Or.inl rfl))
        (pss_one (ps_set (i := 8) scLJoin.nd rfl (.inr rfl) (pe_op op_cat (pe_lc (own := [("_law_term_here", 10)]) (g := (gName 10)) rfl scLJoin.nd (itT K (pe_ix (ixT K) (pv 9) pe_int (fun _ _ => rfl))) (blkOk_by (N := nmLJoin) (sc := defScope stLJoin) (by decide +kernel)) (fun _ _ _ _ _ => (pg_name (i := 10) scLJoin.nd rfl (Or.inl rfl))) (fun _ _ _ _ _ => (pts_one (pt_cmpR op_eq (pe_ix (ixT K) (pv 10) pe_int (fun _ _ => rfl)) pe_str (nomark _)))) (fun _ _ _ _ _ => (pv 10))) (pv 8)))))
      (pss_one (ps_ret (pe_tup (pa_cons (pe_callTy (tupOf K) (by rfl) T.mtuple (by decide +kernel) (pa_cons (pe_lc (own := [("_law_k", 6)]) (g := (gName 6)) (tt := tYes) rfl scLJoin.nd (pi_range1 (by rfl) T.mrange (pa_cons (pv 2) pa_nil)) (blkOk_by (N := nmLJoin) (sc := defScope stLJoin) (by decide +kernel)) (fun _ _ _ _ _ => (pg_name (i := 6) scLJoin.nd rfl (Or.inl rfl))) (fun _ _ _ _ _ => pts_nil) (fun _ _ _ _ _ => (pe_own (hasLPick T) hr (by decide) (by rfl) (pa_cons (pv 0) (pa_cons (pv 8) pa_nil))))) pa_nil)) (pa_cons (pe_callTy (tupOf K) (by rfl) T.mtuple (by decide +kernel) (pa_cons (pv 5) pa_nil)) pa_nil))))))))))), ?_⟩
    obtain ⟨⟨sp, vr, vl, xs0, w1, w2, w3, w4, w5, n1, n2, n3⟩, wf, nv, nl⟩ := id W
    -- tables, body
    refine ⟨.ref wd, rfl, wd, _, 0, _, rfl, rfl, SqL.of w1, atI_nat (j := 0) rfl, sp, _, rfl, .inr (SqT.of w2), fun L1 nL1 => ⟨Nat.zero_le _, fun B nB => ?_⟩⟩
    have LB : L1 ≠ B := ne_of_none upd_same nB
    have nB0 : H B = none := by rw [upd_ne LB.symm] at nB; exact nB
    have aL1 : a ≠ L1 := hd.ne nL1
    have aB : a ≠ B := hd.ne nB0
    have s0 : EM.St (some a) H (upd (upd H L1 (.lst xs0)) B (.lst [])) := ((St.refl _ _).mut nL1).mut nB0
    have d0 := s0.draws hd
    refine ⟨sz_le (by show 6 ≤ 10000000; decide), fun p1 np1 => ?_⟩
    refine ⟨.ref a, rfl, a, 6, rfl, (St.new np1).draws d0, by decide, fun k1 H2 s2 hk1 => ?_⟩
    obtain ⟨m, hm, gm⟩ := lit_at (xs := [1, 2, 2, 3, 3, 2]) hk1
    have bm : m ≤ 3 := (by decide : ∀ z, z ∈ [1, 2, 2, 3, 3, 2] → z ≤ 3) m hm
    have s02 := (s0.trans (St.new np1)).trans s2
    have s12 := (St.new (m := some a) np1).trans s2
    refine ⟨p1, _, k1, _, rfl, rfl, SqL.of (s2.kp upd_same (d0.ne np1).symm), atI_nat gm, m, rfl, by omega, by omega, for_range (lo := 0) (n := (m : Int).toNat) (fun i σ H3 => ∃ (y6 y7 : Option V) (S' : List Tab) (txs : List V) (as : List Atom) (bxs : List V),
      σ = [some (.ref a), some (.ref wd), some (.int (n : Int)), some (.bl b), some (.ref L1), some (.ref B), y6, y7, none, none, none] ∧ EM.St (some a) H H3 ∧ H3 L1 = some (.lst txs) ∧ DenL H3 (S'.map eTab) txs ∧ (∀ t ∈ S', t ∈ S) ∧ S'.length ≤ 20 ∧
      H3 B = some (.lst bxs) ∧ DenL H3 (as.map eAtom) bxs ∧ (∀ at' ∈ as, AtomOk S at') ∧ as.length ≤ i)
      ⟨none, none, S, xs0, [], [], rfl, s02, s12.kp (by rw [upd_ne LB, upd_same]) aL1.symm, s02.denL w3, fun t h => h, wf.few, s12.kp upd_same aB.symm, .nil, fun t h => absurd h (by simp), Nat.le_refl _⟩ ?_ ?_⟩
    · rintro i σ H3 hi ⟨y6, y7, S', txs, as, bxs, rfl, s3, eL, hS', hsub, hfew, eB, hA, okA, lA⟩
      have d3 := s3.draws hd
      have tl : txs.length = S'.length := hS'.mlen
      have bl : bxs.length = as.length := hA.mlen
      refine ⟨.ref L1, rfl, L1, _, rfl, .inl (SqL.of eL), _, _, rfl, rfl, _, rfl, ite2 (fun e => ?_) (fun e => ?_)⟩
      · have hpos : 0 < txs.length := by
          have := of_decide_eq_true e
          omega
        -- at = take(..)
        refine ⟨.ref a, rfl, .ref L1, rfl, L1, _, rfl, .inl (SqL.of eL), a, txs.length, rfl, d3, hpos, fun k H4 s4 hk => ?_⟩
        have d4 := s4.draws d3
        have eL4 := s4.kp eL aL1.symm
        have eB4 := s4.kp eB aB.symm
        obtain ⟨t, ht, dt⟩ := (s4.denL hS').mback (List.getElem?_eq_getElem hk)
        -- body.append(atom(..))
        refine ⟨.ref B, rfl, .inl ⟨rfl, _, SqL.of eB4⟩, .ref a, rfl, .ref wd, rfl, .ref L1, rfl, _, rfl, L1, txs, (k : Int), _, rfl, rfl, SqL.of eL4, atI_nat (List.getElem?_eq_getElem hk),
          a, wd, S, vars, vals, _, t, rfl, d4, W.st (s3.trans s4), dt, hsub t (List.mem_of_getElem? ht), fun v at' H5 s5 dat okat => ?_⟩
        have s35 := s4.trans s5
        have eL5 := s35.kp eL aL1.symm
        have eB5 := s35.kp eB aB.symm
        refine ⟨B, _, _, rfl, rfl, eB5, sz_lt (by omega), ?_⟩
        have nt : TK H5 (upd H5 B (.lst (bxs ++ [v]))) := .lst eB5
        have eL6 : (upd H5 B (.lst (bxs ++ [v]))) L1 = some (.lst txs) := by rw [upd_ne LB]; exact eL5
        have s36 : EM.St (some a) H (upd H5 B (.lst (bxs ++ [v]))) := (s3.trans s35).mut nB0
        have dA6 : DenL (upd H5 B (.lst (bxs ++ [v]))) ((as ++ [at']).map eAtom) (bxs ++ [v]) := (DenL.tk (s35.tup.trans nt) _ _ hA).msnoc (Den.tk nt _ _ dat)
        have ok6 : ∀ u ∈ as ++ [at'], AtomOk S u := fun u hu => (List.mem_append.mp hu).elim (okA u) fun z => by rw [List.mem_singleton.mp z]; exact okat
        have l6 : (as ++ [at']).length ≤ i + 1 := by rw [List.length_append]; show as.length + 1 ≤ i + 1; omega
        refine ⟨_, rfl, b, rfl, ite2 (fun e => ?_) (fun e => ?_)⟩
        · -- tables.pop(at)
          have hkx : txs[k]? = some txs[k] := List.getElem?_eq_getElem hk
          obtain ⟨k2, hk2, hx2, lt2, _⟩ := atI_get (atI_nat hkx)
          refine ⟨.ref L1, rfl, .inl ⟨rfl, _, SqL.of eL6⟩, _, rfl, L1, txs, (k : Int), k2, _, rfl, rfl, eL6, by omega, by omega, hk2, List.getElem?_eq_getElem lt2, ?_⟩
          refine ⟨_, _, S'.eraseIdx k2, txs.eraseIdx k2, as ++ [at'], bxs ++ [v], rfl, s36.mut nL1, upd_same, ?_, fun u hu => hsub u (List.mem_of_mem_eraseIdx hu), by rw [List.length_eraseIdx]; split <;> omega, by rw [upd_ne LB.symm, upd_same], DenL.tk (.lst eL6) _ _ dA6, ok6, l6⟩
          have dS6 : DenL (upd (upd H5 B (.lst (bxs ++ [v]))) L1 (.lst (txs.eraseIdx k2))) (S'.map eTab) txs := DenL.tk ((s35.tup.trans nt).trans (.lst eL6)) _ _ hS'
          exact dS6.merase k2
        · exact ⟨_, _, S', txs, as ++ [at'], bxs ++ [v], rfl, s36, eL6, DenL.tk (s35.tup.trans nt) _ _ hS', hsub, hfew, upd_same, dA6, ok6, l6⟩
      · exact ⟨_, _, S', txs, as, bxs, rfl, s3, eL, hS', hsub, hfew, eB, hA, okA, by omega⟩
    · rintro σ H3 ⟨y6, y7, S', txs, as, bxs, rfl, s3, eL, hS', hsub, hfew, eB, hA, okA, lA⟩
      have d3 := s3.draws hd
      -- the body may be made empty
      refine ⟨fun σ' H' => EM.St (some a) H H' ∧ ∃ (B' : Addr) (as : List Atom) (bxs : List V), σ' = [some (.ref a), some (.ref wd), some (.int (n : Int)), some (.bl b), some (.ref L1), some (.ref B'), y6, y7, none, none, none] ∧
        H' B' = some (.lst bxs) ∧ B' ≠ a ∧ DenL H' (as.map eAtom) bxs ∧ (∀ at' ∈ as, AtomOk S at') ∧ as.length ≤ 3, ?_, ?_⟩
      · refine ⟨.ref a, rfl, a, 16, rfl, d3, by decide, fun k H4 s4 hk => ⟨rfl, _, rfl, ite2 (fun e => ?_) (fun e => ?_)⟩⟩
        · refine ⟨Nat.zero_le _, fun B' nB' => ⟨(s3.trans s4).trans (St.new nB'), B', [], [], rfl, upd_same, ((s4.draws d3).ne nB').symm, .nil, fun t h => absurd h (by simp), by decide⟩⟩
        · exact ⟨s3.trans s4, B, as, bxs, rfl, s4.kp eB aB.symm, aB.symm, s4.denL hA, okA, by omega⟩
      rintro σ' H4 ⟨s4, B', as, bxs, rfl, eB4, Ba, hA4, okA4, lA4⟩
      have d4 := s4.draws hd
      have bl : bxs.length = as.length := hA4.mlen
      obtain ⟨⟨sp', vr', vl', xs', w1', w2', w3', w4', w5', n1', n2', n3'⟩, _, _, nl'⟩ := W.st s4
      -- terms
      refine ⟨.ref a, rfl, .ref wd, rfl, wd, _, 2, _, rfl, rfl, SqL.of w1', atI_nat (j := 2) rfl, a, vl', vals, rfl, d4, w5', n3', nl', fun kv H5 s5 _ => ⟨sz_le (by show 2 ≤ 10000000; decide), fun tp ntp => ⟨sz_le (by show 1 ≤ 10000000; decide), fun Z nZ => ?_⟩⟩⟩
      have s46 : EM.St (some a) H4 (upd (upd H5 tp (.tup [.str "value", kV kv])) Z (.lst [.ref tp])) := (s5.trans (St.new ntp)).trans (St.new nZ)
      have Za : Z ≠ a := (((St.new (m := some a) ntp).draws (s5.draws d4)).ne nZ).symm
      refine ⟨.ref B', rfl, B', rfl, ⟨_, SqL.of (s46.kp eB4 Ba)⟩, for_list (K := K) (a := B') (xs := bxs) (fun i σ H6 => ∃ (y9 : Option V) (Z' : Addr) (ts : List Tm) (txs : List V), σ = [some (.ref a), some (.ref wd), some (.int (n : Int)), some (.bl b), some (.ref L1), some (.ref B'), y6, y7, some (.ref Z'), y9, none] ∧
        EM.St (some a) H4 H6 ∧ H6 Z' = some (.lst txs) ∧ Z' ≠ a ∧ DenL H6 (ts.map eTm) txs ∧ Terms as ts ∧ ts.length ≤ 1 + 8 * i)
        ⟨none, Z, [.val kv], [.ref tp], rfl, s46, upd_same, Za, .one (den_tm.mpr ⟨tp, rfl, by rw [upd_ne (ne_of_none upd_same nZ), upd_same]; rfl⟩), ⟨Nat.one_pos, fun x hx => absurd (List.mem_singleton.mp hx) (fun z => nomatch z)⟩, by show 1 ≤ 1 + 8 * 0; decide⟩
        (fun i σ H6 _ h => by obtain ⟨_, _, _, _, _, s6, _⟩ := h; exact SqL.of (s6.kp eB4 Ba)) ?_ ?_⟩
      · rintro i x σ H6 hi ⟨y9, Z', ts, txs, rfl, s6, eZ, Za', hts, okT, lT⟩
        obtain ⟨at', hat, dat⟩ := (s6.denL hA4).mback hi
        have amem := List.mem_of_getElem? hat
        have a8 := (okA4 at' amem).small wf
        obtain ⟨ap, nx, tx, rfl, hap, dn, dt⟩ := den_2.mp dat
        obtain ⟨tq, tqs, tqo, rfl, htq, hto, dtq⟩ := den_mapL.mp dt
        have tql : tqs.length = at'.2.length := dtq.mlen
        have d6 := s6.draws d4
        have il : i < bxs.length := (List.getElem?_eq_some_iff.mp hi).1
        have tl := hts.mlen
        -- [t for t in atom[1] if t[0] == 'var'] + terms
        refine ⟨.ref ap, rfl, ap, _, 1, _, rfl, rfl, SqT.of hap, atI_nat (j := 1) rfl, tq, rfl, ⟨_, SqT.z htq⟩, gatherD (m := some a) (l := at'.2) (φ := varTm) (enc := eTm) wkT tql.symm (fun H s => SqT.z (s.tup _ _ htq)) (fun b z => by cases z; exact d6) (by omega)
          (fun i2 x2 H7 t ht hx s7 R N k1 k2 => ?_) (fun D2 xs2 H7 s7 nD2 hD2 dxs => ?_)⟩
        · obtain ⟨x', hx', dx'⟩ := (s7.denL dtq).mget ht
          rw [hx] at hx'
          obtain rfl := Option.some.inj hx'
          obtain ⟨tp2, rfl, htp2⟩ := den_tm.mp dx'
          refine ⟨rfl, _, rfl, tp2, _, 0, _, rfl, rfl, SqT.of htp2, atI_nat (j := 0) rfl, rfl, _, rfl, ite2 (fun e => ?_) (fun e => ?_)⟩
          · cases t with
            | var x => exact ⟨_, rfl, k1 _ _ _ (.refl _ _) rfl (den_tm.mpr ⟨tp2, rfl, htp2⟩)⟩
            | val c => exact absurd (V.str.inj (of_decide_eq_true e)) var_str
          · cases t with
            | var x => exact absurd (decide_eq_true rfl) e
            | val c => exact k2 _ (.refl _ _) rfl
        · have x2l : xs2.length ≤ 8 := by
            rw [dxs.mlen]
            exact Nat.le_trans (List.length_filterMap_le _ _) a8
          have eZ7 := s7.kp eZ Za'
          refine ⟨.ref Z', rfl, D2, Z', _, _, rfl, rfl, hD2, eZ7, sz_le (by omega), fun Z2 nZ2 => ?_⟩
          refine ⟨_, Z2, at'.2.filterMap varTm ++ ts, _, rfl, (s6.trans s7).trans (St.new nZ2), upd_same, ((s7.draws d6).ne nZ2).symm, ?_, ⟨?_, fun y hy => ?_⟩, ?_⟩
          · rw [List.map_append]
            exact (DenL.tk (.new nZ2) _ _ dxs).append (DenL.tk (s7.tup.trans (.new nZ2)) _ _ hts)
          · rw [List.length_append]; have := okT.ne; omega
          · rcases List.mem_append.mp hy with hy | hy
            · obtain ⟨t, ht, e⟩ := List.mem_filterMap.mp hy
              obtain rfl := var_of e
              exact ⟨at', amem, ht⟩
            · exact okT.vars y hy
          · rw [List.length_append]
            have := List.length_filterMap_le varTm at'.2
            omega
      · rintro σ H6 ⟨y9, Z', ts, txs, rfl, s6, eZ, Za', hts, okT, lT⟩
        have d6 := s6.draws d4
        have tl := hts.mlen
        -- the head, the body
        refine ⟨_, rfl, _, rfl, by omega, by omega, gather (m := some a) (n := (n : Int).toNat) wkR (fun _ _ => trivial) (fun b z => by cases z; exact d6) (by omega) (fun i v H => ∃ t : Tm, t ∈ ts ∧ Den H (eTm t) v) (fun _ _ _ _ k ⟨t, h, d⟩ => ⟨t, h, Den.tk k _ _ d⟩)
          (fun i2 x H7 hi2 hx s7 R k => ?_) (fun D xs H7 s7 nD hD hlen hp => ?_) gname_mono⟩
        · refine ⟨rfl, .ref a, rfl, .ref Z', rfl, a, Z', txs, rfl, s7.draws d6, .inl (s7.kp eZ Za'), Za', by have := okT.ne; omega, fun x H8 s8 hx8 => k _ _ s8 ?_⟩
          obtain ⟨t, ht, dt⟩ := hts.mem hx8
          exact ⟨t, ht, Den.tk (s7.tup.trans s8.tup) _ _ dt⟩
        · obtain ⟨hs, dhs, lhs, phs⟩ := collectI (f := eTm) (Pr := fun t => t ∈ ts) xs hp
          refine ⟨D, xs, rfl, .inl ⟨SqL.of hD, fun u nu => ?_⟩⟩
          have s47 := s6.trans s7
          have eB7 := s47.kp eB4 Ba
          have eB8 : (upd H7 u (.tup xs)) B' = some (.lst bxs) := by rw [upd_ne (ne_of_none eB7 nu)]; exact eB7
          refine ⟨.ref B', rfl, B', bxs, rfl, .inl ⟨SqL.of eB8, fun u2 nu2 => ⟨sz_le (by show 2 ≤ 10000000; decide), fun p np => ?_⟩⟩⟩
          have uu2 : u ≠ u2 := ne_of_none upd_same nu2
          have up : u ≠ p := ne_of_none (by rw [upd_ne uu2, upd_same]) np
          have u2p : u2 ≠ p := ne_of_none upd_same np
          have tk : ∀ o, TK H7 (upd (upd (upd H7 u (.tup xs)) u2 (.tup bxs)) p o) := fun o => ((TK.new nu).trans (.new nu2)).trans (TK.new (o := o) np)
          refine q _ (hs, as) _ ((((s4.trans s47).trans (St.new nu)).trans (St.new nu2)).trans (St.new np)) (den_2.mpr ⟨p, _, _, rfl, upd_same, den_map.mpr ⟨u, xs, rfl, ?_, ?_⟩, den_map.mpr ⟨u2, bxs, rfl, ?_, ?_⟩⟩) ⟨okA4, lA4, ?_, fun y hy => okT.vars y (phs _ hy)⟩
          · rw [upd_ne up, upd_ne uu2, upd_same]
          · exact DenL.tk (tk _) _ _ dhs
          · rw [upd_ne u2p, upd_same]
          · exact DenL.tk (s47.tup.trans (tk _)) _ _ hA4
          · show hs.length = n
            omega
end
end EM
namespace EM
open PySem PySem.Spec PyProof.Rows L2
section
variable {P : Program} {w : World} {K : PySem.W.Frag} {mg : Str → Option Value} {base : Heap}
/-! ### a broad join -/
def spBroadJoin : Sp := fun vs H Q _ => ∃ (a wd : Addr) (S : List Tab) (vars : List Str) (vals : List Key) (n : Nat), vs = [.ref a, .ref wd, .int (n : Int), .int 3] ∧ DrawsOk H a ∧ WorldAt a H wd S vars vals ∧ n ≤ 3 ∧
  ∀ (v : V) (j : Join) H', EM.St (some a) H H' → Den H' (eJoin j) v → JoinOk S n j → Q v H'
theorem hasLBroadJoin (T : Txt K mg) : Has P w K mg base 4 "_law_broad_join" ["_law_draws_here", "_law_world_here", "_law_width", "_law_most"] spBroadJoin := by
  refine T.dLBroadJoin.has scLBroadJoin (fun vs H Q E h => ?_) (fun f cdv A outer s H vs Q E hr h => ?_)
  · obtain ⟨a, wd, S, vars, vals, n, rfl, _⟩ := h
    rfl
  · obtain ⟨a, wd, S, vars, vals, n, rfl, hd, W, hn, q⟩ := h
    refine ⟨_,
      (pss_cons (ps_set (i := 4) scLBroadJoin.nd rfl (.inl rfl) (pe_lst pa_nil))
      (pss_cons (ps_for PassesOwn.never rfl (pi_range1 (by rfl) T.mrange (pa_cons (pe_ix (ixL K) (pe_lst (pa_cons pe_int (pa_cons pe_int (pa_cons (pv 3) (pa_cons pe_int (pa_cons pe_int (pa_cons pe_int pa_nil))))))) (pe_own (hasLTake T) hr (by decide) (by rfl) (pa_cons (pv 0) (pa_cons pe_int pa_nil))) (fun _ _ => rfl)) pa_nil)) (pg_name (i := 5) scLBroadJoin.nd rfl (Or.inl rfl))
        (pss_cons (ps_set (i := 6) scLBroadJoin.nd rfl (.inl rfl) (pe_own (hasLPick T) hr (by decide) (by rfl) (pa_cons (pv 0) (pa_cons (pe_ix (ixL K) (pv 1) pe_int (fun _ _ => rfl)) pa_nil))))
        (pss_cons (ps_setLc (i := 7) (own := [("_law_j", 10)]) (g := (gName 10)) (tt := tYes) rfl scLBroadJoin.nd rfl rfl (sw_true rfl rfl rfl (by decide +kernel)) (pi_range1 (by rfl) T.mrange (pa_cons (pe_op op_add (pe_ix (ixT K) (pv 6) pe_int (fun _ _ => rfl)) (pe_ix (ixT K) (pv 6) pe_int (fun _ _ => rfl))) pa_nil)) (blkOk_by (N := nmLBroadJoin) (sc := defScope stLBroadJoin) (by decide +kernel)) (fun _ _ _ _ _ => (pg_name (i := 10) scLBroadJoin.nd rfl (Or.inl rfl))) (fun _ _ _ _ _ => pts_nil) (fun _ _ _ _ _ => (pe_own (hasLBroadTerm T) hr (by decide) (by rfl) (pa_cons (pv 0) (pa_cons (pv 1) pa_nil)))))
        (pss_one (ps_expr (pe_bm PySem.F.plainAttrs_list PySem.F.slot_list_append PySem.F.type_list_append mt_append (pv 4) (pa_cons (pe_tup (pa_cons (pe_ix (ixT K) (pv 6) pe_int (fun _ _ => rfl)) (pa_cons (pe_callTy (tupZ K) (by rfl) T.mtuple (by decide +kernel) (pa_cons (pv 7) pa_nil)) pa_nil))) pa_nil)))))))
      (pss_cons (ps_set (i := 8) scLBroadJoin.nd rfl (.inr rfl) (pe_lst (pa_cons (pe_tup (pa_cons pe_str (pa_cons (pe_own (hasLPick T) hr (by decide) (by rfl) (pa_cons (pv 0) (pa_cons (pe_ix (ixL K) (pv 1) pe_int (fun _ _ => rfl)) pa_nil))) pa_nil))) pa_nil)))
      (pss_cons (ps_for PassesOwn.never rfl (itL K (pv 4)) (pg_name (i := 9) scLBroadJoin.nd rfl (Or.inl rfl))
        (pss_one (ps_set (i := 8) scLBroadJoin.nd rfl (.inr rfl) (pe_op op_cat (pe_lc (own := [("_law_term_here", 11)]) (g := (gName 11)) rfl scLBroadJoin.nd (itT K (pe_ix (ixT K) (pv 9) pe_int (fun _ _ => rfl))) (blkOk_by (N := nmLBroadJoin) (sc := defScope stLBroadJoin) (by decide +kernel)) (fun _ _ _ _ _ => (pg_name (i := 11) scLBroadJoin.nd rfl (Or.inl rfl))) (fun _ _ _ _ _ => (pts_one (pt_cmpR op_eq (pe_ix (ixT K) (pv 11) pe_int (fun _ _ => rfl)) pe_str (nomark _)))) (fun _ _ _ _ _ => (pv 11))) (pv 8)))))
      (pss_one (ps_ret (pe_tup (pa_cons (pe_callTy (tupOf K) (by rfl) T.mtuple (by decide +kernel) (pa_cons (pe_lc (own := [("_law_k", 5)]) (g := (gName 5)) (tt := tYes) rfl scLBroadJoin.nd (pi_range1 (by rfl) T.mrange (pa_cons (pv 2) pa_nil)) (blkOk_by (N := nmLBroadJoin) (sc := defScope stLBroadJoin) (by decide +kernel)) (fun _ _ _ _ _ => (pg_name (i := 5) scLBroadJoin.nd rfl (Or.inl rfl))) (fun _ _ _ _ _ => pts_nil) (fun _ _ _ _ _ => (pe_own (hasLPick T) hr (by decide) (by rfl) (pa_cons (pv 0) (pa_cons (pv 8) pa_nil))))) pa_nil)) (pa_cons (pe_callTy (tupOf K) (by rfl) T.mtuple (by decide +kernel) (pa_cons (pv 4) pa_nil)) pa_nil))))))))), ?_⟩
    have wf := W.wf
    -- body
    refine ⟨Nat.zero_le _, fun B nB => ?_⟩
    have aB : a ≠ B := hd.ne nB
    have s0 : EM.St (some a) H (upd H B (.lst [])) := St.new nB
    have d0 := s0.draws hd
    refine ⟨_, rfl, sz_le (by show 6 ≤ 10000000; decide), fun p1 np1 => ?_⟩
    refine ⟨.ref a, rfl, a, 6, rfl, (St.new np1).draws d0, by decide, fun k1 H2 s2 hk1 => ?_⟩
    obtain ⟨m, hm, gm⟩ := lit_at (xs := [1, 2, 3, 2, 0, 1]) hk1
    have bm : m ≤ 3 := (by decide : ∀ z, z ∈ [1, 2, 3, 2, 0, 1] → z ≤ 3) m hm
    have s12 := (St.new (m := some a) np1).trans s2
    refine ⟨p1, _, k1, _, rfl, rfl, SqL.of (s2.kp upd_same (d0.ne np1).symm), atI_nat gm, m, rfl, by omega, by omega, for_range (lo := 0) (n := (m : Int).toNat) (fun i σ H3 => ∃ (y5 y6 y7 : Option V) (as : List Atom) (bxs : List V),
      σ = [some (.ref a), some (.ref wd), some (.int (n : Int)), some (.int 3), some (.ref B), y5, y6, y7, none, none, none, none] ∧ EM.St (some a) H H3 ∧ H3 B = some (.lst bxs) ∧ DenL H3 (as.map eAtom) bxs ∧ (∀ at' ∈ as, AtomOk S at') ∧ as.length ≤ i)
      ⟨none, none, none, [], [], rfl, s0.trans s12, s12.kp upd_same aB.symm, .nil, fun t h => absurd h (by simp), Nat.le_refl _⟩ ?_ ?_⟩
    · rintro i σ H3 hi ⟨y5, y6, y7, as, bxs, rfl, s3, eB, hA, okA, lA⟩
      have d3 := s3.draws hd
      have bl : bxs.length = as.length := hA.mlen
      obtain ⟨⟨sp, vr, vl, xs0, w1, w2, w3, w4, w5, n1, n2, n3⟩, _, _, _⟩ := W.st s3
      have x0 : 0 < xs0.length := by
        rw [w3.mlen]
        exact Nat.pos_of_ne_zero fun z => wf.ne (List.eq_nil_of_length_eq_zero z)
      have spa : sp ≠ a := fun z => by
        obtain ⟨ds, e⟩ := d3
        rw [z] at w2
        rw [w2] at e
        cases e
      -- table
      refine ⟨.ref a, rfl, .ref wd, rfl, wd, _, 0, _, rfl, rfl, SqL.of w1, atI_nat (j := 0) rfl, a, sp, xs0, rfl, d3, .inr w2, spa, x0, fun tv H4 s4 htv => ?_⟩
      obtain ⟨t, ht, dt⟩ := w3.mem htv
      obtain ⟨tp, rfl, htp⟩ := den_tab.mp (Den.tk s4.tup _ _ dt)
      have d4 := s4.draws d3
      have small := wf.small t ht
      -- terms
      refine ⟨.ref tp, rfl, tp, _, 1, _, rfl, rfl, SqT.of htp, atI_nat (j := 1) rfl, .ref tp, rfl, tp, _, 2, _, rfl, rfl, SqT.of htp, atI_nat (j := 2) rfl, _, _, rfl, rfl, _, rfl, by omega, by omega,
        gather (m := some a) (n := ((t.2.1 : Int) + (t.2.2 : Int)).toNat) wkR (fun _ _ => trivial) (fun b z => by cases z; exact d4) (by omega) (fun i v H => ∃ t : Tm, True ∧ Den H (eTm t) v) (fun _ _ _ _ k ⟨t, _, d⟩ => ⟨t, trivial, Den.tk k _ _ d⟩)
          (fun i2 x H5 hi2 hx s5 R k => ?_) (fun D xs H5 s5 nD hD hlen hp => ?_) gname_mono⟩
      · exact ⟨rfl, .ref a, rfl, .ref wd, rfl, a, wd, S, vars, vals, rfl, s5.draws d4, W.st ((s3.trans s4).trans s5), fun v t H6 s6 d => k _ _ s6 ⟨t, trivial, d⟩⟩
      · obtain ⟨ts, dts, lts, _⟩ := collectI (f := eTm) (Pr := fun _ => True) xs hp
        have s35 := s4.trans s5
        have eB5 := s35.kp eB aB.symm
        have htp5 := s5.tup _ _ htp
        -- body.append((table[0], tuple(terms)))
        refine ⟨.ref B, rfl, .inl ⟨rfl, _, SqL.of eB5⟩, .ref tp, rfl, tp, _, 0, _, rfl, rfl, SqT.of htp5, atI_nat (j := 0) rfl, .ref D, rfl, D, xs, rfl, SqL.of hD, fun u o nu ho => ⟨sz_le (by show 2 ≤ 10000000; decide), fun p np => ?_⟩⟩
        have Bu : B ≠ u := ne_of_none eB5 nu
        have eB6 : (upd H5 u (.frz o (.tup xs))) B = some (.lst bxs) := by rw [upd_ne Bu]; exact eB5
        have Bp : B ≠ p := ne_of_none eB6 np
        have up : u ≠ p := ne_of_none upd_same np
        have eB7 : (upd (upd H5 u (.frz o (.tup xs))) p (.tup [.str t.1, .ref u])) B = some (.lst bxs) := by rw [upd_ne Bp]; exact eB6
        refine ⟨B, _, _, rfl, rfl, eB7, sz_lt (by omega), ?_⟩
        have tk : TK H5 (upd (upd (upd H5 u (.frz o (.tup xs))) p (.tup [.str t.1, .ref u])) B (.lst (bxs ++ [.ref p]))) := ((TK.new nu).trans (.new np)).trans (.lst eB7)
        refine ⟨_, _, _, as ++ [(t.1, ts)], bxs ++ [.ref p], rfl, (((s3.trans s35).trans (St.new nu)).trans (St.new np)).mut nB, upd_same, (DenL.tk (s35.tup.trans tk) _ _ hA).msnoc (den_2.mpr ⟨p, _, _, rfl, ?_, den_str.mpr rfl, den_mapL.mpr ⟨u, xs, o, rfl, ?_, ho, DenL.tk tk _ _ dts⟩⟩), ?_, ?_⟩
        · rw [upd_ne Bp.symm, upd_same]
        · rw [upd_ne Bu.symm, upd_ne up, upd_same]
        · intro at' hat
          rcases List.mem_append.mp hat with hat | hat
          · exact okA at' hat
          · rw [List.mem_singleton.mp hat]
            exact ⟨t, ht, rfl, by show t.2.1 + t.2.2 = ts.length; omega⟩
        · rw [List.length_append]; show as.length + 1 ≤ i + 1; omega
    · rintro σ H4 ⟨y5, y6, y7, as, bxs, rfl, s4, eB4, hA4, okA4, lA4⟩
      have d4 := s4.draws hd
      have bl : bxs.length = as.length := hA4.mlen
      have Ba := aB.symm
      obtain ⟨⟨sp', vr', vl', xs', w1', w2', w3', w4', w5', n1', n2', n3'⟩, _, _, nl'⟩ := W.st s4
      -- known
      refine ⟨.ref a, rfl, .ref wd, rfl, wd, _, 2, _, rfl, rfl, SqL.of w1', atI_nat (j := 2) rfl, a, vl', _, rfl, d4, .inl w5', n3', by rw [List.length_map]; omega, fun kx H5 s5 hkx => ⟨sz_le (by show 2 ≤ 10000000; decide), fun tp ntp => ⟨sz_le (by show 1 ≤ 10000000; decide), fun Z nZ => ?_⟩⟩⟩
      obtain ⟨kv, _, rfl⟩ := List.mem_map.mp hkx
      have s46 : EM.St (some a) H4 (upd (upd H5 tp (.tup [.str "value", kV kv])) Z (.lst [.ref tp])) := (s5.trans (St.new ntp)).trans (St.new nZ)
      have Za : Z ≠ a := (((St.new (m := some a) ntp).draws (s5.draws d4)).ne nZ).symm
      refine ⟨.ref B, rfl, B, rfl, ⟨_, SqL.of (s46.kp eB4 Ba)⟩, for_list (K := K) (a := B) (xs := bxs) (fun i σ H6 => ∃ (y9 : Option V) (Z' : Addr) (ts : List Tm) (txs : List V), σ = [some (.ref a), some (.ref wd), some (.int (n : Int)), some (.int 3), some (.ref B), y5, y6, y7, some (.ref Z'), y9, none, none] ∧
        EM.St (some a) H4 H6 ∧ H6 Z' = some (.lst txs) ∧ Z' ≠ a ∧ DenL H6 (ts.map eTm) txs ∧ Terms as ts ∧ ts.length ≤ 1 + 8 * i)
        ⟨none, Z, [.val kv], [.ref tp], rfl, s46, upd_same, Za, .one (den_tm.mpr ⟨tp, rfl, by rw [upd_ne (ne_of_none upd_same nZ), upd_same]; rfl⟩), ⟨Nat.one_pos, fun x hx => absurd (List.mem_singleton.mp hx) (fun z => nomatch z)⟩, by show 1 ≤ 1 + 8 * 0; decide⟩
        (fun i σ H6 _ h => by obtain ⟨_, _, _, _, _, s6, _⟩ := h; exact SqL.of (s6.kp eB4 Ba)) ?_ ?_⟩
      · rintro i x σ H6 hi ⟨y9, Z', ts, txs, rfl, s6, eZ, Za', hts, okT, lT⟩
        obtain ⟨at', hat, dat⟩ := (s6.denL hA4).mback hi
        have amem := List.mem_of_getElem? hat
        have a8 := (okA4 at' amem).small wf
        obtain ⟨ap, nx, tx, rfl, hap, dn, dt⟩ := den_2.mp dat
        obtain ⟨tq, tqs, tqo, rfl, htq, hto, dtq⟩ := den_mapL.mp dt
        have tql : tqs.length = at'.2.length := dtq.mlen
        have d6 := s6.draws d4
        have il : i < bxs.length := (List.getElem?_eq_some_iff.mp hi).1
        have tl := hts.mlen
        refine ⟨.ref ap, rfl, ap, _, 1, _, rfl, rfl, SqT.of hap, atI_nat (j := 1) rfl, tq, rfl, ⟨_, SqT.z htq⟩, gatherD (m := some a) (l := at'.2) (φ := varTm) (enc := eTm) wkT tql.symm (fun H s => SqT.z (s.tup _ _ htq)) (fun b z => by cases z; exact d6) (by omega)
          (fun i2 x2 H7 t ht hx s7 R N k1 k2 => ?_) (fun D2 xs2 H7 s7 nD2 hD2 dxs => ?_)⟩
        · obtain ⟨x', hx', dx'⟩ := (s7.denL dtq).mget ht
          rw [hx] at hx'
          obtain rfl := Option.some.inj hx'
          obtain ⟨tp2, rfl, htp2⟩ := den_tm.mp dx'
          refine ⟨rfl, _, rfl, tp2, _, 0, _, rfl, rfl, SqT.of htp2, atI_nat (j := 0) rfl, rfl, _, rfl, ite2 (fun e => ?_) (fun e => ?_)⟩
          · cases t with
            | var x => exact ⟨_, rfl, k1 _ _ _ (.refl _ _) rfl (den_tm.mpr ⟨tp2, rfl, htp2⟩)⟩
            | val c => exact absurd (V.str.inj (of_decide_eq_true e)) var_str
          · cases t with
            | var x => exact absurd (decide_eq_true rfl) e
            | val c => exact k2 _ (.refl _ _) rfl
        · have x2l : xs2.length ≤ 8 := by
            rw [dxs.mlen]
            exact Nat.le_trans (List.length_filterMap_le _ _) a8
          have eZ7 := s7.kp eZ Za'
          refine ⟨.ref Z', rfl, D2, Z', _, _, rfl, rfl, hD2, eZ7, sz_le (by omega), fun Z2 nZ2 => ?_⟩
          refine ⟨_, Z2, at'.2.filterMap varTm ++ ts, _, rfl, (s6.trans s7).trans (St.new nZ2), upd_same, ((s7.draws d6).ne nZ2).symm, ?_, ⟨?_, fun y hy => ?_⟩, ?_⟩
          · rw [List.map_append]
            exact (DenL.tk (.new nZ2) _ _ dxs).append (DenL.tk (s7.tup.trans (.new nZ2)) _ _ hts)
          · rw [List.length_append]; have := okT.ne; omega
          · rcases List.mem_append.mp hy with hy | hy
            · obtain ⟨t, ht, e⟩ := List.mem_filterMap.mp hy
              obtain rfl := var_of e
              exact ⟨at', amem, ht⟩
            · exact okT.vars y hy
          · rw [List.length_append]
            have := List.length_filterMap_le varTm at'.2
            omega
      · rintro σ H6 ⟨y9, Z', ts, txs, rfl, s6, eZ, Za', hts, okT, lT⟩
        have d6 := s6.draws d4
        have tl := hts.mlen
        refine ⟨_, rfl, _, rfl, by omega, by omega, gather (m := some a) (n := (n : Int).toNat) wkR (fun _ _ => trivial) (fun b z => by cases z; exact d6) (by omega) (fun i v H => ∃ t : Tm, t ∈ ts ∧ Den H (eTm t) v) (fun _ _ _ _ k ⟨t, h, d⟩ => ⟨t, h, Den.tk k _ _ d⟩)
          (fun i2 x H7 hi2 hx s7 R k => ?_) (fun D xs H7 s7 nD hD hlen hp => ?_) gname_mono⟩
        · refine ⟨rfl, .ref a, rfl, .ref Z', rfl, a, Z', txs, rfl, s7.draws d6, .inl (s7.kp eZ Za'), Za', by have := okT.ne; omega, fun x H8 s8 hx8 => k _ _ s8 ?_⟩
          obtain ⟨t, ht, dt⟩ := hts.mem hx8
          exact ⟨t, ht, Den.tk (s7.tup.trans s8.tup) _ _ dt⟩
        · obtain ⟨hs, dhs, lhs, phs⟩ := collectI (f := eTm) (Pr := fun t => t ∈ ts) xs hp
          refine ⟨D, xs, rfl, .inl ⟨SqL.of hD, fun u nu => ?_⟩⟩
          have s47 := s6.trans s7
          have eB7 := s47.kp eB4 Ba
          have eB8 : (upd H7 u (.tup xs)) B = some (.lst bxs) := by rw [upd_ne (ne_of_none eB7 nu)]; exact eB7
          refine ⟨.ref B, rfl, B, bxs, rfl, .inl ⟨SqL.of eB8, fun u2 nu2 => ⟨sz_le (by show 2 ≤ 10000000; decide), fun p np => ?_⟩⟩⟩
          have uu2 : u ≠ u2 := ne_of_none upd_same nu2
          have up : u ≠ p := ne_of_none (by rw [upd_ne uu2, upd_same]) np
          have u2p : u2 ≠ p := ne_of_none upd_same np
          have tk : ∀ o, TK H7 (upd (upd (upd H7 u (.tup xs)) u2 (.tup bxs)) p o) := fun o => ((TK.new nu).trans (.new nu2)).trans (TK.new (o := o) np)
          refine q _ (hs, as) _ ((((s4.trans s47).trans (St.new nu)).trans (St.new nu2)).trans (St.new np)) (den_2.mpr ⟨p, _, _, rfl, upd_same, den_map.mpr ⟨u, xs, rfl, ?_, ?_⟩, den_map.mpr ⟨u2, bxs, rfl, ?_, ?_⟩⟩) ⟨okA4, (show as.length ≤ 3 by omega), ?_, fun y hy => okT.vars y (phs _ hy)⟩
          · rw [upd_ne up, upd_ne uu2, upd_same]
          · exact DenL.tk (tk _) _ _ dhs
          · rw [upd_ne u2p, upd_same]
          · exact DenL.tk (s47.tup.trans (tk _)) _ _ hA4
          · show hs.length = n
            omega
/-! ### questions -/
def spQuestion : Sp := fun vs H Q _ => ∃ (a wd : Addr) (S : List Tab) (vars : List Str) (vals : List Key) (n : Nat), vs = [.ref a, .ref wd, .int (n : Int)] ∧ DrawsOk H a ∧ WorldAt a H wd S vars vals ∧ n ≤ 3 ∧
  ∀ (v : V) (qs : List Join) H', EM.St (some a) H H' → Den H' (eQ n qs) v → QOk S n qs → Q v H'
theorem hasLQuestion (T : Txt K mg) : Has P w K mg base 6 "_law_question" ["_law_draws_here", "_law_world_here", "_law_width"] spQuestion := by
  refine T.dLQuestion.has scLQuestion (fun vs H Q E h => ?_) (fun f cdv A outer s H vs Q E hr h => ?_)
  · obtain ⟨a, wd, S, vars, vals, n, rfl, _⟩ := h
    rfl
  · obtain ⟨a, wd, S, vars, vals, n, rfl, hd, W, hn, q⟩ := h
    refine ⟨_,
      (pss_cons (ps_set (i := 3) scLQuestion.nd rfl (.inl rfl) (pe_ix (ixL K) (pe_lst (pa_cons pe_int (pa_cons pe_int (pa_cons pe_int (pa_cons pe_int (pa_cons pe_int (pa_cons pe_int (pa_cons pe_int (pa_cons pe_int pa_nil))))))))) (pe_own (hasLTake T) hr (by decide) (by rfl) (pa_cons (pv 0) (pa_cons pe_int pa_nil))) (fun _ _ => rfl)))
      (pss_one (ps_ret (pe_tup (pa_cons (pv 2) (pa_cons (pe_callTy (tupOf K) (by rfl) T.mtuple (by decide +kernel) (pa_cons (pe_lc (own := [("_law_k", 4)]) (g := (gName 4)) (tt := tYes) rfl scLQuestion.nd (pi_range1 (by rfl) T.mrange (pa_cons (pv 3) pa_nil)) (blkOk_by (N := nmLQuestion) (sc := defScope stLQuestion) (by decide +kernel)) (fun _ _ _ _ _ => (pg_name (i := 4) scLQuestion.nd rfl (Or.inl rfl))) (fun _ _ _ _ _ => pts_nil) (fun _ _ _ _ _ => (pe_own (hasLJoin T) hr (by decide) (by rfl) (pa_cons (pv 0) (pa_cons (pv 1) (pa_cons (pv 2) (pa_cons (pe_cmpR op_gt (pe_own (hasLTake T) hr (by decide) (by rfl) (pa_cons (pv 0) (pa_cons pe_int pa_nil))) pe_int (nomark _)) pa_nil))))))) pa_nil)) pa_nil)))))), ?_⟩
    refine ⟨sz_le (by show 8 ≤ 10000000; decide), fun p1 np1 => ?_⟩
    refine ⟨.ref a, rfl, a, 8, rfl, (St.new np1).draws hd, by decide, fun k1 H2 s2 hk1 => ?_⟩
    obtain ⟨m, hm, gm⟩ := lit_at (xs := [1, 1, 2, 1, 2, 1, 0, 2]) hk1
    have bm : m ≤ 2 := (by decide : ∀ z, z ∈ [1, 1, 2, 1, 2, 1, 0, 2] → z ≤ 2) m hm
    have s02 := (St.new (m := some a) np1).trans s2
    have d2 := s02.draws hd
    refine ⟨p1, _, k1, _, rfl, rfl, SqL.of (s2.kp upd_same (hd.ne np1).symm), atI_nat gm, ?_⟩
    refine ⟨_, rfl, _, rfl, m, rfl, by omega, by omega, gather (m := some a) (n := (m : Int).toNat) wkR (fun _ _ => trivial) (fun b z => by cases z; exact d2) (by omega) (fun i v H => ∃ j : Join, JoinOk S n j ∧ Den H (eJoin j) v) (fun _ _ _ _ k ⟨t, h, d⟩ => ⟨t, h, Den.tk k _ _ d⟩)
      (fun i2 x H5 hi2 hx s5 R k => ?_) (fun D xs H5 s5 nD hD hlen hp => ?_) gname_mono⟩
    · refine ⟨rfl, .ref a, rfl, .ref wd, rfl, _, rfl, .ref a, rfl, a, 3, rfl, s5.draws d2, by decide, fun k3 H6 s6 hk3 => ⟨_, _, rfl, rfl, a, wd, S, vars, vals, n, _, rfl, s6.draws (s5.draws d2), W.st ((s02.trans s5).trans s6), hn, fun v j H7 s7 dj okj => k _ _ (s6.trans s7) ⟨j, okj, dj⟩⟩⟩
    · obtain ⟨qs, dqs, lqs, pqs⟩ := collectI (f := eJoin) (Pr := fun j => JoinOk S n j) xs hp
      refine ⟨D, xs, rfl, .inl ⟨SqL.of hD, fun u nu => ⟨sz_le (by show 2 ≤ 10000000; decide), fun p np => ?_⟩⟩⟩
      refine q _ qs _ (((s02.trans s5).trans (St.new nu)).trans (St.new np)) (den_2.mpr ⟨p, _, _, rfl, upd_same, den_int.mpr rfl, den_map.mpr ⟨u, xs, rfl, ?_, DenL.tk ((TK.new nu).trans (.new np)) _ _ dqs⟩⟩) ⟨pqs, by omega⟩
      rw [upd_ne (ne_of_none upd_same np), upd_same]
def spBroadQuestion : Sp := fun vs H Q _ => ∃ (a wd : Addr) (S : List Tab) (vars : List Str) (vals : List Key) (n : Nat), vs = [.ref a, .ref wd, .int (n : Int), .int 3] ∧ DrawsOk H a ∧ WorldAt a H wd S vars vals ∧ n ≤ 3 ∧
  ∀ (v : V) (qs : List Join) H', EM.St (some a) H H' → Den H' (eQ n qs) v → QOk S n qs → Q v H'
theorem hasLBroadQuestion (T : Txt K mg) : Has P w K mg base 6 "_law_broad_question" ["_law_draws_here", "_law_world_here", "_law_width", "_law_most"] spBroadQuestion := by
  refine T.dLBroadQuestion.has scLBroadQuestion (fun vs H Q E h => ?_) (fun f cdv A outer s H vs Q E hr h => ?_)
  · obtain ⟨a, wd, S, vars, vals, n, rfl, _⟩ := h
    rfl
  · obtain ⟨a, wd, S, vars, vals, n, rfl, hd, W, hn, q⟩ := h
    refine ⟨_,
      (pss_cons (ps_set (i := 4) scLBroadQuestion.nd rfl (.inl rfl) (pe_ix (ixL K) (pe_lst (pa_cons pe_int (pa_cons pe_int (pa_cons pe_int (pa_cons pe_int (pa_cons pe_int (pa_cons pe_int (pa_cons pe_int pa_nil)))))))) (pe_own (hasLTake T) hr (by decide) (by rfl) (pa_cons (pv 0) (pa_cons pe_int pa_nil))) (fun _ _ => rfl)))
      (pss_one (ps_ret (pe_tup (pa_cons (pv 2) (pa_cons (pe_callTy (tupOf K) (by rfl) T.mtuple (by decide +kernel) (pa_cons (pe_lc (own := [("_law_k", 5)]) (g := (gName 5)) (tt := tYes) rfl scLBroadQuestion.nd (pi_range1 (by rfl) T.mrange (pa_cons (pv 4) pa_nil)) (blkOk_by (N := nmLBroadQuestion) (sc := defScope stLBroadQuestion) (by decide +kernel)) (fun _ _ _ _ _ => (pg_name (i := 5) scLBroadQuestion.nd rfl (Or.inl rfl))) (fun _ _ _ _ _ => pts_nil) (fun _ _ _ _ _ => (pe_own (hasLBroadJoin T) hr (by decide) (by rfl) (pa_cons (pv 0) (pa_cons (pv 1) (pa_cons (pv 2) (pa_cons (pv 3) pa_nil))))))) pa_nil)) pa_nil)))))), ?_⟩
    refine ⟨sz_le (by show 7 ≤ 10000000; decide), fun p1 np1 => ?_⟩
    refine ⟨.ref a, rfl, a, 7, rfl, (St.new np1).draws hd, by decide, fun k1 H2 s2 hk1 => ?_⟩
    obtain ⟨m, hm, gm⟩ := lit_at (xs := [1, 1, 2, 1, 2, 0, 3]) hk1
    have bm : m ≤ 3 := (by decide : ∀ z, z ∈ [1, 1, 2, 1, 2, 0, 3] → z ≤ 3) m hm
    have s02 := (St.new (m := some a) np1).trans s2
    have d2 := s02.draws hd
    refine ⟨p1, _, k1, _, rfl, rfl, SqL.of (s2.kp upd_same (hd.ne np1).symm), atI_nat gm, ?_⟩
    refine ⟨_, rfl, _, rfl, m, rfl, by omega, by omega, gather (m := some a) (n := (m : Int).toNat) wkR (fun _ _ => trivial) (fun b z => by cases z; exact d2) (by omega) (fun i v H => ∃ j : Join, JoinOk S n j ∧ Den H (eJoin j) v) (fun _ _ _ _ k ⟨t, h, d⟩ => ⟨t, h, Den.tk k _ _ d⟩)
      (fun i2 x H5 hi2 hx s5 R k => ?_) (fun D xs H5 s5 nD hD hlen hp => ?_) gname_mono⟩
    · refine ⟨rfl, .ref a, rfl, .ref wd, rfl, _, rfl, _, rfl, a, wd, S, vars, vals, n, rfl, s5.draws d2, W.st (s02.trans s5), hn, fun v j H7 s7 dj okj => k _ _ s7 ⟨j, okj, dj⟩⟩
    · obtain ⟨qs, dqs, lqs, pqs⟩ := collectI (f := eJoin) (Pr := fun j => JoinOk S n j) xs hp
      refine ⟨D, xs, rfl, .inl ⟨SqL.of hD, fun u nu => ⟨sz_le (by show 2 ≤ 10000000; decide), fun p np => ?_⟩⟩⟩
      refine q _ qs _ (((s02.trans s5).trans (St.new nu)).trans (St.new np)) (den_2.mpr ⟨p, _, _, rfl, upd_same, den_int.mpr rfl, den_map.mpr ⟨u, xs, rfl, ?_, DenL.tk ((TK.new nu).trans (.new np)) _ _ dqs⟩⟩) ⟨pqs, by omega⟩
      rw [upd_ne (ne_of_none upd_same np), upd_same]
end
end EM
/-! data of this law: their shape, their equality; in, index over tuples of data -/
namespace EM
open PySem PySem.Spec PyProof.Rows L2
theorem layAll_map {α : Type} {f : α → PyData} (h : ∀ a, (f a).plain = true) : ∀ l : List α, PyData.plainAll (l.map f) = true
  | [] => by simp [PyData.plainAll]
  | a :: l => by simp [PyData.plainAll, h a, layAll_map h l]
theorem depthAll_le {α : Type} {f : α → PyData} {k : Nat} (h : ∀ a, (f a).depth ≤ k) : ∀ l : List α, PyData.depthAll (l.map f) ≤ k
  | [] => by simp [PyData.depthAll]
  | a :: l => by
    have h1 := h a
    have h2 := depthAll_le h l
    simp only [List.map_cons, PyData.depthAll]
    omega
theorem eqvAll_dec {α : Type} [DecidableEq α] {f : α → PyData} (h : ∀ a b, PyData.eqv (f a) (f b) = decide (a = b)) : ∀ l m : List α, PyData.eqvAll (l.map f) (m.map f) = decide (l = m)
  | [], [] => by simp [PyData.eqvAll]
  | [], _ :: _ => by simp [PyData.eqvAll]
  | _ :: _, [] => by simp [PyData.eqvAll]
  | a :: l, b :: m => by
    simp only [List.map_cons, PyData.eqvAll, h a b, eqvAll_dec h l m]
    by_cases e1 : a = b
    · by_cases e2 : l = m <;> simp [e1, e2]
    · simp [e1]
theorem lay_V (k : Key) : (eV k).plain = true := by cases k <;> simp [eV, PyData.plain]
theorem dep_V (k : Key) : (eV k).depth ≤ 0 := by cases k <;> simp [eV, PyData.depth]
theorem eqv_V (a b : Key) : PyData.eqv (eV a) (eV b) = decide (a = b) := by
  cases a with
  | inl i => cases b with
    | inl j => by_cases e : i = j <;> simp [eV, PyData.eqv, e]
    | inr y => simp [eV, PyData.eqv]
  | inr x => cases b with
    | inl j => simp [eV, PyData.eqv]
    | inr y => by_cases e : x = y <;> simp [eV, PyData.eqv, e]
theorem lay_row (r : Row) : (eRow r).plain = true := by
  unfold eRow
  simp only [PyData.plain]
  exact layAll_map lay_V r
theorem dep_row (r : Row) : (eRow r).depth ≤ 1 := by
  have := depthAll_le dep_V r
  unfold eRow
  simp only [PyData.depth]
  omega
theorem eqv_row (r s : Row) : PyData.eqv (eRow r) (eRow s) = decide (r = s) := by
  unfold eRow
  simp only [PyData.eqv]
  exact eqvAll_dec eqv_V r s
theorem lay_fact (f : Fact) : (eFact f).plain = true := by
  unfold eFact
  simp only [PyData.plain, PyData.plainAll, lay_row]
  rfl
theorem dep_fact (f : Fact) : (eFact f).depth ≤ 2 := by
  have := dep_row f.2
  unfold eFact
  simp only [PyData.depth, PyData.depthAll]
  omega
theorem eqv_fact (f g : Fact) : PyData.eqv (eFact f) (eFact g) = decide (f = g) := by
  unfold eFact
  simp only [PyData.eqv, PyData.eqvAll, eqv_row]
  obtain ⟨n, r⟩ := f
  obtain ⟨m, s⟩ := g
  by_cases e1 : n = m
  · by_cases e2 : r = s <;> simp [e1, e2]
  · simp [e1]
theorem lay_tm (t : Tm) : (eTm t).plain = true := by
  cases t with
  | var x => simp [eTm, PyData.plain, PyData.plainAll]
  | val v => simp [eTm, PyData.plain, PyData.plainAll, lay_V]
theorem dep_tm (t : Tm) : (eTm t).depth ≤ 1 := by
  cases t with
  | var x => simp [eTm, PyData.depth, PyData.depthAll]
  | val v =>
    have := dep_V v
    simp only [eTm, PyData.depth, PyData.depthAll]
    omega
theorem eqv_tm_refl (t : Tm) : PyData.eqv (eTm t) (eTm t) = true := by
  cases t with
  | var x => simp [eTm, PyData.eqv, PyData.eqvAll]
  | val v => simp [eTm, PyData.eqv, PyData.eqvAll, eqv_V]
theorem plain_tup {α : Type} {f : α → PyData} (h : ∀ a, (f a).plain = true) (l : List α) : (PyData.tuple (l.map f)).plain = true := by
  simp only [PyData.plain]
  exact layAll_map h l
theorem plain_lst {α : Type} {f : α → PyData} (h : ∀ a, (f a).plain = true) (l : List α) : (PyData.list (l.map f)).plain = true := by
  simp only [PyData.plain]
  exact layAll_map h l
theorem noLs_map {α : Type} {f : α → PyData} (h : ∀ a, noL (f a) = true) : ∀ l : List α, noLs (l.map f) = true
  | [] => by rw [List.map_nil, noLs]
  | a :: l => by rw [List.map_cons, noLs, h a, noLs_map h l]; rfl
theorem noL_V (k : Key) : noL (eV k) = true := by cases k <;> simp [eV, noL]
theorem noL_row (r : Row) : noL (eRow r) = true := by
  unfold eRow
  rw [noL]
  exact noLs_map noL_V r
theorem noL_fact (f : Fact) : noL (eFact f) = true := by
  unfold eFact
  simp [noL, noLs, noL_row]
theorem noL_tm (t : Tm) : noL (eTm t) = true := by
  cases t with
  | var x => simp [eTm, noL, noLs]
  | val v => simp [eTm, noL, noLs, noL_V]
theorem any_dec {α : Type} [DecidableEq α] {f : α → PyData} (h : ∀ a b, PyData.eqv (f a) (f b) = decide (a = b)) (l : List α) (x : α) : ((l.map f).any fun z => PyData.eqv z (f x)) = decide (x ∈ l) := by
  rw [List.any_map]
  induction l with
  | nil => simp
  | cons a l ih =>
    rw [List.any_cons, ih]
    show (PyData.eqv (f a) (f x) || decide (x ∈ l)) = _
    rw [h a x]
    by_cases e : a = x
    · simp [e]
    · have e2 : ¬ x = a := fun z => e z.symm
      simp [e, e2]
section
variable {X : Cx}
/-- a == b, a != b of data -/
def rEqP (K : PySem.W.Frag) : R2 := fun x y H Q => ∃ d e, Dp K H x d ∧ Dp K H y e ∧ d.plain = true ∧ e.plain = true ∧ d.depth ≤ 40 ∧ Q (.bl (PyData.eqv d e)) H
theorem eqP {k : Nat} (K : PySem.W.Frag) (hr : Room k X.A) (hK : X.K = K := by rfl) : OpR X (compareOp .Eq) (rEqP K) := by
  subst hK
  intro pins s σ H x y v u Q I rx ry ⟨d, e, hd, he, pd, pe, dd, q⟩
  obtain ⟨as, r1⟩ := Dp.reads I d x v hd rx
  obtain ⟨bs, r2⟩ := Dp.reads I e y u he ry
  have hu := room65 hr
  exact SeqAt.eq_plain r1 r2 pd pe (by have := Nat.min_le_left d.depth e.depth; omega) ⟨.bl _, H, I, rfl, q⟩
/-- x in t, t a tuple | a list of data -/
def rInT (K : PySem.W.Frag) : R2 := fun x y H Q => ∃ d ds, Dp K H x d ∧ Dp K H y (.tuple ds) ∧ d.plain = true ∧ (PyData.tuple ds).plain = true ∧ d.depth ≤ 40 ∧ Q (.bl (ds.any fun z => PyData.eqv z d)) H
theorem inT {k : Nat} (K : PySem.W.Frag) (hr : Room k X.A) (hK : X.K = K := by rfl) : OpR X (compareOp .In) (rInT K) := by
  subst hK
  intro pins s σ H x y v u Q I rx ry ⟨d, ds, hd, he, pd, pe, dd, q⟩
  obtain ⟨as, r1⟩ := Dp.reads I d x v hd rx
  obtain ⟨bs, r2⟩ := Dp.reads I (.tuple ds) y u he ry
  have hu := room65 hr
  exact SeqAt.in_tuple_data r2 r1 (by simpa only [PyData.plain] using pe) pd (by have := Nat.min_le_right (PyData.depthAll ds) d.depth; omega) ⟨.bl _, H, I, rfl, q⟩
def rInP (K : PySem.W.Frag) (neg : Bool) : R2 := fun x y H Q => ∃ d ds, Dp K H x d ∧ Dp K H y (.list ds) ∧ d.plain = true ∧ (PyData.list ds).plain = true ∧ d.depth ≤ 40 ∧ Q (.bl (if neg = true then !(ds.any fun z => PyData.eqv z d) else ds.any fun z => PyData.eqv z d)) H
theorem inL {k : Nat} (K : PySem.W.Frag) (hr : Room k X.A) (hK : X.K = K := by rfl) : OpR X (compareOp .In) (rInP K false) := by
  subst hK
  intro pins s σ H x y v u Q I rx ry ⟨d, ds, hd, he, pd, pe, dd, q⟩
  obtain ⟨as, r1⟩ := Dp.reads I d x v hd rx
  obtain ⟨bs, r2⟩ := Dp.reads I (.list ds) y u he ry
  have hu := room65 hr
  exact SeqAt.in_list_data r2 r1 (by simpa only [PyData.plain] using pe) pd (by have := Nat.min_le_right (PyData.depthAll ds) d.depth; omega) ⟨.bl _, H, I, rfl, q⟩
theorem ninL {k : Nat} (K : PySem.W.Frag) (hr : Room k X.A) (hK : X.K = K := by rfl) : OpR X (compareOp .NotIn) (rInP K true) := by
  subst hK
  intro pins s σ H x y v u Q I rx ry ⟨d, ds, hd, he, pd, pe, dd, q⟩
  obtain ⟨as, r1⟩ := Dp.reads I d x v hd rx
  obtain ⟨bs, r2⟩ := Dp.reads I (.list ds) y u he ry
  have hu := room65 hr
  exact SeqAt.notIn_list_data r2 r1 (by simpa only [PyData.plain] using pe) pd (by have := Nat.min_le_right (PyData.depthAll ds) d.depth; omega) ⟨.bl _, H, I, rfl, q⟩
/-- t.index(x): x stands at m0; the first equal one is not behind it -/
def rIdxT (K : PySem.W.Frag) : V → List V → Hp → VK → Prop := fun x xs H Q => ∃ (p : Addr) (y : V) (d : PyData) (ds : List PyData) (m0 : Nat), x = .ref p ∧ xs = [y] ∧ Dp K H (.ref p) (.tuple ds) ∧ Dp K H y d ∧ (PyData.tuple ds).plain = true ∧ d.plain = true ∧ d.depth ≤ 40 ∧
  ds[m0]? = some d ∧ PyData.eqv d d = true ∧ ∀ j : Nat, j ≤ m0 → Q (.int (j : Nat)) H
theorem idxT {k : Nat} (K : PySem.W.Frag) (hr : Room k X.A) (hK : X.K = K := by rfl) : MtR X "tuple.index" (rIdxT K) := by
  subst hK
  intro pins s σ H x xs v us Q I rx rxs ⟨p, y, d, ds, m0, hx, hxs', hl, hy, sl, sd, dd, hz, hself, q⟩
  subst hx
  subst hxs'
  cases rx
  obtain ⟨uy, rfl, ry⟩ := Vals.one rxs
  obtain ⟨bs, r1⟩ := Dp.reads I d y uy hy ry
  have lay : PyData.plainAll ds = true := by simpa only [PyData.plain] using sl
  have hu := room65 hr
  have hroom : X.A.units + 1 + min (PyData.depthAll ds) d.depth < cLine := by have := Nat.min_le_right (PyData.depthAll ds) d.depth; omega
  cases hl with
  | tup hs ha =>
    obtain ⟨its, rv, ⟨⟨cls, od, data, sls⟩, ho, hc, n, hdt⟩, hlen⟩ := I.tuple hs
    simp only at hc hdt
    subst hc hdt
    obtain ⟨as, h4⟩ := Dp.readsAll I ds _ its ha rv
    have hn : its.length = ds.length := SeqAt.ReadsAll.length ds its as h4
    have hmap : its.map (SeqAt.readOf s.heap) = ds := SeqAt.readsAll_map_plain ds its as lay h4
    -- the first equal one
    have hm0 : m0 < ds.length := (List.getElem?_eq_some_iff.mp hz).1
    have hex : ∃ z ∈ ds, PyData.eqv z d = true := ⟨d, List.mem_of_getElem? hz, hself⟩
    have hj : ds.findIdx (fun z => PyData.eqv z d) < ds.length := List.findIdx_lt_length_of_exists hex
    have hjm : ds.findIdx (fun z => PyData.eqv z d) ≤ m0 := by
      refine Nat.le_of_not_lt fun hlt => ?_
      have h1 := List.not_of_lt_findIdx hlt
      have h2 : ds[m0] = d := (List.getElem?_eq_some_iff.mp hz).2
      rw [h2, hself] at h1
      exact absurd h1 (by simp)
    have at_ : ∀ (i : Nat) (hi : i < its.toArray.size), SeqAt.readOf s.heap its.toArray[i] = ds[i]'(by simpa [hn] using hi) := fun i hi => by
      have hil : i < its.length := by simpa using hi
      have e1 : (its.map (SeqAt.readOf s.heap))[i]? = ds[i]? := by rw [hmap]
      rw [List.getElem?_map, List.getElem?_eq_getElem hil, List.getElem?_eq_getElem (by omega)] at e1
      have e2 := Option.some.inj e1
      simpa using e2
    refine call_meets PySem.F.slot_tuple_index ⟨_, ho, rfl⟩ PySem.F.entry_tuple_index (PySem.F.args_tuple_index_2 _ _)
      (TI.tuple_indexAt p its.toArray n od sls uy (fun u => PyData.eqv (SeqAt.readOf s.heap u) d) (ds.findIdx fun z => PyData.eqv z d) (by simpa [hn] using hj) ?_ ?_)
      ⟨ho, SeqAt.items_plain (vs := its.toArray) (show ReadsAll s.heap its.toArray.toList ds as from h4) r1 lay sd hroom, ⟨.int _, H, I.tok _, ⟨_, rfl⟩, q _ hjm⟩⟩
    · exact (congrArg (fun z => PyData.eqv z d) (at_ _ (by simpa [hn] using hj))).trans (List.findIdx_getElem (w := hj))
    · intro i hi hij
      show PyData.eqv (SeqAt.readOf s.heap its.toArray[i]) d = false
      rw [at_]
      have := List.not_of_lt_findIdx hij
      simpa using this
/-- a tuple that has no dict of its own -/
def tyTup (x : V) (H : Hp) : Prop := ∃ p o ts, x = .ref p ∧ H p = some (.frz o (.tup ts)) ∧ o.dict = none
theorem tup_ty : TyOk X "tuple" tyTup := by
  intro pins σ H s x v I r ⟨p, o, ts, e, hp, ho⟩
  subst e
  cases r
  obtain ⟨hg, _, its, rv, it⟩ := I.hok p _ hp
  obtain ⟨ob, hg2, hc, n, hd⟩ := it
  refine ⟨⟨ob, hg2, hc⟩, fun a e => ?_⟩
  cases e
  obtain rfl := Option.some.inj (hg.symm.trans hg2)
  exact ⟨_, hg, ho⟩
end
end EM
namespace EM
open PySem PySem.Spec PyProof.Rows L2
theorem find_at {S : List Tab} {n : Str} : ∀ {S : List Tab} {i : Nat} {t : Tab}, S[i]? = some t → t.1 = n → (∀ (j : Nat) (u : Tab), j < i → S[j]? = some u → u.1 ≠ n) → tabOf S n = some t
  | [], i, t, h, _, _ => by simp at h
  | x :: S, 0, t, h, e, _ => by
    obtain rfl : x = t := Option.some.inj h
    show (List.find? _ (x :: S)) = _
    rw [List.find?_cons_of_pos (by simpa using e)]
  | x :: S, i + 1, t, h, e, k => by
    have hx := k 0 x (Nat.succ_pos _) rfl
    show (List.find? _ (x :: S)) = _
    rw [List.find?_cons_of_neg (by simpa using hx)]
    exact find_at (S := S) (i := i) (by simpa using h) e fun j u hj hu => k (j + 1) u (by omega) (by simpa using hu)
theorem find_none {S : List Tab} {n : Str} (k : ∀ (j : Nat) (u : Tab), S[j]? = some u → u.1 ≠ n) : tabOf S n = none := by
  show List.find? _ S = none
  rw [List.find?_eq_none]
  intro u hu
  obtain ⟨j, hj⟩ := List.getElem?_of_mem hu
  simpa using k j u hj
theorem look_at {x : Str} : ∀ {m : Mapping} {i : Nat} {p : Str × Key}, m[i]? = some p → p.1 = x → (∀ (j : Nat) (u : Str × Key), j < i → m[j]? = some u → u.1 ≠ x) → lookM m x = some p.2
  | [], i, t, h, _, _ => by simp at h
  | y :: m, 0, t, h, e, _ => by
    obtain rfl : y = t := Option.some.inj h
    show Option.map _ (List.find? _ (y :: m)) = _
    rw [List.find?_cons_of_pos (by simpa using e)]
    rfl
  | y :: m, i + 1, t, h, e, k => by
    have hx := k 0 y (Nat.succ_pos _) rfl
    show Option.map _ (List.find? _ (y :: m)) = _
    rw [List.find?_cons_of_neg (by simpa using hx)]
    exact look_at (m := m) (i := i) (by simpa using h) e fun j u hj hu => k (j + 1) u (by omega) (by simpa using hu)
theorem look_none {m : Mapping} {x : Str} (k : ∀ (j : Nat) (u : Str × Key), m[j]? = some u → u.1 ≠ x) : lookM m x = none := by
  show Option.map _ (List.find? _ m) = none
  rw [List.find?_eq_none.mpr]
  · rfl
  · intro u hu
    obtain ⟨j, hj⟩ := List.getElem?_of_mem hu
    simpa using k j u hj
section
variable {P : Program} {w : World} {K : PySem.W.Frag} {mg : Str → Option Value} {base : Heap}
/-! ### a table by its name -/
def spTable : Sp := fun vs H Q _ => ∃ (sv : V) (n : Str) (S : List Tab) (t : Tab), vs = [sv, .str n] ∧ Den H (eSchema S) sv ∧ tabOf S n = some t ∧ ∀ v, Den H (eTab t) v → Q v H
theorem hasLTable (T : Txt K mg) : Has P w K mg base 1 "_law_table" ["_law_schema_here", "_law_name"] spTable := by
  refine T.dLTable.has scLTable (fun vs H Q E h => ?_) (fun f cdv A outer s H vs Q E hr h => ?_)
  · obtain ⟨sv, n, S, t, rfl, _⟩ := h
    rfl
  · obtain ⟨sv, n, S, t, rfl, hS, ht, q⟩ := h
    obtain ⟨sp, xs, rfl, hsp, hx⟩ := den_map.mp hS
    refine ⟨_,
      (pss_cons (ps_for PassesOwn.never rfl (itT K (pv 0)) (pg_name (i := 2) scLTable.nd rfl (Or.inl rfl))
        (pss_one (ps_if (pt_cmpR op_eq (pe_ix (ixT K) (pv 2) pe_int (fun _ _ => rfl)) (pv 1) (nomark _))
          (pss_one (ps_ret (pv 2)))
          pss_nil)))
      (pss_one (ps_ret pe_non))), ?_⟩
    refine ⟨_, rfl, sp, rfl, ⟨_, SqT.of hsp⟩, for_tup (K := K) (a := sp) (xs := xs) (fun i σ H' => H' = H ∧ ∃ y : Option V, σ = [some (.ref sp), some (.str n), y] ∧ ∀ (j : Nat) (u : Tab), j < i → S[j]? = some u → u.1 ≠ n)
      ⟨rfl, none, rfl, fun j u hj => absurd hj (by omega)⟩ (fun i σ H' _ h => h.1 ▸ SqT.of hsp) ?_ ?_⟩
    · rintro i x σ H' hi ⟨rfl, y, rfl, hno⟩
      obtain ⟨u, hu, du⟩ := hx.mback hi
      obtain ⟨tp, rfl, htp⟩ := den_tab.mp du
      refine ⟨_, rfl, tp, _, 0, _, rfl, rfl, SqT.of htp, atI_nat (j := 0) rfl, _, rfl, rfl, _, rfl, ite2 (fun e => ?_) (fun e => ?_)⟩
      · have e1 : u.1 = n := V.str.inj (of_decide_eq_true e)
        have e2 := find_at (S := S) hu e1 hno
        rw [ht] at e2
        obtain rfl := Option.some.inj e2
        exact ⟨_, rfl, q _ du⟩
      · refine ⟨rfl, _, rfl, fun j v hj hv => ?_⟩
        by_cases hji : j < i
        · exact hno j v hji hv
        · have : j = i := by omega
          subst this
          rw [hu] at hv
          obtain rfl := Option.some.inj hv
          exact fun z => e (decide_eq_true (congrArg V.str z))
    · rintro σ H' ⟨rfl, y, rfl, hno⟩
      have := find_none (S := S) (n := n) fun j u hu => hno j u (by rw [hx.mlen]; exact (List.getElem?_eq_some_iff.mp hu).1) hu
      rw [ht] at this
      cases this
/-! ### a term with the values put in -/
def spPut : Sp := fun vs H Q _ => ∃ (tv : V) (ml : Addr) (t : Tm) (m : Mapping) (xs : List V), vs = [tv, .ref ml] ∧ Den H (eTm t) tv ∧ H ml = some (.lst xs) ∧ DenL H (m.map ePair) xs ∧ ∀ v H', EM.St none H H' → Den H' (eTm (putM m t)) v → Q v H'
theorem hasLPut (T : Txt K mg) : Has P w K mg base 1 "_law_put" ["_law_term_here", "_law_mapping"] spPut := by
  refine T.dLPut.has scLPut (fun vs H Q E h => ?_) (fun f cdv A outer s H vs Q E hr h => ?_)
  · obtain ⟨tv, ml, t, m, xs, rfl, _⟩ := h
    rfl
  · obtain ⟨tv, ml, t, m, xs, rfl, hT, hm, hx, q⟩ := h
    obtain ⟨tp, rfl, htp⟩ := den_tm.mp hT
    refine ⟨_,
      (pss_cons (ps_cut (ps_if (pt_cmpR op_eq (pe_ix (ixT K) (pv 0) pe_int (fun _ _ => rfl)) pe_str (nomark _))
        (pss_one (ps_for PassesOwn.never rfl (itL K (pv 1)) (pg_name (i := 2) scLPut.nd rfl (Or.inl rfl))
          (pss_one (ps_if (pt_cmpR op_eq (pe_ix (ixT K) (pv 0) pe_int (fun _ _ => rfl)) (pe_ix (ixT K) (pv 2) pe_int (fun _ _ => rfl)) (nomark _))
            (pss_one (ps_ret (pe_tup (pa_cons pe_str (pa_cons (pe_ix (ixT K) (pv 2) pe_int (fun _ _ => rfl)) pa_nil)))))
            pss_nil))))
        pss_nil))
      (pss_one (ps_ret (pv 0)))), ?_⟩
    refine ⟨fun σ' H' => H' = H ∧ (∃ y, σ' = [some (.ref tp), some (.ref ml), y]) ∧ putM m t = t, ?_, ?_⟩
    · refine ⟨_, rfl, tp, _, 0, _, rfl, rfl, SqT.of htp, atI_nat (j := 0) rfl, rfl, _, rfl, ite2 (fun e => ?_) (fun e => ?_)⟩
      · cases t with
        | val c => exact absurd (V.str.inj (of_decide_eq_true e)) var_str
        | var x =>
          refine ⟨_, rfl, ml, rfl, ⟨_, SqL.of hm⟩, for_list (K := K) (a := ml) (xs := xs) (fun i σ H' => H' = H ∧ ∃ y : Option V, σ = [some (.ref tp), some (.ref ml), y] ∧ ∀ (j : Nat) (u : Str × Key), j < i → m[j]? = some u → u.1 ≠ x)
            ⟨rfl, none, rfl, fun j u hj => absurd hj (by omega)⟩ (fun i σ H' _ h => h.1 ▸ SqL.of hm) ?_ ?_⟩
          · rintro i y σ H' hi ⟨rfl, y2, rfl, hno⟩
            obtain ⟨u, hu, du⟩ := hx.mback hi
            obtain ⟨pp, rfl, hpp⟩ := den_pair.mp du
            refine ⟨_, rfl, tp, _, 1, _, rfl, rfl, SqT.of htp, atI_nat (j := 1) rfl, _, rfl, pp, _, 0, _, rfl, rfl, SqT.of hpp, atI_nat (j := 0) rfl, rfl, _, rfl, ite2 (fun e => ?_) (fun e => ?_)⟩
            · have e1 : x = u.1 := V.str.inj (of_decide_eq_true e)
              have e2 := look_at hu e1.symm hno
              refine ⟨_, rfl, pp, _, 1, _, rfl, rfl, SqT.of hpp, atI_nat (j := 1) rfl, sz_le (by show 2 ≤ 10000000; decide), fun p np => q _ _ (St.new np) ?_⟩
              have e3 : putM m (.var x) = .val u.2 := by
                show (match lookM m x with | some v => Tm.val v | none => Tm.var x) = _
                rw [e2]
              rw [e3]
              exact den_tm.mpr ⟨p, rfl, upd_same⟩
            · refine ⟨rfl, _, rfl, fun j v hj hv => ?_⟩
              by_cases hji : j < i
              · exact hno j v hji hv
              · have : j = i := by omega
                subst this
                rw [hu] at hv
                obtain rfl := Option.some.inj hv
                exact fun z => e (decide_eq_true (congrArg V.str z.symm))
          · rintro σ H' ⟨rfl, y, rfl, hno⟩
            refine ⟨rfl, ⟨_, rfl⟩, ?_⟩
            have e2 := look_none (m := m) (x := x) fun j u hu => hno j u (by rw [hx.mlen]; exact (List.getElem?_eq_some_iff.mp hu).1) hu
            show (match lookM m x with | some v => Tm.val v | none => Tm.var x) = _
            rw [e2]
      · refine ⟨rfl, ⟨_, rfl⟩, ?_⟩
        cases t with
        | val c => rfl
        | var x => exact absurd (decide_eq_true rfl) e
    · rintro σ' H' ⟨rfl, ⟨y, rfl⟩, e⟩
      exact ⟨_, rfl, q _ _ (.refl _ _) (by rw [e]; exact hT)⟩
/-! ### values near the main ones -/
def spNear : Sp := fun vs H Q _ => ∃ (a wd ml : Addr) (S : List Tab) (vars : List Str) (vals : List Key) (ks : List Key), vs = [.ref a, .ref wd, .ref ml] ∧ DrawsOk H a ∧ WorldAt a H wd S vars vals ∧ H ml = some (.lst (ks.map kV)) ∧ ml ≠ a ∧ ks.length = vars.length ∧ vars.length ≤ 1000 ∧
  ∀ (p : Addr) (m : Mapping) (xs : List V) H', EM.St (some a) H H' → H p = none → H' p = some (.lst xs) → DenL H' (m.map ePair) xs → Q (.ref p) H'
theorem hasLNearValuation (T : Txt K mg) : Has P w K mg base 3 "_law_near_valuation" ["_law_draws_here", "_law_world_here", "_law_main"] spNear := by
  refine T.dLNearValuation.has scLNearValuation (fun vs H Q E h => ?_) (fun f cdv A outer s H vs Q E hr h => ?_)
  · obtain ⟨a, wd, ml, S, vars, vals, ks, rfl, _⟩ := h
    rfl
  · obtain ⟨a, wd, ml, S, vars, vals, ks, rfl, hd, W, hml, mla, hkl, hvl, q⟩ := h
    refine ⟨_,
      (pss_cons (ps_set (i := 3) scLNearValuation.nd rfl (.inl rfl) (pe_lst pa_nil))
      (pss_cons (ps_for PassesOwn.never rfl (pi_range1 (by rfl) T.mrange (pa_cons (pe_callB (lenS K) (by rfl) T.mlen PySem.boot_len (pa_cons (pe_ix (ixL K) (pv 1) pe_int (fun _ _ => rfl)) pa_nil)) pa_nil)) (pg_name (i := 4) scLNearValuation.nd rfl (Or.inl rfl))
        (pss_cons (ps_set (i := 5) scLNearValuation.nd rfl (.inl rfl) (pe_ix (ixL K) (pv 2) (pv 4) (fun _ _ => rfl)))
        (pss_cons (ps_cut (ps_if (pt_cmpR op_eq (pe_own (hasLTake T) hr (by decide) (by rfl) (pa_cons (pv 0) (pa_cons pe_int pa_nil))) pe_int (nomark _))
          (pss_one (ps_set (i := 5) scLNearValuation.nd rfl (.inl rfl) (pe_own (hasLPick T) hr (by decide) (by rfl) (pa_cons (pv 0) (pa_cons (pe_ix (ixL K) (pv 1) pe_int (fun _ _ => rfl)) pa_nil)))))
          pss_nil))
        (pss_one (ps_expr (pe_bm PySem.F.plainAttrs_list PySem.F.slot_list_append PySem.F.type_list_append mt_append (pv 3) (pa_cons (pe_tup (pa_cons (pe_ix (ixL K) (pe_ix (ixL K) (pv 1) pe_int (fun _ _ => rfl)) (pv 4) (fun _ _ => rfl)) (pa_cons (pv 5) pa_nil))) pa_nil)))))))
      (pss_one (ps_ret (pv 3))))), ?_⟩
    refine ⟨Nat.zero_le _, fun L nL => ?_⟩
    have aL : a ≠ L := hd.ne nL
    have s0 : EM.St (some a) H (upd H L (.lst [])) := St.new nL
    obtain ⟨⟨sp0, vr0, vl0, xs0, v1, v2, v3, v4, v5, m1, m2, m3⟩, _, _, _⟩ := W.st s0
    refine ⟨.ref wd, rfl, wd, _, 1, _, rfl, rfl, SqL.of v1, atI_nat (j := 1) rfl, vr0, _, rfl, .inl (SqL.of v4), _, rfl, by rw [List.length_map]; omega, by rw [List.length_map]; omega,
      for_range (lo := 0) (n := (((vars.map V.str).length : Nat) : Int).toNat) (fun i σ H3 => ∃ (y4 y5 : Option V) (m : Mapping) (xs : List V), σ = [some (.ref a), some (.ref wd), some (.ref ml), some (.ref L), y4, y5] ∧ EM.St (some a) H H3 ∧ H3 L = some (.lst xs) ∧ DenL H3 (m.map ePair) xs ∧ m.length ≤ i)
        ⟨none, none, [], [], rfl, s0, upd_same, .nil, Nat.le_refl _⟩ ?_ ?_⟩
    · rintro i σ H3 hi ⟨y4, y5, m, xs, rfl, s3, eL, hm, lm⟩
      rw [Int.toNat_natCast, List.length_map] at hi
      have d3 := s3.draws hd
      have e0 : (0 : Int) + (i : Int) = (i : Int) := Int.zero_add _
      obtain ⟨⟨sp, vr, vl, xs1, w1, w2, w3, w4, w5, n1, n2, n3⟩, _, _, nl⟩ := W.st s3
      have gk : (ks.map kV)[i]? = some (kV (ks[i]'(by omega))) := by rw [List.getElem?_map, List.getElem?_eq_getElem (by omega)]; rfl
      have gv : (vars.map V.str)[i]? = some (.str vars[i]) := by rw [List.getElem?_map, List.getElem?_eq_getElem hi]; rfl
      refine ⟨_, rfl, _, rfl, ml, _, _, _, rfl, rfl, SqL.of (s3.kp hml mla), at_of e0 gk, ?_⟩
      refine ⟨fun σ' H' => EM.St (some a) H3 H' ∧ ∃ k : Key, σ' = [some (.ref a), some (.ref wd), some (.ref ml), some (.ref L), some (.int (0 + (i : Int))), some (kV k)], ?_, ?_⟩
      · refine ⟨.ref a, rfl, a, 4, rfl, d3, by decide, fun n H4 s4 hn => ⟨rfl, _, rfl, ite2 (fun e => ?_) (fun e => ?_)⟩⟩
        · obtain ⟨⟨sp, vr, vl, xs1, w1, w2, w3, w4, w5, n1, n2, n3⟩, _, _, nl⟩ := W.st (s3.trans s4)
          refine ⟨.ref a, rfl, .ref wd, rfl, wd, _, 2, _, rfl, rfl, SqL.of w1, atI_nat (j := 2) rfl, a, vl, _, rfl, s4.draws d3, .inl w5, n3, by rw [List.length_map]; omega, fun x H5 s5 hx => ?_⟩
          obtain ⟨k, _, rfl⟩ := List.mem_map.mp hx
          exact ⟨s4.trans s5, k, rfl⟩
        · exact ⟨s4, _, rfl⟩
      · rintro σ' H4 ⟨s4, k, rfl⟩
        obtain ⟨⟨sp, vr, vl, xs1, w1, w2, w3, w4, w5, n1, n2, n3⟩, _, _, nl⟩ := W.st (s3.trans s4)
        have eL4 := s4.kp eL aL.symm
        refine ⟨.ref L, rfl, .inl ⟨rfl, _, SqL.of eL4⟩, .ref wd, rfl, wd, _, 1, _, rfl, rfl, SqL.of w1, atI_nat (j := 1) rfl, _, rfl, vr, _, _, _, rfl, rfl, SqL.of w4, at_of e0 gv, _, rfl, sz_le (by show 2 ≤ 10000000; decide), fun p np => ?_⟩
        have Lp : L ≠ p := ne_of_none eL4 np
        have eL5 : (upd H4 p (.tup [.str vars[i], kV k])) L = some (.lst xs) := by rw [upd_ne Lp]; exact eL4
        have xl : xs.length = m.length := hm.mlen
        refine ⟨L, _, _, rfl, rfl, eL5, sz_lt (by omega), _, _, m ++ [(vars[i], k)], _, rfl, ((s3.trans s4).trans (St.new np)).mut nL, upd_same, ?_, by rw [List.length_append]; show m.length + 1 ≤ i + 1; omega⟩
        refine DenL.msnoc (DenL.tk ((s4.tup.trans (.new np)).trans (.lst eL5)) _ _ hm) (den_pair.mpr ⟨p, rfl, ?_⟩)
        rw [upd_ne Lp.symm, upd_same]
    · rintro σ H3 ⟨y4, y5, m, xs, rfl, s3, eL, hm, lm⟩
      exact ⟨.ref L, rfl, q L m xs H3 s3 nL eL hm⟩
end
end EM
namespace EM
open PySem PySem.Spec PyProof.Rows L2
theorem keys_of {H : Hp} (xs : List V) (h : ∀ (i : Nat) (v : V), xs[i]? = some v → ∃ k : Key, v = kV k) : ∃ ks : List Key, xs = ks.map kV ∧ ks.length = xs.length := by
  induction xs with
  | nil => exact ⟨[], rfl, rfl⟩
  | cons v xs ih =>
    obtain ⟨k, rfl⟩ := h 0 v rfl
    obtain ⟨ks, e, l⟩ := ih fun i u hu => h (i + 1) u (by simpa using hu)
    exact ⟨k :: ks, by rw [e]; rfl, by rw [List.length_cons, List.length_cons, l]⟩
def sameName (n : Str) (f : Fact) : Option Fact := if f.1 = n then some f else none
theorem same_of {n : Str} {f g : Fact} (h : sameName n f = some g) : g = f ∧ f.1 = n := by
  unfold sameName at h
  split at h
  · exact ⟨(Option.some.inj h).symm, by assumption⟩
  · cases h
/-- the list of facts as it grows -/
structure FactsAt (H : Hp) (F : Addr) (S : List Tab) (fs : List Fact) : Prop where
  ex : ∃ xs, H F = some (.lst xs) ∧ DenL H (fs.map eFact) xs
  ok : ∀ f ∈ fs, FactOk S f
theorem FactsAt.st {a F : Addr} {H H' : Hp} {S : List Tab} {fs : List Fact} (s : EM.St (some a) H H') (n : F ≠ a) (h : FactsAt H F S fs) : FactsAt H' F S fs := by
  obtain ⟨⟨xs, e, d⟩, ok⟩ := h
  exact ⟨⟨xs, s.kp e n, s.denL d⟩, ok⟩
/-- a table and a row that fits it -/
structure RowAt (a : Addr) (H : Hp) (S : List Tab) (tp R : Addr) (t : Tab) (ks : List Key) : Prop where
  tab : H tp = some (.tup [.str t.1, .int (t.2.1 : Nat), .int (t.2.2 : Nat)])
  mem : t ∈ S
  row : H R = some (.lst (ks.map kV))
  ne : R ≠ a
  len : ks.length = t.2.1 + t.2.2
theorem RowAt.st {a tp R : Addr} {H H' : Hp} {S : List Tab} {t : Tab} {ks : List Key} (s : EM.St (some a) H H') (h : RowAt a H S tp R t ks) : RowAt a H' S tp R t ks :=
  ⟨s.tup _ _ h.tab, h.mem, s.kp h.row h.ne, h.ne, h.len⟩
section
variable {P : Program} {w : World} {K : PySem.W.Frag} {mg : Str → Option Value} {base : Heap}
/-! ### the facts -/
def spFacts : Sp := fun vs H Q _ => ∃ (a wd : Addr) (S : List Tab) (vars : List Str) (vals : List Key) (n : Nat) (qs : List Join) (jv : V), vs = [.ref a, .ref wd, jv, .int 7] ∧ DrawsOk H a ∧ WorldAt a H wd S vars vals ∧ Den H (.tuple (qs.map eJoin)) jv ∧ QOk S n qs ∧
  ∀ (F : Addr) (fs : List Fact) H', EM.St (some a) H H' → H F = none → FactsAt H' F S fs → fs.length ≤ 7 → Q (.ref F) H'
/-- the same, the world's texts few -/
def spFactsB : Sp := fun vs H Q _ => ∃ (a wd : Addr) (S : List Tab) (vars : List Str) (vals : List Key) (n : Nat) (qs : List Join) (jv : V), vs = [.ref a, .ref wd, jv, .int 7] ∧ DrawsOk H a ∧ WorldAt a H wd S vars vals ∧ vars.length ≤ 1000 ∧ Den H (.tuple (qs.map eJoin)) jv ∧ QOk S n qs ∧
  ∀ (F : Addr) (fs : List Fact) H', EM.St (some a) H H' → H F = none → FactsAt H' F S fs → fs.length ≤ 7 → Q (.ref F) H'
theorem hasLFacts (T : Txt K mg) : Has P w K mg base 3 "_law_facts" ["_law_draws_here", "_law_world_here", "_law_joins", "_law_many"] spFacts := by
  refine T.dLFacts.has scLFacts (fun vs H Q E h => ?_) (fun f cdv A outer s H vs Q E hr h => ?_)
  · obtain ⟨a, wd, S, vars, vals, n, qs, jv, rfl, _⟩ := h
    rfl
  · obtain ⟨a, wd, S, vars, vals, n, qs, jv, rfl, hd, W, hJ, qok, q⟩ := h
    obtain ⟨jp, jxs, rfl, hjp, hjx⟩ := den_map.mp hJ
    have wf := W.wf
    refine ⟨_,
      (pss_cons (ps_set (i := 4) scLFacts.nd rfl (.inl rfl) (pe_lst pa_nil))
      (pss_cons (ps_for PassesOwn.never rfl (itT K (pv 2)) (pg_name (i := 5) scLFacts.nd rfl (Or.inl rfl))
        (pss_one (ps_set (i := 4) scLFacts.nd rfl (.inl rfl) (pe_op op_cat (pv 4) (pe_callTy (lstOf K) (by rfl) T.mlist (by decide +kernel) (pa_cons (pe_ix (ixT K) (pv 5) pe_int (fun _ _ => rfl)) pa_nil))))))
      (pss_cons (ps_set (i := 6) scLFacts.nd rfl (.inl rfl) (pe_lst pa_nil))
      (pss_cons (ps_for PassesOwn.never rfl (pi_range1 (by rfl) T.mrange (pa_cons (pe_own (hasLTake T) hr (by decide) (by rfl) (pa_cons (pv 0) (pa_cons (pe_op op_add (pv 3) pe_int) pa_nil))) pa_nil)) (pg_name (i := 7) scLFacts.nd rfl (Or.inl rfl))
        (pss_cons (ps_set (i := 8) scLFacts.nd rfl (.inr rfl) (pe_own (hasLPick T) hr (by decide) (by rfl) (pa_cons (pv 0) (pa_cons (pe_ix (ixL K) (pv 1) pe_int (fun _ _ => rfl)) pa_nil))))
        (pss_cons (ps_setLc (i := 10) (own := [("_law_j", 9)]) (g := (gName 9)) (tt := tYes) rfl scLFacts.nd rfl rfl (sw_true rfl rfl rfl (by decide +kernel)) (pi_range1 (by rfl) T.mrange (pa_cons (pe_op op_add (pe_ix (ixT K) (pv 8) pe_int (fun _ _ => rfl)) (pe_ix (ixT K) (pv 8) pe_int (fun _ _ => rfl))) pa_nil)) (blkOk_by (N := nmLFacts) (sc := defScope stLFacts) (by decide +kernel)) (fun _ _ _ _ _ => (pg_name (i := 9) scLFacts.nd rfl (Or.inl rfl))) (fun _ _ _ _ _ => pts_nil) (fun _ _ _ _ _ => (pe_own (hasLValue T) hr (by decide) (by rfl) (pa_cons (pv 0) (pa_cons (pe_ix (ixL K) (pv 1) pe_int (fun _ _ => rfl)) pa_nil)))))
        (pss_cons (ps_cut (ps_if (PW.pt (pw_and (pt_cmpR op_gt (pe_callB (lenS K) (by rfl) T.mlen PySem.boot_len (pa_cons (pv 4) pa_nil)) pe_int (nomark _)) (pw_and1 (pt_cmpR op_gt (pe_own (hasLTake T) hr (by decide) (by rfl) (pa_cons (pv 0) (pa_cons pe_int pa_nil))) pe_int (nomark _)))))
          (pss_cons (ps_set (i := 11) scLFacts.nd rfl (.inl rfl) (pe_own (hasLPick T) hr (by decide) (by rfl) (pa_cons (pv 0) (pa_cons (pv 4) pa_nil))))
          (pss_cons (ps_set (i := 8) scLFacts.nd rfl (.inr rfl) (pe_own (hasLTable T) hr (by decide) (by rfl) (pa_cons (pe_ix (ixL K) (pv 1) pe_int (fun _ _ => rfl)) (pa_cons (pe_ix (ixT K) (pv 11) pe_int (fun _ _ => rfl)) pa_nil))))
          (pss_cons (ps_setLc (i := 10) (own := [("_law_term_here", 13)]) (g := (gName 13)) (tt := tYes) rfl scLFacts.nd rfl rfl (sw_true rfl rfl rfl (by decide +kernel)) (itT K (pe_ix (ixT K) (pv 11) pe_int (fun _ _ => rfl))) (blkOk_by (N := nmLFacts) (sc := defScope stLFacts) (by decide +kernel)) (fun _ _ _ _ _ => (pg_name (i := 13) scLFacts.nd rfl (Or.inl rfl))) (fun _ _ _ _ _ => pts_nil) (fun _ _ _ _ _ => (pe_own (hasLValue T) hr (by decide) (by rfl) (pa_cons (pv 0) (pa_cons (pe_ix (ixL K) (pv 1) pe_int (fun _ _ => rfl)) pa_nil)))))
          (pss_one (ps_for PassesOwn.never rfl (pi_range1 (by rfl) T.mrange (pa_cons (pe_callB (lenS K) (by rfl) T.mlen PySem.boot_len (pa_cons (pv 10) pa_nil)) pa_nil)) (pg_name (i := 9) scLFacts.nd rfl (Or.inl rfl))
            (pss_cons (ps_asg (pe_ix (ixL K) (pv 10) (pe_mG tup_ty PySem.F.plainAttrs_tuple PySem.F.slot_tuple_index PySem.F.type_tuple_index (idxT K hr) (pe_ix (ixT K) (pv 11) pe_int (fun _ _ => rfl)) (pa_cons (pe_ix (ixT K) (pe_ix (ixT K) (pv 11) pe_int (fun _ _ => rfl)) (pv 9) (fun _ _ => rfl)) pa_nil)) (fun _ _ => rfl)) (pg_sub (pv 10) (pv 9) set_list))
            (pss_one (ps_if (PW.pt (pw_and (pt_cmpR op_eq (pe_ix (ixT K) (pe_ix (ixT K) (pe_ix (ixT K) (pv 11) pe_int (fun _ _ => rfl)) (pv 9) (fun _ _ => rfl)) pe_int (fun _ _ => rfl)) pe_str (nomark _)) (pw_and1 (pt_cmpR op_gt (pe_own (hasLTake T) hr (by decide) (by rfl) (pa_cons (pv 0) (pa_cons pe_int pa_nil))) pe_int (nomark _)))))
              (pss_one (ps_asg (pe_ix (ixT K) (pe_ix (ixT K) (pe_ix (ixT K) (pv 11) pe_int (fun _ _ => rfl)) (pv 9) (fun _ _ => rfl)) pe_int (fun _ _ => rfl)) (pg_sub (pv 10) (pv 9) set_list)))
              pss_nil))))))))
          pss_nil))
        (pss_cons (ps_setLc (i := 12) (own := [("_law_fact", 14)]) (g := (gName 14)) rfl scLFacts.nd rfl rfl (sw_true rfl rfl rfl (by decide +kernel)) (itL K (pv 6)) (blkOk_by (N := nmLFacts) (sc := defScope stLFacts) (by decide +kernel)) (fun _ _ _ _ _ => (pg_name (i := 14) scLFacts.nd rfl (Or.inl rfl))) (fun _ _ _ _ _ => (pts_one (pt_cmpR op_eq (pe_ix (ixT K) (pv 14) pe_int (fun _ _ => rfl)) (pe_ix (ixT K) (pv 8) pe_int (fun _ _ => rfl)) (nomark _)))) (fun _ _ _ _ _ => (pv 14)))
        (pss_cons (ps_cut (ps_if (PW.pt (pw_and (pt_cmpR op_gt (pe_callB (lenS K) (by rfl) T.mlen PySem.boot_len (pa_cons (pv 12) pa_nil)) pe_int (nomark _)) (pw_and1 (pt_cmpR op_eq (pe_own (hasLTake T) hr (by decide) (by rfl) (pa_cons (pv 0) (pa_cons pe_int pa_nil))) pe_int (nomark _)))))
          (pss_one (ps_cut (ps_set (i := 10) scLFacts.nd rfl (.inl rfl) (pe_op op_cat (pe_callTy (lstOf K) (by rfl) T.mlist (by decide +kernel) (pa_cons (pe_slice (slT K) (pe_ix (ixT K) (pe_own (hasLPick T) hr (by decide) (by rfl) (pa_cons (pv 0) (pa_cons (pv 12) pa_nil))) pe_int (fun _ _ => rfl)) po_none (po_some (pe_ix (ixT K) (pv 8) pe_int (fun _ _ => rfl)))) pa_nil)) (pe_slice (slL K) (pv 10) (po_some (pe_ix (ixT K) (pv 8) pe_int (fun _ _ => rfl))) po_none)))))
          pss_nil))
        (pss_one (ps_expr (pe_bm PySem.F.plainAttrs_list PySem.F.slot_list_append PySem.F.type_list_append mt_append (pv 6) (pa_cons (pe_tup (pa_cons (pe_ix (ixT K) (pv 8) pe_int (fun _ _ => rfl)) (pa_cons (pe_callTy (tupOf K) (by rfl) T.mtuple (by decide +kernel) (pa_cons (pv 10) pa_nil)) pa_nil))) pa_nil))))))))))
      (pss_one (ps_ret (pv 6))))))), ?_⟩
    -- the atoms
    refine ⟨Nat.zero_le _, fun Z nZ => ?_⟩
    have jl : jxs.length = qs.length := hjx.mlen
    refine ⟨.ref jp, rfl, jp, rfl, ⟨_, SqT.of ((TK.new nZ) _ _ hjp)⟩, for_tup (K := K) (a := jp) (xs := jxs) (fun i σ H2 => ∃ (y5 : Option V) (Z' : Addr) (as : List Atom) (axs : List V), σ = [some (.ref a), some (.ref wd), some (.ref jp), some (.int 7), some (.ref Z'), y5, none, none, none, none, none, none, none, none, none] ∧
      EM.St (some a) H H2 ∧ H2 Z' = some (.lst axs) ∧ Z' ≠ a ∧ DenL H2 (as.map eAtom) axs ∧ (∀ at' ∈ as, AtomOk S at') ∧ as.length ≤ 3 * i)
      ⟨none, Z, [], [], rfl, St.new nZ, upd_same, (hd.ne nZ).symm, .nil, fun t h => absurd h (by simp), Nat.le_refl _⟩ (fun i σ H2 _ h => by obtain ⟨_, _, _, _, _, s2, _⟩ := h; exact SqT.of (s2.tup _ _ hjp)) ?_ ?_⟩
    · rintro i x σ H2 hi ⟨y5, Z', as, axs, rfl, s2, eZ, Za, hA, okA, lA⟩
      obtain ⟨j, hj, dj⟩ := (s2.denL hjx).mback hi
      have okj := qok.joins j (List.mem_of_getElem? hj)
      obtain ⟨p, hv, bv, rfl, hp, dh, db⟩ := den_2.mp dj
      obtain ⟨bp, bxs, rfl, hbp, dbx⟩ := den_map.mp db
      have bl : bxs.length = j.2.length := dbx.mlen
      have al : axs.length = as.length := hA.mlen
      have few := okj.few
      have il : i < jxs.length := (List.getElem?_eq_some_iff.mp hi).1
      have qf := qok.few
      have d2 := s2.draws hd
      refine ⟨.ref Z', rfl, .ref p, rfl, p, _, 1, _, rfl, rfl, SqT.of hp, atI_nat (j := 1) rfl, bp, bxs, rfl, .inr (SqT.of hbp), fun l nl => ?_⟩
      have Zl : Z' ≠ l := ne_of_none eZ nl
      refine ⟨Z', l, axs, bxs, rfl, rfl, by rw [upd_ne Zl]; exact eZ, upd_same, sz_le (by omega), fun Z2 nZ2 => ?_⟩
      have tk : TK H2 (upd (upd H2 l (.lst bxs)) Z2 (.lst (axs ++ bxs))) := (TK.new nl).trans (.new nZ2)
      refine ⟨_, Z2, as ++ j.2, axs ++ bxs, rfl, (s2.trans (St.new nl)).trans (St.new nZ2), upd_same, (((St.new (m := some a) nl).draws d2).ne nZ2).symm, ?_, fun at' h => (List.mem_append.mp h).elim (okA at') (okj.atoms at'), by rw [List.length_append]; omega⟩
      rw [List.map_append]
      exact (DenL.tk tk _ _ hA).append (DenL.tk tk _ _ dbx)
    · rintro σ H2 ⟨y5, Z', as, axs, rfl, s2, eZ, Za, hA, okA, lA⟩
      have qf := qok.few
      have al : axs.length = as.length := hA.mlen
      have d2 := s2.draws hd
      -- facts
      refine ⟨Nat.zero_le _, fun F nF => ?_⟩
      have aF : a ≠ F := d2.ne nF
      have nF0 := s2.freeD hd nF
      have s3 := s2.trans (St.new (o := .lst []) nF)
      have d3 := s3.draws hd
      have eZ3 : (upd H2 F (.lst [])) Z' = some (.lst axs) := by rw [upd_ne (ne_of_none eZ nF)]; exact eZ
      refine ⟨.ref a, rfl, _, rfl, 7, 1, rfl, rfl, a, 8, rfl, d3, by decide, fun m H4 s4 hm => ⟨_, rfl, by omega, by omega, for_range (lo := 0) (n := (m : Int).toNat) (fun i σ H5 => ∃ (y7 y8 y9 y10 y11 y12 : Option V) (fs : List Fact),
        σ = [some (.ref a), some (.ref wd), some (.ref jp), some (.int 7), some (.ref Z'), y5, some (.ref F), y7, y8, y9, y10, y11, y12, none, none] ∧ EM.St (some a) H H5 ∧ H5 Z' = some (.lst axs) ∧ DenL H5 (as.map eAtom) axs ∧ FactsAt H5 F S fs ∧ fs.length ≤ i)
        ⟨none, none, none, none, none, none, [], rfl, s3.trans s4, s4.kp eZ3 Za, s4.denL (DenL.tk (.new nF) _ _ hA), ⟨⟨[], s4.kp upd_same aF.symm, .nil⟩, fun f h => absurd h (by simp)⟩, Nat.le_refl _⟩ ?_ ?_⟩⟩
      · rintro i σ H5 hi ⟨y7, y8, y9, y10, y11, y12, fs, rfl, s5, eZ5, hA5, hF5, lF⟩
        have d5 := s5.draws hd
        have im : i < m := by omega
        obtain ⟨⟨sp, vr, vl, xs0, w1, w2, w3, w4, w5, n1, n2, n3⟩, _, nv, nl⟩ := W.st s5
        have x0 : 0 < xs0.length := by
          rw [w3.mlen]
          exact Nat.pos_of_ne_zero fun z => wf.ne (List.eq_nil_of_length_eq_zero z)
        have spa : sp ≠ a := fun z => by
          obtain ⟨ds, e⟩ := d5
          rw [z] at w2
          rw [w2] at e
          cases e
        -- table
        refine ⟨.ref a, rfl, .ref wd, rfl, wd, _, 0, _, rfl, rfl, SqL.of w1, atI_nat (j := 0) rfl, a, sp, xs0, rfl, d5, .inr w2, spa, x0, fun tv H6 s6 htv => ?_⟩
        obtain ⟨t, ht, dt⟩ := w3.mem htv
        obtain ⟨tp, rfl, htp⟩ := den_tab.mp (Den.tk s6.tup _ _ dt)
        have d6 := s6.draws d5
        have small := wf.small t ht
        -- row
        refine ⟨.ref tp, rfl, tp, _, 1, _, rfl, rfl, SqT.of htp, atI_nat (j := 1) rfl, .ref tp, rfl, tp, _, 2, _, rfl, rfl, SqT.of htp, atI_nat (j := 2) rfl, _, _, rfl, rfl, _, rfl, by omega, by omega,
          gather (m := some a) (n := ((t.2.1 : Int) + (t.2.2 : Int)).toNat) wkR (fun _ _ => trivial) (fun b z => by cases z; exact d6) (by omega) (fun i v H => ∃ k : Key, v = kV k) (fun _ _ _ _ _ h => h)
            (fun i2 x H7 hi2 hx s7 R k => ?_) (fun R xs H7 s7 nR hR hlen hp => ?_) gname_mono⟩
        · obtain ⟨⟨sp, vr, vl, xs0, w1, w2, w3, w4, w5, n1, n2, n3⟩, _, nv, nl⟩ := W.st ((s5.trans s6).trans s7)
          exact ⟨rfl, .ref a, rfl, .ref wd, rfl, wd, _, 2, _, rfl, rfl, SqL.of w1, atI_nat (j := 2) rfl, a, vl, vals, rfl, s7.draws d6, w5, n3, nl, fun kk H8 s8 _ => k _ _ s8 ⟨kk, rfl⟩⟩
        obtain ⟨ks, rfl, lks⟩ := keys_of (H := H7) xs hp
        have s57 := s6.trans s7
        have d7 := s57.draws d5
        have r7 : RowAt a H7 S tp R t ks := ⟨s7.tup _ _ htp, ht, hR, (d6.ne nR).symm, by omega⟩
        have eZ7 := s57.kp eZ5 Za
        have hA7 := s57.denL hA5
        -- an atom may give the row
        refine ⟨fun σ' H' => EM.St (some a) H7 H' ∧ ∃ (y9 y11 : Option V) (tp R : Addr) (t : Tab) (ks : List Key), σ' = [some (.ref a), some (.ref wd), some (.ref jp), some (.int 7), some (.ref Z'), y5, some (.ref F), some (.int (0 + (i : Int))), some (.ref tp), y9, some (.ref R), y11, y12, none, none] ∧ RowAt a H' S tp R t ks, ?_, ?_⟩
        · refine ⟨.ref Z', rfl, Z', _, rfl, .inl (SqL.of eZ7), _, _, rfl, rfl, _, rfl, ite2 (fun e => ?_) (fun e => iteF ⟨.refl _ _, _, _, tp, R, t, ks, rfl, r7⟩)⟩
          have hpos : 0 < axs.length := by
            have := of_decide_eq_true e
            omega
          refine ⟨.ref a, rfl, a, 4, rfl, d7, by decide, fun n8 H8 s8 hn8 => ⟨_, _, rfl, rfl, _, rfl, ite2 (fun e => ?_) (fun e => ⟨s8, _, _, tp, R, t, ks, rfl, r7.st s8⟩)⟩⟩
          have d8 := s8.draws d7
          -- atom = pick(atoms)
          refine ⟨.ref a, rfl, .ref Z', rfl, a, Z', axs, rfl, d8, .inl (s8.kp eZ7 Za), Za, hpos, fun av H9 s9 hav => ?_⟩
          obtain ⟨at', hat, dat⟩ := (s8.denL hA7).mem hav
          have ok := okA at' hat
          obtain ⟨u, hu, umem, un⟩ := tabOf_some ok
          have d9 := s9.draws d8
          obtain ⟨ap, nx, tx, rfl, hap, dn, dt'⟩ := den_2.mp (Den.tk s9.tup _ _ dat)
          obtain rfl := den_str.mp dn
          obtain ⟨tq, tqs, tqo, rfl, htq, hto, dtq⟩ := den_mapL.mp dt'
          have tql : tqs.length = at'.2.length := dtq.mlen
          have a8 := ok.small wf
          have s79 := s8.trans s9
          obtain ⟨⟨sp9, vr9, vl9, xs9, v1, v2, v3, v4, v5, m1, m2, m3⟩, _, nv9, nl9⟩ := W.st ((s5.trans s57).trans s79)
          -- table = table(world[0], atom[0])
          refine ⟨.ref wd, rfl, wd, _, 0, _, rfl, rfl, SqL.of v1, atI_nat (j := 0) rfl, .ref ap, rfl, ap, _, 0, _, rfl, rfl, SqT.of hap, atI_nat (j := 0) rfl, .ref sp9, at'.1, S, u, rfl, den_map.mpr ⟨sp9, xs9, rfl, v2, v3⟩, hu, fun uv duv => ?_⟩
          obtain ⟨up, rfl, hup⟩ := den_tab.mp duv
          -- row = [value(..) for term in atom[1]]
          refine ⟨.ref ap, rfl, ap, _, 1, _, rfl, rfl, SqT.of hap, atI_nat (j := 1) rfl, tq, rfl, ⟨_, SqT.z htq⟩,
            gather (m := some a) wkT (fun H s => SqT.z (s.tup _ _ htq)) (fun b z => by cases z; exact d9) (by omega) (fun i v H => ∃ k : Key, v = kV k) (fun _ _ _ _ _ h => h)
              (fun i2 x H10 hi2 hx s10 R k => ?_) (fun R2 xs2 H10 s10 nR2 hR2 hlen2 hp2 => ?_) gname_mono⟩
          · obtain ⟨⟨sp, vr, vl, xs0, w1, w2, w3, w4, w5, n1, n2, n3⟩, _, nv, nl⟩ := W.st (((s5.trans s57).trans s79).trans s10)
            exact ⟨rfl, .ref a, rfl, .ref wd, rfl, wd, _, 2, _, rfl, rfl, SqL.of w1, atI_nat (j := 2) rfl, a, vl, vals, rfl, s10.draws d9, w5, n3, nl, fun kk H11 s11 _ => k _ _ s11 ⟨kk, rfl⟩⟩
          obtain ⟨ks2, rfl, lks2⟩ := keys_of (H := H10) xs2 hp2
          have R2a : R2 ≠ a := (d9.ne nR2).symm
          have s710 := s79.trans s10
          have d10 := s10.draws d9
          have nR27 := s79.freeD d7 nR2
          -- the loop over its places
          refine ⟨.ref R2, rfl, R2, _, rfl, .inl (SqL.of hR2), _, rfl, by rw [hlen2]; omega, by rw [hlen2]; omega, for_range (lo := 0) (n := (((ks2.map kV).length : Nat) : Int).toNat) (fun j σ H11 => ∃ (y9 : Option V) (ks3 : List Key),
            σ = [some (.ref a), some (.ref wd), some (.ref jp), some (.int 7), some (.ref Z'), y5, some (.ref F), some (.int (0 + (i : Int))), some (.ref up), y9, some (.ref R2), some (.ref ap), y12, none, none] ∧ EM.St (some a) H7 H11 ∧ DrawsOk H11 a ∧
            (∀ b o, H9 b = some o → b ≠ a → H11 b = some o) ∧ H11 R2 = some (.lst (ks3.map kV)) ∧ ks3.length = at'.2.length)
            ⟨_, ks2, rfl, s710, d10, fun b o h hb => s10.kp h hb, hR2, by omega⟩ ?_ ?_⟩
          · rintro j σ H11 hj ⟨z9, ks3, rfl, s11, d11, kp, eR, lk3⟩
            rw [Int.toNat_natCast, hlen2] at hj
            have tkk : TK H9 H11 := ⟨fun b u h k => kp b _ h fun z => by
              obtain ⟨ds, e⟩ := d9
              rw [← z, h] at e
              rw [Option.some.inj e] at k
              exact k⟩
            have e0 : (0 : Int) + (j : Int) = (j : Int) := Int.zero_add _
            obtain ⟨tm, htm, dtm⟩ : ∃ tm, at'.2[j]? = some tm ∧ ∃ x, tqs[j]? = some x ∧ Den H11 (eTm tm) x := by
              have hj2 : j < at'.2.length := by omega
              obtain ⟨x, hx, dx⟩ := (DenL.tk tkk _ _ dtq).mget (List.getElem?_eq_getElem hj2)
              exact ⟨_, List.getElem?_eq_getElem hj2, x, hx, dx⟩
            obtain ⟨x, hx, dx⟩ := dtm
            have hap1 := tkk _ _ hap
            have htq1 := tkk _ _ htq
            -- row[j] = row[atom[1].index(atom[1][j])]
            refine ⟨.ref R2, rfl, .ref ap, rfl, ap, _, 1, _, rfl, rfl, SqT.of hap1, atI_nat (j := 1) rfl, ⟨tq, tqo, _, rfl, htq1, hto⟩, .ref ap, rfl, ap, _, 1, _, rfl, rfl, SqT.of hap1, atI_nat (j := 1) rfl, _, rfl, tq, _, _, _, rfl, rfl, SqT.z htq1, at_of e0 hx,
              tq, x, eTm tm, at'.2.map eTm, j, rfl, rfl, .tup (SqT.z htq1) (DenL.dp _ _ (noLs_map noL_tm _) (DenL.tk tkk _ _ dtq)), Den.dp _ _ (noL_tm tm) dx, plain_tup lay_tm _, lay_tm tm, by have := dep_tm tm; omega, by rw [List.getElem?_map, htm]; rfl, eqv_tm_refl tm, fun j' hj' => ?_⟩
            have hjk : j' < ks3.length := by omega
            have gk : (ks3.map kV)[j']? = some (kV (ks3[j']'hjk)) := by rw [List.getElem?_map, List.getElem?_eq_getElem hjk]; rfl
            have ixj : ixN (ks3.map kV).length ((0 : Int) + (j : Int)) = some j := by
              unfold ixN
              rw [if_pos (by omega), if_pos (by rw [List.length_map]; omega), e0, Int.toNat_natCast]
            refine ⟨R2, _, _, _, rfl, rfl, SqL.of eR, atI_nat gk, .ref R2, rfl, _, rfl, R2, _, _, j, rfl, rfl, eR, ixj, ?_⟩
            have eR4 : (upd H11 R2 (.lst ((ks3.map kV).set j (kV (ks3[j']'hjk))))) R2 = some (.lst ((ks3.set j (ks3[j']'hjk)).map kV)) := by rw [upd_same, List.map_set]
            have s12 : EM.St (some a) H7 (upd H11 R2 (.lst ((ks3.map kV).set j (kV (ks3[j']'hjk))))) := s11.mut nR27
            have d12 : DrawsOk (upd H11 R2 (.lst ((ks3.map kV).set j (kV (ks3[j']'hjk))))) a := s12.draws d7
            have kp2 : ∀ b o, H9 b = some o → b ≠ a → (upd H11 R2 (.lst ((ks3.map kV).set j (kV (ks3[j']'hjk))))) b = some o := fun b o h hb => by rw [upd_ne (ne_of_none h nR2)]; exact kp b o h hb
            generalize hG : upd H11 R2 (.lst ((ks3.map kV).set j (kV (ks3[j']'hjk)))) = H12 at eR4 s12 d12 kp2 ⊢
            have lk4 : (ks3.set j (ks3[j']'hjk)).length = at'.2.length := by rw [List.length_set]; exact lk3
            generalize ks3.set j (ks3[j']'hjk) = ks4 at eR4 lk4
            have tk2 : TK H9 H12 := ⟨fun b u h k => kp2 b _ h fun z => by
              obtain ⟨ds, e⟩ := d9
              rw [← z, h] at e
              rw [Option.some.inj e] at k
              exact k⟩
            obtain ⟨x2, hx2, dx2⟩ := (DenL.tk tk2 _ _ dtq).mget htm
            rw [hx] at hx2
            obtain rfl := Option.some.inj hx2
            obtain ⟨xp, rfl, hxp⟩ := den_tm.mp dx2
            have hap2 := tk2 _ _ hap
            have htq2 := tk2 _ _ htq
            -- a value may stay
            refine ⟨_, rfl, ap, _, 1, _, rfl, rfl, SqT.of hap2, atI_nat (j := 1) rfl, _, rfl, tq, _, _, _, rfl, rfl, SqT.z htq2, at_of e0 hx, xp, _, 0, _, rfl, rfl, SqT.of hxp, atI_nat (j := 0) rfl, rfl, _, rfl, ite2 (fun e => ?_) (fun e => iteF ⟨_, ks4, rfl, s12, d12, kp2, eR4, lk4⟩)⟩
            refine ⟨.ref a, rfl, a, 3, rfl, d12, by decide, fun n13 H13 s13 hn13 => ⟨_, _, rfl, rfl, _, rfl, ite2 (fun e => ?_) (fun e => ⟨_, ks4, rfl, s12.trans s13, s13.draws d12, fun b o h hb => s13.kp (kp2 b o h hb) hb, s13.kp eR4 R2a, lk4⟩)⟩⟩
            have hap3 := s13.tup _ _ hap2
            have htq3 := s13.tup _ _ htq2
            have hxp3 := s13.tup _ _ hxp
            have eR5 := s13.kp eR4 R2a
            have ixj4 : ixN (ks4.map kV).length ((0 : Int) + (j : Int)) = some j := by
              unfold ixN
              rw [if_pos (by omega), if_pos (by rw [List.length_map]; omega), e0, Int.toNat_natCast]
            refine ⟨_, rfl, ap, _, 1, _, rfl, rfl, SqT.of hap3, atI_nat (j := 1) rfl, _, rfl, tq, _, _, _, rfl, rfl, SqT.z htq3, at_of e0 hx, xp, _, 1, _, rfl, rfl, SqT.of hxp3, atI_nat (j := 1) rfl, .ref R2, rfl, _, rfl, R2, _, _, j, rfl, rfl, eR5, ixj4, ?_⟩
            refine ⟨_, ks4.set j tm.worth, rfl, (s12.trans s13).mut nR27, ((s12.trans s13).mut nR27).draws d7, fun b o h hb => ?_, by rw [upd_same, List.map_set], by rw [List.length_set]; exact lk4⟩
            rw [upd_ne (ne_of_none h nR2)]
            exact s13.kp (kp2 b o h hb) hb
          · rintro σ H11 ⟨z9, ks3, rfl, s11, d11, kp, eR, lk3⟩
            refine ⟨s11, _, _, up, R2, u, ks3, rfl, ⟨kp _ _ hup fun z => ?_, umem, eR, R2a, ?_⟩⟩
            · obtain ⟨ds, e⟩ := d9
              rw [← z, hup] at e
              cases e
            · rw [lk3]
              exact wf.fits ok ⟨u, umem, un, rfl⟩
        rintro σ' H8 ⟨s8, z9, z11, tp, R, t, ks, rfl, r8⟩
        have d8 := s8.draws d7
        have s58 := s57.trans s8
        obtain ⟨⟨fxs, eF, dF⟩, okF⟩ := hF5.st s58 aF.symm
        have fl : fxs.length = fs.length := dF.mlen
        -- alike
        refine ⟨.ref F, rfl, F, rfl, ⟨_, SqL.of eF⟩, gatherD (m := some a) (l := fs) (φ := sameName t.1) (enc := eFact) wkL fl.symm (fun H s => SqL.of (s.kp eF aF.symm)) (fun b z => by cases z; exact d8) (by omega)
          (fun i2 x2 H9 g hg hx s9 R N k1 k2 => ?_) (fun D2 xs2 H9 s9 nD2 hD2 dxs => ?_)⟩
        · obtain ⟨x', hx', dx'⟩ := (s9.denL dF).mget hg
          rw [hx] at hx'
          obtain rfl := Option.some.inj hx'
          obtain ⟨gp, gr, rfl, hgp, hgr⟩ := den_fact.mp dx'
          refine ⟨rfl, _, rfl, gp, _, 0, _, rfl, rfl, SqT.of hgp, atI_nat (j := 0) rfl, _, rfl, tp, _, 0, _, rfl, rfl, SqT.of (s9.tup _ _ r8.tab), atI_nat (j := 0) rfl, rfl, _, rfl, ite2 (fun e => ?_) (fun e => ?_)⟩
          · have e1 : g.1 = t.1 := V.str.inj (of_decide_eq_true e)
            exact ⟨_, rfl, k1 _ _ g (.refl _ _) (if_pos e1) dx'⟩
          · exact k2 _ (.refl _ _) (if_neg fun z => e (decide_eq_true (congrArg V.str z)))
        have r9 := r8.st s9
        have d9 := s9.draws d8
        have D2a : D2 ≠ a := (d8.ne nD2).symm
        have s59 := s58.trans s9
        have small := wf.small t r9.mem
        -- a fact alike may give the key
        refine ⟨fun σ' H' => EM.St (some a) H9 H' ∧ ∃ (R : Addr) (ks : List Key), σ' = [some (.ref a), some (.ref wd), some (.ref jp), some (.int 7), some (.ref Z'), y5, some (.ref F), some (.int (0 + (i : Int))), some (.ref tp), z9, some (.ref R), z11, some (.ref D2), none, none] ∧ RowAt a H' S tp R t ks, ?_, ?_⟩
        · refine ⟨.ref D2, rfl, D2, _, rfl, .inl (SqL.of hD2), _, _, rfl, rfl, _, rfl, ite2 (fun e => ?_) (fun e => iteF ⟨.refl _ _, R, ks, rfl, r9⟩)⟩
          have hpos : 0 < xs2.length := by
            have := of_decide_eq_true e
            omega
          refine ⟨.ref a, rfl, a, 2, rfl, d9, by decide, fun n10 H10 s10 hn10 => ⟨rfl, _, rfl, ite2 (fun e => ?_) (fun e => ⟨s10, R, ks, rfl, r9.st s10⟩)⟩⟩
          have d10 := s10.draws d9
          refine ⟨_, ?_, fun σ' H' h => h⟩
          -- row = list(pick(alike)[1][:key]) + row[key:]
          refine ⟨.ref a, rfl, .ref D2, rfl, a, D2, xs2, rfl, d10, .inl (s10.kp hD2 D2a), D2a, hpos, fun gv H11 s11 hgv => ?_⟩
          obtain ⟨g, hg, dg⟩ := (s10.denL dxs).mem hgv
          obtain ⟨g0, hg0, eg⟩ := List.mem_filterMap.mp hg
          obtain ⟨rfl, en⟩ := same_of eg
          have glen : g.2.length = t.2.1 + t.2.2 := wf.fits (okF g hg0) ⟨t, r9.mem, en.symm, rfl⟩
          obtain ⟨gp, gr, rfl, hgp, hgr⟩ := den_fact.mp (Den.tk s11.tup _ _ dg)
          have s911 := s10.trans s11
          have r11 := r9.st s911
          have fin : ∀ (c : Addr) (H12 : Hp), EM.St (some a) H11 H12 → H12 c = some (.lst ((g.2.take t.2.1).map kV)) → tSl (rSlL K) (tVar 10) (tPart (tOp (rIxT K) (tVar 8) (tC (.int 1)))) tNoPart
              [some (.ref a), some (.ref wd), some (.ref jp), some (.int 7), some (.ref Z'), y5, some (.ref F), some (.int (0 + (i : Int))), some (.ref tp), z9, some (.ref R), z11, some (.ref D2), none, none] H12 (fun y H13 => rCat (.ref c) y H13 fun v H14 => EM.St (some a) H9 H14 ∧ ∃ (R : Addr) (ks : List Key), [some (.ref a), some (.ref wd), some (.ref jp), some (.int 7), some (.ref Z'), y5, some (.ref F), some (.int (0 + (i : Int))), some (.ref tp), z9, some v, z11, some (.ref D2), none, none] = [some (.ref a), some (.ref wd), some (.ref jp), some (.int 7), some (.ref Z'), y5, some (.ref F), some (.int (0 + (i : Int))), some (.ref tp), z9, some (.ref R), z11, some (.ref D2), none, none] ∧ RowAt a H14 S tp R t ks) := by
            intro c H12 s12 hc
            have r12 := r11.st s12
            refine ⟨.ref R, rfl, _, rfl, tp, _, 1, _, rfl, rfl, SqT.of r12.tab, atI_nat (j := 1) rfl, _, rfl, R, _, rfl, SqL.of r12.row, fun p np => ?_⟩
            rw [cut_drop, ← List.map_drop]
            have d12 := s12.draws (s911.draws d9)
            refine ⟨c, p, _, _, rfl, rfl, by rw [upd_ne (ne_of_none hc np)]; exact hc, upd_same, sz_le (by rw [List.length_map, List.length_map, List.length_take, List.length_drop]; have := r12.len; omega), fun p2 np2 => ?_⟩
            have s14 : EM.St (some a) H12 (upd (upd H12 p (.lst ((ks.drop t.2.1).map kV))) p2 (.lst ((g.2.take t.2.1).map kV ++ (ks.drop t.2.1).map kV))) := (St.new np).trans (St.new np2)
            refine ⟨(s911.trans s12).trans s14, p2, g.2.take t.2.1 ++ ks.drop t.2.1, rfl, ⟨s14.tup _ _ r12.tab, r12.mem, by rw [upd_same, List.map_append], (((St.new (m := some a) np).draws d12).ne np2).symm, ?_⟩⟩
            rw [List.length_append, List.length_take, List.length_drop, r12.len]
            omega
          refine ⟨gp, _, 1, _, rfl, rfl, SqT.of hgp, atI_nat (j := 1) rfl, _, rfl, tp, _, 1, _, rfl, rfl, SqT.of r11.tab, atI_nat (j := 1) rfl, _, rfl, gr, _, rfl, SqT.of hgr, fun hw => ?_, fun _ p np => ?_⟩
          · have htk : g.2.take t.2.1 = g.2 := List.take_of_length_le (by
              have h2 := hw.2
              rw [HT.sIx_nat, List.length_map] at h2
              omega)
            refine ⟨gr, _, rfl, .inr (SqT.of hgr), fun c nc => fin c _ (St.new nc) ?_⟩
            rw [upd_same, htk]
          · rw [cut_take, ← List.map_take]
            refine ⟨p, _, rfl, .inr (SqT.of upd_same), fun c nc => fin c _ ((St.new np).trans (St.new nc)) upd_same⟩
        rintro σ' H10 ⟨s10, R, ks, rfl, r10⟩
        have s510 := s59.trans s10
        obtain ⟨⟨fxs, eF, dF⟩, okF⟩ := hF5.st s510 aF.symm
        have fl : fxs.length = fs.length := dF.mlen
        -- facts.append((table[0], tuple(row)))
        refine ⟨.ref F, rfl, .inl ⟨rfl, _, SqL.of eF⟩, _, rfl, tp, _, 0, _, rfl, rfl, SqT.of r10.tab, atI_nat (j := 0) rfl, .ref R, rfl, R, _, rfl, .inl ⟨SqL.of r10.row, fun u nu => ⟨sz_le (by show 2 ≤ 10000000; decide), fun p np => ?_⟩⟩⟩
        have Fu : F ≠ u := ne_of_none eF nu
        have Fp : F ≠ p := ne_of_none (by rw [upd_ne Fu]; exact eF) np
        have up : u ≠ p := ne_of_none upd_same np
        have eF2 : (upd (upd H10 u (.tup (ks.map kV))) p (.tup [.str t.1, .ref u])) F = some (.lst fxs) := by rw [upd_ne Fp, upd_ne Fu]; exact eF
        have tk : TK H10 (upd (upd (upd H10 u (.tup (ks.map kV))) p (.tup [.str t.1, .ref u])) F (.lst (fxs ++ [.ref p]))) := ((TK.new nu).trans (.new np)).trans (.lst eF2)
        have s11 : EM.St (some a) H (upd (upd (upd H10 u (.tup (ks.map kV))) p (.tup [.str t.1, .ref u])) F (.lst (fxs ++ [.ref p]))) := (((s5.trans s510).trans (St.new nu)).trans (St.new np)).mut nF0
        have eZ10 := s510.kp eZ5 Za
        have ZF : Z' ≠ F := fun z => by
          rw [z] at eZ
          rw [eZ] at nF
          cases nF
        refine ⟨F, _, _, rfl, rfl, eF2, sz_lt (by omega), _, _, _, _, _, _, fs ++ [(t.1, ks)], rfl, s11, ?_, DenL.tk (s510.tup.trans tk) _ _ hA5, ⟨⟨_, upd_same, (DenL.tk tk _ _ dF).msnoc (den_fact.mpr ⟨p, u, rfl, ?_, ?_⟩)⟩, fun f hf => ?_⟩, ?_⟩
        · rw [upd_ne ZF, upd_ne (ne_of_none (by rw [upd_ne (ne_of_none eZ10 nu)]; exact eZ10) np), upd_ne (ne_of_none eZ10 nu)]
          exact eZ10
        · rw [upd_ne Fp.symm, upd_same]
        · rw [upd_ne Fu.symm, upd_ne up, upd_same]
        · rcases List.mem_append.mp hf with hf | hf
          · exact okF f hf
          · rw [List.mem_singleton.mp hf]
            exact ⟨t, r10.mem, rfl, r10.len.symm⟩
        · rw [List.length_append]; show fs.length + 1 ≤ i + 1; omega
      · rintro σ H5 ⟨y7, y8, y9, y10, y11, y12, fs, rfl, s5, eZ5, hA5, hF5, lF⟩
        exact ⟨.ref F, rfl, q F fs H5 s5 nF0 hF5 (by omega)⟩
end
end EM
namespace EM
open PySem PySem.Spec PyProof.Rows L2
section
variable {P : Program} {w : World} {K : PySem.W.Frag} {mg : Str → Option Value} {base : Heap}
/-! ### the facts of the broad world -/
theorem hasLBroadFacts (T : Txt K mg) : Has P w K mg base 4 "_law_broad_facts" ["_law_draws_here", "_law_world_here", "_law_joins", "_law_many"] spFactsB := by
  refine T.dLBroadFacts.has scLBroadFacts (fun vs H Q E h => ?_) (fun f cdv A outer s H vs Q E hr h => ?_)
  · obtain ⟨a, wd, S, vars, vals, n, qs, jv, rfl, _⟩ := h
    rfl
  · obtain ⟨a, wd, S, vars, vals, n, qs, jv, rfl, hd, W, hvl, hJ, qok, q⟩ := h
    obtain ⟨jp, jxs, rfl, hjp, hjx⟩ := den_map.mp hJ
    have wf := W.wf
    refine ⟨_,
      (pss_cons (ps_setLc (i := 4) (own := [("_law_x", 14)]) (g := (gName 14)) (tt := tYes) rfl scLBroadFacts.nd rfl rfl (sw_true rfl rfl rfl (by decide +kernel)) (itL K (pe_ix (ixL K) (pv 1) pe_int (fun _ _ => rfl))) (blkOk_by (N := nmLBroadFacts) (sc := defScope stLBroadFacts) (by decide +kernel)) (fun _ _ _ _ _ => (pg_name (i := 14) scLBroadFacts.nd rfl (Or.inl rfl))) (fun _ _ _ _ _ => pts_nil) (fun _ _ _ _ _ => (pe_own (hasLPick T) hr (by decide) (by rfl) (pa_cons (pv 0) (pa_cons (pe_ix (ixL K) (pv 1) pe_int (fun _ _ => rfl)) pa_nil)))))
      (pss_cons (ps_set (i := 5) scLBroadFacts.nd rfl (.inl rfl) (pe_lst pa_nil))
      (pss_cons (ps_for PassesOwn.never rfl (itT K (pv 2)) (pg_name (i := 6) scLBroadFacts.nd rfl (Or.inl rfl))
        (pss_one (ps_set (i := 5) scLBroadFacts.nd rfl (.inl rfl) (pe_op op_cat (pv 5) (pe_callTy (lstOf K) (by rfl) T.mlist (by decide +kernel) (pa_cons (pe_ix (ixT K) (pv 6) pe_int (fun _ _ => rfl)) pa_nil))))))
      (pss_cons (ps_set (i := 7) scLBroadFacts.nd rfl (.inl rfl) (pe_lst pa_nil))
      (pss_cons (ps_for PassesOwn.never rfl (pi_range1 (by rfl) T.mrange (pa_cons (pe_own (hasLTake T) hr (by decide) (by rfl) (pa_cons (pv 0) (pa_cons (pe_op op_add (pv 3) pe_int) pa_nil))) pa_nil)) (pg_name (i := 8) scLBroadFacts.nd rfl (Or.inl rfl))
        (pss_cons (ps_set (i := 9) scLBroadFacts.nd rfl (.inr rfl) (pe_own (hasLPick T) hr (by decide) (by rfl) (pa_cons (pv 0) (pa_cons (pe_ix (ixL K) (pv 1) pe_int (fun _ _ => rfl)) pa_nil))))
        (pss_cons (ps_setLc (i := 10) (own := [("_law_j", 15)]) (g := (gName 15)) (tt := tYes) rfl scLBroadFacts.nd rfl rfl (sw_true rfl rfl rfl (by decide +kernel)) (pi_range1 (by rfl) T.mrange (pa_cons (pe_op op_add (pe_ix (ixT K) (pv 9) pe_int (fun _ _ => rfl)) (pe_ix (ixT K) (pv 9) pe_int (fun _ _ => rfl))) pa_nil)) (blkOk_by (N := nmLBroadFacts) (sc := defScope stLBroadFacts) (by decide +kernel)) (fun _ _ _ _ _ => (pg_name (i := 15) scLBroadFacts.nd rfl (Or.inl rfl))) (fun _ _ _ _ _ => pts_nil) (fun _ _ _ _ _ => (pe_own (hasLPick T) hr (by decide) (by rfl) (pa_cons (pv 0) (pa_cons (pe_ix (ixL K) (pv 1) pe_int (fun _ _ => rfl)) pa_nil)))))
        (pss_cons (ps_cut (ps_if (PW.pt (pw_and (pt_cmpR op_gt (pe_callB (lenS K) (by rfl) T.mlen PySem.boot_len (pa_cons (pv 5) pa_nil)) pe_int (nomark _)) (pw_and1 (pt_cmpR op_gt (pe_own (hasLTake T) hr (by decide) (by rfl) (pa_cons (pv 0) (pa_cons pe_int pa_nil))) pe_int (nomark _)))))
          (pss_cons (ps_set (i := 11) scLBroadFacts.nd rfl (.inl rfl) (pe_own (hasLPick T) hr (by decide) (by rfl) (pa_cons (pv 0) (pa_cons (pv 5) pa_nil))))
          (pss_cons (ps_set (i := 9) scLBroadFacts.nd rfl (.inr rfl) (pe_own (hasLTable T) hr (by decide) (by rfl) (pa_cons (pe_ix (ixL K) (pv 1) pe_int (fun _ _ => rfl)) (pa_cons (pe_ix (ixT K) (pv 11) pe_int (fun _ _ => rfl)) pa_nil))))
          (pss_cons (ps_set (i := 12) scLBroadFacts.nd rfl (.inr rfl) (pe_own (hasLNearValuation T) hr (by decide) (by rfl) (pa_cons (pv 0) (pa_cons (pv 1) (pa_cons (pv 4) pa_nil)))))
          (pss_one (ps_setLc (i := 10) (own := [("_law_term_here", 16)]) (g := (gName 16)) (tt := tYes) rfl scLBroadFacts.nd rfl rfl (sw_true rfl rfl rfl (by decide +kernel)) (itT K (pe_ix (ixT K) (pv 11) pe_int (fun _ _ => rfl))) (blkOk_by (N := nmLBroadFacts) (sc := defScope stLBroadFacts) (by decide +kernel)) (fun _ _ _ _ _ => (pg_name (i := 16) scLBroadFacts.nd rfl (Or.inl rfl))) (fun _ _ _ _ _ => pts_nil) (fun _ _ _ _ _ => (pe_ix (ixT K) (pe_own (hasLPut T) hr (by decide) (by rfl) (pa_cons (pv 16) (pa_cons (pv 12) pa_nil))) pe_int (fun _ _ => rfl))))))))
          pss_nil))
        (pss_cons (ps_cut (ps_if (PW.pt (pw_and (pt_cmpR op_gt (pe_callB (lenS K) (by rfl) T.mlen PySem.boot_len (pa_cons (pv 10) pa_nil)) pe_int (nomark _)) (pw_and1 (pt_cmpR op_eq (pe_own (hasLTake T) hr (by decide) (by rfl) (pa_cons (pv 0) (pa_cons pe_int pa_nil))) pe_int (nomark _)))))
          (pss_one (ps_asg (pe_own (hasLPick T) hr (by decide) (by rfl) (pa_cons (pv 0) (pa_cons (pe_ix (ixL K) (pv 1) pe_int (fun _ _ => rfl)) pa_nil))) (pg_sub (pv 10) (pe_own (hasLTake T) hr (by decide) (by rfl) (pa_cons (pv 0) (pa_cons (pe_callB (lenS K) (by rfl) T.mlen PySem.boot_len (pa_cons (pv 10) pa_nil)) pa_nil))) set_list)))
          pss_nil))
        (pss_cons (ps_setLc (i := 13) (own := [("_law_fact", 17)]) (g := (gName 17)) rfl scLBroadFacts.nd rfl rfl (sw_true rfl rfl rfl (by decide +kernel)) (itL K (pv 7)) (blkOk_by (N := nmLBroadFacts) (sc := defScope stLBroadFacts) (by decide +kernel)) (fun _ _ _ _ _ => (pg_name (i := 17) scLBroadFacts.nd rfl (Or.inl rfl))) (fun _ _ _ _ _ => (pts_one (pt_cmpR op_eq (pe_ix (ixT K) (pv 17) pe_int (fun _ _ => rfl)) (pe_ix (ixT K) (pv 9) pe_int (fun _ _ => rfl)) (nomark _)))) (fun _ _ _ _ _ => (pv 17)))
        (pss_cons (ps_cut (ps_if (PW.pt (pw_and (pt_cmpR op_gt (pe_callB (lenS K) (by rfl) T.mlen PySem.boot_len (pa_cons (pv 13) pa_nil)) pe_int (nomark _)) (pw_and1 (pt_cmpR op_eq (pe_own (hasLTake T) hr (by decide) (by rfl) (pa_cons (pv 0) (pa_cons pe_int pa_nil))) pe_int (nomark _)))))
          (pss_one (ps_cut (ps_set (i := 10) scLBroadFacts.nd rfl (.inl rfl) (pe_op op_cat (pe_callTy (lstOf K) (by rfl) T.mlist (by decide +kernel) (pa_cons (pe_slice (slT K) (pe_ix (ixT K) (pe_own (hasLPick T) hr (by decide) (by rfl) (pa_cons (pv 0) (pa_cons (pv 13) pa_nil))) pe_int (fun _ _ => rfl)) po_none (po_some (pe_ix (ixT K) (pv 9) pe_int (fun _ _ => rfl)))) pa_nil)) (pe_slice (slL K) (pv 10) (po_some (pe_ix (ixT K) (pv 9) pe_int (fun _ _ => rfl))) po_none)))))
          pss_nil))
        (pss_one (ps_expr (pe_bm PySem.F.plainAttrs_list PySem.F.slot_list_append PySem.F.type_list_append mt_append (pv 7) (pa_cons (pe_tup (pa_cons (pe_ix (ixT K) (pv 9) pe_int (fun _ _ => rfl)) (pa_cons (pe_callTy (tupOf K) (by rfl) T.mtuple (by decide +kernel) (pa_cons (pv 10) pa_nil)) pa_nil))) pa_nil)))))))))))
      (pss_one (ps_ret (pv 7)))))))), ?_⟩
    -- the main values
    obtain ⟨⟨sp0, vr0, vl0, xs00, u1, u2, u3, u4, u5, u6, u7, u8⟩, _, nv0, nl0⟩ := W
    have W : WorldAt a H wd S vars vals := ⟨⟨sp0, vr0, vl0, xs00, u1, u2, u3, u4, u5, u6, u7, u8⟩, wf, nv0, nl0⟩
    refine ⟨.ref wd, rfl, wd, _, 1, _, rfl, rfl, SqL.of u1, atI_nat (j := 1) rfl, vr0, rfl, ⟨_, SqL.of u4⟩,
      gather (m := some a) wkL (fun H s => SqL.of (s.kp u4 u7)) (fun b z => by cases z; exact hd) (by rw [List.length_map]; omega) (fun i v H => ∃ k : Key, v = kV k) (fun _ _ _ _ _ h => h)
        (fun i2 x H7 hi2 hx s7 R k => ?_) (fun ML mxs H0 s00 nML hML lenM hpM => ?_) gname_mono⟩
    · obtain ⟨⟨sp, vr, vl, xs0, w1, w2, w3, w4, w5, n1, n2, n3⟩, _, nv, nl⟩ := W.st s7
      exact ⟨rfl, .ref a, rfl, .ref wd, rfl, wd, _, 2, _, rfl, rfl, SqL.of w1, atI_nat (j := 2) rfl, a, vl, _, rfl, s7.draws hd, .inl w5, n3, by rw [List.length_map]; omega, fun x H8 s8 hx => by
        obtain ⟨kk, _, rfl⟩ := List.mem_map.mp hx
        exact k _ _ s8 ⟨kk, rfl⟩⟩
    obtain ⟨mks, rfl, lmks⟩ := keys_of (H := H0) mxs hpM
    rw [List.length_map, List.length_map] at lenM
    have MLa : ML ≠ a := (hd.ne nML).symm
    have d0 := s00.draws hd
    have jl : jxs.length = qs.length := hjx.mlen
    have hjp0 := s00.tup _ _ hjp
    have hjx0 := s00.denL hjx
    have nML0 := nML
    -- the atoms
    refine ⟨Nat.zero_le _, fun Z nZ => ?_⟩
    refine ⟨.ref jp, rfl, jp, rfl, ⟨_, SqT.of ((TK.new nZ) _ _ hjp0)⟩, for_tup (K := K) (a := jp) (xs := jxs) (fun i σ H2 => ∃ (y6 : Option V) (Z' : Addr) (as : List Atom) (axs : List V), σ = [some (.ref a), some (.ref wd), some (.ref jp), some (.int 7), some (.ref ML), some (.ref Z'), y6, none, none, none, none, none, none, none, none, none, none, none] ∧
      EM.St (some a) H0 H2 ∧ H2 Z' = some (.lst axs) ∧ Z' ≠ a ∧ DenL H2 (as.map eAtom) axs ∧ (∀ at' ∈ as, AtomOk S at') ∧ as.length ≤ 3 * i)
      ⟨none, Z, [], [], rfl, St.new nZ, upd_same, (d0.ne nZ).symm, .nil, fun t h => absurd h (by simp), Nat.le_refl _⟩ (fun i σ H2 _ h => by obtain ⟨_, _, _, _, _, s2, _⟩ := h; exact SqT.of (s2.tup _ _ hjp0)) ?_ ?_⟩
    · rintro i x σ H2 hi ⟨y6, Z', as, axs, rfl, s2, eZ, Za, hA, okA, lA⟩
      obtain ⟨j, hj, dj⟩ := (s2.denL hjx0).mback hi
      have okj := qok.joins j (List.mem_of_getElem? hj)
      obtain ⟨p, hv, bv, rfl, hp, dh, db⟩ := den_2.mp dj
      obtain ⟨bp, bxs, rfl, hbp, dbx⟩ := den_map.mp db
      have bl : bxs.length = j.2.length := dbx.mlen
      have al : axs.length = as.length := hA.mlen
      have few := okj.few
      have il : i < jxs.length := (List.getElem?_eq_some_iff.mp hi).1
      have qf := qok.few
      have d2 := s2.draws d0
      refine ⟨.ref Z', rfl, .ref p, rfl, p, _, 1, _, rfl, rfl, SqT.of hp, atI_nat (j := 1) rfl, bp, bxs, rfl, .inr (SqT.of hbp), fun l nl => ?_⟩
      have Zl : Z' ≠ l := ne_of_none eZ nl
      refine ⟨Z', l, axs, bxs, rfl, rfl, by rw [upd_ne Zl]; exact eZ, upd_same, sz_le (by omega), fun Z2 nZ2 => ?_⟩
      have tk : TK H2 (upd (upd H2 l (.lst bxs)) Z2 (.lst (axs ++ bxs))) := (TK.new nl).trans (.new nZ2)
      refine ⟨_, Z2, as ++ j.2, axs ++ bxs, rfl, (s2.trans (St.new nl)).trans (St.new nZ2), upd_same, (((St.new (m := some a) nl).draws d2).ne nZ2).symm, ?_, fun at' h => (List.mem_append.mp h).elim (okA at') (okj.atoms at'), by rw [List.length_append]; omega⟩
      rw [List.map_append]
      exact (DenL.tk tk _ _ hA).append (DenL.tk tk _ _ dbx)
    · rintro σ H2 ⟨y6, Z', as, axs, rfl, s02, eZ, Za, hA, okA, lA⟩
      have qf := qok.few
      have al : axs.length = as.length := hA.mlen
      have s2 := s00.trans s02
      have d2 := s2.draws hd
      -- facts
      refine ⟨Nat.zero_le _, fun F nF => ?_⟩
      have aF : a ≠ F := d2.ne nF
      have nF0 := s2.freeD hd nF
      have s3 := s2.trans (St.new (o := .lst []) nF)
      have d3 := s3.draws hd
      have eZ3 : (upd H2 F (.lst [])) Z' = some (.lst axs) := by rw [upd_ne (ne_of_none eZ nF)]; exact eZ
      have eM2 : H2 ML = some (.lst (mks.map kV)) := s02.kp hML MLa
      have eM3 : (upd H2 F (.lst [])) ML = some (.lst (mks.map kV)) := by rw [upd_ne (ne_of_none eM2 nF)]; exact eM2
      have MF : ML ≠ F := ne_of_none eM2 nF
      refine ⟨.ref a, rfl, _, rfl, 7, 1, rfl, rfl, a, 8, rfl, d3, by decide, fun m H4 s4 hm => ⟨_, rfl, by omega, by omega, for_range (lo := 0) (n := (m : Int).toNat) (fun i σ H5 => ∃ (y8 y9 y10 y11 y12 y13 : Option V) (fs : List Fact),
        σ = [some (.ref a), some (.ref wd), some (.ref jp), some (.int 7), some (.ref ML), some (.ref Z'), y6, some (.ref F), y8, y9, y10, y11, y12, y13, none, none, none, none] ∧ EM.St (some a) H H5 ∧ H5 Z' = some (.lst axs) ∧ H5 ML = some (.lst (mks.map kV)) ∧ DenL H5 (as.map eAtom) axs ∧ FactsAt H5 F S fs ∧ fs.length ≤ i)
        ⟨none, none, none, none, none, none, [], rfl, s3.trans s4, s4.kp eZ3 Za, s4.kp eM3 MLa, s4.denL (DenL.tk (.new nF) _ _ hA), ⟨⟨[], s4.kp upd_same aF.symm, .nil⟩, fun f h => absurd h (by simp)⟩, Nat.le_refl _⟩ ?_ ?_⟩⟩
      · rintro i σ H5 hi ⟨y8, y9, y10, y11, y12, y13, fs, rfl, s5, eZ5, eM5, hA5, hF5, lF⟩
        have d5 := s5.draws hd
        have im : i < m := by omega
        obtain ⟨⟨sp, vr, vl, xs0, w1, w2, w3, w4, w5, n1, n2, n3⟩, _, nv, nl⟩ := W.st s5
        have x0 : 0 < xs0.length := by
          rw [w3.mlen]
          exact Nat.pos_of_ne_zero fun z => wf.ne (List.eq_nil_of_length_eq_zero z)
        have spa : sp ≠ a := fun z => by
          obtain ⟨ds, e⟩ := d5
          rw [z] at w2
          rw [w2] at e
          cases e
        -- table
        refine ⟨.ref a, rfl, .ref wd, rfl, wd, _, 0, _, rfl, rfl, SqL.of w1, atI_nat (j := 0) rfl, a, sp, xs0, rfl, d5, .inr w2, spa, x0, fun tv H6 s6 htv => ?_⟩
        obtain ⟨t, ht, dt⟩ := w3.mem htv
        obtain ⟨tp, rfl, htp⟩ := den_tab.mp (Den.tk s6.tup _ _ dt)
        have d6 := s6.draws d5
        have small := wf.small t ht
        -- row
        refine ⟨.ref tp, rfl, tp, _, 1, _, rfl, rfl, SqT.of htp, atI_nat (j := 1) rfl, .ref tp, rfl, tp, _, 2, _, rfl, rfl, SqT.of htp, atI_nat (j := 2) rfl, _, _, rfl, rfl, _, rfl, by omega, by omega,
          gather (m := some a) (n := ((t.2.1 : Int) + (t.2.2 : Int)).toNat) wkR (fun _ _ => trivial) (fun b z => by cases z; exact d6) (by omega) (fun i v H => ∃ k : Key, v = kV k) (fun _ _ _ _ _ h => h)
            (fun i2 x H7 hi2 hx s7 R k => ?_) (fun R xs H7 s7 nR hR hlen hp => ?_) gname_mono⟩
        · obtain ⟨⟨sp, vr, vl, xs0, w1, w2, w3, w4, w5, n1, n2, n3⟩, _, nv, nl⟩ := W.st ((s5.trans s6).trans s7)
          exact ⟨rfl, .ref a, rfl, .ref wd, rfl, wd, _, 2, _, rfl, rfl, SqL.of w1, atI_nat (j := 2) rfl, a, vl, _, rfl, s7.draws d6, .inl w5, n3, by rw [List.length_map]; omega, fun x H8 s8 hx => by
            obtain ⟨kk, _, rfl⟩ := List.mem_map.mp hx
            exact k _ _ s8 ⟨kk, rfl⟩⟩
        obtain ⟨ks, rfl, lks⟩ := keys_of (H := H7) xs hp
        have s57 := s6.trans s7
        have d7 := s57.draws d5
        have r7 : RowAt a H7 S tp R t ks := ⟨s7.tup _ _ htp, ht, hR, (d6.ne nR).symm, by omega⟩
        have eZ7 := s57.kp eZ5 Za
        have eM7 := s57.kp eM5 MLa
        have hA7 := s57.denL hA5
        -- an atom may give the row
        have nR5 : H5 R = none := s6.freeD d5 nR
        refine ⟨fun σ' H' => EM.St (some a) H5 H' ∧ ∃ (y11 y12 : Option V) (tp R : Addr) (t : Tab) (ks : List Key), σ' = [some (.ref a), some (.ref wd), some (.ref jp), some (.int 7), some (.ref ML), some (.ref Z'), y6, some (.ref F), some (.int (0 + (i : Int))), some (.ref tp), some (.ref R), y11, y12, y13, none, none, none, none] ∧ H5 R = none ∧ RowAt a H' S tp R t ks, ?_, ?_⟩
        · refine ⟨.ref Z', rfl, Z', _, rfl, .inl (SqL.of eZ7), _, _, rfl, rfl, _, rfl, ite2 (fun e => ?_) (fun e => iteF ⟨s57, _, _, tp, R, t, ks, rfl, nR5, r7⟩)⟩
          have hpos : 0 < axs.length := by
            have := of_decide_eq_true e
            omega
          refine ⟨.ref a, rfl, a, 6, rfl, d7, by decide, fun n8 H8 s8 hn8 => ⟨_, _, rfl, rfl, _, rfl, ite2 (fun e => ?_) (fun e => ⟨s57.trans s8, _, _, tp, R, t, ks, rfl, nR5, r7.st s8⟩)⟩⟩
          have d8 := s8.draws d7
          -- atom = pick(atoms)
          refine ⟨.ref a, rfl, .ref Z', rfl, a, Z', axs, rfl, d8, .inl (s8.kp eZ7 Za), Za, hpos, fun av H9 s9 hav => ?_⟩
          obtain ⟨at', hat, dat⟩ := (s8.denL hA7).mem hav
          have ok := okA at' hat
          obtain ⟨u, hu, umem, un⟩ := tabOf_some ok
          have d9 := s9.draws d8
          obtain ⟨ap, nx, tx, rfl, hap, dn, dt'⟩ := den_2.mp (Den.tk s9.tup _ _ dat)
          obtain rfl := den_str.mp dn
          obtain ⟨tq, tqs, tqo, rfl, htq, hto, dtq⟩ := den_mapL.mp dt'
          have tql : tqs.length = at'.2.length := dtq.mlen
          have a8 := ok.small wf
          have s59 := (s57.trans s8).trans s9
          have W9 := W.st (s5.trans s59)
          obtain ⟨⟨sp9, vr9, vl9, xs9, v1, v2, v3, v4, v5, m1, m2, m3⟩, _, nv9, nl9⟩ := W.st (s5.trans s59)
          -- table = table(world[0], atom[0])
          refine ⟨.ref wd, rfl, wd, _, 0, _, rfl, rfl, SqL.of v1, atI_nat (j := 0) rfl, .ref ap, rfl, ap, _, 0, _, rfl, rfl, SqT.of hap, atI_nat (j := 0) rfl, .ref sp9, at'.1, S, u, rfl, den_map.mpr ⟨sp9, xs9, rfl, v2, v3⟩, hu, fun uv duv => ?_⟩
          obtain ⟨up, rfl, hup⟩ := den_tab.mp duv
          -- mapping = near_valuation(..)
          refine ⟨.ref a, rfl, .ref wd, rfl, .ref ML, rfl, a, wd, ML, S, vars, vals, mks, rfl, d9, W9, s59.kp eM5 MLa, MLa, by omega, hvl, fun mp m0 mxs H10 s10 nmp hmp dmp => ?_⟩
          have d10 := s10.draws d9
          have mpa : mp ≠ a := (d9.ne nmp).symm
          have hap1 := s10.tup _ _ hap
          have htq1 := s10.tup _ _ htq
          have dtq1 := s10.denL dtq
          -- row = [put(term, mapping)[1] for term in atom[1]]
          refine ⟨.ref ap, rfl, ap, _, 1, _, rfl, rfl, SqT.of hap1, atI_nat (j := 1) rfl, tq, rfl, ⟨_, SqT.z htq1⟩,
            gather (m := some a) wkT (fun H s => SqT.z (s.tup _ _ htq1)) (fun b z => by cases z; exact d10) (by omega) (fun i v H => ∃ k : Key, v = kV k) (fun _ _ _ _ _ h => h)
              (fun i2 x H11 hi2 hx s11 R k => ?_) (fun R2 xs2 H11 s11 nR2 hR2 hlen2 hp2 => ?_) gname_mono⟩
          · obtain ⟨tm, _, dtm⟩ := (s11.denL dtq1).mback hx
            refine ⟨rfl, x, rfl, .ref mp, rfl, x, mp, tm, m0, mxs, rfl, dtm, s11.kp hmp mpa, s11.denL dmp, fun v H12 s12 dv => ?_⟩
            obtain ⟨p, rfl, hp⟩ := den_tm.mp dv
            exact ⟨p, _, 1, _, rfl, rfl, SqT.of hp, atI_nat (j := 1) rfl, k _ _ s12.weak ⟨_, rfl⟩⟩
          obtain ⟨ks2, rfl, lks2⟩ := keys_of (H := H11) xs2 hp2
          have s511 := (s59.trans s10).trans s11
          exact ⟨s511, _, _, up, R2, u, ks2, rfl, (s59.trans s10).freeD d5 nR2, ⟨(s10.trans s11).tup _ _ hup, umem, hR2, (d10.ne nR2).symm, by
            have := wf.fits ok ⟨u, umem, un, rfl⟩
            omega⟩⟩
        clear r7 nR5 hR nR hp lks
        rintro σ' H7b ⟨s57, z11, z12, tp, R, t, ks, rfl, nR5, r7⟩
        have d7 := s57.draws d5
        -- a value of the row may change
        refine ⟨fun σ' H' => EM.St (some a) H5 H' ∧ ∃ (y11 y12 : Option V) (tp R : Addr) (t : Tab) (ks : List Key), σ' = [some (.ref a), some (.ref wd), some (.ref jp), some (.int 7), some (.ref ML), some (.ref Z'), y6, some (.ref F), some (.int (0 + (i : Int))), some (.ref tp), some (.ref R), y11, y12, y13, none, none, none, none] ∧ H5 R = none ∧ RowAt a H' S tp R t ks, ?_, ?_⟩
        · refine ⟨.ref R, rfl, R, _, rfl, .inl (SqL.of r7.row), _, _, rfl, rfl, _, rfl, ite2 (fun e => ?_) (fun e => iteF ⟨s57, _, _, tp, R, t, ks, rfl, nR5, r7⟩)⟩
          have hpos : 0 < ks.length := by
            have := of_decide_eq_true e
            rw [List.length_map] at this
            omega
          refine ⟨.ref a, rfl, a, 6, rfl, d7, by decide, fun n8 H8 s8 hn8 => ⟨rfl, _, rfl, ite2 (fun e => ?_) (fun e => ⟨s57.trans s8, _, _, tp, R, t, ks, rfl, nR5, r7.st s8⟩)⟩⟩
          have d8 := s8.draws d7
          have s58 := s57.trans s8
          obtain ⟨⟨sp9, vr9, vl9, xs9, v1, v2, v3, v4, v5, m1, m2, m3⟩, _, nv9, nl9⟩ := W.st (s5.trans s58)
          refine ⟨.ref a, rfl, .ref wd, rfl, wd, _, 2, _, rfl, rfl, SqL.of v1, atI_nat (j := 2) rfl, a, vl9, _, rfl, d8, .inl v5, m3, by rw [List.length_map]; omega, fun x H9 s9 hx => ?_⟩
          obtain ⟨kk, _, rfl⟩ := List.mem_map.mp hx
          have r9 := (r7.st s8).st s9
          have d9 := s9.draws d8
          refine ⟨.ref R, rfl, .ref a, rfl, .ref R, rfl, R, _, rfl, .inl (SqL.of r9.row), a, (ks.map kV).length, rfl, d9, by rw [List.length_map]; exact hpos, fun j H10 s10 hj => ?_⟩
          rw [List.length_map] at hj
          have r10 := r9.st s10
          have ixj : ixN (ks.map kV).length (j : Int) = some j := by
            unfold ixN
            rw [if_pos (by omega), if_pos (by rw [List.length_map]; omega), Int.toNat_natCast]
          refine ⟨R, _, _, j, rfl, rfl, r10.row, ixj, ?_⟩
          have s510 := (s58.trans s9).trans s10
          have s511 : EM.St (some a) H5 (upd H10 R (.lst ((ks.map kV).set j (kV kk)))) := s510.mut nR5
          refine ⟨s511, _, _, tp, R, t, ks.set j kk, rfl, nR5, ⟨?_, r10.mem, by rw [upd_same, List.map_set], r10.ne, by rw [List.length_set]; exact r10.len⟩⟩
          rw [upd_ne (ne_of r10.tab r10.row (by intro z; cases z))]
          exact r10.tab
        clear r7 nR5
        rintro σ' H8 ⟨s58, z11, z12, tp, R, t, ks, rfl, nR5, r8⟩
        have d8 := s58.draws d5
        obtain ⟨⟨fxs, eF, dF⟩, okF⟩ := hF5.st s58 aF.symm
        have fl : fxs.length = fs.length := dF.mlen
        -- alike
        refine ⟨.ref F, rfl, F, rfl, ⟨_, SqL.of eF⟩, gatherD (m := some a) (l := fs) (φ := sameName t.1) (enc := eFact) wkL fl.symm (fun H s => SqL.of (s.kp eF aF.symm)) (fun b z => by cases z; exact d8) (by omega)
          (fun i2 x2 H9 g hg hx s9 R N k1 k2 => ?_) (fun D2 xs2 H9 s9 nD2 hD2 dxs => ?_)⟩
        · obtain ⟨x', hx', dx'⟩ := (s9.denL dF).mget hg
          rw [hx] at hx'
          obtain rfl := Option.some.inj hx'
          obtain ⟨gp, gr, rfl, hgp, hgr⟩ := den_fact.mp dx'
          refine ⟨rfl, _, rfl, gp, _, 0, _, rfl, rfl, SqT.of hgp, atI_nat (j := 0) rfl, _, rfl, tp, _, 0, _, rfl, rfl, SqT.of (s9.tup _ _ r8.tab), atI_nat (j := 0) rfl, rfl, _, rfl, ite2 (fun e => ?_) (fun e => ?_)⟩
          · have e1 : g.1 = t.1 := V.str.inj (of_decide_eq_true e)
            exact ⟨_, rfl, k1 _ _ g (.refl _ _) (if_pos e1) dx'⟩
          · exact k2 _ (.refl _ _) (if_neg fun z => e (decide_eq_true (congrArg V.str z)))
        have r9 := r8.st s9
        have d9 := s9.draws d8
        have D2a : D2 ≠ a := (d8.ne nD2).symm
        have s59 := s58.trans s9
        have small := wf.small t r9.mem
        -- a fact alike may give the key
        refine ⟨fun σ' H' => EM.St (some a) H9 H' ∧ ∃ (R : Addr) (ks : List Key), σ' = [some (.ref a), some (.ref wd), some (.ref jp), some (.int 7), some (.ref ML), some (.ref Z'), y6, some (.ref F), some (.int (0 + (i : Int))), some (.ref tp), some (.ref R), z11, z12, some (.ref D2), none, none, none, none] ∧ RowAt a H' S tp R t ks, ?_, ?_⟩
        · refine ⟨.ref D2, rfl, D2, _, rfl, .inl (SqL.of hD2), _, _, rfl, rfl, _, rfl, ite2 (fun e => ?_) (fun e => iteF ⟨.refl _ _, R, ks, rfl, r9⟩)⟩
          have hpos : 0 < xs2.length := by
            have := of_decide_eq_true e
            omega
          refine ⟨.ref a, rfl, a, 3, rfl, d9, by decide, fun n10 H10 s10 hn10 => ⟨rfl, _, rfl, ite2 (fun e => ?_) (fun e => ⟨s10, R, ks, rfl, r9.st s10⟩)⟩⟩
          have d10 := s10.draws d9
          refine ⟨_, ?_, fun σ' H' h => h⟩
          -- row = list(pick(alike)[1][:key]) + row[key:]
          refine ⟨.ref a, rfl, .ref D2, rfl, a, D2, xs2, rfl, d10, .inl (s10.kp hD2 D2a), D2a, hpos, fun gv H11 s11 hgv => ?_⟩
          obtain ⟨g, hg, dg⟩ := (s10.denL dxs).mem hgv
          obtain ⟨g0, hg0, eg⟩ := List.mem_filterMap.mp hg
          obtain ⟨rfl, en⟩ := same_of eg
          have glen : g.2.length = t.2.1 + t.2.2 := wf.fits (okF g hg0) ⟨t, r9.mem, en.symm, rfl⟩
          obtain ⟨gp, gr, rfl, hgp, hgr⟩ := den_fact.mp (Den.tk s11.tup _ _ dg)
          have s911 := s10.trans s11
          have r11 := r9.st s911
          have fin : ∀ (c : Addr) (H12 : Hp), EM.St (some a) H11 H12 → H12 c = some (.lst ((g.2.take t.2.1).map kV)) → tSl (rSlL K) (tVar 10) (tPart (tOp (rIxT K) (tVar 9) (tC (.int 1)))) tNoPart
              [some (.ref a), some (.ref wd), some (.ref jp), some (.int 7), some (.ref ML), some (.ref Z'), y6, some (.ref F), some (.int (0 + (i : Int))), some (.ref tp), some (.ref R), z11, z12, some (.ref D2), none, none, none, none] H12 (fun y H13 => rCat (.ref c) y H13 fun v H14 => EM.St (some a) H9 H14 ∧ ∃ (R : Addr) (ks : List Key), [some (.ref a), some (.ref wd), some (.ref jp), some (.int 7), some (.ref ML), some (.ref Z'), y6, some (.ref F), some (.int (0 + (i : Int))), some (.ref tp), some v, z11, z12, some (.ref D2), none, none, none, none] = [some (.ref a), some (.ref wd), some (.ref jp), some (.int 7), some (.ref ML), some (.ref Z'), y6, some (.ref F), some (.int (0 + (i : Int))), some (.ref tp), some (.ref R), z11, z12, some (.ref D2), none, none, none, none] ∧ RowAt a H14 S tp R t ks) := by
            intro c H12 s12 hc
            have r12 := r11.st s12
            refine ⟨.ref R, rfl, _, rfl, tp, _, 1, _, rfl, rfl, SqT.of r12.tab, atI_nat (j := 1) rfl, _, rfl, R, _, rfl, SqL.of r12.row, fun p np => ?_⟩
            rw [cut_drop, ← List.map_drop]
            have d12 := s12.draws (s911.draws d9)
            refine ⟨c, p, _, _, rfl, rfl, by rw [upd_ne (ne_of_none hc np)]; exact hc, upd_same, sz_le (by rw [List.length_map, List.length_map, List.length_take, List.length_drop]; have := r12.len; omega), fun p2 np2 => ?_⟩
            have s14 : EM.St (some a) H12 (upd (upd H12 p (.lst ((ks.drop t.2.1).map kV))) p2 (.lst ((g.2.take t.2.1).map kV ++ (ks.drop t.2.1).map kV))) := (St.new np).trans (St.new np2)
            refine ⟨(s911.trans s12).trans s14, p2, g.2.take t.2.1 ++ ks.drop t.2.1, rfl, ⟨s14.tup _ _ r12.tab, r12.mem, by rw [upd_same, List.map_append], (((St.new (m := some a) np).draws d12).ne np2).symm, ?_⟩⟩
            rw [List.length_append, List.length_take, List.length_drop, r12.len]
            omega
          refine ⟨gp, _, 1, _, rfl, rfl, SqT.of hgp, atI_nat (j := 1) rfl, _, rfl, tp, _, 1, _, rfl, rfl, SqT.of r11.tab, atI_nat (j := 1) rfl, _, rfl, gr, _, rfl, SqT.of hgr, fun hw => ?_, fun _ p np => ?_⟩
          · have htk : g.2.take t.2.1 = g.2 := List.take_of_length_le (by
              have h2 := hw.2
              rw [HT.sIx_nat, List.length_map] at h2
              omega)
            refine ⟨gr, _, rfl, .inr (SqT.of hgr), fun c nc => fin c _ (St.new nc) ?_⟩
            rw [upd_same, htk]
          · rw [cut_take, ← List.map_take]
            refine ⟨p, _, rfl, .inr (SqT.of upd_same), fun c nc => fin c _ ((St.new np).trans (St.new nc)) upd_same⟩
        rintro σ' H10 ⟨s10, R, ks, rfl, r10⟩
        have s510 := s59.trans s10
        obtain ⟨⟨fxs, eF, dF⟩, okF⟩ := hF5.st s510 aF.symm
        have fl : fxs.length = fs.length := dF.mlen
        -- facts.append((table[0], tuple(row)))
        refine ⟨.ref F, rfl, .inl ⟨rfl, _, SqL.of eF⟩, _, rfl, tp, _, 0, _, rfl, rfl, SqT.of r10.tab, atI_nat (j := 0) rfl, .ref R, rfl, R, _, rfl, .inl ⟨SqL.of r10.row, fun u nu => ⟨sz_le (by show 2 ≤ 10000000; decide), fun p np => ?_⟩⟩⟩
        have Fu : F ≠ u := ne_of_none eF nu
        have Fp : F ≠ p := ne_of_none (by rw [upd_ne Fu]; exact eF) np
        have up : u ≠ p := ne_of_none upd_same np
        have eF2 : (upd (upd H10 u (.tup (ks.map kV))) p (.tup [.str t.1, .ref u])) F = some (.lst fxs) := by rw [upd_ne Fp, upd_ne Fu]; exact eF
        have tk : TK H10 (upd (upd (upd H10 u (.tup (ks.map kV))) p (.tup [.str t.1, .ref u])) F (.lst (fxs ++ [.ref p]))) := ((TK.new nu).trans (.new np)).trans (.lst eF2)
        have s11 : EM.St (some a) H (upd (upd (upd H10 u (.tup (ks.map kV))) p (.tup [.str t.1, .ref u])) F (.lst (fxs ++ [.ref p]))) := (((s5.trans s510).trans (St.new nu)).trans (St.new np)).mut nF0
        have eZ10 := s510.kp eZ5 Za
        have eM10 := s510.kp eM5 MLa
        have ZF : Z' ≠ F := fun z => by
          rw [z] at eZ
          rw [eZ] at nF
          cases nF
        refine ⟨F, _, _, rfl, rfl, eF2, sz_lt (by omega), _, _, _, _, _, _, fs ++ [(t.1, ks)], rfl, s11, ?_, ?_, DenL.tk (s510.tup.trans tk) _ _ hA5, ⟨⟨_, upd_same, (DenL.tk tk _ _ dF).msnoc (den_fact.mpr ⟨p, u, rfl, ?_, ?_⟩)⟩, fun f hf => ?_⟩, ?_⟩
        · rw [upd_ne ZF, upd_ne (ne_of_none (by rw [upd_ne (ne_of_none eZ10 nu)]; exact eZ10) np), upd_ne (ne_of_none eZ10 nu)]
          exact eZ10
        · rw [upd_ne MF, upd_ne (ne_of_none (by rw [upd_ne (ne_of_none eM10 nu)]; exact eM10) np), upd_ne (ne_of_none eM10 nu)]
          exact eM10
        · rw [upd_ne Fp.symm, upd_same]
        · rw [upd_ne Fu.symm, upd_ne up, upd_same]
        · rcases List.mem_append.mp hf with hf | hf
          · exact okF f hf
          · rw [List.mem_singleton.mp hf]
            exact ⟨t, r10.mem, rfl, r10.len.symm⟩
        · rw [List.length_append]; show fs.length + 1 ≤ i + 1; omega
      · rintro σ H5 ⟨y8, y9, y10, y11, y12, y13, fs, rfl, s5, eZ5, eM5, hA5, hF5, lF⟩
        exact ⟨.ref F, rfl, q F fs H5 s5 nF0 hF5 (by omega)⟩
end
end EM
/-! sorted(xs, key=f), f a def of the program, under any order that the keys' own < gives -/
namespace EM
open PySem PySem.Spec PyProof.Rows L2
/-! ### data that stay -/
theorem Rd_keep {H H' : Hp} {b : Addr} {u : HO} (k : ∀ u, H b = some u → H' b = some u) (r : Rd H b u) : Rd H' b u := by
  rcases r with r | ⟨o, r⟩
  · exact .inl (k _ r)
  · exact .inr ⟨o, k _ r⟩
mutual
theorem Dp.keep {K : PySem.W.Frag} {H H' : Hp} (k : ∀ b u, H b = some u → (∀ φ, u ≠ .ext φ) → H' b = some u) : ∀ (d : PyData) (v : V), Dp K H v d → Dp K H' v d
  | .none, _, h => by cases h; exact .non
  | .bool b, _, h => by cases h; exact .bl b
  | .int i, _, h => by cases h; exact .int i
  | .str x, _, h => by cases h; exact .str x
  | .list ds, _, h => by
    cases h with
    | lst s a =>
      refine .lst ?_ (DpAll.keep k ds _ a)
      rcases s with (s | ⟨o, s⟩) | s
      · exact .inl (.inl (k _ _ s (fun φ z => by cases z)))
      · exact .inl (.inr ⟨o, k _ _ s (fun φ z => by cases z)⟩)
      · exact .inr s
  | .tuple ds, _, h => by
    cases h with
    | tup s a =>
      refine .tup ?_ (DpAll.keep k ds _ a)
      rcases s with (s | ⟨o, s⟩) | s
      · exact .inl (.inl (k _ _ s (fun φ z => by cases z)))
      · exact .inl (.inr ⟨o, k _ _ s (fun φ z => by cases z)⟩)
      · exact .inr s
  | .dict _, _, h => by cases h
theorem DpAll.keep {K : PySem.W.Frag} {H H' : Hp} (k : ∀ b u, H b = some u → (∀ φ, u ≠ .ext φ) → H' b = some u) : ∀ (ds : List PyData) (xs : List V), DpAll K H xs ds → DpAll K H' xs ds
  | [], _, h => by cases h; exact .nil
  | d :: ds, _, h => by
    cases h with
    | cons a b => exact .cons (Dp.keep k d _ a) (DpAll.keep k ds _ b)
end
theorem Dp.same {K : PySem.W.Frag} {H H' : Hp} {d : PyData} {v : V} (s : EM.St none H H') (h : Dp K H v d) : Dp K H' v d := Dp.keep (fun b u e _ => s.same b u e) d v h
theorem Dp.ext {K : PySem.W.Frag} {H : Hp} {a : Addr} {φ : Heap → Prop} {o : HO} {d : PyData} {v : V} (e : H a = some (.ext φ)) (h : Dp K H v d) : Dp K (upd H a o) v d :=
  Dp.keep (fun b u q n => by
    rw [upd_ne]
    · exact q
    · intro z
      rw [z, e] at q
      exact n φ (Option.some.inj q).symm) d v h
/-! ### what is asked of the keys -/
structure KeySort (β : Type) where
  key : β → PyData
  lt : β → β → Bool
  ok : List β → Prop
  fits : β → Prop
  plain : ∀ b, (key b).plain = true
  inj : ∀ b c, key b = key c → b = c
  swo : SrtO.Swo lt
  kind : ∀ bs, ok bs → 2 ≤ bs.length → ∃ κ, ∀ (prog : Program) (w : World) (A : Around) (s : Shared) (vs : List Value), A.units + 40 < cLine → PySem.W.EachIs (fun v b => ∃ as, Reads s.heap v (key b) as) vs bs →
    (∀ (Q : SortKind → Shared → Prop) (E : Value → Shared → Prop), Q κ s → wpAny (model prog w) A (keyKind' vs.toArray) Q E s) ∧
    ∀ b ∈ bs, ∀ c ∈ bs, ∀ (u v : Value) (as cs : List Addr), Reads s.heap u (key b) as → Reads s.heap v (key c) cs → wpAny (model prog w) A (keyLt' κ u v) (fun r s' => s' = s ∧ r = lt b c) (fun _ _ => False) s
/-- the promise of a def that makes keys -/
def spKey {β : Type} (K : PySem.W.Frag) (enc : β → PyData) (S : KeySort β) : Sp := fun vs H Q _ => ∃ (b : β) (x : V), vs = [x] ∧ S.fits b ∧ Den H (enc b) x ∧ ∀ v H', EM.St none H H' → Dp K H' v (S.key b) → Q v H'
def rSortK {β : Type} (K : PySem.W.Frag) (S : KeySort β) (enc : β → PyData) : List V → Hp → VK → Prop := fun vs H Q => ∃ (a : Addr) (ys : List V) (bs : List β), vs = [.ref a] ∧ SqL K H a ys ∧ DenL H (bs.map enc) ys ∧ S.ok bs ∧ (∀ b ∈ bs, S.fits b) ∧
  ∀ (p : Addr) (zs : List V) (bs' : List β) (H' : Hp), EM.St none H H' → H p = none → H' p = some (.lst zs) → DenL H' (bs'.map enc) zs → bs'.Perm bs → (bs'.Pairwise fun x y => S.lt y x = false) → Q (.ref p) H'
theorem each_of {α β : Type} {R : α → β → Prop} : ∀ {as : List α} {bs : List β}, as.length = bs.length → (∀ (i : Nat) (a : α) (b : β), as[i]? = some a → bs[i]? = some b → R a b) → PySem.W.EachIs R as bs
  | [], [], _, _ => .nil
  | a :: as, b :: bs, h, k => .cons (k 0 a b rfl rfl) (each_of (by simpa using h) fun i x y h1 h2 => k (i + 1) x y (by simpa using h1) (by simpa using h2))
  | [], _ :: _, h, _ => by simp at h
  | _ :: _, [], h, _ => by simp at h
theorem vals_get {xs : List V} {us : List Value} (r : Vals xs us) : ∀ {i : Nat} {u : Value}, us[i]? = some u → ∃ x, xs[i]? = some x ∧ RelV x u := by
  induction r with
  | nil => intro i u h; simp at h
  | cons rx rt ih =>
    intro i u h
    cases i with
    | zero =>
      obtain rfl := Option.some.inj h
      exact ⟨_, rfl, rx⟩
    | succ i =>
      obtain ⟨x, h1, h2⟩ := ih (i := i) (by simpa using h)
      exact ⟨x, by simpa using h1, h2⟩
theorem each_len {α β : Type} {R : α → β → Prop} {as : List α} {bs : List β} (e : PySem.W.EachIs R as bs) : as.length = bs.length := by
  induction e with
  | nil => rfl
  | cons _ _ ih => rw [List.length_cons, List.length_cons, ih]
/-- the key store, as the raw heap has it -/
def Ks (kS : Addr) (ks : Array Value) (e : Nat) : HO := .ext fun h => h.get? kS = some (seqObj "list" ks e)
theorem ks_ok {P : Program} {w : World} {H : Hp} {h : Heap} {kS : Addr} {ks : Array Value} {e : Nat} (g : h.get? kS = some (seqObj "list" ks e)) : ObjOk P w H h kS (Ks kS ks e) :=
  ⟨g, ⟨_, g⟩, fun h1 h2 g1 k => k _ g1⟩
theorem ks_at {X : Cx} {pins : List (Addr × Obj)} {σ : L2.St} {H : Hp} {s : Shared} {kS : Addr} {ks : Array Value} {e : Nat} (I : Inv X pins σ H s) (h : H kS = some (Ks kS ks e)) : s.heap.get? kS = some (seqObj "list" ks e) := (I.hok kS _ h).1
section
variable {β : Type} [Inhabited β]
open Classical in
/-- whose key a value is -/
noncomputable def kb (S : KeySort β) (h : Heap) (v : Value) : β := if e : ∃ b as, Reads h v (S.key b) as then e.choose else default
theorem kb_of {S : KeySort β} {h : Heap} {v : Value} {b : β} {as : List Addr} (r : Reads h v (S.key b) as) : kb S h v = b := by
  have e : ∃ b as, Reads h v (S.key b) as := ⟨b, as, r⟩
  unfold kb
  rw [dif_pos e]
  obtain ⟨cs, rc⟩ := e.choose_spec
  exact S.inj _ _ (SeqAt.plain_unique _ _ v _ _ (S.plain _) rc r)
theorem kb_zip {S : KeySort β} {h : Heap} : ∀ {ks : List Value} {bs : List β} {its : List Value}, PySem.W.EachIs (fun v b => ∃ as, Reads h v (S.key b) as) ks bs → its.length = ks.length → (ks.zip its).map (fun p => kb S h p.1) = bs
  | _, _, its, .nil, _ => by rw [List.zip_nil_left]; rfl
  | k :: ks, b :: bs, [], .cons _ _, hl => by simp at hl
  | k :: ks, b :: bs, i :: its, .cons ⟨as, r⟩ t, hl => by
    rw [List.zip_cons_cons, List.map_cons, kb_of r, kb_zip t (by simpa using hl)]
end
end EM
namespace EM
open PySem PySem.Spec PyProof.Rows L2
section
variable {β : Type} [Inhabited β]
theorem outs_of {S : KeySort β} {h : Heap} {H : Hp} {enc : β → PyData} : ∀ {l : List Keyed}, (∀ p ∈ l, ∃ y, RelV y p.2 ∧ Den H (enc (kb S h p.1)) y) → ∃ ys, Vals ys (l.map (·.2)) ∧ DenL H ((l.map fun p => kb S h p.1).map enc) ys
  | [], _ => ⟨[], .nil, .nil⟩
  | p :: l, k => by
    obtain ⟨y, r, d⟩ := k p (.head _)
    obtain ⟨ys, rs, ds⟩ := outs_of (l := l) fun q hq => k q (.tail _ hq)
    refine ⟨y :: ys, .cons r rs, ?_⟩
    rw [List.map_cons, List.map_cons, denL_cons]
    exact ⟨y, ys, rfl, d, ds⟩
theorem zip_all {S : KeySort β} {h : Heap} {H : Hp} {enc : β → PyData} : ∀ {ks its : List Value} {bs : List β} {ys : List V}, PySem.W.EachIs (fun v b => ∃ as, Reads h v (S.key b) as) ks bs → Vals ys its → DenL H (bs.map enc) ys →
    ∀ p ∈ ks.zip its, (∃ y, RelV y p.2 ∧ Den H (enc (kb S h p.1)) y) ∧ kb S h p.1 ∈ bs ∧ ∃ as, Reads h p.1 (S.key (kb S h p.1)) as
  | _, _, _, _, .nil, _, _, p, hp => by rw [List.zip_nil_left] at hp; cases hp
  | k :: ks, _, b :: bs, _, .cons ⟨as, r⟩ t, rv, d, p, hp => by
    rw [List.map_cons, denL_cons] at d
    obtain ⟨x, ys, rfl, d1, d2⟩ := d
    cases rv with
    | cons ry rt =>
      rw [List.zip_cons_cons] at hp
      rcases List.mem_cons.mp hp with e | hp
      · subst e
        exact ⟨⟨x, ry, by show Den H (enc (kb S h k)) x; rw [kb_of r]; exact d1⟩, by show kb S h k ∈ _; rw [kb_of r]; exact .head _, as, by show Reads h k (S.key (kb S h k)) as; rw [kb_of r]; exact r⟩
      · obtain ⟨h1, h2, h3⟩ := zip_all (ks := ks) t rt d2 p hp
        exact ⟨h1, .tail _ h2, h3⟩
end
section
variable {X : Cx} {β : Type} [Inhabited β] {S : KeySort β} {enc : β → PyData} {f : Addr} {fd : FuncData} {pname : Str} {k : Nat} {pins : List (Addr × Obj)} {σ : L2.St} {H : Hp} {s : Shared} {Q : VK}
/-- the end of a sort: the key store is emptied, the list gets what was sorted -/
theorem tailK {H' : Hp} {c kS : Addr} {kA : Array Value} {e e1 : Nat} {st : SortSt} {zs : List V} {R : PySem.Fin → Shared → Prop} {E : Value → Shared → Prop} {A : Around} (I : Inv X pins σ H' s) (hk : H' kS = some (Ks kS kA e)) (hc : H' c = some (Ks c #[] e1)) (hck : c ≠ kS)
    (hsz : kA.size ≤ sizeLine) (hz : zs.length ≤ sizeLine) (hf : failedOf st = none) (rv : Vals zs ((arrOf st).map (·.2)).toList)
    (h : ∀ s' e', Inv X pins σ (upd (upd H' kS (Ks kS #[] e')) c (.lst zs)) s' → R (.done (.ret .none)) s') : wpAny (model X.prog X.w) A (ksk_tail c false e1 (.ref kS) st) R E s := by
  have nk := ks_at I hk
  have na := ks_at I hc
  have s1 := Heap.SameBut.update s.heap kS (Obj.mapSeq fun _ => (#[] : Array Value))
  have na1 : (s.heap.update kS (Obj.mapSeq fun _ => (#[] : Array Value))).get? c = some (seqObj "list" #[] e1) := (s1.2 c hck).trans na
  obtain ⟨e', nk1⟩ : ∃ e', (s.heap.update kS (Obj.mapSeq fun _ => (#[] : Array Value))).get? kS = some (seqObj "list" #[] e') := ⟨_, get?_update_seq nk fun _ => #[]⟩
  have s2 := Heap.SameBut.update (s.heap.update kS (Obj.mapSeq fun _ => (#[] : Array Value))) c (Obj.mapSeq fun _ => (arrOf st).map (·.2))
  obtain ⟨c2, hc2⟩ : ∃ c2, ((s.heap.update kS (Obj.mapSeq fun _ => (#[] : Array Value))).update c (Obj.mapSeq fun _ => (arrOf st).map (·.2))).get? c = some (seqObj "list" ((arrOf st).map (·.2)) c2) :=
    ⟨_, get?_update_seq na1 fun _ => (arrOf st).map (·.2)⟩
  have hz2 : ((arrOf st).map (·.2)).size ≤ sizeLine + 1 := by
    have e1 : ((arrOf st).map (·.2)).size = zs.length := by rw [← Array.length_toList]; exact rv.length.symm
    rw [e1]
    exact Nat.le_succ_of_le hz
  have I1 : Inv X pins σ (upd H' kS (Ks kS #[] e')) { s with heap := s.heap.update kS (Obj.mapSeq fun _ => (#[] : Array Value)), toks := s.toks } := I.write (e := kS) (t' := s.toks) (by rw [hk]; trivial) (.inl rfl) (fun b u hb hu => (s1.2 b hb).trans hu) ⟨_, nk1⟩ (ks_ok nk1)
  have I2 : Inv X pins σ (upd (upd H' kS (Ks kS #[] e')) c (.lst zs)) { s with heap := (s.heap.update kS (Obj.mapSeq fun _ => (#[] : Array Value))).update c (Obj.mapSeq fun _ => (arrOf st).map (·.2)), toks := s.toks } :=
    I1.write (e := c) (t' := s.toks) (by rw [upd_ne hck, hc]; trivial) (.inl rfl) (fun b u hb hu => (s2.2 b hb).trans hu) ⟨_, hc2⟩ ⟨hz, _, c2, rv, by rw [Array.toArray_toList]; exact hc2⟩
  unfold ksk_tail
  try dsimp only
  refine wpAny_bind (listUpdate_at nk rfl ?_ hsz (Nat.zero_le _))
  refine wpAny_bind (wpAny_letGo ?_)
  refine wpAny_bind (seqEpoch_at na1 rfl ?_)
  simp only [Bool.false_eq_true, if_false]
  refine wpAny_bind (listUpdate_at na1 rfl ?_ (Nat.zero_le _) hz2)
  rw [hf]
  simp only [bne_self_eq_false, Bool.false_eq_true, if_false]
  exact wpAny_pure (h _ _ I2)
/-- the keys stand in their store: the sort itself -/
theorem endK {H0 H' : Hp} {c kS : Addr} {kA : Array Value} {e e1 : Nat} {its : List Value} {ys : List V} {bs : List β} {R : PySem.Fin → Shared → Prop} {E : Value → Shared → Prop} {A : Around} (I : Inv X pins σ H' s) (hu : A.units + 40 < cLine) (hk : H' kS = some (Ks kS kA e)) (hc : H' c = some (Ks c #[] e1)) (hck : c ≠ kS)
    (rk : PySem.W.EachIs (fun v b => ∃ as, Reads s.heap v (S.key b) as) kA.toList bs) (rv : Vals ys its) (hd : DenL H0 (bs.map enc) ys) (hz : its.length ≤ sizeLine) (ok : S.ok bs)
    (h : ∀ (s' : Shared) (e' : Nat) (zs : List V) (bs' : List β), Inv X pins σ (upd (upd H' kS (Ks kS #[] e')) c (.lst zs)) s' → DenL H0 (bs'.map enc) zs → bs'.Perm bs → (bs'.Pairwise fun x y => S.lt y x = false) → R (.done (.ret .none)) s') : wpAny (model X.prog X.w) A (ksk_end c false its.toArray e1 (.ref kS) kA) R E s := by
  have hkl : kA.size = bs.length := by rw [← Array.length_toList]; exact each_len rk
  have hyl : ys.length = bs.length := hd.mlen
  have hil : its.length = bs.length := by rw [← rv.length]; exact hyl
  have hks : kA.size ≤ sizeLine := by omega
  have ez : (kA.zip its.toArray).toList = kA.toList.zip its := by rw [Array.toList_zip]
  have hmap : (kA.toList.zip its).map (fun p => kb S s.heap p.1) = bs := kb_zip rk (by rw [each_len rk]; exact hil)
  have hall := zip_all (H := H0) (enc := enc) rk rv hd
  have fin : ∀ st' : SortSt, (arrOf st').toList.Perm (kA.zip its.toArray).toList → SrtO.Srtd (fun p q : Keyed => S.lt (kb S s.heap p.1) (kb S s.heap q.1)) (arrOf st').toList → failedOf st' = none → wpAny (model X.prog X.w) A (ksk_tail c false e1 (.ref kS) st') R E s := by
    intro st' hp hs hf
    rw [ez] at hp
    obtain ⟨zs, r1, d1⟩ := outs_of (S := S) (h := s.heap) (H := H0) (enc := enc) (l := (arrOf st').toList) fun p hm => (hall p (hp.mem_iff.mp hm)).1
    have hlen : zs.length = bs.length := by rw [r1.length, List.length_map, hp.length_eq, List.length_zip, Array.length_toList]; omega
    refine tailK I hk hc hck hks (by omega) hf (by rw [Array.toList_map]; exact r1) fun s' e' I' => h s' e' zs _ I' d1 ?_ ?_
    · have := hp.map fun p => kb S s.heap p.1
      rw [hmap] at this
      exact this
    · exact List.pairwise_map.mpr hs
  unfold ksk_end
  try dsimp only
  simp only [Bool.false_eq_true, if_false]
  by_cases hl2 : its.toArray.size < 2
  · rw [if_pos hl2, if_pos hl2]
    refine wpAny_bind (wpAny_pure ?_)
    rw [StateT.run_pure]
    refine wpAny_bind (wpAny_pure ?_)
    try dsimp only
    refine fin (SortSt.mk' general' (kA.zip its.toArray) #[] 7 none) (List.Perm.refl _) ?_ rfl
    show SrtO.Srtd _ (kA.zip its.toArray).toList
    have hl : (kA.zip its.toArray).toList.length < 2 := by
      rw [ez, List.length_zip, Array.length_toList]
      rw [List.size_toArray] at hl2
      omega
    match (kA.zip its.toArray).toList, hl with
    | [], _ => exact List.Pairwise.nil
    | [v], _ => exact List.pairwise_singleton _ _
    | _ :: _ :: l, h => exact absurd h (by rw [List.length_cons, List.length_cons]; omega)
  · rw [if_neg hl2, if_neg hl2]
    rw [List.size_toArray] at hl2
    obtain ⟨κ, hκ⟩ := S.kind bs ok (by omega)
    obtain ⟨k1, k2⟩ := hκ X.prog X.w A s kA.toList hu rk
    have k1' := k1
    rw [Array.toArray_toList] at k1'
    refine wpAny_bind (k1' _ _ ?_)
    refine wpAny_bind (wpAny_mono (SrtO.wpS_sortO (E := E) (st0 := SortSt.mk' κ (kA.zip its.toArray) #[] 7 none) (lt := fun p q : Keyed => S.lt (kb S s.heap p.1) (kb S s.heap q.1)) (P := fun p => p ∈ kA.toList.zip its)
      (Q := fun _ st' => SrtO.Srtd (fun p q : Keyed => S.lt (kb S s.heap p.1) (kb S s.heap q.1)) (arrOf st').toList ∧ (arrOf st').toList.Perm (kA.zip its.toArray).toList ∧ failedOf st' = none)
      ⟨fun p q => S.swo.asym _ _, fun p q r => S.swo.tr _ _ _⟩ ?_ rfl (fun p hm => by rw [← ez]; exact hm) rfl rfl fun st' a1 a2 a3 => ⟨a1, a2.perm, a3⟩) ?_ fun _ _ x => x)
    · intro p q hp hq
      obtain ⟨_, m1, as, r1⟩ := hall p hp
      obtain ⟨_, m2, cs, r2⟩ := hall q hq
      exact k2 _ m1 _ m2 _ _ _ _ r1 r2
    · rintro ⟨⟨⟩, st'⟩ s' ⟨rfl, a1, a2, a3⟩
      try dsimp only
      exact fin st' a2 a1 a3
end
end EM
namespace EM
open PySem PySem.Spec PyProof.Rows L2
section
variable {X : Cx} {β : Type} [Inhabited β] {S : KeySort β} {enc : β → PyData} {f : Addr} {fd : FuncData} {pname : Str} {k : Nat} {pins : List (Addr × Obj)} {σ : L2.St} {H : Hp} {s : Shared} {Q : VK}
theorem a_get? {α : Type} {l : List α} {i : Nat} (h : i < l.length) : ∃ b, l[i]? = some b := ⟨_, List.getElem?_eq_getElem h⟩
/-- one key is made -/
theorem turnK {H' : Hp} {A : Around} {x : Value} {y : V} {b : β} (F : FnOk X.prog X.w X.K X.mg X.base CX0 k f fd [pname] (spKey X.K enc S)) (hb : Binds X.K fd [pname] []) (hr : Room k A) (he : Env0 X.prog X.w X.K X.mg X.base A X.stack s H') (I : Inv X pins σ H' s) (r : RelV y x) (fb : S.fits b) (d : Den H' (enc b) y) :
    wpAny (model X.prog X.w) A (call (.ref f) [x]) (EP X pins σ fun v H'' => EM.St none H' H'' ∧ Dp X.K H'' v (S.key b)) (fun _ _ => False) s := by
  refine wpAny_call (codeAny_mono (F.run A X.stack s H' ⟨[x], []⟩ [x] [y] (fun v H'' => EM.St none H' H'' ∧ Dp X.K H'' v (S.key b)) E0 hr he (by have := hb s [x] I.kIn rfl; exact this) (.cons r .nil) ⟨b, y, rfl, fb, d, fun v H'' st dp => ⟨st, dp⟩⟩) fun r s' hq => ?_)
  cases r with
  | error e => exact False.elim hq
  | ok fl =>
    cases fl with
    | ret u => exact I.after hq
    | next => exact False.elim hq
    | brk => exact False.elim hq
    | cont => exact False.elim hq
theorem Env0.room {P : Program} {w : World} {K : PySem.W.Frag} {mg : Str → Option Value} {base : Heap} {A B : Around} {outer : List Env} {s : Shared} {H : Hp} (e : Env0 P w K mg base A outer s H) (h : B.frames = A.frames) : Env0 P w K mg base B outer s H :=
  ⟨by rw [h]; exact e.frames, e.mod, e.bs, e.bsz, e.funs, e.frf, e.hok, e.bare⟩
theorem restK {H1 : Hp} {c kS : Addr} {e1 : Nat} {its : List Value} {ys : List V} {bs : List β} {R : PySem.Fin → Shared → Prop} {E : Value → Shared → Prop} {A : Around} (F : FnOk X.prog X.w X.K X.mg X.base CX0 k f fd [pname] (spKey X.K enc S)) (hb : Binds X.K fd [pname] []) (hr : Room k A) (hf : A.frames = X.A.frames)
    (hu : A.units + 40 < cLine) (nk : H1 kS = none) (hc : H1 c = some (Ks c #[] e1)) (I : Inv X pins σ (upd H1 kS (Ks kS #[] 0)) s) (rv : Vals ys its) (hd : DenL H1 (bs.map enc) ys) (hz : its.length ≤ sizeLine) (ok : S.ok bs) (fits : ∀ b ∈ bs, S.fits b)
    (h : ∀ (s' : Shared) (H' : Hp) (e' : Nat) (zs : List V) (bs' : List β), EM.St none H1 H' → Inv X pins σ (upd (upd H' kS (Ks kS #[] e')) c (.lst zs)) s' → DenL H1 (bs'.map enc) zs → bs'.Perm bs → (bs'.Pairwise fun x y => S.lt y x = false) → R (.done (.ret .none)) s') : wpAny (model X.prog X.w) A (ksk_rest c (.ref f) false its.toArray e1 (.ref kS)) R E s := by
  have hyl : ys.length = bs.length := hd.mlen
  have hil : its.length = bs.length := by rw [← rv.length]; exact hyl
  have hck : c ≠ kS := ne_of_none hc nk
  unfold ksk_rest
  refine wpAny_bind (wpAny_rule ?_)
  first
    | rw [List.forIn_toArray]
    | (rw [← Array.forIn_toList]; simp only [List.toList_toArray])
    | rw [← Array.forIn_toList]
  refine wpAny_bind (PyProof.Rows.ksk_fold (fun i s' => ∃ (H' : Hp) (kA : Array Value) (e : Nat) (kxs : List V), Inv X pins σ H' s' ∧ EM.St none H1 H' ∧ H' kS = some (Ks kS kA e) ∧ Vals kxs kA.toList ∧ kxs.length = i ∧
      ∀ (j : Nat) (kx : V) (b : β), kxs[j]? = some kx → bs[j]? = some b → Dp X.K H' kx (S.key b)) its 0 s
    ⟨_, #[], 0, [], I, St.new nk, upd_same, .nil, rfl, fun j kx b h => by simp at h⟩ ?step ?done)
  case step =>
    rintro j x s' hx ⟨H', kA, e, kxs, I', s1, hk, rk, lk, dk⟩
    simp only [Nat.zero_add] at lk ⊢
    have hj : j < its.length := (List.getElem?_eq_some_iff.mp hx).1
    obtain ⟨y, hy, ry⟩ := vals_get rv hx
    obtain ⟨b, hb'⟩ := a_get? (l := bs) (i := j) (by omega)
    obtain ⟨y', hy', dy⟩ := hd.mget hb'
    rw [hy] at hy'
    obtain rfl := Option.some.inj hy'
    refine wpAny_bind (wpAny_attempt (wpAny_mono (turnK F hb hr (Env0.room I'.env0 hf) I' ry (fits b (List.mem_of_getElem? hb')) (s1.den dy)) (fun v s'' he => ?_) fun _ _ hF => hF.elim))
    obtain ⟨vv, H'', I'', rv', st, dp⟩ := he
    try dsimp only
    have hk2 : H'' kS = some (Ks kS kA e) := st.same _ _ hk
    have nk2 := ks_at I'' hk2
    have s12 := s1.trans st
    have u1 := Heap.SameBut.update s''.heap kS (Obj.mapSeq (·.push v))
    obtain ⟨c2, hc2⟩ : ∃ c2, (s''.heap.update kS (Obj.mapSeq (·.push v))).get? kS = some (seqObj "list" (kA.push v) c2) := ⟨_, get?_update_seq nk2 (·.push v)⟩
    have I3 : Inv X pins σ (upd H'' kS (Ks kS (kA.push v) c2)) { s'' with heap := s''.heap.update kS (Obj.mapSeq (·.push v)), toks := s''.toks } := I''.write (e := kS) (t' := s''.toks) (by rw [hk2]; trivial) (.inl rfl) (fun b u hb hu => (u1.2 b hb).trans hu) ⟨_, hc2⟩ (ks_ok hc2)
    have kl : kA.size = j := by rw [← Array.length_toList, ← rk.length]; exact lk
    refine wpAny_bind (listUpdate_at nk2 rfl ?_ (by omega) (by rw [Array.size_push]; omega))
    refine wpAny_pure ⟨rfl, _, kA.push v, c2, kxs ++ [vv], I3, s12.mut nk, upd_same, ?_, by rw [List.length_append, lk]; rfl, fun i kx b' h1 h2 => Dp.ext hk2 ?_⟩
    · rw [Array.toList_push]
      exact rk.append (.cons rv' .nil)
    · by_cases hi : i < kxs.length
      · rw [List.getElem?_append_left hi] at h1
        exact EM.Dp.same st (dk i kx b' h1 h2)
      · rw [List.getElem?_append_right (by omega)] at h1
        have hi2 : i = kxs.length := by
          have := (List.getElem?_eq_some_iff.mp h1).1
          simp at this
          omega
        subst hi2
        rw [lk] at h2
        rw [hb'] at h2
        simp at h1
        subst h1
        rw [← Option.some.inj h2]
        exact dp
  case done =>
    rintro s' ⟨H', kA, e, kxs, I', s1, hk, rk, lk, dk⟩
    simp only [Nat.zero_add] at lk
    have kl : kA.toList.length = its.length := by rw [← rk.length]; exact lk
    have hc' : H' c = some (Ks c #[] e1) := s1.same _ _ hc
    try dsimp only
    refine wpAny_bind (listItems_at (ks_at I' hk) rfl ?_)
    refine endK (H0 := H1) (enc := enc) (bs := bs) I' hu hk hc' hck (each_of (by omega) fun i v b h1 h2 => ?_) rv hd hz ok fun s'' e' zs bs' I'' d p o => h s'' H' e' zs bs' s1 I'' d p o
    obtain ⟨kx, h3, h4⟩ := vals_get rk h1
    exact Dp.reads I' _ kx v (dk i kx b h3 h2) h4
theorem fin_st {H H' : Hp} {c kS : Addr} {e1 e' : Nat} {zs : List V} {l : List PyData} (cn : H c = none) (kn : (upd H c (Ks c #[] e1)) kS = none) (st : EM.St none (upd H c (Ks c #[] e1)) H') (d : DenL (upd H c (Ks c #[] e1)) l zs) :
    EM.St none H (upd (upd H' kS (Ks kS #[] e')) c (.lst zs)) ∧ DenL (upd (upd H' kS (Ks kS #[] e')) c (.lst zs)) l zs := by
  have s1 : EM.St none H (upd H c (Ks c #[] e1)) := St.new cn
  have s2 : EM.St none (upd H c (Ks c #[] e1)) (upd H' kS (Ks kS #[] e')) := st.mut kn
  have hc : (upd H' kS (Ks kS #[] e')) c = some (Ks c #[] e1) := s2.same _ _ upd_same
  refine ⟨(s1.trans s2).mut cn, DenL.tk (s2.tup.trans ⟨fun b u hbu kp => ?_⟩) _ _ d⟩
  rw [upd_ne]
  · exact hbu
  · intro z
    rw [z, hc] at hbu
    rw [← Option.some.inj hbu] at kp
    exact kp
theorem sortedK {a : Addr} {ys : List V} {bs : List β} (F : FnOk X.prog X.w X.K X.mg X.base CX0 k f fd [pname] (spKey X.K enc S)) (hb : Binds X.K fd [pname] []) (hr : Room (k + 2) X.A) (I : Inv X pins σ H s) (hs : SqL X.K H a ys) (hd : DenL H (bs.map enc) ys) (ok : S.ok bs) (fits : ∀ b ∈ bs, S.fits b)
    (q : ∀ (p : Addr) (zs : List V) (bs' : List β) (H' : Hp), EM.St none H H' → H p = none → H' p = some (.lst zs) → DenL H' (bs'.map enc) zs → bs'.Perm bs → (bs'.Pairwise fun x y => S.lt y x = false) → Q (.ref p) H') :
    wpAny (model X.prog X.w) X.A (call (.builtin "sorted") [.ref a] [(Str.ofString "key", .ref f)]) (EP X pins σ Q) X.xe s := by
  obtain ⟨its, rv, hl, hz⟩ := I.list hs
  rw [rv.length] at hz
  refine PySem.W.sorted_of_sort hl.isList hz (PyProof.Rows.ksk_s1 _ _) (fun _ => PyProof.Rows.ksk_l1 _ _) fun E' => ?_
  rw [PyProof.Rows.ksk_t1]
  have ho := PySem.W.copyHeap_at s.heap its
  obtain ⟨e1, ho1⟩ : ∃ e1, ((PySem.W.copyHeap s.heap its).update (s.heap.objs.size + 1) (Obj.mapSeq fun _ => (#[] : Array Value))).get? (s.heap.objs.size + 1) = some (seqObj "list" #[] e1) := ⟨_, get?_update_seq ho fun _ => #[]⟩
  have cnone : H (s.heap.objs.size + 1) = none := I.hok.fresh (Nat.le_succ _)
  have kold : ∀ b u, s.heap.get? b = some u → (((PySem.W.copyHeap s.heap its).update (s.heap.objs.size + 1) (Obj.mapSeq fun _ => (#[] : Array Value))).push (seqObj "tuple" its.toArray 0)).get? b = some u := fun b u hbu => by
    refine Heap.get?_push_of_some _ ?_
    rw [Heap.get?_update_ne _ _ _ _ (Nat.ne_of_lt (Nat.lt_succ_of_lt (Heap.lt_size hbu)))]
    exact PySem.W.copyHeap_old hbu
  have ho2 : (((PySem.W.copyHeap s.heap its).update (s.heap.objs.size + 1) (Obj.mapSeq fun _ => (#[] : Array Value))).push (seqObj "tuple" its.toArray 0)).get? (s.heap.objs.size + 1) = some (seqObj "list" #[] e1) := Heap.get?_push_of_some _ ho1
  have I1 : Inv X pins σ (upd H (s.heap.objs.size + 1) (Ks (s.heap.objs.size + 1) #[] e1)) { s with heap := ((PySem.W.copyHeap s.heap its).update (s.heap.objs.size + 1) (Obj.mapSeq fun _ => (#[] : Array Value))).push (seqObj "tuple" its.toArray 0), toks := s.toks } :=
    I.laid (t' := s.toks) kold (Nat.le_succ _) (ks_ok ho2)
  have st1 : EM.St none H (upd H (s.heap.objs.size + 1) (Ks (s.heap.objs.size + 1) #[] e1)) := St.new cnone
  have I2 := I1.laid (a := (((PySem.W.copyHeap s.heap its).update (s.heap.objs.size + 1) (Obj.mapSeq fun _ => (#[] : Array Value))).push (seqObj "tuple" its.toArray 0)).objs.size) (o := Ks _ #[] 0) (t' := s.toks)
    (h' := (((PySem.W.copyHeap s.heap its).update (s.heap.objs.size + 1) (Obj.mapSeq fun _ => (#[] : Array Value))).push (seqObj "tuple" its.toArray 0)).push (seqObj "list" #[] 0)) (fun b u hbu => Heap.get?_push_of_some _ hbu) (Nat.le_refl _) (ks_ok (Heap.get?_push_size _ rfl))
  have knone : (upd H (s.heap.objs.size + 1) (Ks (s.heap.objs.size + 1) #[] e1)) (((PySem.W.copyHeap s.heap its).update (s.heap.objs.size + 1) (Obj.mapSeq fun _ => (#[] : Array Value))).push (seqObj "tuple" its.toArray 0)).objs.size = none := I1.hok.fresh (Nat.le_refl _)
  unfold ksk_tree
  refine wpAny_bind (listItems_at ho rfl ?_)
  refine wpAny_bind (listUpdate_at ho rfl ?_ (by rw [List.size_toArray]; exact hz) (Nat.zero_le _))
  refine wpAny_bind (seqEpoch_at ho1 rfl ?_)
  refine wpAny_bind (wpAny_newTuple ?_ (by show its.length ≤ _; exact hz))
  refine wpAny_bind (wpAny_newList ?_ (Nat.zero_le _))
  refine wpAny_holding ?_
  dsimp only
  refine restK (H1 := upd H (s.heap.objs.size + 1) (Ks (s.heap.objs.size + 1) #[] e1)) (A := X.A.in1.in1) F hb hr.in1.in1 rfl (by have := room65 hr; show X.A.units + 1 + 1 + 40 < cLine; omega) knone upd_same I2 rv (st1.denL hd) hz ok fits fun s' H' e' zs bs' st I' d p o => ⟨rfl, .ref (s.heap.objs.size + 1), _, I', rfl, ?_⟩
  obtain ⟨f1, f2⟩ := fin_st cnone knone st d
  exact q _ zs bs' _ f1 cnone upd_same f2 p o
end
/-- sorted(e, key=f), f a def that makes keys -/
def tSortK {β : Type} (K : PySem.W.Frag) (S : KeySort β) (enc : β → PyData) (t : TA) : TE := fun σ H Q => t σ H fun vs H1 => rSortK K S enc vs H1 Q
theorem pe_sortK {X : Cx} {β : Type} [Inhabited β] (S : KeySort β) (enc : β → PyData) {e : Expr} {es : List Expr} {x y pname : Str} {k k' : Nat} {pos p p2 kpos : Pos} {t : TA} (K : PySem.W.Frag) (h : Has X.prog X.w X.K X.mg X.base k y [pname] (spKey X.K enc S)) (hr : Room k' X.A) (hk : k + 2 ≤ k') (hg : Gl X x) (hm : X.mg x = none) (hv : bootBuiltins x = some (.builtin "sorted")) (hg2 : Gl X y)
    (ha : PA X (e :: es) t) (hK : X.K = K := by rfl) (hn : x ≠ "__name__" := by decide) (hdb : (x == ("__debug__" : Str)) = false := by decide) (hdb2 : (y == ("__debug__" : Str)) = false := by decide)
    (he : backTo pos (starEach (e :: es) X.env) = (false, eval e X.env) :: backTo pos (starEach es X.env) := by rfl) (hpl : (backTo pos (starEach (e :: es) X.env)).any (·.1) = false := by rfl)
    (hall : (backToKw pos (keywordEach [⟨some (Str.ofString "key"), .Name y p2, kpos⟩] X.env)).all (·.1.isSome) = true := by rfl) (hnone : (backToKw pos (keywordEach [⟨some (Str.ofString "key"), .Name y p2, kpos⟩] X.env)).any (·.1.isNone) = false := by rfl) (hks : (backToKw pos (keywordEach [⟨some (Str.ofString "key"), .Name y p2, kpos⟩] X.env)).filterMap (·.1) = [Str.ofString "key"] := by rfl) :
    PE X (.Call (.Name x p) (e :: es) [⟨some (Str.ofString "key"), .Name y p2, kpos⟩] pos) (tSortK K S enc t) := by
  subst hK
  obtain ⟨f, fd, F, g, kp, b⟩ := h.ex
  refine ⟨fun pins s σ H Q I hh => ?_⟩
  refine wpAny_Call_Name_kw (ld_blt I hg hm hv ?_ hn hdb)
  refine PyProof.Rows.callWith_kw (thn (ha.run pos pins s σ H _ I hh) fun us s1 ⟨vs, H1, I1, r1, q1⟩ => thn ((pk_cons (pe_glob (v := .ref f) hg2 g rfl hdb2) pk_nil).run pos pins s1 σ H1 (fun zs H2 => zs = [.ref f] ∧ H2 = H1) I1 ⟨rfl, rfl⟩) fun ws s2 ⟨zs, H2, I2, r2, q2, q3⟩ => ?_) he hpl hall hnone
  subst q2
  subst q3
  obtain ⟨w1, rfl, e1⟩ := vals1 r2
  obtain rfl : w1 = Value.ref f := e1
  rw [hks]
  obtain ⟨a, ys, bs, rfl, hs, hd, ok, fits, q⟩ := q1
  obtain rfl := Vals.ref1 r1
  exact sortedK F b (hr.mono hk) I2 hs hd ok fits q
end EM
/-! the orders -/
namespace EM
open PySem PySem.Spec PyProof.Rows L2
theorem sLt_irrefl (x : Str) : decide (x.cps.toList < x.cps.toList) = false := decide_eq_false (List.lt_irrefl _)
theorem sLt_trans {x y z : Str} (h1 : x.cps.toList < y.cps.toList) (h2 : y.cps.toList < z.cps.toList) : x.cps.toList < z.cps.toList := List.lt_trans h1 h2
theorem sLt_tri {x y : Str} (h1 : ¬ x.cps.toList < y.cps.toList) (h2 : ¬ y.cps.toList < x.cps.toList) : x = y :=
  PySem.W.str_of_cps (List.le_antisymm (List.not_lt.mp h2) (List.not_lt.mp h1))
theorem kLt_irrefl (a : Key) : kLt a a = false := by
  cases a with
  | inl i => exact decide_eq_false (Int.lt_irrefl i)
  | inr x => exact sLt_irrefl x
theorem kLt_trans {a b c : Key} (h1 : kLt a b = true) (h2 : kLt b c = true) : kLt a c = true := by
  cases a with
  | inl i => cases b with
    | inl j => cases c with
      | inl k => exact decide_eq_true (Int.lt_trans (of_decide_eq_true h1) (of_decide_eq_true h2))
      | inr z => rfl
    | inr y => cases c with
      | inl k => cases h2
      | inr z => rfl
  | inr x => cases b with
    | inl j => cases h1
    | inr y => cases c with
      | inl k => cases h2
      | inr z => exact decide_eq_true (sLt_trans (of_decide_eq_true h1) (of_decide_eq_true h2))
theorem kLt_tri {a b : Key} (h1 : kLt a b = false) (h2 : kLt b a = false) : a = b := by
  cases a with
  | inl i => cases b with
    | inl j =>
      have e1 := of_decide_eq_false h1
      have e2 := of_decide_eq_false h2
      exact congrArg Sum.inl (by omega)
    | inr y => cases h1
  | inr x => cases b with
    | inl j => cases h2
    | inr y => exact congrArg Sum.inr (sLt_tri (of_decide_eq_false h1) (of_decide_eq_false h2))
/-- a strict total order -/
structure Tot {α : Type} (lt : α → α → Bool) : Prop where
  irr : ∀ a, lt a a = false
  tr : ∀ a b c, lt a b = true → lt b c = true → lt a c = true
  tri : ∀ a b, lt a b = false → lt b a = false → a = b
theorem Tot.asym {α : Type} {lt : α → α → Bool} (T : Tot lt) {a b : α} (h : lt a b = true) : lt b a = false := by
  cases q : lt b a with
  | false => rfl
  | true =>
    have := T.tr a b a h q
    rw [T.irr] at this
    cases this
theorem Tot.swo {α : Type} {lt : α → α → Bool} (T : Tot lt) : SrtO.Swo lt := ⟨fun x y h => T.asym h, fun x y z h1 h2 => by
  cases q : lt z x with
  | false => rfl
  | true =>
    cases q1 : lt x y with
    | true =>
      have := T.tr z x y q q1
      rw [h2] at this
      cases this
    | false =>
      have e := T.tri x y q1 h1
      subst e
      rw [h2] at q
      cases q⟩
theorem kTot : Tot kLt := ⟨kLt_irrefl, fun _ _ _ => kLt_trans, fun _ _ => kLt_tri⟩
theorem rLt_cons {a b : Key} {r s : Row} : rLt (a :: r) (b :: s) = if a = b then rLt r s else kLt a b := rfl
theorem rLt_irrefl : ∀ r : Row, rLt r r = false
  | [] => rfl
  | a :: r => by rw [rLt_cons, if_pos rfl]; exact rLt_irrefl r
theorem rLt_trans : ∀ {r s t : Row}, rLt r s = true → rLt s t = true → rLt r t = true
  | [], [], _, h, _ => by cases h
  | [], _ :: _, [], _, h => by cases h
  | [], _ :: _, _ :: _, _, _ => rfl
  | _ :: _, [], _, h, _ => by cases h
  | _ :: _, _ :: _, [], _, h => by cases h
  | a :: r, b :: s, c :: t, h1, h2 => by
    rw [rLt_cons] at h1 h2 ⊢
    by_cases e1 : a = b
    · subst e1
      rw [if_pos rfl] at h1
      by_cases e2 : a = c
      · rw [if_pos e2] at h2 ⊢
        exact rLt_trans h1 h2
      · rw [if_neg e2] at h2 ⊢
        exact h2
    · rw [if_neg e1] at h1
      by_cases e2 : b = c
      · subst e2
        rw [if_neg e1]
        exact h1
      · rw [if_neg e2] at h2
        have h3 := kLt_trans h1 h2
        rw [if_neg]
        · exact h3
        · intro z
          subst z
          rw [kLt_irrefl] at h3
          cases h3
theorem rLt_tri : ∀ {r s : Row}, rLt r s = false → rLt s r = false → r = s
  | [], [], _, _ => rfl
  | [], _ :: _, h, _ => by cases h
  | _ :: _, [], _, h => by cases h
  | a :: r, b :: s, h1, h2 => by
    rw [rLt_cons] at h1 h2
    by_cases e1 : a = b
    · subst e1
      rw [if_pos rfl] at h1 h2
      rw [rLt_tri h1 h2]
    · rw [if_neg e1] at h1
      rw [if_neg fun z => e1 z.symm] at h2
      exact absurd (kLt_tri h1 h2) e1
theorem rTot : Tot rLt := ⟨rLt_irrefl, fun _ _ _ => rLt_trans, fun _ _ => rLt_tri⟩
theorem fTot : Tot fLt := by
  refine ⟨fun f => ?_, fun f g h h1 h2 => ?_, fun f g h1 h2 => ?_⟩
  · unfold fLt
    rw [if_pos rfl]
    exact rLt_irrefl _
  · unfold fLt at h1 h2 ⊢
    by_cases e1 : f.1 = g.1
    · rw [if_pos e1] at h1
      by_cases e2 : g.1 = h.1
      · rw [if_pos e2] at h2
        rw [if_pos (e1.trans e2)]
        exact rLt_trans h1 h2
      · rw [if_neg e2] at h2
        rw [if_neg (by rw [e1]; exact e2), e1]
        exact h2
    · rw [if_neg e1] at h1
      by_cases e2 : g.1 = h.1
      · rw [← e2, if_neg e1]
        exact h1
      · rw [if_neg e2] at h2
        have h3 := sLt_trans (of_decide_eq_true h1) (of_decide_eq_true h2)
        rw [if_neg]
        · exact decide_eq_true h3
        · intro z
          rw [z] at h3
          exact List.lt_irrefl _ h3
  · unfold fLt at h1 h2
    by_cases e1 : f.1 = g.1
    · rw [if_pos e1] at h1
      rw [if_pos e1.symm] at h2
      exact Prod.ext e1 (rLt_tri h1 h2)
    · rw [if_neg e1] at h1
      rw [if_neg fun z => e1 z.symm] at h2
      exact absurd (sLt_tri (of_decide_eq_false h1) (of_decide_eq_false h2)) e1
/-- two lists in strict order that have the same members are one -/
theorem sorted_eq {α : Type} {lt : α → α → Bool} (T : Tot lt) : ∀ {l m : List α}, (l.Pairwise fun x y => lt x y = true) → (m.Pairwise fun x y => lt x y = true) → (∀ x, x ∈ l ↔ x ∈ m) → l = m
  | [], [], _, _, _ => rfl
  | [], y :: m, _, _, h => by have := (h y).mpr (.head _); cases this
  | x :: l, [], _, _, h => by have := (h x).mp (.head _); cases this
  | x :: l, y :: m, h1, h2, h => by
    rw [List.pairwise_cons] at h1 h2
    have exy : x = y := by
      rcases List.mem_cons.mp ((h x).mp (.head _)) with e | hx
      · exact e
      · rcases List.mem_cons.mp ((h y).mpr (.head _)) with e | hy
        · exact e.symm
        · have a := h1.1 y hy
          have b := h2.1 x hx
          rw [T.asym a] at b
          cases b
    subst exy
    rw [sorted_eq T h1.2 h2.2 fun z => ⟨fun hz => ?_, fun hz => ?_⟩]
    · rcases List.mem_cons.mp ((h z).mp (.tail _ hz)) with e | hz'
      · subst e
        have := h1.1 z hz
        rw [T.irr] at this
        cases this
      · exact hz'
    · rcases List.mem_cons.mp ((h z).mpr (.tail _ hz)) with e | hz'
      · subst e
        have := h2.1 z hz
        rw [T.irr] at this
        cases this
      · exact hz'
/-- the items in order, each once -/
def dedup {α : Type} [DecidableEq α] : List α → List α := fun l => l.foldl (fun f x => if x ∈ f then f else f ++ [x]) []
theorem dedup_snoc {α : Type} [DecidableEq α] (l : List α) (x : α) : dedup (l ++ [x]) = if x ∈ dedup l then dedup l else dedup l ++ [x] := by
  unfold dedup
  rw [List.foldl_append]
  rfl
theorem snoc_ind {α : Type} {P : List α → Prop} (n : P []) (h : ∀ l x, P l → P (l ++ [x])) (l : List α) : P l := by
  have key : ∀ m : List α, P m.reverse := fun m => by
    induction m with
    | nil => exact n
    | cons x m ih => rw [List.reverse_cons]; exact h _ _ ih
  have := key l.reverse
  rw [List.reverse_reverse] at this
  exact this
theorem mem_dedup {α : Type} [DecidableEq α] (l : List α) (x : α) : x ∈ dedup l ↔ x ∈ l := by
  refine snoc_ind (P := fun l => x ∈ dedup l ↔ x ∈ l) Iff.rfl (fun l y ih => ?_) l
  · rw [dedup_snoc]
    by_cases e : y ∈ dedup l
    · rw [if_pos e, List.mem_append, List.mem_singleton]
      refine ⟨fun h => .inl (ih.mp h), fun h => ?_⟩
      rcases h with h | h
      · exact ih.mpr h
      · rw [h]; exact e
    · rw [if_neg e, List.mem_append, List.mem_append, List.mem_singleton, ih]
theorem dedup_up {α : Type} [DecidableEq α] {lt : α → α → Bool} (T : Tot lt) (l : List α) (h : l.Pairwise fun x y => lt y x = false) : (dedup l).Pairwise fun x y => lt x y = true := by
  refine snoc_ind (P := fun l => (l.Pairwise fun x y => lt y x = false) → (dedup l).Pairwise fun x y => lt x y = true) (fun _ => List.Pairwise.nil) (fun l y ih h => ?_) l h
  · obtain ⟨h1, _, h3⟩ := List.pairwise_append.mp h
    rw [dedup_snoc]
    by_cases e : y ∈ dedup l
    · rw [if_pos e]
      exact ih h1
    · rw [if_neg e]
      refine List.pairwise_append.mpr ⟨ih h1, List.pairwise_singleton _ _, fun x hx z hz => ?_⟩
      rw [List.mem_singleton.mp hz]
      have hxl := (mem_dedup l x).mp hx
      cases q : lt x y with
      | true => rfl
      | false =>
        have := T.tri x y q (h3 x hxl y (List.mem_singleton.mpr rfl))
        subst this
        exact absurd hx e
end EM
/-! the keys of this program and law -/
namespace PySem.SeqAt
open AutoSeq1 (wpAny_loadPart')
open MeetsSeq MeetsSeq2 MeetsSeq3 SeqRoads2
/-- two tuples whose first items differ -/
theorem tuple_ltHead (l b : Addr) (items items2 : Array Value) (n n2 : Nat) (dd dd2 : Option Addr) (sl sl2 : Array (Option Value)) (p q : Value) (ps qs : List (Value × Value)) (r : Bool) :
    Meets (Builtin.«tuple.__lt__» ⟨[.ref l, .ref b], []⟩)
      (fun A R s => s.heap.get? l = some { cls := .type "tuple", dict := dd, data := .seq items n, slots := sl } ∧ s.heap.get? b = some { cls := .type "tuple", dict := dd2, data := .seq items2 n2, slots := sl2 } ∧
        items.toList.zip items2.toList = (p, q) :: ps ∧ EqAt A.in1 s p q false ∧ RcLt A.in1 s p q r ∧ R (.ok (.ret (.bool r))) s) :=
  .of_wp fun prog w A R s h => by
    obtain ⟨hp, g, d, tk, os⟩ := s; obtain ⟨hl, hb, hz, he, hr, h⟩ := h
    have f2 := AutoSeq1.sub_tuple_tuple
    wp_walk using wpAny_loadPart' hl, wpAny_loadPart' hb, wpAny_forIn_list _ (fun rest b s' => b.1 = none ∧ s' = ⟨hp, g, d, tk, os⟩ ∧ rest = (p, q) :: ps) _
    case turn =>
      rintro ⟨y, x⟩ rest b s' ⟨hb', rfl, hz2⟩
      injection hz2 with e1 e2
      injection e1 with e3 e4
      subst e3 e4
      refine wpAny_bind (he prog w _ _ ?_)
      have hr' := hr prog w
      generalize richCompare CmpOp.Lt y x = asked at hr' ⊢
      wp_walk
      refine hr' _ _ ?_
      wp_walk
      exact ⟨_, rfl, h⟩
    case fin =>
      rintro ⟨b1, b2⟩ s' ⟨hb', rfl, hz2⟩
      cases hz2
    case h =>
      exact ⟨rfl, rfl, hz⟩
theorem RcLt.head {A : Around} {s : Shared} {l b : Addr} {items items2 : Array Value} {p q : Value} {ps : List (Value × Value)} {r : Bool} (hl : s.heap.IsTuple l items) (hb : s.heap.IsTuple b items2) (hu : A.units < cLine) (hz : items.toList.zip items2.toList = (p, q) :: ps)
    (he : EqAt A.in1 s p q false) (hr : RcLt A.in1 s p q r) : RcLt A s (.ref l) (.ref b) r := fun prog w E Q h => by
  obtain ⟨⟨cls, dd, data, sl⟩, ho, hc, n, hd⟩ := id hl
  obtain ⟨⟨cls2, dd2, data2, sl2⟩, ho2, hc2, n2, hd2⟩ := id hb
  simp only at hc hd hc2 hd2
  subst hc hd hc2 hd2
  exact richCompare_meets_room (op := .Lt) ⟨_, ho, rfl⟩ ⟨_, ho2, rfl⟩ F.slot_tuple_lt F.entry_tuple_lt (F.args_tuple_lt_2 _ _) (tuple_ltHead l b items items2 n n2 dd dd2 sl sl2 p q ps [] r)
    ⟨ho, ho2, hz, he, hr, show Value.bool r ≠ Value.notImplemented ∧ Q (.bool r) s from ⟨(fun x => nomatch x), h⟩⟩ hu
end PySem.SeqAt
namespace EM
open PySem PySem.Spec PyProof.Rows L2 SeqAt
/-! ### the keys -/
/-- the law's key of a value: (0, i) | (1, x) -/
def kpL : Key → PyData
  | .inl i => .tuple [.int 0, .int i]
  | .inr x => .tuple [.int 1, .str x]
/-- the program's: (0, i, "") | (1, 0, x) -/
def kpP : Key → PyData
  | .inl i => .tuple [.int 0, .int i, .str ""]
  | .inr x => .tuple [.int 1, .int 0, .str x]
theorem lay_kpL (k : Key) : (kpL k).plain = true := by cases k <;> simp [kpL, PyData.plain, PyData.plainAll]
theorem lay_kpP (k : Key) : (kpP k).plain = true := by cases k <;> simp [kpP, PyData.plain, PyData.plainAll]
theorem dep_kpL (k : Key) : (kpL k).depth ≤ 1 := by cases k <;> simp [kpL, PyData.depth, PyData.depthAll]
theorem dep_kpP (k : Key) : (kpP k).depth ≤ 1 := by cases k <;> simp [kpP, PyData.depth, PyData.depthAll]
theorem eqv_kpL (a b : Key) : PyData.eqv (kpL a) (kpL b) = decide (a = b) := by
  cases a with
  | inl i => cases b with
    | inl j => by_cases e : i = j <;> simp [kpL, PyData.eqv, PyData.eqvAll, e]
    | inr y => simp [kpL, PyData.eqv, PyData.eqvAll]
  | inr x => cases b with
    | inl j => simp [kpL, PyData.eqv, PyData.eqvAll]
    | inr y => by_cases e : x = y <;> simp [kpL, PyData.eqv, PyData.eqvAll, e]
theorem eqv_kpP (a b : Key) : PyData.eqv (kpP a) (kpP b) = decide (a = b) := by
  cases a with
  | inl i => cases b with
    | inl j => by_cases e : i = j <;> simp [kpP, PyData.eqv, PyData.eqvAll, e]
    | inr y => simp [kpP, PyData.eqv, PyData.eqvAll]
  | inr x => cases b with
    | inl j => simp [kpP, PyData.eqv, PyData.eqvAll]
    | inr y => by_cases e : x = y <;> simp [kpP, PyData.eqv, PyData.eqvAll, e]
theorem inj_kpL {a b : Key} (h : kpL a = kpL b) : a = b := by
  have e := eqv_kpL a b
  rw [h, eqv_kpL b b] at e
  simpa using e.symm
theorem inj_kpP {a b : Key} (h : kpP a = kpP b) : a = b := by
  have e := eqv_kpP a b
  rw [h, eqv_kpP b b] at e
  simpa using e.symm
theorem map_inj {f : Key → PyData} (h : ∀ a b, f a = f b → a = b) : ∀ {r s : Row}, r.map f = s.map f → r = s
  | [], [], _ => rfl
  | [], _ :: _, e => by simp at e
  | _ :: _, [], e => by simp at e
  | a :: r, b :: s, e => by
    rw [List.map_cons, List.map_cons, List.cons.injEq] at e
    rw [h a b e.1, map_inj h e.2]
section
variable {A : Around} {s : Shared}
/-- the law's pairs -/
theorem lt_kpL (hu : A.units + 10 < cLine) : ∀ (a b : Key) (u v : Value) (as bs : List Addr), Reads s.heap u (kpL a) as → Reads s.heap v (kpL b) bs → RcLt A s u v (kLt a b) := by
  intro a b u v as bs ra rb
  have hu1 : A.units + 1 < cLine := by omega
  cases a with
  | inl i =>
    cases b with
    | inl j =>
      have h := PySem.W.rcLt_alike _ _ A s u v as bs ra rb (by simp [kpL, PySem.W.alike, PySem.W.alikeAll]) (by simp [kpL]) (by have := dep_kpL (.inl i); omega)
      have e : PySem.W.dataLt (kpL (.inl i)) (kpL (.inl j)) = kLt (.inl i) (.inl j) := by
        show PySem.W.dataLt (.tuple [.int 0, .int i]) (.tuple [.int 0, .int j]) = decide (i < j)
        rw [PySem.W.dataLt_tuple, PySem.W.dataLt_all_yes (by simp [PySem.W.alike]) (by simp [PyData.eqv])]
        by_cases q : i = j
        · subst q
          rw [PyProof.Rows.lex_irrefl]
          exact (decide_eq_false (Int.lt_irrefl i)).symm
        · rw [PySem.W.dataLt_all_no (by simp [PySem.W.alike]) (by simp [PyData.eqv, q]), PySem.W.dataLt_int]
      rw [e] at h
      exact h
    | inr y =>
      cases ra with
      | @tuple l o vs n _ _ h1 h2 h3 h4 =>
        cases rb with
        | @tuple l' o' vs' n' _ _ k1 k2 k3 k4 =>
          obtain ⟨vl⟩ := vs
          obtain ⟨vl'⟩ := vs'
          cases h4 with
          | cons a1 a2 => cases k4 with
            | cons b1 b2 =>
              have he := SeqAt.eqAt_plain (.int 0) (.int 1) A.in1 s _ _ _ _ a1 b1 rfl rfl (by simp [PyData.depth]; exact hu1)
              refine RcLt.head ⟨o, h1, h2, n, h3⟩ ⟨o', k1, k2, n', k3⟩ (by omega) rfl (by simpa [PyData.eqv] using he) ?_
              have h := PySem.W.rcLt_alike (.int 0) (.int 1) A.in1 s _ _ _ _ a1 b1 (by simp [PySem.W.alike]) (by simp) (by simp [PyData.depth]; exact hu1)
              rw [PySem.W.dataLt_int] at h
              exact h
  | inr x =>
    cases b with
    | inl j =>
      cases ra with
      | @tuple l o vs n _ _ h1 h2 h3 h4 =>
        cases rb with
        | @tuple l' o' vs' n' _ _ k1 k2 k3 k4 =>
          obtain ⟨vl⟩ := vs
          obtain ⟨vl'⟩ := vs'
          cases h4 with
          | cons a1 a2 => cases k4 with
            | cons b1 b2 =>
              have he := SeqAt.eqAt_plain (.int 1) (.int 0) A.in1 s _ _ _ _ a1 b1 rfl rfl (by simp [PyData.depth]; exact hu1)
              refine RcLt.head ⟨o, h1, h2, n, h3⟩ ⟨o', k1, k2, n', k3⟩ (by omega) rfl (by simpa [PyData.eqv] using he) ?_
              have h := PySem.W.rcLt_alike (.int 1) (.int 0) A.in1 s _ _ _ _ a1 b1 (by simp [PySem.W.alike]) (by simp) (by simp [PyData.depth]; exact hu1)
              rw [PySem.W.dataLt_int] at h
              exact h
    | inr y =>
      have h := PySem.W.rcLt_alike _ _ A s u v as bs ra rb (by simp [kpL, PySem.W.alike, PySem.W.alikeAll]) (by simp [kpL]) (by have := dep_kpL (.inr x); omega)
      have e : PySem.W.dataLt (kpL (.inr x)) (kpL (.inr y)) = kLt (.inr x) (.inr y) := by
        show PySem.W.dataLt (.tuple [.int 1, .str x]) (.tuple [.int 1, .str y]) = decide (x.cps.toList < y.cps.toList)
        rw [PySem.W.dataLt_tuple, PySem.W.dataLt_all_yes (by simp [PySem.W.alike]) (by simp [PyData.eqv])]
        by_cases q : x = y
        · subst q
          rw [PyProof.Rows.lex_irrefl]
          exact (sLt_irrefl x).symm
        · rw [PySem.W.dataLt_all_no (by simp [PySem.W.alike]) (by simp [PyData.eqv, q]), PySem.W.dataLt_str]
      rw [e] at h
      exact h
theorem lt_kpP (a b : Key) : PySem.W.dataLt (kpP a) (kpP b) = kLt a b := by
  cases a with
  | inl i => cases b with
    | inl j =>
      show PySem.W.dataLt (.tuple [.int 0, .int i, .str ""]) (.tuple [.int 0, .int j, .str ""]) = decide (i < j)
      rw [PySem.W.dataLt_tuple, PySem.W.dataLt_all_yes (by simp [PySem.W.alike]) (by simp [PyData.eqv])]
      by_cases q : i = j
      · subst q
        rw [PyProof.Rows.lex_irrefl]
        exact (decide_eq_false (Int.lt_irrefl i)).symm
      · rw [PySem.W.dataLt_all_no (by simp [PySem.W.alike]) (by simp [PyData.eqv, q]), PySem.W.dataLt_int]
    | inr y =>
      show PySem.W.dataLt (.tuple [.int 0, .int i, .str ""]) (.tuple [.int 1, .int 0, .str y]) = true
      rw [PySem.W.dataLt_tuple, PySem.W.dataLt_all_no (by simp [PySem.W.alike]) (by simp [PyData.eqv]), PySem.W.dataLt_int]
      rfl
  | inr x => cases b with
    | inl j =>
      show PySem.W.dataLt (.tuple [.int 1, .int 0, .str x]) (.tuple [.int 0, .int j, .str ""]) = false
      rw [PySem.W.dataLt_tuple, PySem.W.dataLt_all_no (by simp [PySem.W.alike]) (by simp [PyData.eqv]), PySem.W.dataLt_int]
      rfl
    | inr y =>
      show PySem.W.dataLt (.tuple [.int 1, .int 0, .str x]) (.tuple [.int 1, .int 0, .str y]) = decide (x.cps.toList < y.cps.toList)
      rw [PySem.W.dataLt_tuple, PySem.W.dataLt_all_yes (by simp [PySem.W.alike]) (by simp [PyData.eqv]), PySem.W.dataLt_all_yes (by simp [PySem.W.alike]) (by simp [PyData.eqv])]
      by_cases q : x = y
      · subst q
        rw [PyProof.Rows.lex_irrefl]
        exact (sLt_irrefl x).symm
      · rw [PySem.W.dataLt_all_no (by simp [PySem.W.alike]) (by simp [PyData.eqv, q]), PySem.W.dataLt_str]
theorem alike_kpP (a b : Key) : PySem.W.alike (kpP a) (kpP b) = true := by cases a <;> cases b <;> simp [kpP, PySem.W.alike, PySem.W.alikeAll]
theorem alike_rows : ∀ r q : Row, PySem.W.alikeAll (r.map kpP) (q.map kpP) = true
  | [], _ => by simp [PySem.W.alikeAll]
  | _ :: _, [] => by simp [PySem.W.alikeAll]
  | a :: r, b :: q => by
    rw [List.map_cons, List.map_cons, PySem.W.alikeAll, alike_kpP, alike_rows r q]
    rfl
theorem lex_rows : ∀ r q : Row, PyProof.Rows.lexLt itemOrd (PySem.W.keyToksAll (r.map kpP)) (PySem.W.keyToksAll (q.map kpP)) = rLt r q
  | [], [] => by rw [PyProof.Rows.lex_irrefl]; rfl
  | [], b :: q => by
    rw [List.map_nil, List.map_cons, PySem.W.keyToksAll, PySem.W.keyToksAll]
    rfl
  | a :: r, [] => by
    rw [List.map_nil, List.map_cons, PySem.W.keyToksAll, PySem.W.keyToksAll]
    rfl
  | a :: r, b :: q => by
    rw [List.map_cons, List.map_cons, rLt_cons]
    by_cases e : a = b
    · rw [if_pos e, PySem.W.dataLt_all_yes (alike_kpP a b) (by rw [eqv_kpP]; exact decide_eq_true e)]
      exact lex_rows r q
    · rw [if_neg e, PySem.W.dataLt_all_no (alike_kpP a b) (by rw [eqv_kpP]; exact decide_eq_false e)]
      exact lt_kpP a b
theorem firstLt_rows : ∀ r q : Row, firstLt (fun j => decide (r.getD j (.inl 0) = q.getD j (.inl 0))) (fun j => kLt (r.getD j (.inl 0)) (q.getD j (.inl 0))) (decide (r.length < q.length)) (List.range (min r.length q.length)) = rLt r q
  | [], [] => rfl
  | [], b :: q => by simp [firstLt, rLt]
  | a :: r, [] => by simp [firstLt, rLt]
  | a :: r, b :: q => by
    rw [List.length_cons, List.length_cons, Nat.succ_min_succ, List.range_succ_eq_map, rLt_cons]
    by_cases e : a = b
    · rw [firstLt_yes (by simpa using e), if_pos e, PySem.W.firstLt_map]
      have h := firstLt_rows r q
      simp only [List.getD_cons_succ, Nat.add_lt_add_iff_right]
      exact h
    · rw [firstLt_no (by simpa using e), if_neg e]
      rfl
end
end EM
namespace EM
open PySem PySem.Spec PyProof.Rows L2 SeqAt
theorem readsAll_at {h : Heap} : ∀ {ds : List PyData} {vs : List Value} {as : List Addr}, ReadsAll h vs ds as → ∀ {j : Nat} {v : Value} {d : PyData}, vs[j]? = some v → ds[j]? = some d → ∃ as', Reads h v d as'
  | [], _, _, r, j, v, d, h1, h2 => by simp at h2
  | c :: ds, _, _, r, j, v, d, h1, h2 => by
    cases r with
    | cons r1 r2 =>
      cases j with
      | zero =>
        obtain rfl := Option.some.inj h1
        obtain rfl := Option.some.inj h2
        exact ⟨_, r1⟩
      | succ j => exact readsAll_at r2 (by simpa using h1) (by simpa using h2)
section
variable {A : Around} {s : Shared}
theorem kpL_at {r : Row} {vs : Array Value} {as : List Addr} {h : Heap} (ra : ReadsAll h vs.toList (r.map kpL) as) {j : Nat} (hj : j < vs.size) : ∃ as', Reads h vs[j] (kpL (r.getD j (.inl 0))) as' := by
  have hl : vs.size = r.length := by
    have := SeqAt.ReadsAll.length _ _ _ ra
    rw [Array.length_toList, List.length_map] at this
    exact this
  have e : (r.map kpL)[j]? = some (kpL (r.getD j (.inl 0))) := by
    rw [List.getElem?_map, List.getElem?_eq_getElem (by omega), List.getD_eq_getElem?_getD, List.getElem?_eq_getElem (by omega)]
    rfl
  exact readsAll_at ra (j := j) (v := vs[j]) (by rw [Array.getElem?_toList, Array.getElem?_eq_getElem hj]) e
/-- lists of the law's pairs -/
theorem eq_row (hu : A.units + 10 < cLine) (r q : Row) (u v : Value) (as bs : List Addr) (ra : Reads s.heap u (.list (r.map kpL)) as) (rb : Reads s.heap v (.list (q.map kpL)) bs) : EqAt A s u v (decide (r = q)) := by
  have h := SeqAt.eqAt_plain _ _ A s u v as bs ra rb (plain_lst lay_kpL r) (plain_lst lay_kpL q) (by
    have := depthAll_le dep_kpL r
    simp only [PyData.depth]
    omega)
  rw [show PyData.eqv (.list (r.map kpL)) (.list (q.map kpL)) = decide (r = q) by simp only [PyData.eqv]; exact eqvAll_dec eqv_kpL r q] at h
  exact h
theorem lt_row (hu : A.units + 20 < cLine) (r q : Row) (u v : Value) (as bs : List Addr) (ra : Reads s.heap u (.list (r.map kpL)) as) (rb : Reads s.heap v (.list (q.map kpL)) bs) : RcLt A s u v (rLt r q) := by
  cases ra with
  | @list l o vs n _ as1 h1 h2 h3 h4 =>
    cases rb with
    | @list l' o' vs' n' _ bs1 k1 k2 k3 k4 =>
      have n1 : vs.size = r.length := by simpa using ReadsAll.length _ _ _ h4
      have n2 : vs'.size = q.length := by simpa using ReadsAll.length _ _ _ k4
      have h := RcLt.lists (A := A) (s := s) (l := l) (b := l') (items := vs) (items2 := vs') (e := fun j => decide (r.getD j (.inl 0) = q.getD j (.inl 0))) (r := fun j => kLt (r.getD j (.inl 0)) (q.getD j (.inl 0))) ⟨o, h1, h2, n, h3⟩ ⟨o', k1, k2, n', k3⟩ (by omega) (fun j j1 j2 => ?_) (fun j j1 j2 _ => ?_)
      · rw [n1, n2, firstLt_rows] at h
        exact h
      · obtain ⟨as2, r2⟩ := kpL_at h4 j1
        obtain ⟨bs2, r3⟩ := kpL_at k4 j2
        have h := SeqAt.eqAt_plain _ _ A.in1 s _ _ _ _ r2 r3 (lay_kpL _) (lay_kpL _) (by
          have := dep_kpL (r.getD j (.inl 0))
          show A.units + 1 + _ < _
          omega)
        rw [eqv_kpL] at h
        exact h
      · obtain ⟨as2, r2⟩ := kpL_at h4 j1
        obtain ⟨bs2, r3⟩ := kpL_at k4 j2
        exact lt_kpL (A := A.in1) (by show A.units + 1 + 10 < _; omega) _ _ _ _ _ _ r2 r3
theorem oneLt_row {prog : Program} {w : World} {E : Value → Shared → Prop} (hu : A.units + 30 < cLine) (r q : Row) (u v : Value) (as bs : List Addr) (ra : Reads s.heap u (.list (r.map kpL)) as) (rb : Reads s.heap v (.list (q.map kpL)) bs) {Q : Bool → Shared → Prop} (hq : Q (rLt r q) s) :
    wpAny (model prog w) A (oneLt' true u v) Q E s := by
  cases ra with
  | @list l o vs n _ as1 h1 h2 h3 h4 =>
    cases rb with
    | @list l' o' vs' n' _ bs1 k1 k2 k3 k4 =>
      have n1 : vs.size = r.length := by simpa using ReadsAll.length _ _ _ h4
      have n2 : vs'.size = q.length := by simpa using ReadsAll.length _ _ _ k4
      rw [← firstLt_rows, ← n1, ← n2] at hq
      rw [oneLt'_eq]
      simp only [if_true]
      refine wpAny_bind (wpAny_cRoomFor (by omega) ?_)
      refine wpAny_bind (wpAny_callSpecialIfBound?_slot (T := "list") ⟨_, h1, h2⟩ PySem.F.slot_list_lt (call_list_lt (e := fun j => decide (r.getD j (.inl 0) = q.getD j (.inl 0))) (r := fun j => kLt (r.getD j (.inl 0)) (q.getD j (.inl 0))) ⟨_, h1, h2, _, h3⟩ ⟨_, k1, k2, _, k3⟩ (fun j j1 j2 => ?_) (fun j j1 j2 _ => ?_) ?_))
      · obtain ⟨as2, r2⟩ := kpL_at h4 j1
        obtain ⟨bs2, r3⟩ := kpL_at k4 j2
        have h := SeqAt.eqAt_plain _ _ A.in1 s _ _ _ _ r2 r3 (lay_kpL _) (lay_kpL _) (by
          have := dep_kpL (r.getD j (.inl 0))
          show A.units + 1 + _ < _
          omega)
        rw [eqv_kpL] at h
        exact h
      · obtain ⟨as2, r2⟩ := kpL_at h4 j1
        obtain ⟨bs2, r3⟩ := kpL_at k4 j2
        exact lt_kpL (A := A.in1) (by show A.units + 1 + 10 < _; omega) _ _ _ _ _ _ r2 r3
      · exact wpAny_truthy_bool hq
end
theorem reads_list {h : Heap} {v : Value} {ds : List PyData} {as : List Addr} (r : Reads h v (.list ds) as) : ∃ a o, v = .ref a ∧ h.get? a = some o ∧ o.cls = .type "list" := by
  cases r with
  | list h1 h2 h3 h4 => exact ⟨_, _, rfl, h1, h2⟩
theorem reads_tup {h : Heap} {v : Value} {ds : List PyData} {as : List Addr} (r : Reads h v (.tuple ds) as) : ∃ a o xs n as', v = .ref a ∧ h.get? a = some o ∧ o.cls = .type "tuple" ∧ o.data = .seq xs n ∧ ReadsAll h xs.toList ds as' := by
  cases r with
  | tuple h1 h2 h3 h4 => exact ⟨_, _, _, _, _, rfl, h1, h2, h3, h4⟩
theorem each_mem' {α β : Type} {R : α → β → Prop} {as : List α} {bs : List β} (e : PySem.W.EachIs R as bs) : ∀ a ∈ as, ∃ b ∈ bs, R a b := by
  induction e with
  | nil => intro a h; cases h
  | cons r _ ih =>
    intro a h
    rcases List.mem_cons.mp h with e | h
    · subst e
      exact ⟨_, .head _, r⟩
    · obtain ⟨b, hb, rb⟩ := ih a h
      exact ⟨b, .tail _ hb, rb⟩
theorem tups_of {β : Type} {h : Heap} {key first : β → PyData} {rest : β → List PyData} : ∀ {vs : List Value} {bs : List β}, (∀ b ∈ bs, key b = .tuple (first b :: rest b)) → PySem.W.EachIs (fun v b => ∃ as, Reads h v (key b) as) vs bs →
    ∃ fs, PySem.W.KatTups h vs fs ∧ fs.length = vs.length ∧ ∀ f ∈ fs, ∃ b as, b ∈ bs ∧ Reads h f (first b) as
  | _, _, _, .nil => ⟨[], PySem.W.KatTups.nil, rfl, fun f h => by cases h⟩
  | v :: vs, b :: bs, hk, .cons ⟨as, r⟩ t => by
    obtain ⟨fs, h1, h2, h3⟩ := tups_of (fun c hc => hk c (.tail _ hc)) t
    rw [hk b (.head _)] at r
    obtain ⟨a, o, xs, n, as', rfl, ho, hc, hd, hr⟩ := reads_tup r
    obtain ⟨xl⟩ := xs
    cases hr with
    | @cons f _ l _ _ _ r1 r2 =>
      refine ⟨f :: fs, PySem.W.KatTups.cons ho hc hd rfl h1, by rw [List.length_cons, List.length_cons, h2], fun g hg => ?_⟩
      rcases List.mem_cons.mp hg with e | hg
      · subst e
        exact ⟨b, _, .head _, r1⟩
      · obtain ⟨c, cs, hc', rc⟩ := h3 g hg
        exact ⟨c, cs, .tail _ hc', rc⟩
/-- rows by the law's keys -/
def rowL : KeySort Row where
  key r := .list (r.map kpL)
  lt := rLt
  ok _ := True
  fits r := r.length ≤ 100
  plain r := plain_lst lay_kpL r
  inj r q h := by
    injection h with h
    exact map_inj (fun a b => inj_kpL) h
  swo := rTot.swo
  kind bs _ h2 := ⟨oneType', fun prog w A s vs hu e => ⟨fun Q E hq => PySem.W.kas_kind (T := .type "list") (by rw [each_len e]; exact h2) (fun v hv => by
      obtain ⟨b, _, as, r⟩ := each_mem' e v hv
      obtain ⟨a, o, rfl, ho, hc⟩ := reads_list r
      exact (show PySem.W.Looks (model prog w) s.heap (typeOf (.ref a)) (.type "list") from hc ▸ (PySem.W.Looks.ld ho).andThen .now)) (by decide +kernel) (by decide +kernel) hq,
    fun b _ c _ u v as cs ru rv => oneLt_row (by omega) b c u v as cs ru rv ⟨rfl, rfl⟩⟩⟩
/-- rows by the program's keys -/
def rowP : KeySort Row where
  key r := .tuple (r.map kpP)
  lt := rLt
  ok bs := 2 ≤ bs.length → ∀ b ∈ bs, b ≠ []
  fits r := r.length ≤ 100
  plain r := plain_tup lay_kpP r
  inj r q h := by
    injection h with h
    exact map_inj (fun a b => inj_kpP) h
  swo := rTot.swo
  kind bs ok h2 := ⟨tuples' false, fun prog w A s vs hu e => ⟨fun Q E hq => by
      obtain ⟨fs, t1, t2, t3⟩ := tups_of (first := fun r : Row => kpP (r.headD (.inl 0))) (rest := fun r : Row => (r.drop 1).map kpP) (fun b hb => by
        cases b with
        | nil => exact absurd rfl (ok h2 _ hb)
        | cons a r => rfl) e
      refine PySem.W.kat_kind (T := .type "tuple") t1 (by rw [t2, each_len e]; omega) (fun f hf => ?_) (by decide +kernel) ?_
      · obtain ⟨b, as, _, r⟩ := t3 f hf
        have r' : ∃ ds, Reads s.heap f (.tuple ds) as := by
          cases q : b.headD (.inl 0) with
          | inl i => rw [q] at r; exact ⟨_, r⟩
          | inr x => rw [q] at r; exact ⟨_, r⟩
        obtain ⟨ds, r'⟩ := r'
        obtain ⟨a, o, xs, n, as', rfl, ho, hc, _⟩ := reads_tup r'
        exact (show PySem.W.Looks (model prog w) s.heap (typeOf (.ref a)) (.type "tuple") from hc ▸ (PySem.W.Looks.ld ho).andThen .now)
      · have e1 : (Value.type "tuple" != Value.type "tuple") = false := by decide +kernel
        rw [e1]
        exact hq,
    fun b _ c _ u v as cs ru rv => by
      obtain ⟨a, o, xs, n, as', rfl, ho, hc, hd, hr⟩ := reads_tup ru
      obtain ⟨a2, o2, xs2, n2, as2, rfl, ho2, hc2, hd2, hr2⟩ := reads_tup rv
      refine PySem.W.kat_lt ho hd ho2 hd2 (PySem.W.katLex_alike _ _ 0 _ _ _ _ hr hr2 (alike_rows b c) ?_ (fun z => by cases z) ?_ ?_)
      · have := depthAll_le dep_kpP b
        omega
      · have e1 := SeqAt.ReadsAll.length _ _ _ hr
        have e2 := SeqAt.ReadsAll.length _ _ _ hr2
        rw [Array.length_toList] at e1 e2
        rw [e1, e2]
      · rw [lex_rows]
        exact ⟨rfl, rfl⟩⟩⟩
/-- facts by the law's keys -/
def factL : KeySort Fact where
  key f := .tuple [.str f.1, .list (f.2.map kpL)]
  lt := fLt
  ok _ := True
  fits f := f.2.length ≤ 100
  plain f := by
    have := plain_lst lay_kpL f.2
    simp only [PyData.plain, PyData.plainAll] at this ⊢
    rw [this]
    rfl
  inj f g h := by
    injection h with h
    injection h with h1 h2
    injection h2 with h2 _
    injection h1 with h1
    injection h2 with h2
    exact Prod.ext h1 (map_inj (fun a b => inj_kpL) h2)
  swo := fTot.swo
  kind bs _ h2 := ⟨tuples' true, fun prog w A s vs hu e => ⟨fun Q E hq => by
      obtain ⟨fs, t1, t2, t3⟩ := tups_of (first := fun f : Fact => .str f.1) (rest := fun f : Fact => [.list (f.2.map kpL)]) (fun b hb => rfl) e
      refine PySem.W.kat_kind (T := .type "str") t1 (by rw [t2, each_len e]; omega) (fun f hf => ?_) (by decide +kernel) ?_
      · obtain ⟨b, as, _, r⟩ := t3 f hf
        cases r
        exact PySem.W.Looks.now
      · have e1 : (Value.type "str" != Value.type "tuple") = true := by decide +kernel
        rw [e1]
        exact hq,
    fun b _ c _ u v as cs ru rv => by
      obtain ⟨a, o, xs, n, as', rfl, ho, hc, hd, hr⟩ := reads_tup ru
      obtain ⟨a2, o2, xs2, n2, as2, rfl, ho2, hc2, hd2, hr2⟩ := reads_tup rv
      obtain ⟨xl⟩ := xs
      obtain ⟨xl2⟩ := xs2
      refine PySem.W.kat_lt ho hd ho2 hd2 ?_
      cases hr with
      | @cons p _ l _ _ _ r1 r2 => cases r2 with
        | @cons p2 _ l2 _ _ _ r3 r4 =>
          cases r4
          cases hr2 with
          | @cons q _ m _ _ _ w1 w2 => cases w2 with
            | @cons q2 _ m2 _ _ _ w3 w4 =>
              cases w4
              show PySem.W.KatLex prog w A true (decide (2 < 2)) _ [(p, q), (p2, q2)] 0 s
              have he := SeqAt.eqAt_plain _ _ A s _ _ _ _ r1 w1 rfl rfl (by simp only [PyData.depth]; omega)
              refine PySem.W.kat_cons (he prog w _ _ ?_)
              have ee : PyData.eqv (.str b.1) (.str c.1) = decide (b.1 = c.1) := by by_cases e : b.1 = c.1 <;> simp [PyData.eqv, e]
              rw [ee]
              refine PySem.W.kat_go (fun e1 => ?_) (fun e1 => ?_)
              · have e1' : b.1 = c.1 := of_decide_eq_true e1
                refine PySem.W.kat_yes (PySem.W.kat_cons (eq_row (by omega) b.2 c.2 _ _ _ _ r3 w3 prog w _ _ ?_))
                refine PySem.W.kat_go (fun e2 => ?_) (fun e2 => ?_)
                · have e2' : b.2 = c.2 := of_decide_eq_true e2
                  refine PySem.W.kat_yes (PySem.W.kat_nil ⟨rfl, ?_⟩)
                  unfold fLt
                  rw [if_pos e1', e2', rLt_irrefl]
                  rfl
                · refine PySem.W.kat_no (PySem.W.kat_one _ _ (lt_row (by omega) b.2 c.2 _ _ _ _ r3 w3 prog w _ _ ?_))
                  refine (show s = s ∧ rLt b.2 c.2 = fLt b c from ⟨rfl, ?_⟩)
                  unfold fLt
                  rw [if_pos e1']
              · have e1' : ¬ b.1 = c.1 := of_decide_eq_false e1
                cases r1
                cases w1
                refine PySem.W.kat_no (oneLt_str ⟨rfl, ?_⟩)
                unfold fLt
                rw [if_neg e1']⟩⟩
end EM
/-! the law's keys and sorts -/
namespace EM
open PySem PySem.Spec PyProof.Rows L2
theorem TyX_key {K : PySem.W.Frag} {H : Hp} : ∀ k : Key, TyX K H (kV k) (match k with | .inl _ => .type "int" | .inr _ => .type "str")
  | .inl _ => .base (.int _)
  | .inr _ => .base (.str _)
theorem kitOne_int {K : PySem.W.Frag} : PySem.W.kitOne K (.type "int") (.type "str") = some false := by rfl
theorem kitOne_str {K : PySem.W.Frag} : PySem.W.kitOne K (.type "str") (.type "str") = some true := by rfl
theorem DpAll.all {K : PySem.W.Frag} {H : Hp} {key : Key → PyData} : ∀ {ks : List Key} {xs : List V}, xs.length = ks.length → (∀ (i : Nat) (k : Key) (x : V), ks[i]? = some k → xs[i]? = some x → Dp K H x (key k)) → DpAll K H xs (ks.map key)
  | [], [], _, _ => .nil
  | k :: ks, [], h, _ => by simp at h
  | [], x :: xs, h, _ => by simp at h
  | k :: ks, x :: xs, h, f => .cons (f 0 k x rfl rfl) (DpAll.all (by simpa using h) fun i k' x' h1 h2 => f (i + 1) k' x' (by simpa using h1) (by simpa using h2))
mutual
theorem Dp.tk {K : PySem.W.Frag} {H H' : Hp} (k : TK H H') : ∀ (d : PyData) (v : V), noL d = true → Dp K H v d → Dp K H' v d
  | .none, _, _, h => by cases h; exact .non
  | .bool b, _, _, h => by cases h; exact .bl b
  | .int i, _, _, h => by cases h; exact .int i
  | .str x, _, _, h => by cases h; exact .str x
  | .list ds, _, n, h => by rw [noL] at n; cases n
  | .tuple ds, _, n, h => by
    cases h with
    | tup s a =>
      rw [noL] at n
      refine .tup ?_ (DpAll.tk k ds _ n a)
      rcases s with (s | ⟨o, s⟩) | s
      · exact .inl (.inl (k _ _ s))
      · exact .inl (.inr ⟨o, k _ _ s⟩)
      · exact .inr s
  | .dict _, _, _, h => by cases h
theorem DpAll.tk {K : PySem.W.Frag} {H H' : Hp} (k : TK H H') : ∀ (ds : List PyData) (xs : List V), noLs ds = true → DpAll K H xs ds → DpAll K H' xs ds
  | [], _, _, h => by cases h; exact .nil
  | d :: ds, _, n, h => by
    rw [noLs, Bool.and_eq_true] at n
    cases h with
    | cons a b => exact .cons (Dp.tk k d _ n.1 a) (DpAll.tk k ds _ n.2 b)
end
theorem noL_kpL (k : Key) : noL (kpL k) = true := by cases k <;> simp [kpL, noL, noLs]
theorem noL_kpP (k : Key) : noL (kpP k) = true := by cases k <;> simp [kpP, noL, noLs]
section
variable {P : Program} {w : World} {K : PySem.W.Frag} {mg : Str → Option Value} {base : Heap}
def spLKey (K : PySem.W.Frag) : Sp := fun vs H Q _ => ∃ k : Key, vs = [kV k] ∧ ∀ v H', EM.St none H H' → Dp K H' v (kpL k) → Q v H'
theorem hasLKey (T : Txt K mg) : Has P w K mg base 1 "_law_key" ["_law_value_here"] (spLKey K) := by
  refine T.dLKey.has scLKey (fun vs H Q E h => ?_) (fun f cdv A outer s H vs Q E hr h => ?_)
  · obtain ⟨k, rfl, _⟩ := h
    rfl
  · obtain ⟨k, rfl, q⟩ := h
    refine ⟨_,
      (pss_one (ps_ret (pe_tup (pa_cons (pe_callTy call_int1 (by rfl) T.mint (by decide +kernel) (pa_cons (pe_callB (isi K) (by rfl) T.misinstance (by decide +kernel) (pa_cons (pv 0) (pa_cons (pe_ty (n := "str") T.mstr (by decide +kernel)) pa_nil))) pa_nil)) (pa_cons (pv 0) pa_nil))))), ?_⟩
    cases k with
    | inl i =>
      refine ⟨_, rfl, _, _, _, _, false, rfl, .ty _, TyX_key (.inl i), kitOne_int, .inr ⟨false, rfl, ?_⟩⟩
      refine ⟨_, rfl, sz_le (by show 2 ≤ 10000000; decide), fun p np => q _ _ (St.new np) (.tup (SqT.of upd_same) (.cons (.int _) (.cons (.int _) .nil)))⟩
    | inr x =>
      refine ⟨_, rfl, _, _, _, _, true, rfl, .ty _, TyX_key (.inr x), kitOne_str, .inr ⟨true, rfl, ?_⟩⟩
      refine ⟨_, rfl, sz_le (by show 2 ≤ 10000000; decide), fun p np => q _ _ (St.new np) (.tup (SqT.of upd_same) (.cons (.int _) (.cons (.str _) .nil)))⟩
theorem hasLRowKey (T : Txt K mg) : Has P w K mg base 2 "_law_row_key" ["_law_row"] (spKey K eRow rowL) := by
  refine T.dLRowKey.has scLRowKey (fun vs H Q E h => ?_) (fun f cdv A outer s H vs Q E hr h => ?_)
  · obtain ⟨k, x, rfl, _⟩ := h
    rfl
  · obtain ⟨r, x, rfl, hfit, hx, q⟩ := h
    obtain ⟨p, rfl, hp⟩ := den_row.mp hx
    refine ⟨_,
      (pss_one (ps_ret (pe_lc (own := [("_law_value_here", 1)]) (g := (gName 1)) (tt := tYes) rfl scLRowKey.nd (itT K (pv 0)) (blkOk_by (N := nmLRowKey) (sc := defScope stLRowKey) (by decide +kernel)) (fun _ _ _ _ _ => (pg_name (i := 1) scLRowKey.nd rfl (Or.inl rfl))) (fun _ _ _ _ _ => pts_nil) (fun _ _ _ _ _ => (pe_own (hasLKey T) hr (by decide) (by rfl) (pa_cons (pv 1) pa_nil)))))), ?_⟩
    refine ⟨_, rfl, p, rfl, ⟨_, SqT.of hp⟩, gather (m := none) wkT (fun H s => SqT.of (s.tup _ _ hp)) (fun b z => nomatch z) (by rw [List.length_map]; exact Nat.lt_of_le_of_lt (show r.length ≤ 100 from hfit) (by decide)) (fun i v H => ∀ k, r[i]? = some k → Dp K H v (kpL k)) (fun i v H H' t h k e => Dp.tk t _ _ (noL_kpL k) (h k e)) (fun i x H hi hx s R k => ?_) (fun D xs H' s nD hD hl hp => ?_) gname_mono⟩
    · obtain ⟨a, ha⟩ := a_get? (l := r) (i := i) (by simpa using hi)
      rw [List.getElem?_map, ha] at hx
      obtain rfl := Option.some.inj hx
      exact ⟨rfl, _, rfl, a, rfl, fun v H' st d => k v H' st fun c hc => by
        rw [ha] at hc
        rw [← Option.some.inj hc]
        exact d⟩
    · refine q _ _ s (.lst (SqL.of hD) (DpAll.all (by simpa using hl) fun i k x h1 h2 => hp i x h2 k h1))
theorem hasLFactKey (T : Txt K mg) : Has P w K mg base 3 "_law_fact_key" ["_law_fact"] (spKey K eFact factL) := by
  refine T.dLFactKey.has scLFactKey (fun vs H Q E h => ?_) (fun f cdv A outer s H vs Q E hr h => ?_)
  · obtain ⟨k, x, rfl, _⟩ := h
    rfl
  · obtain ⟨r, x, rfl, hfit, hx, q⟩ := h
    obtain ⟨p, r0, rfl, hp, hr0⟩ := den_fact.mp hx
    refine ⟨_,
      (pss_one (ps_ret (pe_tup (pa_cons (pe_ix (ixT K) (pv 0) pe_int (fun _ _ => rfl)) (pa_cons (pe_own (hasLRowKey T) hr (by decide) (by rfl) (pa_cons (pe_ix (ixT K) (pv 0) pe_int (fun _ _ => rfl)) pa_nil)) pa_nil))))), ?_⟩
    refine ⟨_, rfl, p, _, 0, _, rfl, rfl, SqT.of hp, atI_nat (j := 0) rfl, _, rfl, p, _, 1, _, rfl, rfl, SqT.of hp, atI_nat (j := 1) rfl, r.2, _, rfl, hfit, den_row.mpr ⟨r0, rfl, hr0⟩, fun v H' st d => ?_⟩
    refine ⟨sz_le (by show 2 ≤ 10000000; decide), fun p2 np => q _ _ (st.trans (St.new np)) (.tup (SqT.of upd_same) (.cons (.str _) (.cons (EM.Dp.same (St.new np) d) .nil)))⟩
end
end EM
/-! the law's sorts -/
namespace EM
open PySem PySem.Spec PyProof.Rows L2
theorem take_snoc {α : Type} {l : List α} {i : Nat} {a : α} (h : l[i]? = some a) : l.take (i + 1) = l.take i ++ [a] := by rw [List.take_add_one, h]; rfl
theorem dedup_len {α : Type} [DecidableEq α] (l : List α) : (dedup l).length ≤ l.length := by
  refine snoc_ind (P := fun l => (dedup l).length ≤ l.length) (Nat.le_refl _) (fun l x ih => ?_) l
  rw [dedup_snoc, List.length_append]
  by_cases e : x ∈ dedup l
  · rw [if_pos e]; exact Nat.le_succ_of_le ih
  · rw [if_neg e, List.length_append]
    exact Nat.succ_le_succ ih
theorem any_yes {α : Type} [DecidableEq α] {f : α → PyData} (h : ∀ a b, PyData.eqv (f a) (f b) = decide (a = b)) {l : List α} {x : α} (e : x ∈ l) : ((l.map f).any fun z => PyData.eqv z (f x)) = true := by
  rw [any_dec h]
  exact decide_eq_true e
theorem any_no {α : Type} [DecidableEq α] {f : α → PyData} (h : ∀ a b, PyData.eqv (f a) (f b) = decide (a = b)) {l : List α} {x : α} (e : ¬ x ∈ l) : ((l.map f).any fun z => PyData.eqv z (f x)) = false := by
  rw [any_dec h]
  exact decide_eq_false e
section
variable {P : Program} {w : World} {K : PySem.W.Frag} {mg : Str → Option Value} {base : Heap}
def spLSorted : Sp := fun vs H Q _ => ∃ (l : Addr) (xs : List V) (rs : List Row), vs = [.ref l] ∧ H l = some (.lst xs) ∧ DenL H (rs.map eRow) xs ∧ (∀ r ∈ rs, r.length ≤ 100) ∧ rs.length ≤ 1000000 ∧
  ∀ (p : Addr) (zs : List V) (out : List Row) H', EM.St none H H' → H p = none → H' p = some (.lst zs) → DenL H' (out.map eRow) zs → Sorts rs out → Q (.ref p) H'
theorem hasLSorted (T : Txt K mg) : Has P w K mg base 5 "_law_sorted" ["_law_rows"] spLSorted := by
  refine T.dLSorted.has scLSorted (fun vs H Q E h => ?_) (fun f cdv A outer s H vs Q E hr h => ?_)
  · obtain ⟨l, xs, rs, rfl, _⟩ := h
    rfl
  · obtain ⟨l, xs, rs, rfl, hl, hx, hfit, hlen, q⟩ := h
    refine ⟨_,
      (pss_cons (ps_set (i := 1) scLSorted.nd rfl (.inl rfl) (pe_lst pa_nil))
      (pss_cons (ps_for PassesOwn.never rfl (itL K (pe_sortK rowL eRow K (hasLRowKey T) hr (by decide) (by rfl) T.msorted (by decide +kernel) (by rfl) (pa_cons (pv 0) pa_nil))) (pg_name (i := 2) scLSorted.nd rfl (Or.inl rfl))
        (pss_one (ps_if (pt_cmpR (ninL K hr) (pv 2) (pv 1) (by rfl))
          (pss_one (ps_expr (pe_bm PySem.F.plainAttrs_list PySem.F.slot_list_append PySem.F.type_list_append mt_append (pv 1) (pa_cons (pv 2) pa_nil))))
          pss_nil)))
      (pss_one (ps_ret (pv 1))))), ?_⟩
    refine ⟨Nat.zero_le _, fun L nL => ?_⟩
    have lL : l ≠ L := ne_of_none hl nL
    refine ⟨.ref l, rfl, l, xs, rs, rfl, SqL.of (by rw [upd_ne lL]; exact hl), DenL.tk (.new nL) _ _ hx, trivial, hfit, fun p zs bs H2 s2 np hp dz perm ord => ?_⟩
    have s02 : EM.St none H H2 := (St.new (o := .lst []) nL).trans s2
    have pL : p ≠ L := (ne_of_none upd_same np).symm
    have zl : zs.length = bs.length := dz.mlen
    have bl : bs.length = rs.length := perm.length_eq
    refine ⟨p, rfl, ⟨_, SqL.of hp⟩, for_list (K := K) (a := p) (xs := zs) (fun i σ H' => ∃ (y2 : Option V) (fs : List V), σ = [some (.ref l), some (.ref L), y2] ∧ EM.St none H H' ∧ H' p = some (.lst zs) ∧ DenL H' (bs.map eRow) zs ∧ H' L = some (.lst fs) ∧ DenL H' ((dedup (bs.take i)).map eRow) fs)
      ⟨none, [], rfl, s02, hp, dz, s2.same _ _ upd_same, .nil⟩ (fun i σ H' _ h => by obtain ⟨_, _, _, _, hp', _⟩ := h; exact SqL.of hp') ?_ ?_⟩
    · rintro i x σ H' hi ⟨y2, fs, rfl, s', hp', dz', hL', df⟩
      obtain ⟨b, hb, db⟩ := dz'.mback hi
      refine ⟨x, rfl, .ref L, rfl, eRow b, (dedup (bs.take i)).map eRow, Den.dp _ _ (noL_row b) db, .lst (SqL.of hL') (DenL.dp _ _ (noLs_map noL_row _) df), lay_row b, plain_lst lay_row _, by have := dep_row b; omega, _, rfl, ?_⟩
      by_cases e : b ∈ dedup (bs.take i)
      · rw [any_yes eqv_row e]
        refine iteF ⟨_, fs, rfl, s', hp', dz', hL', ?_⟩
        rw [take_snoc hb, dedup_snoc, if_pos e]
        exact df
      · rw [any_no eqv_row e]
        refine iteT ?_
        have fl : fs.length = (dedup (bs.take i)).length := df.mlen
        have dl := dedup_len (bs.take i)
        rw [List.length_take] at dl
        have il : i < zs.length := (List.getElem?_eq_some_iff.mp hi).1
        refine ⟨.ref L, rfl, .inl ⟨rfl, _, SqL.of hL'⟩, x, rfl, L, _, x, rfl, rfl, hL', sz_lt (by omega), _, fs ++ [x], rfl, s'.mut nL, by rw [upd_ne pL]; exact hp', DenL.tk (.lst hL') _ _ dz', upd_same, ?_⟩
        rw [take_snoc hb, dedup_snoc, if_neg e]
        exact (DenL.tk (.lst hL') _ _ df).msnoc (Den.tk (.lst hL') _ _ db)
    · rintro σ H' ⟨y2, fs, rfl, s', hp', dz', hL', df⟩
      rw [zl, List.take_length] at df
      refine ⟨.ref L, rfl, q L fs (dedup bs) H' s' nL hL' df ⟨dedup_up rTot bs ord, fun r => ?_⟩⟩
      rw [mem_dedup]
      exact perm.mem_iff
def spLStore : Sp := fun vs H Q _ => ∃ (S : List Tab) (l : Addr) (xs : List V) (fs : List Fact), vs = [.ref l] ∧ H l = some (.lst xs) ∧ DenL H (fs.map eFact) xs ∧ WfS S ∧ (∀ f ∈ fs, FactOk S f) ∧ fs.length ≤ 7 ∧
  ∀ v out H', EM.St none H H' → Den H' (eStore out) v → StoreOk S out → Q v H'
theorem hasLStore (T : Txt K mg) : Has P w K mg base 6 "_law_store" ["_law_facts_here"] spLStore := by
  refine T.dLStore.has scLStore (fun vs H Q E h => ?_) (fun f cdv A outer s H vs Q E hr h => ?_)
  · obtain ⟨S, l, xs, rs, rfl, _⟩ := h
    rfl
  · obtain ⟨S, l, xs, rs, rfl, hl, hx, wf, hok, hlen, q⟩ := h
    refine ⟨_,
      (pss_cons (ps_set (i := 1) scLStore.nd rfl (.inl rfl) (pe_lst pa_nil))
      (pss_cons (ps_for PassesOwn.never rfl (itL K (pe_sortK factL eFact K (hasLFactKey T) hr (by decide) (by rfl) T.msorted (by decide +kernel) (by rfl) (pa_cons (pv 0) pa_nil))) (pg_name (i := 2) scLStore.nd rfl (Or.inl rfl))
        (pss_one (ps_if (pt_cmpR (ninL K hr) (pv 2) (pv 1) (by rfl))
          (pss_one (ps_expr (pe_bm PySem.F.plainAttrs_list PySem.F.slot_list_append PySem.F.type_list_append mt_append (pv 1) (pa_cons (pv 2) pa_nil))))
          pss_nil)))
      (pss_one (ps_ret (pe_callTy (tupOf K) (by rfl) T.mtuple (by decide +kernel) (pa_cons (pv 1) pa_nil)))))), ?_⟩
    refine ⟨Nat.zero_le _, fun L nL => ?_⟩
    have lL : l ≠ L := ne_of_none hl nL
    have hfit : ∀ f ∈ rs, factL.fits f := fun f hf => by
      obtain ⟨t, ht, _, e⟩ := hok f hf
      have := wf.small t ht
      show f.2.length ≤ 100
      omega
    refine ⟨.ref l, rfl, l, xs, rs, rfl, SqL.of (by rw [upd_ne lL]; exact hl), DenL.tk (.new nL) _ _ hx, trivial, hfit, fun p zs bs H2 s2 np hp dz perm ord => ?_⟩
    have s02 : EM.St none H H2 := (St.new (o := .lst []) nL).trans s2
    have pL : p ≠ L := (ne_of_none upd_same np).symm
    have zl : zs.length = bs.length := dz.mlen
    have bl : bs.length = rs.length := perm.length_eq
    refine ⟨p, rfl, ⟨_, SqL.of hp⟩, for_list (K := K) (a := p) (xs := zs) (fun i σ H' => ∃ (y2 : Option V) (fs : List V), σ = [some (.ref l), some (.ref L), y2] ∧ EM.St none H H' ∧ H' p = some (.lst zs) ∧ DenL H' (bs.map eFact) zs ∧ H' L = some (.lst fs) ∧ DenL H' ((dedup (bs.take i)).map eFact) fs)
      ⟨none, [], rfl, s02, hp, dz, s2.same _ _ upd_same, .nil⟩ (fun i σ H' _ h => by obtain ⟨_, _, _, _, hp', _⟩ := h; exact SqL.of hp') ?_ ?_⟩
    · rintro i x σ H' hi ⟨y2, fs, rfl, s', hp', dz', hL', df⟩
      obtain ⟨b, hb, db⟩ := dz'.mback hi
      refine ⟨x, rfl, .ref L, rfl, eFact b, (dedup (bs.take i)).map eFact, Den.dp _ _ (noL_fact b) db, .lst (SqL.of hL') (DenL.dp _ _ (noLs_map noL_fact _) df), lay_fact b, plain_lst lay_fact _, by have := dep_fact b; omega, _, rfl, ?_⟩
      by_cases e : b ∈ dedup (bs.take i)
      · rw [any_yes eqv_fact e]
        refine iteF ⟨_, fs, rfl, s', hp', dz', hL', ?_⟩
        rw [take_snoc hb, dedup_snoc, if_pos e]
        exact df
      · rw [any_no eqv_fact e]
        refine iteT ?_
        have fl : fs.length = (dedup (bs.take i)).length := df.mlen
        have dl := dedup_len (bs.take i)
        rw [List.length_take] at dl
        have il : i < zs.length := (List.getElem?_eq_some_iff.mp hi).1
        refine ⟨.ref L, rfl, .inl ⟨rfl, _, SqL.of hL'⟩, x, rfl, L, _, x, rfl, rfl, hL', sz_lt (by omega), _, fs ++ [x], rfl, s'.mut nL, by rw [upd_ne pL]; exact hp', DenL.tk (.lst hL') _ _ dz', upd_same, ?_⟩
        rw [take_snoc hb, dedup_snoc, if_neg e]
        exact (DenL.tk (.lst hL') _ _ df).msnoc (Den.tk (.lst hL') _ _ db)
    · rintro σ H' ⟨y2, fs, rfl, s', hp', dz', hL', df⟩
      rw [zl, List.take_length] at df
      refine ⟨.ref L, rfl, L, fs, rfl, .inl ⟨SqL.of hL', fun u nu => q _ (dedup bs) _ (s'.trans (St.new nu)) ?_ ⟨fun f hf => ?_, ?_, dedup_up fTot bs ord⟩⟩⟩
      · exact den_map.mpr ⟨u, fs, rfl, upd_same, DenL.tk (.new nu) _ _ df⟩
      · exact hok f (perm.mem_iff.mp ((mem_dedup bs f).mp hf))
      · have := dedup_len bs
        omega
end
end EM
/-! keys of facts; the law's blocks -/
namespace EM
open PySem PySem.Spec PyProof.Rows L2
theorem DenL.msplit {α : Type} {f : α → PyData} {H : Hp} {l : List α} {a : α} {xs : List V} (h : DenL H ((l ++ [a]).map f) xs) : ∃ ys y, xs = ys ++ [y] ∧ DenL H (l.map f) ys ∧ Den H (f a) y := by
  have hl := h.mlen
  rw [List.length_append] at hl
  obtain ⟨x, hx, dx⟩ := h.mget (i := l.length) (a := a) (by simp)
  have ht := DenL.take l.length h
  refine ⟨xs.take l.length, x, ?_, ?_, dx⟩
  · have : xs.length = l.length + 1 := by simpa using hl
    rw [← take_snoc hx, List.take_of_length_le (by omega)]
  · rw [← List.map_take] at ht
    simpa using ht
theorem snoc_cases {α : Type} (l : List α) : l = [] ∨ ∃ m a, l = m ++ [a] := by
  refine snoc_ind (P := fun l => l = [] ∨ ∃ m a, l = m ++ [a]) (.inl rfl) (fun m a _ => .inr ⟨m, a, rfl⟩) l
theorem addL_nil {S : List Tab} {f : Fact} : addL S [] f = [(f.1, keyOf S f, [f.2])] := rfl
theorem addL_snoc {S : List Tab} {bs : List Block} {b : Block} {f : Fact} : addL S (bs ++ [b]) f = if (b.1, b.2.1) = (f.1, keyOf S f) then bs ++ [(f.1, keyOf S f, b.2.2 ++ [f.2])] else (bs ++ [b]) ++ [(f.1, keyOf S f, [f.2])] := by
  unfold addL
  rw [show (bs ++ [b]).getLast? = some b by simp, show (bs ++ [b]).dropLast = bs by simp]
theorem addL_len {S : List Tab} (bs : List Block) (f : Fact) : (addL S bs f).length ≤ bs.length + 1 := by
  rcases snoc_cases bs with rfl | ⟨m, b, rfl⟩
  · exact Nat.le_refl _
  · rw [addL_snoc]
    split
    · rw [List.length_append, List.length_append]; simp
    · rw [List.length_append]; exact Nat.le_refl _
/-- no block holds more rows than there are facts -/
theorem addL_rows {S : List Tab} {n : Nat} {bs : List Block} {f : Fact} (h : ∀ b ∈ bs, b.2.2.length ≤ n) : ∀ b ∈ addL S bs f, b.2.2.length ≤ n + 1 := by
  intro c hc
  rcases snoc_cases bs with rfl | ⟨m, b, rfl⟩
  · rw [addL_nil, List.mem_singleton] at hc
    subst hc
    show 1 ≤ n + 1
    omega
  · rw [addL_snoc] at hc
    split at hc
    · rcases List.mem_append.mp hc with hc | hc
      · exact Nat.le_succ_of_le (h c (List.mem_append_left _ hc))
      · rw [List.mem_singleton] at hc
        subst hc
        show (b.2.2 ++ [f.2]).length ≤ n + 1
        rw [List.length_append]
        exact Nat.succ_le_succ (h b (List.mem_append_right _ (List.mem_singleton.mpr rfl)))
    · rcases List.mem_append.mp hc with hc | hc
      · exact Nat.le_succ_of_le (h c hc)
      · rw [List.mem_singleton] at hc
        subst hc
        show 1 ≤ n + 1
        omega
theorem groupsL_snoc {S : List Tab} (l : List Fact) (f : Fact) : groupsL S (l ++ [f]) = addL S (groupsL S l) f := by
  unfold groupsL
  rw [List.foldl_append]
  rfl
theorem groupsL_ne {S : List Tab} (l : List Fact) : ∀ b ∈ groupsL S l, b.2.2 ≠ [] := by
  refine snoc_ind (P := fun l => ∀ b ∈ groupsL S l, b.2.2 ≠ []) (fun b hb => by cases hb) (fun l f ih c hc => ?_) l
  rw [groupsL_snoc] at hc
  rcases snoc_cases (groupsL S l) with e | ⟨m, b, e⟩
  · rw [e, addL_nil, List.mem_singleton] at hc
    subst hc
    exact List.cons_ne_nil _ _
  · rw [e, addL_snoc] at hc
    split at hc
    · rcases List.mem_append.mp hc with hc | hc
      · exact ih c (by rw [e]; exact List.mem_append_left _ hc)
      · rw [List.mem_singleton] at hc
        subst hc
        show b.2.2 ++ [f.2] ≠ []
        simp
    · rcases List.mem_append.mp hc with hc | hc
      · exact ih c (by rw [e]; exact hc)
      · rw [List.mem_singleton] at hc
        subst hc
        exact List.cons_ne_nil _ _
theorem den_block {H : Hp} {b : Block} {v : V} : Den H (eBlock b) v ↔ ∃ p q r xs, v = .ref p ∧ H p = some (.tup [.str b.1, .ref q, .ref r]) ∧ H q = some (.tup (b.2.1.map kV)) ∧ H r = some (.tup xs) ∧ DenL H (b.2.2.map eRow) xs := by
  unfold eBlock
  rw [den_3]
  constructor
  · rintro ⟨p, x, y, z, rfl, hp, h1, h2, h3⟩
    obtain rfl := den_str.mp h1
    obtain ⟨q, rfl, hq⟩ := den_row.mp h2
    obtain ⟨r, xs, rfl, hr, hx⟩ := den_map.mp h3
    exact ⟨p, q, r, xs, rfl, hp, hq, hr, hx⟩
  · rintro ⟨p, q, r, xs, rfl, hp, hq, hr, hx⟩
    exact ⟨p, _, _, _, rfl, hp, den_str.mpr rfl, den_row.mpr ⟨q, rfl, hq⟩, den_map.mpr ⟨r, xs, rfl, hr, hx⟩⟩
theorem eqv_place (n m : Str) (r q : Row) : PyData.eqv (.tuple [.str n, eRow r]) (.tuple [.str m, eRow q]) = decide ((n, r) = (m, q)) := eqv_fact (n, r) (m, q)
section
variable {P : Program} {w : World} {K : PySem.W.Frag} {mg : Str → Option Value} {base : Heap}
def spKeyOf : Sp := fun vs H Q _ => ∃ (sv fv : V) (S : List Tab) (f : Fact), vs = [sv, fv] ∧ Den H (eSchema S) sv ∧ Den H (eFact f) fv ∧ FactOk S f ∧ ∀ v H', EM.St none H H' → Den H' (eRow (keyOf S f)) v → Q v H'
theorem hasLKeyOf (T : Txt K mg) : Has P w K mg base 2 "_law_key_of" ["_law_schema_here", "_law_fact"] spKeyOf := by
  refine T.dLKeyOf.has scLKeyOf (fun vs H Q E h => ?_) (fun f cdv A outer s H vs Q E hr h => ?_)
  · obtain ⟨sv, fv, S, f, rfl, _⟩ := h
    rfl
  · obtain ⟨sv, fv, S, f, rfl, hS, hF, fok, q⟩ := h
    obtain ⟨p, r, rfl, hp, hr0⟩ := den_fact.mp hF
    obtain ⟨t, ht, tm, tn⟩ := tabOf_some fok
    have ek : keyOf S f = f.2.take t.2.1 := by
      unfold keyOf keyN
      rw [ht]
      rfl
    refine ⟨_,
      (pss_one (ps_ret (pe_slice (slT K) (pe_ix (ixT K) (pv 1) pe_int (fun _ _ => rfl)) po_none (po_some (pe_ix (ixT K) (pe_own (hasLTable T) hr (by decide) (by rfl) (pa_cons (pv 0) (pa_cons (pe_ix (ixT K) (pv 1) pe_int (fun _ _ => rfl)) pa_nil))) pe_int (fun _ _ => rfl)))))), ?_⟩
    refine ⟨_, rfl, p, _, 1, _, rfl, rfl, SqT.of hp, atI_nat (j := 1) rfl, _, rfl, _, rfl, p, _, 0, _, rfl, rfl, SqT.of hp, atI_nat (j := 0) rfl, sv, f.1, S, t, rfl, hS, ht, fun tv dt => ?_⟩
    obtain ⟨tp, rfl, htp⟩ := den_tab.mp dt
    refine ⟨tp, _, 1, _, rfl, rfl, SqT.of htp, atI_nat (j := 1) rfl, _, rfl, r, _, rfl, SqT.of hr0, fun hw => ?_, fun _ p np => ?_⟩
    · refine q _ _ (.refl _ _) (den_row.mpr ⟨r, rfl, ?_⟩)
      rw [ek, List.take_of_length_le]
      · exact hr0
      · have h2 := hw.2
        rw [HT.sIx_nat, List.length_map] at h2
        omega
    · rw [cut_take, ← List.map_take]
      refine q _ _ (St.new np) (den_row.mpr ⟨p, rfl, ?_⟩)
      rw [ek]
      exact upd_same
theorem hasPTableOf (T : Txt K mg) : Has P w K mg base 1 "table_of" ["schema", "name"] spTable := by
  refine T.dPTableOf.has scPTableOf (fun vs H Q E h => ?_) (fun f cdv A outer s H vs Q E hr h => ?_)
  · obtain ⟨sv, n, S, t, rfl, _⟩ := h
    rfl
  · obtain ⟨sv, n, S, t, rfl, hS, ht, q⟩ := h
    obtain ⟨sp, xs, rfl, hsp, hx⟩ := den_map.mp hS
    refine ⟨_,
      (pss_cons (ps_for PassesOwn.never rfl (itT K (pv 0)) (pg_name (i := 2) scPTableOf.nd rfl (Or.inl rfl))
        (pss_one (ps_if (pt_cmpR op_eq (pe_ix (ixT K) (pv 2) pe_int (fun _ _ => rfl)) (pv 1) (nomark _))
          (pss_one (ps_ret (pv 2)))
          pss_nil)))
      (pss_one (ps_ret pe_non))), ?_⟩
    refine ⟨_, rfl, sp, rfl, ⟨_, SqT.of hsp⟩, for_tup (K := K) (a := sp) (xs := xs) (fun i σ H' => H' = H ∧ ∃ y : Option V, σ = [some (.ref sp), some (.str n), y] ∧ ∀ (j : Nat) (u : Tab), j < i → S[j]? = some u → u.1 ≠ n)
      ⟨rfl, none, rfl, fun j u hj => absurd hj (by omega)⟩ (fun i σ H' _ h => h.1 ▸ SqT.of hsp) ?_ ?_⟩
    · rintro i x σ H' hi ⟨rfl, y, rfl, hno⟩
      obtain ⟨u, hu, du⟩ := hx.mback hi
      obtain ⟨tp, rfl, htp⟩ := den_tab.mp du
      refine ⟨_, rfl, tp, _, 0, _, rfl, rfl, SqT.of htp, atI_nat (j := 0) rfl, _, rfl, rfl, _, rfl, ite2 (fun e => ?_) (fun e => ?_)⟩
      · have e1 : u.1 = n := V.str.inj (of_decide_eq_true e)
        have e2 := find_at (S := S) hu e1 hno
        rw [ht] at e2
        obtain rfl := Option.some.inj e2
        exact ⟨_, rfl, q _ du⟩
      · refine ⟨rfl, _, rfl, fun j v hj hv => ?_⟩
        by_cases hji : j < i
        · exact hno j v hji hv
        · have : j = i := by omega
          subst this
          rw [hu] at hv
          obtain rfl := Option.some.inj hv
          exact fun z => e (decide_eq_true (congrArg V.str z))
    · rintro σ H' ⟨rfl, y, rfl, hno⟩
      have := find_none (S := S) (n := n) fun j u hu => hno j u (by rw [hx.mlen]; exact (List.getElem?_eq_some_iff.mp hu).1) hu
      rw [ht] at this
      cases this
theorem hasPKeyOf (T : Txt K mg) : Has P w K mg base 2 "key_of" ["schema", "fact"] spKeyOf := by
  refine T.dPKeyOf.has scPKeyOf (fun vs H Q E h => ?_) (fun f cdv A outer s H vs Q E hr h => ?_)
  · obtain ⟨sv, fv, S, f, rfl, _⟩ := h
    rfl
  · obtain ⟨sv, fv, S, f, rfl, hS, hF, fok, q⟩ := h
    obtain ⟨p, r, rfl, hp, hr0⟩ := den_fact.mp hF
    obtain ⟨t, ht, tm, tn⟩ := tabOf_some fok
    have ek : keyOf S f = f.2.take t.2.1 := by
      unfold keyOf keyN
      rw [ht]
      rfl
    refine ⟨_,
      (pss_one (ps_ret (pe_slice (slT K) (pe_ix (ixT K) (pv 1) pe_int (fun _ _ => rfl)) po_none (po_some (pe_ix (ixT K) (pe_own (hasPTableOf T) hr (by decide) (by rfl) (pa_cons (pv 0) (pa_cons (pe_ix (ixT K) (pv 1) pe_int (fun _ _ => rfl)) pa_nil))) pe_int (fun _ _ => rfl)))))), ?_⟩
    refine ⟨_, rfl, p, _, 1, _, rfl, rfl, SqT.of hp, atI_nat (j := 1) rfl, _, rfl, _, rfl, p, _, 0, _, rfl, rfl, SqT.of hp, atI_nat (j := 0) rfl, sv, f.1, S, t, rfl, hS, ht, fun tv dt => ?_⟩
    obtain ⟨tp, rfl, htp⟩ := den_tab.mp dt
    refine ⟨tp, _, 1, _, rfl, rfl, SqT.of htp, atI_nat (j := 1) rfl, _, rfl, r, _, rfl, SqT.of hr0, fun hw => ?_, fun _ p np => ?_⟩
    · refine q _ _ (.refl _ _) (den_row.mpr ⟨r, rfl, ?_⟩)
      rw [ek, List.take_of_length_le]
      · exact hr0
      · have h2 := hw.2
        rw [HT.sIx_nat, List.length_map] at h2
        omega
    · rw [cut_take, ← List.map_take]
      refine q _ _ (St.new np) (den_row.mpr ⟨p, rfl, ?_⟩)
      rw [ek]
      exact upd_same
def spBlocksL : Sp := fun vs H Q _ => ∃ (sv fv : V) (S : List Tab) (fs : List Fact), vs = [sv, fv] ∧ Den H (eSchema S) sv ∧ Den H (eStore fs) fv ∧ (∀ f ∈ fs, FactOk S f) ∧ fs.length ≤ 1000 ∧ ∀ v H', EM.St none H H' → Den H' (.tuple ((groupsL S fs).map eBlock)) v → Q v H'
theorem hasLBlocks (T : Txt K mg) : Has P w K mg base 3 "_law_blocks" ["_law_schema_here", "_law_store_here"] spBlocksL := by
  refine T.dLBlocks.has scLBlocks (fun vs H Q E h => ?_) (fun f cdv A outer s H vs Q E hr h => ?_)
  · obtain ⟨sv, fv, S, fs, rfl, _⟩ := h
    rfl
  · obtain ⟨sv, fv, S, fs, rfl, hS, hF, ok, few, q⟩ := h
    obtain ⟨fp, fxs, rfl, hfp, hfx⟩ := den_map.mp hF
    have fl : fxs.length = fs.length := hfx.mlen
    refine ⟨_,
      (pss_cons (ps_set (i := 2) scLBlocks.nd rfl (.inl rfl) (pe_lst pa_nil))
      (pss_cons (ps_for PassesOwn.never rfl (itT K (pv 1)) (pg_name (i := 3) scLBlocks.nd rfl (Or.inl rfl))
        (pss_cons (ps_set (i := 4) scLBlocks.nd rfl (.inl rfl) (pe_own (hasLKeyOf T) hr (by decide) (by rfl) (pa_cons (pv 0) (pa_cons (pv 3) pa_nil))))
        (pss_one (ps_if (PW.pt (pw_and (pt_cmpR op_gt (pe_callB (lenS K) (by rfl) T.mlen PySem.boot_len (pa_cons (pv 2) pa_nil)) pe_int (nomark _)) (pw_and1 (pt_cmpR (eqP K hr) (pe_slice (slT K) (pe_ix (ixL K) (pv 2) (pe_un un_neg pe_int) (fun _ _ => rfl)) po_none (po_some pe_int)) (pe_tup (pa_cons (pe_ix (ixT K) (pv 3) pe_int (fun _ _ => rfl)) (pa_cons (pv 4) pa_nil))) (nomark _)))))
          (pss_one (ps_asg (pe_tup (pa_cons (pe_ix (ixT K) (pv 3) pe_int (fun _ _ => rfl)) (pa_cons (pv 4) (pa_cons (pe_op (catT K) (pe_ix (ixT K) (pe_ix (ixL K) (pv 2) (pe_un un_neg pe_int) (fun _ _ => rfl)) pe_int (fun _ _ => rfl)) (pe_tup (pa_cons (pe_ix (ixT K) (pv 3) pe_int (fun _ _ => rfl)) pa_nil))) pa_nil)))) (pg_sub (pv 2) (pe_un un_neg pe_int) set_list)))
          (pss_one (ps_expr (pe_bm PySem.F.plainAttrs_list PySem.F.slot_list_append PySem.F.type_list_append mt_append (pv 2) (pa_cons (pe_tup (pa_cons (pe_ix (ixT K) (pv 3) pe_int (fun _ _ => rfl)) (pa_cons (pv 4) (pa_cons (pe_tup (pa_cons (pe_ix (ixT K) (pv 3) pe_int (fun _ _ => rfl)) pa_nil)) pa_nil)))) pa_nil))))))))
      (pss_one (ps_ret (pe_callTy (tupOf K) (by rfl) T.mtuple (by decide +kernel) (pa_cons (pv 2) pa_nil)))))), ?_⟩
    refine ⟨Nat.zero_le _, fun L nL => ?_⟩
    have fpL : fp ≠ L := ne_of_none hfp nL
    refine ⟨.ref fp, rfl, fp, rfl, ⟨_, SqT.of (by rw [upd_ne fpL]; exact hfp)⟩, for_tup (K := K) (a := fp) (xs := fxs) (fun i σ H' => ∃ (y3 y4 : Option V) (bxs : List V), σ = [some sv, some (.ref fp), some (.ref L), y3, y4] ∧ EM.St none H H' ∧ H' L = some (.lst bxs) ∧
        DenL H' ((groupsL S (fs.take i)).map eBlock) bxs ∧ (groupsL S (fs.take i)).length ≤ i ∧ (∀ b ∈ groupsL S (fs.take i), b.2.2.length ≤ i))
      ⟨none, none, [], rfl, St.new nL, upd_same, .nil, Nat.le_refl _, fun b hb => by cases hb⟩ (fun i σ H' _ h => by obtain ⟨_, _, _, _, s', _⟩ := h; exact SqT.of (s'.same _ _ hfp)) ?_ ?_⟩
    · rintro i x σ H1 hi ⟨y3, y4, bxs, rfl, s1, hL, db, gl, gr⟩
      have il : i < fxs.length := (List.getElem?_eq_some_iff.mp hi).1
      obtain ⟨f, hf, df⟩ := (s1.denL hfx).mback hi
      have fok := ok f (List.mem_of_getElem? hf)
      obtain ⟨p, r, rfl, hp, hr0⟩ := den_fact.mp df
      have eg : groupsL S (fs.take (i + 1)) = addL S (groupsL S (fs.take i)) f := by rw [take_snoc hf, groupsL_snoc]
      have gl2 : (groupsL S (fs.take (i + 1))).length ≤ i + 1 := by rw [eg]; exact Nat.le_trans (addL_len _ _) (Nat.succ_le_succ gl)
      have gr2 : ∀ b ∈ groupsL S (fs.take (i + 1)), b.2.2.length ≤ i + 1 := by rw [eg]; exact addL_rows gr
      refine ⟨sv, rfl, .ref p, rfl, sv, .ref p, S, f, rfl, s1.den hS, df, fok, fun v H2 s2 dv => ?_⟩
      obtain ⟨kp, rfl, hk⟩ := den_row.mp dv
      have s12 := s1.trans s2
      have hL2 := s2.same _ _ hL
      have hp2 := s2.same _ _ hp
      have hr2 := s2.same _ _ hr0
      have db2 := s2.denL db
      have bl : bxs.length = (groupsL S (fs.take i)).length := db2.mlen
      -- a new block at the end
      have fresh : groupsL S (fs.take (i + 1)) = groupsL S (fs.take i) ++ [(f.1, keyOf S f, [f.2])] → ∀ H3 (u p2 : Addr), EM.St none H2 H3 → H3 u = none → (upd H3 u (.tup [.ref r])) p2 = none →
          (upd (upd H3 u (.tup [.ref r])) p2 (.tup [.str f.1, .ref kp, .ref u])) L = some (.lst bxs) ∧ ∃ (y3 y4 : Option V) (bxs' : List V), [some sv, some (.ref fp), some (.ref L), some (.ref p), some (.ref kp)] = [some sv, some (.ref fp), some (.ref L), y3, y4] ∧ EM.St none H (upd (upd (upd H3 u (.tup [.ref r])) p2 (.tup [.str f.1, .ref kp, .ref u])) L (.lst (bxs ++ [.ref p2]))) ∧
            (upd (upd (upd H3 u (.tup [.ref r])) p2 (.tup [.str f.1, .ref kp, .ref u])) L (.lst (bxs ++ [.ref p2]))) L = some (.lst bxs') ∧ DenL (upd (upd (upd H3 u (.tup [.ref r])) p2 (.tup [.str f.1, .ref kp, .ref u])) L (.lst (bxs ++ [.ref p2]))) ((groupsL S (fs.take (i + 1))).map eBlock) bxs' ∧
            (groupsL S (fs.take (i + 1))).length ≤ i + 1 ∧ (∀ b ∈ groupsL S (fs.take (i + 1)), b.2.2.length ≤ i + 1) := by
        intro e H3 u p2 s3 nu np2
        have hL3 := s3.same _ _ hL2
        have hp3 := s3.same _ _ hp2
        have Lu : L ≠ u := ne_of_none hL3 nu
        have eL1 : (upd H3 u (.tup [.ref r])) L = some (.lst bxs) := by rw [upd_ne Lu]; exact hL3
        have Lp2 : L ≠ p2 := ne_of_none eL1 np2
        have up2 : u ≠ p2 := ne_of_none upd_same np2
        have eL2 : (upd (upd H3 u (.tup [.ref r])) p2 (.tup [.str f.1, .ref kp, .ref u])) L = some (.lst bxs) := by rw [upd_ne Lp2]; exact eL1
        have tk : TK H3 (upd (upd (upd H3 u (.tup [.ref r])) p2 (.tup [.str f.1, .ref kp, .ref u])) L (.lst (bxs ++ [.ref p2]))) := ((TK.new nu).trans (.new np2)).trans (.lst eL2)
        refine ⟨eL2, _, _, _, rfl, (((s12.trans s3).trans (St.new nu)).trans (St.new np2)).mut nL, upd_same, ?_, gl2, gr2⟩
        rw [e]
        refine (DenL.tk (s3.tup.trans tk) _ _ db2).msnoc (den_block.mpr ⟨p2, kp, u, [.ref r], rfl, ?_, tk _ _ (s3.same _ _ hk), ?_, DenL.one (den_row.mpr ⟨r, rfl, tk _ _ (s3.same _ _ hr2)⟩)⟩)
        · rw [upd_ne Lp2.symm, upd_same]
        · rw [upd_ne Lu.symm, upd_ne up2, upd_same]
      rcases snoc_cases (groupsL S (fs.take i)) with e0 | ⟨m, b, e0⟩
      · rw [e0] at db2 bl
        refine ⟨.ref L, rfl, L, _, rfl, .inl (SqL.of hL2), _, _, rfl, rfl, _, rfl, ite2 (fun e => ?_) (fun e => iteF ?_)⟩
        · have := of_decide_eq_true e
          rw [bl] at this
          exact absurd this (by decide)
        · refine ⟨.ref L, rfl, .inl ⟨rfl, _, SqL.of hL2⟩, .ref p, rfl, p, _, 0, _, rfl, rfl, SqT.of hp2, atI_nat (j := 0) rfl, _, rfl, .ref p, rfl, p, _, 1, _, rfl, rfl, SqT.of hp2, atI_nat (j := 1) rfl, sz_le (by show 1 ≤ 10000000; decide), fun u nu => ⟨sz_le (by show 3 ≤ 10000000; decide), fun p2 np2 => ?_⟩⟩
          obtain ⟨eL, rest⟩ := fresh (by rw [eg, e0]; rfl) H2 u p2 (.refl _ _) nu np2
          exact ⟨L, _, _, rfl, rfl, eL, sz_lt (by rw [bl]; decide), rest⟩
      · rw [e0] at db2 bl
        obtain ⟨ys, y, rfl, dys, dy⟩ := db2.msplit
        obtain ⟨bp, bq, br, brx, rfl, hbp, hbq, hbr, dbr⟩ := den_block.mp dy
        refine ⟨.ref L, rfl, L, _, rfl, .inl (SqL.of hL2), _, _, rfl, rfl, _, rfl, ite2 (fun e => ?_) (fun e => ?_)⟩
        · refine ⟨.ref L, rfl, 1, rfl, L, _, _, _, rfl, rfl, SqL.of hL2, atI_last ys _, 2, rfl, bp, _, rfl, SqT.of hbp, fun hw => ?_, fun _ sl nsl => ?_⟩
          · have h2 := hw.2
            rw [show (2 : Int) = ((2 : Nat) : Int) from rfl, HT.sIx_nat, show ([V.str b.1, V.ref bq, V.ref br] : List V).length = 3 from rfl] at h2
            omega
          rw [show (2 : Int) = ((2 : Nat) : Int) from rfl, cut_take]
          have sl1 : EM.St none H2 (upd H2 sl (.tup [.str b.1, .ref bq])) := St.new nsl
          have hp3 := sl1.same _ _ hp2
          refine ⟨.ref p, rfl, p, _, 0, _, rfl, rfl, SqT.of hp3, atI_nat (j := 0) rfl, .ref kp, rfl, sz_le (by show 2 ≤ 10000000; decide), fun pl npl => ?_⟩
          have sp1 : EM.St none H2 (upd (upd H2 sl (.tup [.str b.1, .ref bq])) pl (.tup [.str f.1, .ref kp])) := sl1.trans (St.new npl)
          have slpl : sl ≠ pl := ne_of_none upd_same npl
          refine ⟨.tuple [.str b.1, eRow b.2.1], .tuple [.str f.1, eRow (keyOf S f)], Den.dp _ _ (noL_fact (b.1, b.2.1)) (den_2.mpr ⟨sl, _, _, rfl, by rw [upd_ne slpl, upd_same]; rfl, den_str.mpr rfl, den_row.mpr ⟨bq, rfl, sp1.same _ _ hbq⟩⟩),
            Den.dp _ _ (noL_fact (f.1, keyOf S f)) (den_2.mpr ⟨pl, _, _, rfl, upd_same, den_str.mpr rfl, den_row.mpr ⟨kp, rfl, sp1.same _ _ hk⟩⟩), lay_fact (b.1, b.2.1), lay_fact (f.1, keyOf S f), Nat.le_trans (dep_fact (b.1, b.2.1)) (by decide), _, rfl, ?_⟩
          rw [eqv_place]
          have hL4 := sp1.same _ _ hL2
          have hp4 := sp1.same _ _ hp2
          refine ite2 (fun e => ?_) (fun e => ?_)
          · have e' := of_decide_eq_true e
            have hbp4 := sp1.same _ _ hbp
            have hbr4 := sp1.same _ _ hbr
            have dbr4 := sp1.denL dbr
            have rl := dbr.mlen
            have bmem : b ∈ groupsL S (fs.take i) := by rw [e0]; exact List.mem_append_right _ (List.mem_singleton.mpr rfl)
            have bne : brx ≠ [] := fun z => groupsL_ne _ b bmem (List.eq_nil_of_length_eq_zero (by rw [← rl, z]; rfl))
            have brl := gr b bmem
            refine ⟨.ref p, rfl, p, _, 0, _, rfl, rfl, SqT.of hp4, atI_nat (j := 0) rfl, .ref kp, rfl, .ref L, rfl, 1, rfl, L, _, _, _, rfl, rfl, SqL.of hL4, atI_last ys _, bp, _, 2, _, rfl, rfl, SqT.of hbp4, atI_nat (j := 2) rfl, .ref p, rfl, p, _, 1, _, rfl, rfl, SqT.of hp4, atI_nat (j := 1) rfl, sz_le (by show 1 ≤ 10000000; decide), fun u nu => ?_⟩
            have su : EM.St none _ (upd (upd (upd H2 sl (.tup [.str b.1, .ref bq])) pl (.tup [.str f.1, .ref kp])) u (.tup [.ref r])) := St.new nu
            refine ⟨br, u, brx, [.ref r], rfl, rfl, SqT.of (su.same _ _ hbr4), SqT.of upd_same, sz_le (by rw [rl, List.length_singleton]; omega), fun z => absurd z bne, fun _ z => (by cases z), fun _ _ nr nnr => ⟨sz_le (by show 3 ≤ 10000000; decide), fun p2 np2 => ?_⟩⟩
            have s3 := sp1.trans (su.trans (St.new (o := .tup (brx ++ [.ref r])) nnr))
            have s4 := s3.trans (St.new (o := .tup [.str f.1, .ref kp, .ref nr]) np2)
            have hL5 := s4.same _ _ hL2
            have nrp2 : nr ≠ p2 := ne_of_none upd_same np2
            have ixl : ixN (ys ++ [V.ref bp]).length (-1) = some ys.length := by
              unfold ixN
              rw [if_neg (by decide), List.length_append, List.length_singleton, if_pos (by omega)]
              congr 1
              omega
            refine ⟨.ref L, rfl, 1, rfl, L, _, _, ys.length, rfl, rfl, hL5, ixl, ?_⟩
            have eset : (ys ++ [V.ref bp]).set ys.length (.ref p2) = ys ++ [.ref p2] := by simp
            rw [eset]
            have tk : TK H2 _ := s4.tup.trans (.lst (o := .lst (ys ++ [.ref p2])) hL5)
            refine ⟨_, _, ys ++ [.ref p2], rfl, (s12.trans s4).mut nL, upd_same, ?_, gl2, gr2⟩
            rw [eg, e0, addL_snoc, if_pos e']
            have Lp2 : p2 ≠ L := (ne_of_none (s3.same _ _ hL2) np2).symm
            have Lnr : nr ≠ L := (ne_of_none ((sp1.trans su).same _ _ hL2) nnr).symm
            refine (DenL.tk tk _ _ dys).msnoc (den_block.mpr ⟨p2, kp, nr, brx ++ [.ref r], rfl, ?_, tk _ _ hk, ?_, (DenL.tk tk _ _ dbr).msnoc (den_row.mpr ⟨r, rfl, tk _ _ hr2⟩)⟩)
            · rw [upd_ne Lp2, upd_same]
            · rw [upd_ne Lnr, upd_ne nrp2, upd_same]
          · have e' : ¬ (b.1, b.2.1) = (f.1, keyOf S f) := fun z => e (decide_eq_true z)
            refine ⟨.ref L, rfl, .inl ⟨rfl, _, SqL.of hL4⟩, .ref p, rfl, p, _, 0, _, rfl, rfl, SqT.of hp4, atI_nat (j := 0) rfl, _, rfl, .ref p, rfl, p, _, 1, _, rfl, rfl, SqT.of hp4, atI_nat (j := 1) rfl, sz_le (by show 1 ≤ 10000000; decide), fun u nu => ⟨sz_le (by show 3 ≤ 10000000; decide), fun p2 np2 => ?_⟩⟩
            obtain ⟨eL, rest⟩ := fresh (by rw [eg, e0, addL_snoc, if_neg e']) _ u p2 sp1 nu np2
            exact ⟨L, _, _, rfl, rfl, eL, sz_lt (by rw [e0] at gl; omega), rest⟩
        · rw [List.length_append] at e
          exact absurd (decide_eq_true (show (0 : Int) < ((ys.length + [V.ref bp].length : Nat) : Int) from by rw [List.length_singleton]; omega)) e
    · rintro σ H1 ⟨y3, y4, bxs, rfl, s1, hL, db, gl, gr⟩
      rw [fl, List.take_length] at db
      refine ⟨.ref L, rfl, L, bxs, rfl, .inl ⟨SqL.of hL, fun u nu => q _ _ (s1.trans (St.new nu)) ?_⟩⟩
      exact den_map.mpr ⟨u, bxs, rfl, upd_same, DenL.tk (.new nu) _ _ db⟩
end
end EM
/-! the law's mendings -/
namespace EM
open PySem PySem.Spec PyProof.Rows L2
theorem groupsL_few {S : List Tab} (l : List Fact) : (groupsL S l).length ≤ l.length ∧ ∀ b ∈ groupsL S l, b.2.2.length ≤ l.length := by
  refine snoc_ind (P := fun l => (groupsL S l).length ≤ l.length ∧ ∀ b ∈ groupsL S l, b.2.2.length ≤ l.length) ⟨Nat.le_refl _, fun b hb => by cases hb⟩ (fun l f ih => ?_) l
  rw [groupsL_snoc, List.length_append]
  exact ⟨Nat.le_trans (addL_len _ _) (Nat.succ_le_succ ih.1), addL_rows ih.2⟩
def mendStep (found : List (List Fact)) (b : Block) : List (List Fact) := found.flatMap fun m => b.2.2.map fun r => m ++ [(b.1, r)]
theorem mends_snoc (bs : List Block) (b : Block) : mends (bs ++ [b]) = mendStep (mends bs) b := by
  unfold mends
  rw [List.foldl_append]
  rfl
theorem flat_len {α β : Type} {f : α → List β} {n : Nat} : ∀ {l : List α}, (∀ a ∈ l, (f a).length ≤ n) → (l.flatMap f).length ≤ l.length * n
  | [], _ => Nat.zero_le _
  | a :: l, h => by
    rw [List.flatMap_cons, List.length_append, List.length_cons, Nat.succ_mul]
    have h1 := h a (.head _)
    have h2 := flat_len (l := l) fun b hb => h b (.tail _ hb)
    omega
theorem mends_len (bs : List Block) : (∀ b ∈ bs, b.2.2.length ≤ 7) → (mends bs).length ≤ 7 ^ bs.length := by
  refine snoc_ind (P := fun bs => (∀ b ∈ bs, b.2.2.length ≤ 7) → (mends bs).length ≤ 7 ^ bs.length) (fun _ => Nat.le_refl _) (fun l b ih h => ?_) bs
  rw [mends_snoc, List.length_append, List.length_singleton, Nat.pow_succ]
  have h1 := ih fun c hc => h c (List.mem_append_left _ hc)
  have h2 := h b (List.mem_append_right _ (List.mem_singleton.mpr rfl))
  unfold mendStep
  refine Nat.le_trans (flat_len (n := 7) fun m _ => by rw [List.length_map]; exact h2) (Nat.mul_le_mul_right 7 h1)
theorem mends_mem (bs : List Block) : ∀ m ∈ mends bs, m.length = bs.length := by
  refine snoc_ind (P := fun bs => ∀ m ∈ mends bs, m.length = bs.length) (fun m hm => by
    rw [show mends [] = [[]] from rfl, List.mem_singleton] at hm
    rw [hm]
    rfl) (fun l b ih m hm => ?_) bs
  rw [mends_snoc] at hm
  obtain ⟨m', h1, h2⟩ := List.mem_flatMap.mp hm
  obtain ⟨r, _, rfl⟩ := List.mem_map.mp h2
  rw [List.length_append, List.length_append, ih m' h1]
  rfl
theorem pow7 {n : Nat} (h : n ≤ 7) : 7 ^ n ≤ 823543 := Nat.le_trans (Nat.pow_le_pow_right (by decide) h) (by decide)
theorem flat_snoc {α β : Type} {f : α → List β} {l : List α} {i : Nat} {a : α} (h : l[i]? = some a) : (l.take (i + 1)).flatMap f = (l.take i).flatMap f ++ f a := by
  rw [take_snoc h, List.flatMap_append]
  simp
section
variable {P : Program} {w : World} {K : PySem.W.Frag} {mg : Str → Option Value} {base : Heap}
def spMendingsL : Sp := fun vs H Q _ => ∃ (sv fv : V) (S : List Tab) (fs : List Fact), vs = [sv, fv] ∧ Den H (eSchema S) sv ∧ Den H (eStore fs) fv ∧ (∀ f ∈ fs, FactOk S f) ∧ fs.length ≤ 7 ∧
  ∀ p xs H', EM.St none H H' → H' p = some (.lst xs) → DenL H' ((mends (groupsL S fs)).map eStore) xs → Q (.ref p) H'
theorem hasLMendings (T : Txt K mg) : Has P w K mg base 4 "_law_mendings" ["_law_schema_here", "_law_store_here"] spMendingsL := by
  refine T.dLMendings.has scLMendings (fun vs H Q E h => ?_) (fun f cdv A outer s H vs Q E hr h => ?_)
  · obtain ⟨sv, fv, S, fs, rfl, _⟩ := h
    rfl
  · obtain ⟨sv, fv, S, fs, rfl, hS, hF, ok, few, q⟩ := h
    obtain ⟨gl, gr⟩ := groupsL_few (S := S) fs
    refine ⟨_,
      (pss_cons (ps_set (i := 2) scLMendings.nd rfl (.inl rfl) (pe_lst (pa_cons (pe_tup pa_nil) pa_nil)))
      (pss_cons (ps_for PassesOwn.never rfl (itT K (pe_own (hasLBlocks T) hr (by decide) (by rfl) (pa_cons (pv 0) (pa_cons (pv 1) pa_nil)))) (pg_name (i := 3) scLMendings.nd rfl (Or.inr rfl))
        (pss_cons (ps_set (i := 4) scLMendings.nd rfl (.inl rfl) (pe_lst pa_nil))
        (pss_cons (ps_for PassesOwn.never rfl (itL K (pv 2)) (pg_name (i := 5) scLMendings.nd rfl (Or.inr rfl))
          (pss_one (ps_cut (ps_set (i := 4) scLMendings.nd rfl (.inl rfl) (pe_op op_cat (pv 4) (pe_lc (own := [("_law_row", 6)]) (g := (gName 6)) (tt := tYes) rfl scLMendings.nd (itT K (pe_ix (ixT K) (pv 3) pe_int (fun _ _ => rfl))) (blkOk_by (N := nmLMendings) (sc := defScope stLMendings) (by decide +kernel)) (fun _ _ _ _ _ => (pg_name (i := 6) scLMendings.nd rfl (Or.inl rfl))) (fun _ _ _ _ _ => pts_nil) (fun _ _ _ _ _ => (pe_op (catT K) (pv 5) (pe_tup (pa_cons (pe_tup (pa_cons (pe_ix (ixT K) (pv 3) pe_int (fun _ _ => rfl)) (pa_cons (pv 6) pa_nil))) pa_nil))))))))))
        (pss_one (ps_set (i := 2) scLMendings.nd rfl (.inl rfl) (pv 4))))))
      (pss_one (ps_ret (pv 2))))), ?_⟩
    refine ⟨sz_le (by show 0 ≤ 10000000; decide), fun e0 ne0 => ⟨sz_le (by show 1 ≤ 10000000; decide), fun L0 nL0 => ?_⟩⟩
    have s0 : EM.St none H (upd (upd H e0 (.tup [])) L0 (.lst [.ref e0])) := (St.new ne0).trans (St.new nL0)
    have eL0 : e0 ≠ L0 := ne_of_none upd_same nL0
    have d0 : DenL (upd (upd H e0 (.tup [])) L0 (.lst [.ref e0])) (([[]] : List (List Fact)).map eStore) [.ref e0] := DenL.one (den_map.mpr ⟨e0, [], rfl, by rw [upd_ne eL0, upd_same], .nil⟩)
    generalize hH0 : upd (upd H e0 (.tup [])) L0 (.lst [.ref e0]) = H0 at s0 d0 ⊢
    have hL0 : H0 L0 = some (.lst [.ref e0]) := by rw [← hH0, upd_same]
    refine ⟨sv, rfl, fv, rfl, sv, fv, S, fs, rfl, s0.den hS, s0.den hF, ok, by omega, fun bv H1 s1 dbv => ?_⟩
    obtain ⟨bp, bxs, rfl, hbp, dbx⟩ := den_map.mp dbv
    have bl : bxs.length = (groupsL S fs).length := dbx.mlen
    generalize groupsL S fs = gs at dbx bl gl gr q
    refine ⟨bp, rfl, ⟨_, SqT.of hbp⟩, for_tup (K := K) (a := bp) (xs := bxs) (fun i σ H' => ∃ (y3 y4 y5 : Option V) (L : Addr) (xs : List V), σ = [some sv, some fv, some (.ref L), y3, y4, y5, none] ∧ EM.St none H1 H' ∧ H' L = some (.lst xs) ∧ DenL H' ((mends (gs.take i)).map eStore) xs)
      ⟨none, none, none, L0, _, rfl, .refl _ _, s1.same _ _ hL0, s1.denL d0⟩ (fun i σ H' _ h => by obtain ⟨_, _, _, _, _, _, s', _⟩ := h; exact SqT.of (s'.same _ _ hbp)) ?_ ?_⟩
    · rintro i x σ H2 hi ⟨y3, y4, y5, L, xs, rfl, s2, hL, dL⟩
      have il : i < bxs.length := (List.getElem?_eq_some_iff.mp hi).1
      obtain ⟨b, hb, db⟩ := (s2.denL dbx).mback hi
      have brl := gr b (List.mem_of_getElem? hb)
      obtain ⟨p, bq, br, brx, rfl, hp, hbq, hbr, dbr⟩ := den_block.mp db
      have rl : brx.length = b.2.2.length := dbr.mlen
      have ml : (mends (gs.take i)).length ≤ 823543 := Nat.le_trans (mends_len _ fun c hc => Nat.le_trans (gr c (List.mem_of_mem_take hc)) few) (pow7 (by rw [List.length_take]; omega))
      have xl : xs.length = (mends (gs.take i)).length := dL.mlen
      have eg : mends (gs.take (i + 1)) = mendStep (mends (gs.take i)) b := by rw [take_snoc hb, mends_snoc]
      have mlen : ∀ m ∈ mends (gs.take i), m.length ≤ 7 := fun m hm => by
        rw [mends_mem _ m hm, List.length_take]
        omega
      generalize mends (gs.take i) = ms at dL ml xl eg mlen
      refine ⟨Nat.zero_le _, fun G0 nG0 => ?_⟩
      have hL3 : (upd H2 G0 (.lst [])) L = some (.lst xs) := by rw [upd_ne (ne_of_none hL nG0)]; exact hL
      refine ⟨.ref L, rfl, L, rfl, ⟨_, SqL.of hL3⟩, for_list (K := K) (a := L) (xs := xs) (fun j σ H' => ∃ (y5 : Option V) (G : Addr) (gxs : List V), σ = [some sv, some fv, some (.ref L), some (.ref p), some (.ref G), y5, none] ∧ EM.St none H2 H' ∧ H' G = some (.lst gxs) ∧
          DenL H' (((ms.take j).flatMap fun m => b.2.2.map fun r => m ++ [(b.1, r)]).map eStore) gxs)
        ⟨_, G0, [], rfl, St.new nG0, upd_same, .nil⟩ (fun j σ H' _ h => by obtain ⟨_, _, _, _, s', _⟩ := h; exact SqL.of (s'.same _ _ hL)) ?_ ?_⟩
      · rintro j x σ H3 hj ⟨z5, G, gxs, rfl, s3, hG, dG⟩
        have jl : j < xs.length := (List.getElem?_eq_some_iff.mp hj).1
        obtain ⟨m, hm, dm⟩ := (s3.denL dL).mback hj
        obtain ⟨mp, mxs, rfl, hmp, dmx⟩ := den_map.mp dm
        have gxl : gxs.length ≤ 823543 * 7 := by
          rw [dG.mlen]
          refine Nat.le_trans (flat_len (n := 7) fun m _ => by rw [List.length_map]; omega) (Nat.mul_le_mul_right 7 ?_)
          rw [List.length_take]
          omega
        have hp3 := s3.same _ _ hp
        have hbr3 := s3.same _ _ hbr
        have dbr3 := s3.denL dbr
        refine ⟨fun σ' H' => ∃ (y5 : Option V) (G : Addr) (gxs : List V), σ' = [some sv, some fv, some (.ref L), some (.ref p), some (.ref G), y5, none] ∧ EM.St none H2 H' ∧ H' G = some (.lst gxs) ∧ DenL H' (((ms.take (j + 1)).flatMap fun m => b.2.2.map fun r => m ++ [(b.1, r)]).map eStore) gxs, ?_, fun σ' H' h => h⟩
        refine ⟨.ref G, rfl, .ref p, rfl, p, _, 2, _, rfl, rfl, SqT.of hp3, atI_nat (j := 2) rfl, br, rfl, ⟨_, SqT.of hbr3⟩, gather (m := none) wkT (fun H s => SqT.of (s.same _ _ hbr3)) (fun b z => nomatch z) (by omega)
          (fun i v H => ∀ r, b.2.2[i]? = some r → Den H (eStore (m ++ [(b.1, r)])) v) (fun i v H H' t h r e => Den.tk t _ _ (h r e)) (fun k x H4 hk hx s4 R kk => ?_) (fun D dxs H4 s4 nD hD hl hpd => ?_) gname_mono⟩
        · obtain ⟨r, hr', dr⟩ := (s4.denL dbr3).mback hx
          obtain ⟨rp, rfl, hrp⟩ := den_row.mp dr
          refine ⟨rfl, .ref mp, rfl, .ref p, rfl, p, _, 0, _, rfl, rfl, SqT.of (s4.same _ _ hp3), atI_nat (j := 0) rfl, .ref rp, rfl, sz_le (by show 2 ≤ 10000000; decide), fun u nu => ⟨sz_le (by show 1 ≤ 10000000; decide), fun u2 nu2 => ?_⟩⟩
          have uu2 : u ≠ u2 := ne_of_none upd_same nu2
          have su : EM.St none H4 (upd (upd H4 u (.tup [.str b.1, .ref rp])) u2 (.tup [.ref u])) := (St.new nu).trans (St.new nu2)
          have hmp6 := su.same _ _ (s4.same _ _ hmp)
          have dmx6 := su.denL (s4.denL dmx)
          have df : Den (upd (upd H4 u (.tup [.str b.1, .ref rp])) u2 (.tup [.ref u])) (eFact (b.1, r)) (.ref u) := den_fact.mpr ⟨u, rp, rfl, by rw [upd_ne uu2, upd_same], su.same _ _ hrp⟩
          have mxl := dmx.mlen
          have m7 := mlen m (List.mem_of_getElem? hm)
          refine ⟨mp, u2, mxs, [.ref u], rfl, rfl, SqT.of hmp6, SqT.of upd_same, sz_le (by rw [List.length_singleton]; omega), fun z => kk _ _ su fun r' hr2 => ?_, fun _ z => (by cases z), fun _ _ p2 np2 => kk _ _ (su.trans (St.new np2)) fun r' hr2 => ?_⟩
          · rw [hr'] at hr2
            obtain rfl := Option.some.inj hr2
            have em : m = [] := List.eq_nil_of_length_eq_zero (by rw [← mxl, z]; rfl)
            subst em
            exact den_map.mpr ⟨u2, _, rfl, upd_same, DenL.one df⟩
          · rw [hr'] at hr2
            obtain rfl := Option.some.inj hr2
            exact den_map.mpr ⟨p2, _, rfl, upd_same, DenL.tk (.new np2) _ _ (dmx6.msnoc df)⟩
        · have hG4 := s4.same _ _ hG
          have dxl : DenL H4 ((b.2.2.map fun r => m ++ [(b.1, r)]).map eStore) dxs := by
            refine DenL.of_get (by rw [List.length_map, List.length_map]; omega) fun k d x h1 h2 => ?_
            rw [List.getElem?_map, List.getElem?_map] at h1
            cases q1 : b.2.2[k]? with
            | none => rw [q1] at h1; cases h1
            | some r =>
              rw [q1] at h1
              obtain rfl := Option.some.inj h1
              exact hpd k x h2 r q1
          refine ⟨G, D, gxs, dxs, rfl, rfl, hG4, hD, sz_le (by omega), fun p2 np2 => ⟨_, p2, _, rfl, (s3.trans s4).trans (St.new np2), upd_same, ?_⟩⟩
          rw [flat_snoc hm, List.map_append]
          exact (DenL.tk (s4.tup.trans (.new np2)) _ _ dG).append (DenL.tk (.new np2) _ _ dxl)
      · rintro σ H3 ⟨z5, G, gxs, rfl, s3, hG, dG⟩
        rw [xl, List.take_length] at dG
        refine ⟨_, rfl, _, _, _, G, gxs, rfl, s2.trans s3, hG, ?_⟩
        rw [eg]
        exact dG
    · rintro σ H2 ⟨y3, y4, y5, L, xs, rfl, s2, hL, dL⟩
      rw [bl, List.take_length] at dL
      exact ⟨_, rfl, q L xs H2 ((s0.trans s1).trans s2) hL dL⟩
end
end EM
/-! the law's valuations -/
namespace EM
open PySem PySem.Spec PyProof.Rows L2
/-- a mapping as a list of pairs -/
def MapL (H : Hp) (m : Mapping) (v : V) : Prop := ∃ p ys, v = .ref p ∧ H p = some (.lst ys) ∧ DenL H (m.map ePair) ys
theorem MapL.st {H H' : Hp} {m : Mapping} {v : V} (s : EM.St none H H') (h : MapL H m v) : MapL H' m v := by
  obtain ⟨p, ys, e, hp, d⟩ := h
  exact ⟨p, ys, e, s.same _ _ hp, s.denL d⟩
theorem MapL.upd {H : Hp} {G : Addr} {xs : List V} {o : HO} {m : Mapping} {v : V} (hG : H G = some (.lst xs)) (n : v ≠ .ref G) (h : MapL H m v) : MapL (upd H G o) m v := by
  obtain ⟨p, ys, e, hp, d⟩ := h
  refine ⟨p, ys, e, ?_, DenL.tk (.lst hG) _ _ d⟩
  rw [upd_ne]
  · exact hp
  · intro z
    rw [e, z] at n
    exact n rfl
def MapsL (H : Hp) (ms : List Mapping) (xs : List V) : Prop := xs.length = ms.length ∧ ∀ (i : Nat) (m : Mapping) (v : V), ms[i]? = some m → xs[i]? = some v → MapL H m v
theorem MapsL.st {H H' : Hp} {ms : List Mapping} {xs : List V} (s : EM.St none H H') (h : MapsL H ms xs) : MapsL H' ms xs := ⟨h.1, fun i m v h1 h2 => (h.2 i m v h1 h2).st s⟩
theorem MapsL.snoc {H : Hp} {ms : List Mapping} {xs : List V} {m : Mapping} {v : V} (h : MapsL H ms xs) (hv : MapL H m v) : MapsL H (ms ++ [m]) (xs ++ [v]) := by
  refine ⟨by rw [List.length_append, List.length_append, h.1]; rfl, fun i m' v' h1 h2 => ?_⟩
  by_cases hi : i < ms.length
  · rw [List.getElem?_append_left hi] at h1
    rw [List.getElem?_append_left (by rw [h.1]; exact hi)] at h2
    exact h.2 i m' v' h1 h2
  · have e : i = ms.length := by
      have := (List.getElem?_eq_some_iff.mp h1).1
      rw [List.length_append, List.length_singleton] at this
      omega
    subst e
    rw [List.getElem?_append_right (Nat.le_refl _)] at h1
    rw [List.getElem?_append_right (by rw [h.1]; exact Nat.le_refl _), h.1] at h2
    simp at h1 h2
    subst h1 h2
    exact hv
theorem MapsL.get {H : Hp} {ms : List Mapping} {xs : List V} (h : MapsL H ms xs) {i : Nat} {v : V} (e : xs[i]? = some v) : ∃ m, ms[i]? = some m ∧ MapL H m v := by
  have hi : i < xs.length := (List.getElem?_eq_some_iff.mp e).1
  obtain ⟨m, hm⟩ := a_get? (l := ms) (i := i) (by rw [← h.1]; exact hi)
  exact ⟨m, hm, h.2 i m v hm e⟩
theorem grow_len : ∀ {ts : List Tm} {vs : Row} {m m' : Mapping}, grow ts vs m = some m' → m'.length ≤ m.length + vs.length
  | [], _, m, m', h => by
    obtain rfl := Option.some.inj h
    exact Nat.le_add_right _ _
  | _ :: _, [], m, m', h => by
    obtain rfl := Option.some.inj h
    exact Nat.le_add_right _ _
  | t :: ts, v :: vs, m, m', h => by
    unfold grow at h
    split at h
    · have := grow_len h
      rw [List.length_append, List.length_singleton] at this
      rw [List.length_cons]
      omega
    · split at h
      · have := grow_len h
        rw [List.length_cons]
        omega
      · cases h
theorem grow_cons {t : Tm} {ts : List Tm} {v : Key} {vs : Row} {m : Mapping} : grow (t :: ts) (v :: vs) m = match putM m t with
    | .var x => grow ts vs (m ++ [(x, v)])
    | .val c => if c = v then grow ts vs m else none := by
  rw [grow] <;> (cases putM m t <;> rfl)
theorem scal_key (a b : Key) : scal (kV a) (kV b) = true := by cases a <;> cases b <;> rfl
theorem kV_eq {a b : Key} : kV a = kV b ↔ a = b := by
  constructor
  · intro h
    cases a <;> cases b <;> simp_all [kV]
  · intro h
    rw [h]
def growOut (H : Hp) (o : Option Mapping) (v : V) : Prop := match o with
  | none => v = .non
  | some m => MapL H m v
section
variable {P : Program} {w : World} {K : PySem.W.Frag} {mg : Str → Option Value} {base : Heap}
def spGrown : Sp := fun vs H Q _ => ∃ (av rv : V) (ml : Addr) (a : Atom) (r : Row) (m : Mapping), vs = [av, rv, .ref ml] ∧ Den H (eAtom a) av ∧ Den H (eRow r) rv ∧ a.2.length = r.length ∧ r.length ≤ 100 ∧ MapL H m (.ref ml) ∧ m.length ≤ 1000 ∧
  ∀ v H', EM.St none H H' → growOut H' (grow a.2 r m) v → (∀ p, v = .ref p → p = ml ∨ H p = none) → Q v H'
theorem hasLGrown (T : Txt K mg) : Has P w K mg base 2 "_law_grown" ["_law_atom_here", "_law_row", "_law_mapping"] spGrown := by
  refine T.dLGrown.has scLGrown (fun vs H Q E h => ?_) (fun f cdv A outer s H vs Q E hr h => ?_)
  · obtain ⟨av, rv, ml, a, r, m, rfl, _⟩ := h
    rfl
  · obtain ⟨av, rv, ml, a, r, m, rfl, hA, hR, hlen, hsm, hM, hml, q⟩ := h
    obtain ⟨ap, nx, tx, rfl, hap, dn, dt⟩ := den_2.mp hA
    obtain rfl := den_str.mp dn
    obtain ⟨tq, tqs, tqo, rfl, htq, hto, dtq⟩ := den_mapL.mp dt
    obtain ⟨rp, rfl, hrp⟩ := den_row.mp hR
    refine ⟨_,
      (pss_cons (ps_for PassesOwn.never rfl (pi_range1 (by rfl) T.mrange (pa_cons (pe_callB (lenS K) (by rfl) T.mlen PySem.boot_len (pa_cons (pv 1) pa_nil)) pa_nil)) (pg_name (i := 3) scLGrown.nd rfl (Or.inl rfl))
        (pss_cons (ps_set (i := 4) scLGrown.nd rfl (.inl rfl) (pe_own (hasLPut T) hr (by decide) (by rfl) (pa_cons (pe_ix (ixT K) (pe_ix (ixT K) (pv 0) pe_int (fun _ _ => rfl)) (pv 3) (fun _ _ => rfl)) (pa_cons (pv 2) pa_nil))))
        (pss_one (ps_if (pt_cmpR op_eq (pe_ix (ixT K) (pv 4) pe_int (fun _ _ => rfl)) pe_str (nomark _))
          (pss_one (ps_set (i := 2) scLGrown.nd rfl (.inl rfl) (pe_op op_cat (pv 2) (pe_lst (pa_cons (pe_tup (pa_cons (pe_ix (ixT K) (pv 4) pe_int (fun _ _ => rfl)) (pa_cons (pe_ix (ixT K) (pv 1) (pv 3) (fun _ _ => rfl)) pa_nil))) pa_nil)))))
          (pss_one (ps_if (pt_cmpR op_ne (pe_ix (ixT K) (pv 4) pe_int (fun _ _ => rfl)) (pe_ix (ixT K) (pv 1) (pv 3) (fun _ _ => rfl)) (nomark _))
            (pss_one (ps_ret pe_non))
            pss_nil))))))
      (pss_one (ps_ret (pv 2)))), ?_⟩
    refine ⟨.ref rp, rfl, rp, _, rfl, .inr (SqT.of hrp), _, rfl, by rw [List.length_map]; omega, by rw [List.length_map]; omega,
      for_range (lo := 0) (n := (((r.map kV).length : Nat) : Int).toNat) (fun i σ H' => ∃ (y3 y4 : Option V) (mk : Mapping) (l : Addr), σ = [some (.ref ap), some (.ref rp), some (.ref l), y3, y4] ∧ EM.St none H H' ∧ MapL H' mk (.ref l) ∧ (l = ml ∨ H l = none) ∧ mk.length ≤ m.length + i ∧ grow a.2 r m = grow (a.2.drop i) (r.drop i) mk)
        ⟨none, none, m, ml, rfl, .refl _ _, hM, .inl rfl, Nat.le_refl _, rfl⟩ ?_ ?_⟩
    · rintro i σ H2 hi ⟨y3, y4, mk, l, rfl, s2, hM2, hl, mkl, eg⟩
      rw [Int.toNat_natCast, List.length_map] at hi
      have e0 : (0 : Int) + (i : Int) = (i : Int) := Int.zero_add _
      obtain ⟨t, ht⟩ := a_get? (l := a.2) (i := i) (by omega)
      obtain ⟨k, hk⟩ := a_get? (l := r) (i := i) hi
      obtain ⟨x, hx, dx⟩ := (s2.denL dtq).mget ht
      have hkk : (r.map kV)[i]? = some (kV k) := by rw [List.getElem?_map, hk]; rfl
      have edt : a.2.drop i = t :: a.2.drop (i + 1) := by
        rw [List.drop_eq_getElem_cons (by omega)]
        rw [List.getElem?_eq_getElem (by omega)] at ht
        rw [Option.some.inj ht]
      have edr : r.drop i = k :: r.drop (i + 1) := by
        rw [List.drop_eq_getElem_cons hi]
        rw [List.getElem?_eq_getElem hi] at hk
        rw [Option.some.inj hk]
      rw [edt, edr, grow_cons] at eg
      have hM2' := hM2
      obtain ⟨p0, mys, ep, hmp, dmy⟩ := hM2'
      cases ep
      refine ⟨.ref ap, rfl, ap, _, 1, _, rfl, rfl, SqT.of (s2.same _ _ hap), atI_nat (j := 1) rfl, _, rfl, tq, _, _, _, rfl, rfl, SqT.z (s2.same _ _ htq), at_of e0 hx, .ref l, rfl, x, l, t, mk, mys, rfl, dx, hmp, dmy, fun v H3 s3 dv => ?_⟩
      obtain ⟨vp, rfl, hvp⟩ := den_tm.mp dv
      have s23 := s2.trans s3
      have hrp3 := s23.same _ _ hrp
      refine ⟨_, rfl, vp, _, 0, _, rfl, rfl, SqT.of hvp, atI_nat (j := 0) rfl, rfl, _, rfl, ?_⟩
      cases ep : putM mk t with
      | var z =>
        rw [ep] at hvp eg
        refine iteT ?_
        refine ⟨.ref l, rfl, .ref vp, rfl, vp, _, 1, _, rfl, rfl, SqT.of hvp, atI_nat (j := 1) rfl, .ref rp, rfl, _, rfl, rp, _, _, _, rfl, rfl, SqT.of hrp3, at_of e0 hkk, sz_le (by show 2 ≤ 10000000; decide), fun u nu => ⟨sz_le (by show 1 ≤ 10000000; decide), fun c nc => ?_⟩⟩
        have uc : u ≠ c := ne_of_none upd_same nc
        have su : EM.St none H3 (upd (upd H3 u (.tup [.str z, kV k])) c (.lst [.ref u])) := (St.new nu).trans (St.new nc)
        have hml3 := su.same _ _ (s3.same _ _ hmp)
        have dml3 := su.denL (s3.denL dmy)
        have myl := dmy.mlen
        refine ⟨l, c, mys, [.ref u], rfl, rfl, hml3, upd_same, sz_le (by rw [List.length_singleton]; omega), fun p2 np2 => ⟨_, _, mk ++ [(z, k)], p2, rfl, (s23.trans su).trans (St.new np2), ⟨p2, _, rfl, upd_same, ?_⟩, .inr ((s23.trans su).free0 np2), ?_, eg⟩⟩
        · exact DenL.tk (.new np2) _ _ (dml3.msnoc (den_pair.mpr ⟨u, rfl, by rw [upd_ne uc, upd_same]⟩))
        · rw [List.length_append, List.length_singleton]
          omega
      | val c =>
        rw [ep] at hvp eg
        refine iteF ?_
        refine ⟨_, rfl, vp, _, 1, _, rfl, rfl, SqT.of hvp, atI_nat (j := 1) rfl, .ref rp, rfl, _, rfl, rp, _, _, _, rfl, rfl, SqT.of hrp3, at_of e0 hkk, scal_key c k, _, rfl, ?_⟩
        dsimp only at eg
        by_cases e : c = k
        · rw [if_pos e] at eg
          rw [show decide (kV (Tm.val c).worth = kV k) = true from decide_eq_true (kV_eq.mpr e)]
          exact iteF ⟨_, _, mk, l, rfl, s23, hM2.st s3, hl, by omega, eg⟩
        · rw [if_neg e] at eg
          rw [show decide (kV (Tm.val c).worth = kV k) = false from decide_eq_false fun z => e (kV_eq.mp z)]
          refine iteT (q _ _ s23 ?_ fun p z => by cases z)
          rw [eg]
          exact rfl
    · rintro σ H2 ⟨y3, y4, mk, l, rfl, s2, hM2, hl, mkl, eg⟩
      rw [Int.toNat_natCast, List.length_map, List.drop_of_length_le (Nat.le_refl _), List.drop_of_length_le (by omega)] at eg
      refine ⟨_, rfl, q _ _ s2 ?_ fun p e => ?_⟩
      · rw [eg]
        exact hM2
      · cases e
        exact hl
end
end EM
namespace EM
open PySem PySem.Spec PyProof.Rows L2
def oneV (store : List Fact) (a : Atom) (m : Mapping) : List Mapping := (store.filter fun f => decide (f.1 = a.1)).filterMap fun f => grow a.2 f.2 m
theorem stepV_eq (store : List Fact) (found : List Mapping) (a : Atom) : stepV store found a = found.flatMap (oneV store a) := rfl
theorem oneV_snoc (l : List Fact) (f : Fact) (a : Atom) (m : Mapping) : oneV (l ++ [f]) a m = oneV l a m ++ (if f.1 = a.1 then (grow a.2 f.2 m).toList else []) := by
  unfold oneV
  rw [List.filter_append, List.filterMap_append]
  congr 1
  by_cases e : f.1 = a.1
  · rw [if_pos e, List.filter_cons_of_pos (by simpa using e)]
    cases q : grow a.2 f.2 m <;> simp [q]
  · rw [if_neg e, List.filter_cons_of_neg (by simpa using e)]
    rfl
theorem oneV_len (store : List Fact) (a : Atom) (m : Mapping) : (oneV store a m).length ≤ store.length := Nat.le_trans (List.length_filterMap_le _ _) (List.length_filter_le _ _)
theorem valsOf_len (store : List Fact) (as : List Atom) : (as.foldl (stepV store) [[]]).length ≤ store.length ^ as.length := by
  refine snoc_ind (P := fun as => (as.foldl (stepV store) [[]]).length ≤ store.length ^ as.length) (Nat.le_refl _) (fun l a ih => ?_) as
  rw [List.foldl_append, List.length_append, List.length_singleton, Nat.pow_succ]
  show (stepV store (l.foldl (stepV store) [[]]) a).length ≤ _
  rw [stepV_eq]
  exact Nat.le_trans (flat_len (n := store.length) fun m _ => oneV_len store a m) (Nat.mul_le_mul_right _ ih)
theorem valsOf_small (store : List Fact) {n : Nat} (h : ∀ f ∈ store, f.2.length ≤ n) (as : List Atom) : ∀ m ∈ as.foldl (stepV store) [[]], m.length ≤ n * as.length := by
  refine snoc_ind (P := fun as => ∀ m ∈ as.foldl (stepV store) [[]], m.length ≤ n * as.length) (fun m hm => ?_) (fun l a ih m hm => ?_) as
  · rw [show ([] : List Atom).foldl (stepV store) [[]] = [[]] from rfl, List.mem_singleton] at hm
    rw [hm]
    exact Nat.zero_le _
  · rw [List.foldl_append] at hm
    obtain ⟨m', h1, h2⟩ := List.mem_flatMap.mp (show m ∈ (l.foldl (stepV store) [[]]).flatMap (oneV store a) from hm)
    obtain ⟨f, h3, h4⟩ := List.mem_filterMap.mp h2
    have h5 := grow_len h4
    have h6 := ih m' h1
    have h7 := h f (List.mem_filter.mp h3).1
    rw [List.length_append, List.length_singleton, Nat.mul_succ]
    omega
theorem pow_few {n k : Nat} (h : n ≤ 7) (h2 : k ≤ 3) : n ^ k ≤ 343 := Nat.le_trans (Nat.pow_le_pow_left h k) (Nat.le_trans (Nat.pow_le_pow_right (by decide) h2) (by decide))
theorem MapsL.upd {H : Hp} {G : Addr} {gs : List V} {o : HO} {ms : List Mapping} {xs : List V} (h : MapsL H ms xs) (hG : H G = some (.lst gs)) (n : ∀ v ∈ xs, v ≠ .ref G) : MapsL (upd H G o) ms xs :=
  ⟨h.1, fun i m v h1 h2 => (h.2 i m v h1 h2).upd hG (n v (List.mem_of_getElem? h2))⟩
def FreshL (H : Hp) (xs : List V) : Prop := ∀ v ∈ xs, ∀ p, v = .ref p → H p = none
section
variable {P : Program} {w : World} {K : PySem.W.Frag} {mg : Str → Option Value} {base : Heap}
def spVals (MS : Hp → List Mapping → List V → Prop) : Sp := fun vs H Q _ => ∃ (fv jv : V) (S : List Tab) (n : Nat) (fs : List Fact) (j : Join), vs = [fv, jv] ∧ Den H (eStore fs) fv ∧ Den H (eJoin j) jv ∧ WfS S ∧ (∀ f ∈ fs, FactOk S f) ∧ fs.length ≤ 7 ∧ JoinOk S n j ∧
  ∀ p xs H', EM.St none H H' → H p = none → FreshL H xs → H' p = some (.lst xs) → MS H' (valsOf fs j) xs → Q (.ref p) H'
theorem hasLValuations (T : Txt K mg) : Has P w K mg base 3 "_law_valuations" ["_law_store_here", "_law_join_here"] (spVals MapsL) := by
  refine T.dLValuations.has scLValuations (fun vs H Q E h => ?_) (fun f cdv A outer s H vs Q E hr h => ?_)
  · obtain ⟨fv, jv, S, n, fs, j, rfl, _⟩ := h
    rfl
  · obtain ⟨fv, jv, S, n, fs, j, rfl, hF, hJ, wf, ok, few, jok, q⟩ := h
    obtain ⟨fp, fxs, rfl, hfp, hfx⟩ := den_map.mp hF
    obtain ⟨jp, jh, jb, rfl, hjp, djh, djb⟩ := den_2.mp hJ
    obtain ⟨bp, bxs, rfl, hbp, dbx⟩ := den_map.mp djb
    have fl : fxs.length = fs.length := hfx.mlen
    have bl : bxs.length = j.2.length := dbx.mlen
    have jfew := jok.few
    refine ⟨_,
      (pss_cons (ps_set (i := 2) scLValuations.nd rfl (.inl rfl) (pe_lst (pa_cons (pe_lst pa_nil) pa_nil)))
      (pss_cons (ps_for PassesOwn.never rfl (itT K (pe_ix (ixT K) (pv 1) pe_int (fun _ _ => rfl))) (pg_name (i := 3) scLValuations.nd rfl (Or.inl rfl))
        (pss_cons (ps_set (i := 4) scLValuations.nd rfl (.inl rfl) (pe_lst pa_nil))
        (pss_cons (ps_for PassesOwn.never rfl (itL K (pv 2)) (pg_name (i := 5) scLValuations.nd rfl (Or.inl rfl))
          (pss_one (ps_for PassesOwn.never rfl (itT K (pv 0)) (pg_name (i := 6) scLValuations.nd rfl (Or.inl rfl))
            (pss_one (ps_if (pt_cmpR op_eq (pe_ix (ixT K) (pv 6) pe_int (fun _ _ => rfl)) (pe_ix (ixT K) (pv 3) pe_int (fun _ _ => rfl)) (nomark _))
              (pss_cons (ps_set (i := 7) scLValuations.nd rfl (.inl rfl) (pe_own (hasLGrown T) hr (by decide) (by rfl) (pa_cons (pv 3) (pa_cons (pe_ix (ixT K) (pv 6) pe_int (fun _ _ => rfl)) (pa_cons (pv 5) pa_nil)))))
              (pss_one (ps_if (pt_cmpR op_notN (pv 7) pe_non (nomark _))
                (pss_one (ps_expr (pe_bm PySem.F.plainAttrs_list PySem.F.slot_list_append PySem.F.type_list_append mt_append (pv 4) (pa_cons (pv 7) pa_nil))))
                pss_nil)))
              pss_nil)))))
        (pss_one (ps_set (i := 2) scLValuations.nd rfl (.inl rfl) (pv 4))))))
      (pss_one (ps_ret (pv 2))))), ?_⟩
    refine ⟨Nat.zero_le _, fun e0 ne0 => ⟨sz_le (by show 1 ≤ 10000000; decide), fun L0 nL0 => ?_⟩⟩
    have s0 : EM.St none H (upd (upd H e0 (.lst [])) L0 (.lst [.ref e0])) := (St.new ne0).trans (St.new nL0)
    have eL0 : e0 ≠ L0 := ne_of_none upd_same nL0
    have m0 : MapsL (upd (upd H e0 (.lst [])) L0 (.lst [.ref e0])) [[]] [.ref e0] := MapsL.snoc (ms := []) (xs := []) ⟨rfl, fun i m v h => by simp at h⟩ ⟨e0, [], rfl, by rw [upd_ne eL0, upd_same], .nil⟩
    generalize hH0 : upd (upd H e0 (.lst [])) L0 (.lst [.ref e0]) = H0 at s0 m0 ⊢
    have hL0 : H0 L0 = some (.lst [.ref e0]) := by rw [← hH0, upd_same]
    refine ⟨.ref jp, rfl, jp, _, 1, _, rfl, rfl, SqT.of (s0.same _ _ hjp), atI_nat (j := 1) rfl, bp, rfl, ⟨_, SqT.of (s0.same _ _ hbp)⟩, for_tup (K := K) (a := bp) (xs := bxs) (fun i σ H' => ∃ (y3 y4 y5 y6 y7 : Option V) (L : Addr) (xs : List V), σ = [some (.ref fp), some (.ref jp), some (.ref L), y3, y4, y5, y6, y7] ∧ EM.St none H H' ∧ H L = none ∧ FreshL H xs ∧ H' L = some (.lst xs) ∧ MapsL H' ((j.2.take i).foldl (stepV fs) [[]]) xs)
      ⟨none, none, none, none, none, L0, _, rfl, s0, (St.new (m := none) ne0).free0 nL0, fun v hv p e => by
        rw [List.mem_singleton.mp hv] at e
        cases e
        exact ne0, hL0, m0⟩ (fun i σ H' _ h => by obtain ⟨_, _, _, _, _, _, _, _, s', _⟩ := h; exact SqT.of (s'.same _ _ hbp)) ?_ ?_⟩
    · rintro i x σ H2 hi ⟨y3, y4, y5, y6, y7, L, xs, rfl, s2, nL, fL, hL, dL⟩
      have il : i < bxs.length := (List.getElem?_eq_some_iff.mp hi).1
      obtain ⟨a, ha, da⟩ := (s2.denL dbx).mback hi
      have aok := jok.atoms a (List.mem_of_getElem? ha)
      have da0 := da
      obtain ⟨ap, nx, tx, rfl, hap, dn, dt⟩ := den_2.mp da
      obtain rfl := den_str.mp dn
      have ml : ((j.2.take i).foldl (stepV fs) [[]]).length ≤ 343 := Nat.le_trans (valsOf_len fs _) (pow_few few (by rw [List.length_take]; omega))
      have msm : ∀ m ∈ (j.2.take i).foldl (stepV fs) [[]], m.length ≤ 24 := fun m hm => by
        have := valsOf_small fs (n := 8) (fun f hf => by
          obtain ⟨t, ht, _, e⟩ := ok f hf
          have := wf.small t ht
          omega) (j.2.take i) m hm
        rw [List.length_take] at this
        omega
      have eg : (j.2.take (i + 1)).foldl (stepV fs) [[]] = ((j.2.take i).foldl (stepV fs) [[]]).flatMap (oneV fs a) := by
        rw [take_snoc ha, List.foldl_append]
        rfl
      generalize (j.2.take i).foldl (stepV fs) [[]] = ms at dL ml msm eg
      refine ⟨Nat.zero_le _, fun G nG => ?_⟩
      have s3 : EM.St none H2 (upd H2 G (.lst [])) := St.new nG
      refine ⟨.ref L, rfl, L, rfl, ⟨_, SqL.of (s3.same _ _ hL)⟩, for_list (K := K) (a := L) (xs := xs) (fun k σ H' => ∃ (y5 y6 y7 : Option V) (gxs : List V), σ = [some (.ref fp), some (.ref jp), some (.ref L), some (.ref ap), some (.ref G), y5, y6, y7] ∧ EM.St none H2 H' ∧ H' G = some (.lst gxs) ∧ (∀ v ∈ gxs, v ≠ .ref G) ∧ FreshL H gxs ∧ MapsL H' ((ms.take k).flatMap (oneV fs a)) gxs)
        ⟨_, _, _, [], rfl, s3, upd_same, fun v hv => (by cases hv), fun v hv => (by cases hv), ⟨rfl, fun i m v h => by simp at h⟩⟩ (fun j σ H' _ h => by obtain ⟨_, _, _, _, _, s', _⟩ := h; exact SqL.of (s'.same _ _ hL)) ?_ ?_⟩
      · rintro k x σ H3 hk ⟨z5, z6, z7, gxs, rfl, s4, hG, ngx, fG, dG⟩
        have kl : k < xs.length := (List.getElem?_eq_some_iff.mp hk).1
        obtain ⟨m, hm, dm⟩ := dL.get hk
        obtain ⟨mp, mys, rfl, hmp, dmy⟩ := dm
        have m24 := msm m (List.mem_of_getElem? hm)
        have mpG : mp ≠ G := ne_of_none hmp nG
        refine ⟨.ref fp, rfl, fp, rfl, ⟨_, SqT.of (s4.same _ _ (s2.same _ _ hfp))⟩, for_tup (K := K) (a := fp) (xs := fxs) (fun l σ H' => ∃ (y6 y7 : Option V) (gxs : List V), σ = [some (.ref fp), some (.ref jp), some (.ref L), some (.ref ap), some (.ref G), some (.ref mp), y6, y7] ∧ EM.St none H2 H' ∧ H' G = some (.lst gxs) ∧ (∀ v ∈ gxs, v ≠ .ref G) ∧ FreshL H gxs ∧ MapsL H' ((ms.take k).flatMap (oneV fs a) ++ oneV (fs.take l) a m) gxs)
          ⟨_, _, gxs, rfl, s4, hG, ngx, fG, by rw [show oneV (fs.take 0) a m = [] from rfl, List.append_nil]; exact dG⟩ (fun l σ H' _ h => by obtain ⟨_, _, _, _, s', _⟩ := h; exact SqT.of (s'.same _ _ (s2.same _ _ hfp))) ?_ ?_⟩
        · rintro l x σ H4 hl ⟨z6, z7, gxs, rfl, s5, hG, ngx, fG, dG⟩
          have ll : l < fxs.length := (List.getElem?_eq_some_iff.mp hl).1
          obtain ⟨f, hf, df⟩ := ((s2.trans s5).denL hfx).mback hl
          obtain ⟨p, r, rfl, hp, hr0⟩ := den_fact.mp df
          have fok := ok f (List.mem_of_getElem? hf)
          have eo : oneV (fs.take (l + 1)) a m = oneV (fs.take l) a m ++ (if f.1 = a.1 then (grow a.2 f.2 m).toList else []) := by rw [take_snoc hf, oneV_snoc]
          have gxl : gxs.length ≤ 343 * 7 + 7 := by
            rw [dG.1, List.length_append]
            have h1 := flat_len (f := oneV fs a) (n := 7) (l := ms.take k) fun m _ => Nat.le_trans (oneV_len fs a m) few
            have h2 := oneV_len (fs.take l) a m
            rw [List.length_take] at h1 h2
            have : (min k ms.length) * 7 ≤ 343 * 7 := Nat.mul_le_mul_right 7 (by omega)
            omega
          refine ⟨_, rfl, p, _, 0, _, rfl, rfl, SqT.of hp, atI_nat (j := 0) rfl, _, rfl, ap, _, 0, _, rfl, rfl, SqT.of (s5.same _ _ hap), atI_nat (j := 0) rfl, rfl, _, rfl, ite2 (fun e => ?_) (fun e => ?_)⟩
          · have e1 : f.1 = a.1 := V.str.inj (of_decide_eq_true e)
            have hlen : a.2.length = f.2.length := by
              obtain ⟨t, ht, hn, hlen⟩ := fok
              obtain ⟨t2, ht2, hn2, hlen2⟩ := aok
              have := wf.uniq ht ht2 (hn.trans (e1.trans hn2.symm))
              subst this
              omega
            have f8 : f.2.length ≤ 8 := by
              obtain ⟨t, ht, _, hlen⟩ := fok
              have := wf.small t ht
              omega
            rw [if_pos e1] at eo
            refine ⟨.ref ap, rfl, .ref p, rfl, p, _, 1, _, rfl, rfl, SqT.of hp, atI_nat (j := 1) rfl, .ref mp, rfl, .ref ap, .ref r, mp, a, f.2, m, rfl, s5.den da0, den_row.mpr ⟨r, rfl, hr0⟩, hlen, by omega, MapL.st s5 ⟨mp, mys, rfl, hmp, dmy⟩, by omega, fun v H5 s6 hv hfr => ?_⟩
            have hG5 := s6.same _ _ hG
            have dG5 := dG.st s6
            cases q1 : grow a.2 f.2 m with
            | none =>
              rw [q1] at hv eo
              obtain rfl : v = .non := hv
              refine ⟨_, rfl, rfl, _, rfl, ?_⟩
              rw [show (!decide (V.non = V.non)) = false from by simp]
              refine iteF ⟨_, _, gxs, rfl, s5.trans s6, hG5, ngx, fG, ?_⟩
              rw [eo, show (none : Option Mapping).toList = [] from rfl, List.append_nil]
              exact dG5
            | some m' =>
              rw [q1] at hv eo
              obtain ⟨p5, ys5, rfl, hp5, d5⟩ : MapL H5 m' v := hv
              have p5G : p5 ≠ G := by
                rcases hfr p5 rfl with e2 | e2
                · rw [e2]; exact mpG
                · exact (ne_of_none hG e2).symm
              have ng5 : V.ref p5 ≠ .ref G := fun z => p5G (V.ref.inj z)
              refine ⟨_, rfl, rfl, _, rfl, ?_⟩
              rw [show (!decide (V.ref p5 = V.non)) = true from by simp]
              refine iteT ⟨.ref G, rfl, .inl ⟨rfl, _, SqL.of hG5⟩, .ref p5, rfl, G, gxs, .ref p5, rfl, rfl, hG5, sz_lt (by omega), _, _, gxs ++ [.ref p5], rfl, (s5.trans s6).mut nG, upd_same, fun v hv => ?_, fun v hv p e => ?_, ?_⟩
              · rcases List.mem_append.mp hv with hv | hv
                · exact ngx v hv
                · rw [List.mem_singleton.mp hv]
                  exact ng5
              · rcases List.mem_append.mp hv with hv | hv
                · exact fG v hv p e
                · rw [List.mem_singleton.mp hv] at e
                  cases e
                  rcases hfr p5 rfl with e2 | e2
                  · rw [e2]
                    exact fL _ (List.mem_of_getElem? hk) mp rfl
                  · exact (s2.trans s5).free0 e2
              · rw [eo, show (some m').toList = [m'] from rfl, ← List.append_assoc]
                exact (dG5.upd hG5 ngx).snoc (MapL.upd hG5 ng5 ⟨p5, ys5, rfl, hp5, d5⟩)
          · have e1 : ¬ f.1 = a.1 := fun z => e (decide_eq_true (congrArg V.str z))
            rw [if_neg e1, List.append_nil] at eo
            refine ⟨_, _, gxs, rfl, s5, hG, ngx, fG, ?_⟩
            rw [eo]
            exact dG
        · rintro σ H4 ⟨z6, z7, gxs, rfl, s5, hG, ngx, fG, dG⟩
          rw [fl, List.take_length] at dG
          refine ⟨_, _, _, gxs, rfl, s5, hG, ngx, fG, ?_⟩
          rw [flat_snoc hm]
          exact dG
      · rintro σ H3 ⟨z5, z6, z7, gxs, rfl, s4, hG, ngx, fG, dG⟩
        rw [dL.1, List.take_length] at dG
        refine ⟨_, rfl, _, _, _, _, _, G, gxs, rfl, s2.trans s4, s2.free0 nG, fG, hG, ?_⟩
        rw [eg]
        exact dG
    · rintro σ H2 ⟨y3, y4, y5, y6, y7, L, xs, rfl, s2, nL, fL, hL, dL⟩
      rw [bl, List.take_length] at dL
      exact ⟨_, rfl, q L xs H2 s2 nL fL hL dL⟩
end
end EM
/-! the law's answers and sure rows -/
namespace EM
open PySem PySem.Spec PyProof.Rows L2
theorem groupsL_sub {S : List Tab} (l : List Fact) : ∀ b ∈ groupsL S l, ∀ r ∈ b.2.2, (b.1, r) ∈ l := by
  refine snoc_ind (P := fun l => ∀ b ∈ groupsL S l, ∀ r ∈ b.2.2, (b.1, r) ∈ l) (fun b hb => by cases hb) (fun l f ih c hc r hr => ?_) l
  rw [groupsL_snoc] at hc
  rcases snoc_cases (groupsL S l) with e | ⟨m, b, e⟩
  · rw [e, addL_nil, List.mem_singleton] at hc
    subst hc
    rw [List.mem_singleton.mp (show r ∈ [f.2] from hr)]
    exact List.mem_append_right _ (List.mem_singleton.mpr rfl)
  · rw [e, addL_snoc] at hc
    split at hc
    next q =>
      rcases List.mem_append.mp hc with hc | hc
      · exact List.mem_append_left _ (ih c (by rw [e]; exact List.mem_append_left _ hc) r hr)
      · rw [List.mem_singleton] at hc
        subst hc
        rcases List.mem_append.mp (show r ∈ b.2.2 ++ [f.2] from hr) with hr | hr
        · have := ih b (by rw [e]; exact List.mem_append_right _ (List.mem_singleton.mpr rfl)) r hr
          rw [(Prod.mk.inj q).1] at this
          exact List.mem_append_left _ this
        · rw [List.mem_singleton.mp hr]
          exact List.mem_append_right _ (List.mem_singleton.mpr rfl)
    next q =>
      rcases List.mem_append.mp hc with hc | hc
      · exact List.mem_append_left _ (ih c (by rw [e]; exact hc) r hr)
      · rw [List.mem_singleton] at hc
        subst hc
        rw [List.mem_singleton.mp (show r ∈ [f.2] from hr)]
        exact List.mem_append_right _ (List.mem_singleton.mpr rfl)
theorem mends_sub (bs : List Block) : ∀ m ∈ mends bs, ∀ f ∈ m, ∃ b ∈ bs, f.1 = b.1 ∧ f.2 ∈ b.2.2 := by
  refine snoc_ind (P := fun bs => ∀ m ∈ mends bs, ∀ f ∈ m, ∃ b ∈ bs, f.1 = b.1 ∧ f.2 ∈ b.2.2) (fun m hm f hf => ?_) (fun l b ih m hm f hf => ?_) bs
  · rw [show mends [] = [[]] from rfl, List.mem_singleton] at hm
    rw [hm] at hf
    cases hf
  · rw [mends_snoc] at hm
    obtain ⟨m', h1, h2⟩ := List.mem_flatMap.mp hm
    obtain ⟨r, hr, rfl⟩ := List.mem_map.mp h2
    rcases List.mem_append.mp hf with hf | hf
    · obtain ⟨c, hc, k⟩ := ih m' h1 f hf
      exact ⟨c, List.mem_append_left _ hc, k⟩
    · rw [List.mem_singleton.mp hf]
      exact ⟨b, List.mem_append_right _ (List.mem_singleton.mpr rfl), rfl, hr⟩
theorem mend_in {S : List Tab} {fs : List Fact} {m : List Fact} (h : m ∈ mends (groupsL S fs)) : ∀ f ∈ m, f ∈ fs := fun f hf => by
  obtain ⟨b, hb, e, hr⟩ := mends_sub _ m h f hf
  have := groupsL_sub fs b hb f.2 hr
  rw [← e] at this
  exact this
theorem rowsOf_len {store : List Fact} {qs : List Join} (few : store.length ≤ 7) (q3 : qs.length ≤ 3) (jk : ∀ j ∈ qs, j.2.length ≤ 3) : (rowsOf store qs).length ≤ 1029 := by
  have := flat_len (f := fun j : Join => (valsOf store j).map fun m => rowOf m j.1) (n := 343) (l := qs) fun j hj => by
    rw [List.length_map]
    exact Nat.le_trans (valsOf_len store j.2) (pow_few few (jk j hj))
  show (qs.flatMap _).length ≤ _
  omega
theorem rowsOf_wide {S : List Tab} {n : Nat} {store : List Fact} {qs : List Join} (q : QOk S n qs) : ∀ r ∈ rowsOf store qs, r.length = n := fun r hr => by
  obtain ⟨j, hj, h2⟩ := List.mem_flatMap.mp hr
  obtain ⟨m, _, rfl⟩ := List.mem_map.mp h2
  show (j.1.map _).length = n
  rw [List.length_map]
  exact (q.joins j hj).wide
section
variable {P : Program} {w : World} {K : PySem.W.Frag} {mg : Str → Option Value} {base : Heap}
def spAnsL : Sp := fun vs H Q _ => ∃ (S : List Tab) (fv qv : V) (n : Nat) (fs : List Fact) (qs : List Join), vs = [fv, qv] ∧ Den H (eStore fs) fv ∧ Den H (eQ n qs) qv ∧ WfS S ∧ (∀ f ∈ fs, FactOk S f) ∧ fs.length ≤ 7 ∧ QOk S n qs ∧ n ≤ 100 ∧
  ∀ (p : Addr) (zs : List V) (out : List Row) H', EM.St none H H' → H p = none → H' p = some (.lst zs) → DenL H' (out.map eRow) zs → Sorts (rowsOf fs qs) out → Q (.ref p) H'
theorem hasLAnswers (T : Txt K mg) : Has P w K mg base 6 "_law_answers" ["_law_store_here", "_law_question_here"] spAnsL := by
  refine T.dLAnswers.has scLAnswers (fun vs H Q E h => ?_) (fun f cdv A outer s H vs Q E hr h => ?_)
  · obtain ⟨S, fv, jv, n, fs, j, rfl, _⟩ := h
    rfl
  · obtain ⟨S, fv, qv, n, fs, qs, rfl, hF, hQ, wf, ok, few, qok, hn, q⟩ := h
    obtain ⟨qp, q1, q2, rfl, hqp, dq1, dq2⟩ := den_2.mp hQ
    obtain ⟨jp, jxs, rfl, hjp, djx⟩ := den_map.mp dq2
    have jl : jxs.length = qs.length := djx.mlen
    have q3 := qok.few
    refine ⟨_,
      (pss_cons (ps_set (i := 2) scLAnswers.nd rfl (.inl rfl) (pe_lst pa_nil))
      (pss_cons (ps_for PassesOwn.never rfl (itT K (pe_ix (ixT K) (pv 1) pe_int (fun _ _ => rfl))) (pg_name (i := 3) scLAnswers.nd rfl (Or.inl rfl))
        (pss_one (ps_for PassesOwn.never rfl (itL K (pe_own (hasLValuations T) hr (by decide) (by rfl) (pa_cons (pv 0) (pa_cons (pv 3) pa_nil)))) (pg_name (i := 4) scLAnswers.nd rfl (Or.inr rfl))
          (pss_one (ps_expr (pe_bm PySem.F.plainAttrs_list PySem.F.slot_list_append PySem.F.type_list_append mt_append (pv 2) (pa_cons (pe_callTy (tupOf K) (by rfl) T.mtuple (by decide +kernel) (pa_cons (pe_lc (own := [("_law_term_here", 5)]) (g := (gName 5)) (tt := tYes) rfl scLAnswers.nd (itT K (pe_ix (ixT K) (pv 3) pe_int (fun _ _ => rfl))) (blkOk_by (N := nmLAnswers) (sc := defScope stLAnswers) (by decide +kernel)) (fun _ _ _ _ _ => (pg_name (i := 5) scLAnswers.nd rfl (Or.inl rfl))) (fun _ _ _ _ _ => pts_nil) (fun _ _ _ _ _ => (pe_ix (ixT K) (pe_own (hasLPut T) hr (by decide) (by rfl) (pa_cons (pv 5) (pa_cons (pv 4) pa_nil))) pe_int (fun _ _ => rfl)))) pa_nil)) pa_nil)))))))
      (pss_one (ps_ret (pe_own (hasLSorted T) hr (by decide) (by rfl) (pa_cons (pv 2) pa_nil)))))), ?_⟩
    refine ⟨Nat.zero_le _, fun R nR => ?_⟩
    have s0 : EM.St none H (upd H R (.lst [])) := St.new nR
    refine ⟨.ref qp, rfl, qp, _, 1, _, rfl, rfl, SqT.of (s0.same _ _ hqp), atI_nat (j := 1) rfl, jp, rfl, ⟨_, SqT.of (s0.same _ _ hjp)⟩, for_tup (K := K) (a := jp) (xs := jxs) (fun i σ H' => ∃ (y3 y4 : Option V) (xs : List V), σ = [some fv, some (.ref qp), some (.ref R), y3, y4, none] ∧ EM.St none H H' ∧ H' R = some (.lst xs) ∧ DenL H' ((rowsOf fs (qs.take i)).map eRow) xs)
      ⟨none, none, [], rfl, s0, upd_same, .nil⟩ (fun i σ H' _ h => by obtain ⟨_, _, _, _, s', _⟩ := h; exact SqT.of (s'.same _ _ hjp)) ?_ ?_⟩
    · rintro i x σ H1 hi ⟨y3, y4, xs, rfl, s1, hR, dR⟩
      have il : i < jxs.length := (List.getElem?_eq_some_iff.mp hi).1
      obtain ⟨j, hj, dj⟩ := (s1.denL djx).mback hi
      have jok := qok.joins j (List.mem_of_getElem? hj)
      have dj0 := dj
      obtain ⟨p, hv, bv, rfl, hp, dh, db⟩ := den_2.mp dj
      obtain ⟨hp0, hxs, rfl, hhp, dhx⟩ := den_map.mp dh
      have hl : hxs.length = j.1.length := dhx.mlen
      have jw := jok.wide
      refine ⟨fv, rfl, .ref p, rfl, fv, .ref p, S, n, fs, j, rfl, s1.den hF, dj0, wf, ok, few, jok, fun vp vxs H2 s2 nvp fvx hvp dvx => ?_⟩
      have vpR : vp ≠ R := (ne_of_none hR nvp).symm
      have vxR : ∀ v ∈ vxs, v ≠ V.ref R := fun v hv e => ne_of_none hR (fvx v hv R e) rfl
      have s12 := s1.trans s2
      have vl : vxs.length = (valsOf fs j).length := dvx.1
      have v343 : (valsOf fs j).length ≤ 343 := Nat.le_trans (valsOf_len fs j.2) (pow_few few jok.few)
      have eg : rowsOf fs (qs.take (i + 1)) = rowsOf fs (qs.take i) ++ (valsOf fs j).map fun m => rowOf m j.1 := by
        unfold rowsOf
        rw [flat_snoc hj]
      have r0 : (rowsOf fs (qs.take i)).length ≤ 1029 := rowsOf_len few (by rw [List.length_take]; omega) fun j hj => (qok.joins j (List.mem_of_mem_take hj)).few
      refine ⟨vp, rfl, ⟨_, SqL.of hvp⟩, for_list (K := K) (a := vp) (xs := vxs) (fun k σ H' => ∃ (y4 : Option V) (xs : List V), σ = [some fv, some (.ref qp), some (.ref R), some (.ref p), y4, none] ∧ EM.St none H H' ∧ H' vp = some (.lst vxs) ∧ MapsL H' (valsOf fs j) vxs ∧ H' p = some (.tup [.ref hp0, bv]) ∧ H' hp0 = some (.tup hxs) ∧ DenL H' (j.1.map eTm) hxs ∧ H' R = some (.lst xs) ∧
          DenL H' ((rowsOf fs (qs.take i) ++ ((valsOf fs j).take k).map fun m => rowOf m j.1).map eRow) xs)
        ⟨_, xs, rfl, s12, hvp, dvx, s2.same _ _ hp, s2.same _ _ hhp, s2.denL dhx, s2.same _ _ hR, by rw [List.take_zero, List.map_nil, List.append_nil]; exact s2.denL dR⟩ (fun k σ H' _ h => by obtain ⟨_, _, _, _, hv, _⟩ := h; exact SqL.of hv) ?_ ?_⟩
      · rintro k x σ H3 hk ⟨y4, xs, rfl, s3, hvp, dvx, hp, hhp, dhx, hR, dR⟩
        have kl : k < vxs.length := (List.getElem?_eq_some_iff.mp hk).1
        obtain ⟨m, hm, dm⟩ := dvx.get hk
        obtain ⟨mp, mys, rfl, hmp, dmy⟩ := dm
        have xl : xs.length ≤ 1029 + 343 := by
          rw [dR.mlen, List.length_append, List.length_map, List.length_take]
          omega
        refine ⟨.ref R, rfl, .inl ⟨rfl, _, SqL.of hR⟩, .ref p, rfl, p, _, 0, _, rfl, rfl, SqT.of hp, atI_nat (j := 0) rfl, hp0, rfl, ⟨_, SqT.of hhp⟩, gather (m := none) wkT (fun H s => SqT.of (s.same _ _ hhp)) (fun b z => nomatch z) (by omega)
          (fun l v H => ∀ t, j.1[l]? = some t → v = kV (putM m t).worth) (fun l v H H' t h => h) (fun l x H4 hl hx s4 Rk kk => ?_) (fun D dxs H4 s4 nD hD hl hpd => ?_) gname_mono⟩
        · obtain ⟨t, ht, dt⟩ := (s4.denL dhx).mback hx
          refine ⟨rfl, x, rfl, .ref mp, rfl, x, mp, t, m, mys, rfl, dt, s4.same _ _ hmp, s4.denL dmy, fun v H5 s5 dv => ?_⟩
          obtain ⟨tp, rfl, htp⟩ := den_tm.mp dv
          refine ⟨tp, _, 1, _, rfl, rfl, SqT.of htp, atI_nat (j := 1) rfl, kk _ _ s5 fun t' ht' => ?_⟩
          rw [ht] at ht'
          rw [← Option.some.inj ht']
        · have ed : dxs = (rowOf m j.1).map kV := by
            refine List.ext_getElem? fun l => ?_
            unfold rowOf
            rw [List.getElem?_map, List.getElem?_map]
            cases q1 : j.1[l]? with
            | none =>
              rw [List.getElem?_eq_none]
              · rfl
              · have := List.getElem?_eq_none_iff.mp q1
                omega
            | some t =>
              have hl2 := (List.getElem?_eq_some_iff.mp q1).1
              obtain ⟨v, hv⟩ := a_get? (l := dxs) (i := l) (by omega)
              rw [hv, hpd l v hv t q1]
              rfl
          subst ed
          have hR4 := s4.same _ _ hR
          refine ⟨D, _, rfl, .inl ⟨SqL.of hD, fun u nu => ?_⟩⟩
          have Ru : R ≠ u := ne_of_none hR4 nu
          have su : EM.St none H4 (upd H4 u (.tup ((rowOf m j.1).map kV))) := St.new nu
          have hR5 := su.same _ _ hR4
          have s34 := s4.trans su
          have tk : TK H3 (upd (upd H4 u (.tup ((rowOf m j.1).map kV))) R (.lst (xs ++ [.ref u]))) := s34.tup.trans (.lst hR5)
          refine ⟨R, xs, .ref u, rfl, rfl, hR5, sz_lt (by omega), _, xs ++ [.ref u], rfl, (s3.trans s34).mut nR, by rw [upd_ne vpR]; exact s34.same _ _ hvp, (dvx.st s34).upd hR5 vxR, tk _ _ hp, tk _ _ hhp, DenL.tk tk _ _ dhx, upd_same, ?_⟩
          have el : rowsOf fs (qs.take i) ++ ((valsOf fs j).take (k + 1)).map (fun m => rowOf m j.1) = (rowsOf fs (qs.take i) ++ ((valsOf fs j).take k).map fun m => rowOf m j.1) ++ [rowOf m j.1] := by
            rw [take_snoc hm, List.map_append, ← List.append_assoc]
            rfl
          rw [el]
          refine (DenL.tk tk _ _ dR).msnoc (den_row.mpr ⟨u, rfl, ?_⟩)
          rw [upd_ne Ru.symm, upd_same]
      · rintro σ H3 ⟨y4, xs, rfl, s3, hvp, dvx, hp, hhp, dhx, hR, dR⟩
        rw [vl, List.take_length, ← eg] at dR
        exact ⟨_, _, xs, rfl, s3, hR, dR⟩
    · rintro σ H1 ⟨y3, y4, xs, rfl, s1, hR, dR⟩
      rw [jl, List.take_length] at dR
      refine ⟨.ref R, rfl, R, xs, rowsOf fs qs, rfl, hR, dR, fun r hr => by rw [rowsOf_wide qok r hr]; exact hn, Nat.le_trans (rowsOf_len few q3 fun j hj => (qok.joins j hj).few) (by decide), fun p zs out H2 s2 np hp dz so => q p zs out H2 (s1.trans s2) (s1.free0 np) hp dz so⟩
def spSureL : Sp := fun vs H Q _ => ∃ (S : List Tab) (sv fv qv : V) (n : Nat) (fs : List Fact) (qs : List Join), vs = [sv, fv, qv] ∧ Den H (eSchema S) sv ∧ Den H (eStore fs) fv ∧ Den H (eQ n qs) qv ∧ WfS S ∧ StoreOk S fs ∧ QOk S n qs ∧ n ≤ 100 ∧
  ∀ (p : Addr) (zs : List V) (out : List Row) H', EM.St none H H' → H' p = some (.lst zs) → DenL H' (out.map eRow) zs → SureL S fs qs out → Q (.ref p) H'
def inB (there : List Row) (r : Row) : Bool := there.any fun x => decide (x = r)
theorem inB_iff {there : List Row} {r : Row} : inB there r = true ↔ r ∈ there := by
  unfold inB
  rw [List.any_eq_true]
  constructor
  · rintro ⟨x, hx, e⟩
    rw [← of_decide_eq_true e]
    exact hx
  · intro h
    exact ⟨r, h, decide_eq_true rfl⟩
def keepB (there : List Row) (r : Row) : Option Row := if inB there r = true then some r else none
theorem keep_mem {out there : List Row} {r : Row} : r ∈ out.filterMap (keepB there) ↔ r ∈ out ∧ r ∈ there := by
  rw [List.mem_filterMap]
  unfold keepB
  constructor
  · rintro ⟨a, ha, e⟩
    by_cases q : inB there a = true
    · rw [if_pos q] at e
      obtain rfl := Option.some.inj e
      exact ⟨ha, inB_iff.mp q⟩
    · rw [if_neg q] at e
      cases e
  · rintro ⟨h1, h2⟩
    exact ⟨r, h1, if_pos (inB_iff.mpr h2)⟩
theorem keep_up {out there : List Row} (h : out.Pairwise fun r s => rLt r s = true) : (out.filterMap (keepB there)).Pairwise fun r s => rLt r s = true := by
  refine List.Pairwise.filterMap _ (fun a b hab c hc d hd => ?_) h
  unfold keepB at hc hd
  by_cases q1 : inB there a = true
  · by_cases q2 : inB there b = true
    · rw [if_pos q1] at hc
      rw [if_pos q2] at hd
      rw [← Option.some.inj hc, ← Option.some.inj hd]
      exact hab
    · rw [if_neg q2] at hd
      cases hd
  · rw [if_neg q1] at hc
    cases hc
theorem any_inB (there : List Row) (r : Row) : ((there.map eRow).any fun z => PyData.eqv z (eRow r)) = inB there r := by
  cases q : inB there r with
  | true => exact any_yes eqv_row (inB_iff.mp q)
  | false => exact any_no eqv_row fun z => by rw [inB_iff.mpr z] at q; cases q
theorem nodup_le {α : Type} : ∀ {l m : List α}, l.Nodup → (∀ a ∈ l, a ∈ m) → l.length ≤ m.length
  | [], _, _, _ => Nat.zero_le _
  | a :: l, m, nd, h => by
    obtain ⟨s, t, rfl⟩ := List.append_of_mem (h a (.head _))
    rw [List.nodup_cons] at nd
    have := nodup_le (l := l) (m := s ++ t) nd.2 fun b hb => by
      rcases List.mem_append.mp (h b (.tail _ hb)) with q | q
      · exact List.mem_append_left _ q
      · rcases List.mem_cons.mp q with e | q
        · rw [e] at hb
          exact absurd hb nd.1
        · exact List.mem_append_right _ q
    rw [List.length_append] at this
    rw [List.length_append, List.length_cons, List.length_cons]
    omega
/-- no list in strict order is longer than a list that holds its members -/
theorem up_len {out rs : List Row} (h : out.Pairwise fun r s => rLt r s = true) (m : ∀ r ∈ out, r ∈ rs) : out.length ≤ rs.length := by
  have nd : out.Nodup := h.imp fun {a b} hab e => by
    rw [e, rLt_irrefl] at hab
    cases hab
  exact nodup_le nd m
theorem hasLSure (T : Txt K mg) : Has P w K mg base 7 "_law_sure" ["_law_schema_here", "_law_store_here", "_law_question_here"] spSureL := by
  refine T.dLSure.has scLSure (fun vs H Q E h => ?_) (fun f cdv A outer s H vs Q E hr h => ?_)
  · obtain ⟨S, sv, fv, jv, n, fs, j, rfl, _⟩ := h
    rfl
  · obtain ⟨S, sv, fv, qv, n, fs, qs, rfl, hS, hF, hQ, wf, sok, qok, hn, q⟩ := h
    have ok := sok.fit
    have few := sok.few
    refine ⟨_,
      (pss_cons (ps_set (i := 3) scLSure.nd rfl (.inl rfl) (pe_own (hasLAnswers T) hr (by decide) (by rfl) (pa_cons (pv 1) (pa_cons (pv 2) pa_nil))))
      (pss_cons (ps_for PassesOwn.never rfl (itL K (pe_own (hasLMendings T) hr (by decide) (by rfl) (pa_cons (pv 0) (pa_cons (pv 1) pa_nil)))) (pg_name (i := 4) scLSure.nd rfl (Or.inl rfl))
        (pss_cons (ps_set (i := 5) scLSure.nd rfl (.inr rfl) (pe_own (hasLAnswers T) hr (by decide) (by rfl) (pa_cons (pv 4) (pa_cons (pv 2) pa_nil))))
        (pss_one (ps_setLc (i := 3) (own := [("_law_row", 6)]) (g := (gName 6)) rfl scLSure.nd rfl rfl (sw_true rfl rfl rfl (by decide +kernel)) (itL K (pv 3)) (blkOk_by (N := nmLSure) (sc := defScope stLSure) (by decide +kernel)) (fun _ _ _ _ _ => (pg_name (i := 6) scLSure.nd rfl (Or.inl rfl))) (fun _ _ _ _ _ => (pts_one (pt_cmpR (inL K hr) (pv 6) (pv 5) (by rfl)))) (fun _ _ _ _ _ => (pv 6))))))
      (pss_one (ps_ret (pv 3))))), ?_⟩
    refine ⟨fv, rfl, qv, rfl, S, fv, qv, n, fs, qs, rfl, hF, hQ, wf, ok, few, qok, hn, fun p0 zs0 out0 H1 s1 np0 hp0 dz0 so => ?_⟩
    refine ⟨sv, rfl, fv, rfl, sv, fv, S, fs, rfl, s1.den hS, s1.den hF, ok, few, fun mp mxs H2 s2 hmp dm => ?_⟩
    have ml : mxs.length = (mends (groupsL S fs)).length := dm.mlen
    refine ⟨mp, rfl, ⟨_, SqL.of hmp⟩, for_list (K := K) (a := mp) (xs := mxs) (fun i σ H' => ∃ (y4 y5 : Option V) (R : Addr) (zs : List V) (out : List Row), σ = [some sv, some fv, some qv, some (.ref R), y4, y5, none] ∧ EM.St none H2 H' ∧ H' R = some (.lst zs) ∧ DenL H' (out.map eRow) zs ∧ (out.Pairwise fun r s => rLt r s = true) ∧
        ∀ r, r ∈ out ↔ r ∈ rowsOf fs qs ∧ ∀ m ∈ (mends (groupsL S fs)).take i, r ∈ rowsOf m qs)
      ⟨none, none, p0, zs0, out0, rfl, .refl _ _, s2.same _ _ hp0, s2.denL dz0, so.up, fun r => ⟨fun h => ⟨(so.mem r).mp h, fun m hm => by cases hm⟩, fun h => (so.mem r).mpr h.1⟩⟩ (fun i σ H' _ h => by obtain ⟨_, _, _, _, _, _, s', _⟩ := h; exact SqL.of (s'.same _ _ hmp)) ?_ ?_⟩
    · rintro i x σ H3 hi ⟨y4, y5, R, zs, out, rfl, s3, hR, dz, up, mem⟩
      obtain ⟨m, hm, dmm⟩ := (s3.denL dm).mback hi
      have mmem := List.mem_of_getElem? hm
      have mok : ∀ f ∈ m, FactOk S f := fun f hf => ok f (mend_in mmem f hf)
      have mfew : m.length ≤ 7 := by
        rw [mends_mem _ m mmem]
        exact Nat.le_trans (groupsL_few fs).1 few
      have s13 := (s1.trans s2).trans s3
      refine ⟨x, rfl, qv, rfl, S, x, qv, n, m, qs, rfl, dmm, s13.den hQ, wf, mok, mfew, qok, hn, fun tp tz there H4 s4 ntp htp dt so2 => ?_⟩
      have hR4 := s4.same _ _ hR
      have dz4 := s4.denL dz
      have zl : zs.length = out.length := dz.mlen
      have olen : out.length ≤ 1029 := Nat.le_trans (up_len up fun r hr => ((mem r).mp hr).1) (rowsOf_len few qok.few fun j hj => (qok.joins j hj).few)
      refine ⟨.ref R, rfl, R, rfl, ⟨_, SqL.of hR4⟩, gatherD (m := none) (l := out) (φ := keepB there) (enc := eRow) wkL zl.symm (fun H s => SqL.of (s.same _ _ hR4)) (fun b z => nomatch z) (by omega)
        (fun k x2 H5 g hg hx s5 Rk N k1 k2 => ?_) (fun D dxs H5 s5 nD hD dxl => ?_)⟩
      · obtain ⟨x', hx', dx'⟩ := (s5.denL dz4).mget hg
        rw [hx] at hx'
        obtain rfl := Option.some.inj hx'
        refine ⟨rfl, x2, rfl, .ref tp, rfl, eRow g, there.map eRow, Den.dp _ _ (noL_row g) dx', .lst (SqL.of (s5.same _ _ htp)) (DenL.dp _ _ (noLs_map noL_row _) (s5.denL dt)), lay_row g, plain_lst lay_row _, by have := dep_row g; omega, _, rfl, ?_⟩
        rw [any_inB]
        cases q1 : inB there g with
        | true => exact iteT ⟨x2, rfl, k1 _ _ g (.refl _ _) (if_pos q1) dx'⟩
        | false => exact iteF (k2 _ (.refl _ _) (if_neg (by rw [q1]; decide)))
      · refine ⟨_, _, D, dxs, out.filterMap (keepB there), rfl, (s3.trans s4).trans s5, hD, dxl, keep_up up, fun r => ?_⟩
        rw [keep_mem, mem, so2.mem, take_snoc hm]
        constructor
        · rintro ⟨⟨h1, h2⟩, h3⟩
          refine ⟨h1, fun m' hm' => ?_⟩
          rcases List.mem_append.mp hm' with hm' | hm'
          · exact h2 m' hm'
          · rw [List.mem_singleton.mp hm']
            exact h3
        · rintro ⟨h1, h2⟩
          exact ⟨⟨h1, fun m' hm' => h2 m' (List.mem_append_left _ hm')⟩, h2 m (List.mem_append_right _ (List.mem_singleton.mpr rfl))⟩
    · rintro σ H3 ⟨y4, y5, R, zs, out, rfl, s3, hR, dz, up, mem⟩
      rw [ml, List.take_length] at mem
      exact ⟨.ref R, rfl, q R zs out H3 ((s1.trans s2).trans s3) hR dz ⟨up, mem⟩⟩
end
end EM
/-! the program's keys -/
namespace EM
open PySem PySem.Spec PyProof.Rows L2
section
variable {P : Program} {w : World} {K : PySem.W.Frag} {mg : Str → Option Value} {base : Heap}
def spPKey (K : PySem.W.Frag) : Sp := fun vs H Q _ => ∃ k : Key, vs = [kV k] ∧ ∀ v H', EM.St none H H' → Dp K H' v (kpP k) → Q v H'
theorem hasPValueKey (T : Txt K mg) : Has P w K mg base 1 "value_key" ["value"] (spPKey K) := by
  refine T.dPValueKey.has scPValueKey (fun vs H Q E h => ?_) (fun f cdv A outer s H vs Q E hr h => ?_)
  · obtain ⟨k, rfl, _⟩ := h
    rfl
  · obtain ⟨k, rfl, q⟩ := h
    refine ⟨_,
      (pss_cons (ps_if (pt_val (pe_callB (isi K) (by rfl) T.misinstance (by decide +kernel) (pa_cons (pv 0) (pa_cons (pe_ty (n := "str") T.mstr (by decide +kernel)) pa_nil))))
        (pss_one (ps_ret (pe_tup (pa_cons pe_int (pa_cons pe_int (pa_cons (pv 0) pa_nil))))))
        pss_nil)
      (pss_one (ps_ret (pe_tup (pa_cons pe_int (pa_cons (pv 0) (pa_cons pe_str pa_nil))))))), ?_⟩
    cases k with
    | inl i =>
      refine ⟨_, rfl, _, _, _, _, false, rfl, .ty _, TyX_key (.inl i), kitOne_int, _, rfl, iteF ?_⟩
      refine ⟨_, rfl, sz_le (by show 3 ≤ 10000000; decide), fun p np => q _ _ (St.new np) (.tup (SqT.of upd_same) (.cons (.int _) (.cons (.int _) (.cons (.str _) .nil))))⟩
    | inr x =>
      refine ⟨_, rfl, _, _, _, _, true, rfl, .ty _, TyX_key (.inr x), kitOne_str, _, rfl, iteT ?_⟩
      refine ⟨_, rfl, sz_le (by show 3 ≤ 10000000; decide), fun p np => q _ _ (St.new np) (.tup (SqT.of upd_same) (.cons (.int _) (.cons (.int _) (.cons (.str _) .nil))))⟩
theorem hasPRowKey (T : Txt K mg) : Has P w K mg base 2 "row_key" ["row"] (spKey K eRow rowP) := by
  refine T.dPRowKey.has scPRowKey (fun vs H Q E h => ?_) (fun f cdv A outer s H vs Q E hr h => ?_)
  · obtain ⟨k, x, rfl, _⟩ := h
    rfl
  · obtain ⟨r, x, rfl, hfit, hx, q⟩ := h
    obtain ⟨p, rfl, hp⟩ := den_row.mp hx
    refine ⟨_,
      (pss_one (ps_ret (pe_callTy (tupOf K) (by rfl) T.mtuple (by decide +kernel) (pa_cons (pe_lc (own := [("value", 1)]) (g := (gName 1)) (tt := tYes) rfl scPRowKey.nd (itT K (pv 0)) (blkOk_by (N := nmPRowKey) (sc := defScope stPRowKey) (by decide +kernel)) (fun _ _ _ _ _ => (pg_name (i := 1) scPRowKey.nd rfl (Or.inl rfl))) (fun _ _ _ _ _ => pts_nil) (fun _ _ _ _ _ => (pe_own (hasPValueKey T) hr (by decide) (by rfl) (pa_cons (pv 1) pa_nil)))) pa_nil)))), ?_⟩
    refine ⟨_, rfl, p, rfl, ⟨_, SqT.of hp⟩, gather (m := none) wkT (fun H s => SqT.of (s.tup _ _ hp)) (fun b z => nomatch z) (by rw [List.length_map]; exact Nat.lt_of_le_of_lt (show r.length ≤ 100 from hfit) (by decide)) (fun i v H => ∀ k, r[i]? = some k → Dp K H v (kpP k)) (fun i v H H' t h k e => Dp.tk t _ _ (noL_kpP k) (h k e)) (fun i x H hi hx s R k => ?_) (fun D xs H' s nD hD hl hp => ?_) gname_mono⟩
    · obtain ⟨a, ha⟩ := a_get? (l := r) (i := i) (by simpa using hi)
      rw [List.getElem?_map, ha] at hx
      obtain rfl := Option.some.inj hx
      exact ⟨rfl, _, rfl, a, rfl, fun v H' st d => k v H' st fun c hc => by
        rw [ha] at hc
        rw [← Option.some.inj hc]
        exact d⟩
    · refine ⟨D, xs, rfl, .inl ⟨SqL.of hD, fun u nu => q _ _ (s.trans (St.new nu)) (.tup (SqT.of upd_same) ?_)⟩⟩
      exact DpAll.all (by simpa using hl) fun i k x h1 h2 => Dp.tk (.new nu) _ _ (noL_kpP k) (hp i x h2 k h1)
end
end EM
/-! {k: v for x in xs}, the keys tuples of ints and texts -/
namespace EM
open PySem PySem.Spec PyProof.Rows L2
theorem putRow {X : Cx} {pins : List (Addr × Obj)} {σ : L2.St} {H : Hp} {s : Shared} {E : Value → Shared → Prop} {D b : Addr} {kvs : List (List Key × V)} {ks : List Key} {z : V} {r : Value} {Q : Unit → Shared → Prop} (room : X.A.units + 1 < cLine) (I : Inv X pins σ H s) (hD : H D = some (.dT kvs)) (few : kvs.length < sizeLine)
    (hb : H b = some (.tup (ks.map kV))) (rz : RelV z r) (go : ∀ s', Inv X pins σ (upd H D (.dT (putK kvs ks z))) s' → Q () s') : wpAny (model X.prog X.w) X.A (dictSet D (.ref b) r) Q E s := by
  obtain ⟨most, nsys, xs, kt, dd⟩ := dt_of I.hok hD
  have few2 : (putK kvs ks z).length ≤ sizeLine := Nat.le_trans (length_putK kvs ks z) few
  refine wpAny_dictSet_heap (hsz := by rw [← Paired.length kt]; exact most) (show X.A.units < cLine from Nat.lt_of_succ_lt room) (key_of I.hok hb) dd fun h2 d2 same => go _ ?_
  obtain ⟨ob, es, ep, g1, g2, g3, g4, _, g5⟩ := d2
  refine I.write (x := D) (e := D) (by rw [hD]; trivial) (.inl rfl) (fun c o nc q => (same.2 c nc).trans q) ⟨ob, g1⟩ ⟨few2, nsys, _, (kt.put ks hb rz).keeps fun c ys q => ?_, ob, es, ep, g1, g2, g3, g4, g5⟩
  rw [upd_ne (ne_of q hD (by intro w; cases w))]
  exact q
/-- a turn of the comprehension, told by a walk's reading -/
def DcStep (J : It) (g : TG) (tk tv : TE) (τ : L2.St) (vs : List Nat) (D : Addr) (Fin : Hp → Prop) (W : Nat → Nat → Hp → Prop) : Prop := ∀ i m H, W i m H → (J.stop i H ∧ Fin H) ∨ (J.go i H ∧ ∃ Nx : Hp → Prop, (∀ H', Nx H' → ∃ m', m' < m ∧ W (i + 1) m' H') ∧
  ∀ x H', J.yld i H x H' → g x τ H' fun σ2 H2 => wipe σ2 vs = τ ∧ tk σ2 H2 fun y H3 => tv σ2 H3 fun z H4 => ∃ (kvs : List (List Key × V)) (ks : List Key) (b : Addr), y = .ref b ∧ H4 b = some (.tup (ks.map kV)) ∧ H4 D = some (.dT kvs) ∧ kvs.length < sizeLine ∧ Nx (upd H4 D (.dT (putK kvs ks z))))
def tDcT (wi : TI) (g : TG) (tk tv : TE) (vs : List Nat) : TE := fun σ H Q => wi σ H fun J H1 => ∀ D, H1 D = none → ∃ W : Nat → Nat → Hp → Prop, (∃ m, W 0 m (upd H1 D (.dT []))) ∧ DcStep J g tk tv (wipe σ vs) vs D (fun H' => Q (.ref D) H') W
theorem dcT_core {X : Cx} {pins : List (Addr × Obj)} {s : Shared} {σ : L2.St} {H : Hp} {Q : VK} {pos2 : Pos} {use : Option (Value → Sem Unit)} {Qf : Value → Shared → Prop} {kx vx tg iter : Expr} {scope : Scope} {own : List (Str × Nat)} {pos : Pos} {wi : TI} {g : TG} {tk tv : TE} (I : Inv X pins σ H s) (room : X.A.units + 1 < cLine) (calm : X.calm = true) (nd : X.N.Nodup) (it : PI X tg iter wi) (ok : BlkOk X.N X.env.scope scope own)
    (pg : ∀ (s : Shared) (H : Hp) (C : Addr) (cl : List (Str × Addr)) (fp : List Addr), PG (X.blk s H scope (compEnvC scope cl C X.env) fp) tg g)
    (pk : ∀ (s : Shared) (H : Hp) (C : Addr) (cl : List (Str × Addr)) (fp : List Addr), PE (X.blk s H scope (compEnvC scope cl C X.env) fp) kx tk)
    (pv : ∀ (s : Shared) (H : Hp) (C : Addr) (cl : List (Str × Addr)) (fp : List Addr), PE (X.blk s H scope (compEnvC scope cl C X.env) fp) vx tv) (hs : ∀ x, foldedSetIterable iter X.env x = pure x)
    (reading : tDcT wi g tk tv (own.map (·.2)) σ H Q) (leave : ∀ D C s' names H', Inv X pins σ H' s' → Q (.ref D) H' → s'.heap.Ns C names → FpOk X pins H' C → compPost (model X.prog X.w) X.A X.xe use Qf (.ref D) C (.ok .next) s') :
    wpAny (model X.prog X.w) X.A (comprehension (.DictComp kx vx [⟨tg, iter, [], 0⟩] scope pos) scope X.env pos2 newDict false (eval iter X.env) use) Qf X.xe s := by
  have frees : ∀ n ∈ scope.names, n.2 = .free → ∃ c, X.env.cells.lookup n.1 = some c := fun n hn e => (ok.free n hn e).elim (fun q => I.ok.has _ (.inl q)) (fun q => I.ok.has _ (.inr q))
  refine wpAny_comprehension_free (use := use) rfl hs (closure_ok frees) ok.kind (fun n hn e => by rw [ok.uniq n hn, e]) (thn (it.run pins s σ H _ I reading) fun _ _ got => thn got fun _ s2 made => ?_)
  obtain ⟨ia, fp, tn, J, H2, rfl, I2, T, st2, own2, rd⟩ := made
  refine wpAny_newObj_type (newEnv_comp ?_)
  generalize hD : s2.heap.objs.size = D
  have dNone : H2 D = none := I2.hok.fresh (Nat.le_of_eq hD)
  obtain ⟨W, ⟨m0, w0⟩, turn⟩ := rd D dNone
  generalize es3 : ({ s2 with heap := s2.heap.push { cls := .type "dict", data := .dict #[] } } : Shared) = s3
  have I3 : Inv X pins σ (upd H2 D (.dT [])) s3 := by
    rw [← es3]
    refine I2.laid (t' := s2.toks) (fun _ _ q => Heap.get?_push_of_some _ q) (Nat.le_of_eq hD) ?_
    rw [← hD]
    exact dt_empty s2.heap I2.big
  have hp3 : s3.heap = s2.heap.push { cls := .type "dict", data := .dict #[] } := by rw [← es3]
  have own3 : ∀ b ∈ fp, FpOk X pins (upd H2 D (.dT [])) b ∧ b < s3.heap.objs.size := fun b hb => by
    obtain ⟨o, ho, _⟩ := T.obj _ _ st2 b hb
    have lt := Heap.lt_size ho
    refine ⟨⟨?_, (own2 b hb).2⟩, by rw [hp3, Heap.size_push]; exact Nat.lt_succ_of_lt lt⟩
    rw [upd_ne (Nat.ne_of_lt (hD ▸ lt))]
    exact (own2 b hb).1
  have st3 : tn 0 s3.heap := T.keep _ _ _ st2 fun b _ o q => by rw [hp3]; exact Heap.get?_push_of_some _ q
  have I4 := block_start I3 ok nd own3
  have none3 : ∀ b ∈ fp, (upd H2 D (.dT [])) b = none := fun b hb => (own3 b hb).1.1
  obtain ⟨H3, eH3⟩ : ∃ H3, upd H2 D (.dT []) = H3 := ⟨_, rfl⟩
  rw [eH3] at I3 I4 own3 none3 w0
  have g3 := pg s3 H3 s3.heap.objs.size (cellsFrom (s3.heap.objs.size + 1) scope.names (cloFrom X.env.cells scope.names [])) fp
  have k3 := pk s3 H3 s3.heap.objs.size (cellsFrom (s3.heap.objs.size + 1) scope.names (cloFrom X.env.cells scope.names [])) fp
  have v3 := pv s3 H3 s3.heap.objs.size (cellsFrom (s3.heap.objs.size + 1) scope.names (cloFrom X.env.cells scope.names [])) fp
  generalize ecell : cellsFrom (s3.heap.objs.size + 1) scope.names (cloFrom X.env.cells scope.names []) = cells at I4 g3 k3 v3
  show codeAny _ _ (.compStart (.DictComp kx vx [⟨tg, iter, [], 0⟩] scope pos) 0 (.ref ia) (.ref D) (compEnvC scope cells s3.heap.objs.size X.env)) (compPost (model X.prog X.w) X.A X.xe use Qf (.ref D) s3.heap.objs.size) { s3 with heap := pushCells (s3.heap.push { cls := .type "dict", data := .dict #[] }) scope.names }
  generalize eenv : compEnvC scope cells s3.heap.objs.size X.env = ce at I4 g3 k3 v3 ⊢
  have hloc : ce.locals = s3.heap.objs.size := by subst eenv; rfl
  generalize es4 : ({ s3 with heap := pushCells (s3.heap.push { cls := .type "dict", data := .dict #[] }) scope.names } : Shared) = s4 at I4 ⊢
  have st4 : tn 0 s4.heap := T.keep _ _ _ st3 fun b _ o q => by
    rw [← es4]
    exact pushCells_keeps _ _ _ _ (Heap.get?_push_of_some _ q)
  -- the iterator's own objects stand apart from all that the block holds
  have apart : ∀ {τ : L2.St} {H' : Hp} {s' : Shared}, Inv (X.blk s3 H3 scope ce fp) [] τ H' s' → (∀ b ∈ fp, H' b = none) → ∀ b ∈ fp, FpOk (X.blk s3 H3 scope ce fp) [] H' b := by
    intro τ H' s' I' no b hb
    exact ⟨no b hb, (I'.ok.exf b hb).1, I'.ok.exfs b hb, .inl hb, fun x c q => (I'.ok.exf b hb).2 x c q, fun p hp => by cases (show p ∈ ([] : List (Addr × Obj)) ++ [] from hp)⟩
  have around : codeAny (model X.prog X.w) X.A (.compLoop (.DictComp kx vx [⟨tg, iter, [], 0⟩] scope pos) 0 (.ref ia) (.ref D) ce) (compPost (model X.prog X.w) X.A X.xe use Qf (.ref D) s3.heap.objs.size) s4 := by
    refine compLoop_anyD (fun n s' => ∃ (i : Nat) (H' : Hp), Inv (X.blk s3 H3 scope ce fp) [] (wipe σ (own.map (·.2))) H' s' ∧ tn i s'.heap ∧ (∀ b ∈ fp, H' b = none) ∧ W i n H') ?_ m0 ⟨0, H3, I4, st4, none3, w0⟩
    rintro n s5 ⟨i, H5, I5, st5, no5, w5⟩
    rcases turn i n H5 w5 with ⟨stop, fin⟩ | ⟨more, Nx, next, step⟩
    · refine thnF (T.done (X.blk s3 H3 scope ce fp) rfl rfl rfl calm i [] s5 _ H5 (fun _ _ => False) I5 (apart I5 no5) st5 stop) fun r s6 ⟨er, I6⟩ => ?_
      subst er
      have out : Inv X pins σ H5 s6 := I3.call' (ch := fp) I6.os I6.base I6.hok I6.bare fun b hb => by
        obtain ⟨⟨_, a1, _, a2, a3, a4⟩, _⟩ := own3 b hb
        exact ⟨a2, a1, a3, a4⟩
      obtain ⟨names, ns, _⟩ := I6.loc
      have ns2 : s6.heap.Ns s3.heap.objs.size names := hloc ▸ ns
      have nloc : H5 s3.heap.objs.size = none := hloc ▸ (show H5 ce.locals = none from I6.free)
      exact leave D _ s6 names H5 out fin ns2 (I3.fpOk (H' := H5) (Nat.le_refl _) nloc)
    · refine thnF (T.item (X.blk s3 H3 scope ce fp) rfl rfl rfl calm i [] s5 _ H5 (fun _ _ => False) I5 (apart I5 no5) st5 more) fun r s6 ⟨u, er, got6⟩ => ?_
      subst er
      refine thnF got6 fun _ s7 ⟨x, H7, I7, r7, y7, st7, no7⟩ => ?_
      have P7 := I7.pinned (apart I7 no7) (T.obj _ _ st7)
      refine thnF (g3.run _ s7 _ H7 x u _ P7 r7 (step x H7 y7)) fun _ s8 ⟨τ, H8, I8, eτ, rd8⟩ => ?_
      -- the turn's end
      have back : ∀ {s' : Shared} {H' : Hp}, Inv (X.blk s3 H3 scope ce fp) ([] ++ pinsAt fp s7.heap) τ H' s' → Nx H' → ∃ m, m < n ∧ ∃ i H', Inv (X.blk s3 H3 scope ce fp) [] (wipe σ (own.map (·.2))) H' s' ∧ tn i s'.heap ∧ (∀ b ∈ fp, H' b = none) ∧ W i m H' := by
        intro s' H' I' nx
        obtain ⟨m', lt, w'⟩ := next H' nx
        have held : ∀ b ∈ fp, ∀ o, s7.heap.get? b = some o → s'.heap.get? b = some o ∧ H' b = none := fun b hb o q => by
          obtain ⟨p1, p2, _⟩ := I'.pin (b, o) (List.mem_append_right _ (List.mem_append_right _ (mem_pinsAt hb q)))
          exact ⟨p1, p2⟩
        refine ⟨m', lt, i + 1, H', I'.unpinned (pins := []) |>.weak (by rw [← eτ, wipe_length]) (fun j v q => ?_), T.keep _ _ _ st7 fun b hb o q => (held b hb o q).1, fun b hb => ?_, w'⟩
        · rw [← eτ] at q
          exact (wipe_some q).1
        · obtain ⟨o, q, _⟩ := T.obj _ _ st7 b hb
          exact (held b hb o q).2
      rw [List.forIn_nil]
      refine wpAny_pure ?_
      rw [if_pos rfl]
      refine thnF (k3.run _ s8 τ H8 _ I8 rd8) fun _ s9 ⟨y, H9, I9, r9, rd9⟩ => ?_
      refine thnF (v3.run _ s9 τ H9 _ I9 rd9) fun v s10 ⟨z, H10, I10, r10, kvs, ks, b, ey, hb, hD10, few, nx⟩ => ?_
      subst ey
      cases r9
      exact putRow (X := X.blk s3 H3 scope ce fp) room I10 hD10 few hb r10 fun s' I' => back I' nx
  exact codeAny_compStart_dict around (T.self X.A 0 _ _ _ st4 around)
theorem pe_dcT {X : Cx} {kx vx tg iter : Expr} {scope : Scope} {own : List (Str × Nat)} {pos : Pos} {wi : TI} {g : TG} {tk tv : TE} (room : X.A.units + 1 < cLine) (calm : X.calm = true) (nd : X.N.Nodup) (it : PI X tg iter wi) (ok : BlkOk X.N X.env.scope scope own)
    (pg : ∀ (s : Shared) (H : Hp) (C : Addr) (cl : List (Str × Addr)) (fp : List Addr), PG (X.blk s H scope (compEnvC scope cl C X.env) fp) tg g)
    (pk : ∀ (s : Shared) (H : Hp) (C : Addr) (cl : List (Str × Addr)) (fp : List Addr), PE (X.blk s H scope (compEnvC scope cl C X.env) fp) kx tk)
    (pv : ∀ (s : Shared) (H : Hp) (C : Addr) (cl : List (Str × Addr)) (fp : List Addr), PE (X.blk s H scope (compEnvC scope cl C X.env) fp) vx tv) (hs : ∀ x, foldedSetIterable iter X.env x = pure x := by intro _; rfl) :
    PE X (.DictComp kx vx [⟨tg, iter, [], 0⟩] scope pos) (tDcT wi g tk tv (own.map (·.2))) := by
  refine ⟨fun pins s σ H Q I reading => ?_⟩
  rw [arm_eval_DictComp]
  refine dcT_core I room calm nd it ok pg pk pv hs reading fun D C s' names H' I' q ns apart => ?_
  obtain ⟨b0, b1, _, b3, b4, b5⟩ := apart
  exact ⟨names, ns, fun h2 sb => ⟨.ref D, H', I'.turned (t' := s'.toks) (fun b o nb q => (sb.2 b nb).trans q) b0 b1 b3 b4 b5, rfl, q⟩⟩
/-- y = {k: v for ..}, y a plain local of a def -/
theorem ps_setDcT {X : Cx} {i : Nat} {y : Str} {py spos : Pos} {kx vx tg iter : Expr} {scope : Scope} {own : List (Str × Nat)} {pos : Pos} {wi : TI} {g : TG} {tk tv : TE} (hy : X.N[i]? = some y) (hyl : X.env.scope.names.lookup y = some .local) (hsw : swapsWith (.DictComp kx vx [⟨tg, iter, [], 0⟩] scope pos) (some (.Name y py)) spos.line X.env = pure true) (room : X.A.units + 1 < cLine) (calm : X.calm = true) (nd : X.N.Nodup) (it : PI X tg iter wi) (ok : BlkOk X.N X.env.scope scope own)
    (pg : ∀ (s : Shared) (H : Hp) (C : Addr) (cl : List (Str × Addr)) (fp : List Addr), PG (X.blk s H scope (compEnvC scope cl C X.env) fp) tg g)
    (pk : ∀ (s : Shared) (H : Hp) (C : Addr) (cl : List (Str × Addr)) (fp : List Addr), PE (X.blk s H scope (compEnvC scope cl C X.env) fp) kx tk)
    (pv : ∀ (s : Shared) (H : Hp) (C : Addr) (cl : List (Str × Addr)) (fp : List Addr), PE (X.blk s H scope (compEnvC scope cl C X.env) fp) vx tv) (hs : ∀ x, foldedSetIterable iter X.env x = pure x := by intro _; rfl) :
    PS X (.Assign [.Name y py] (.DictComp kx vx [⟨tg, iter, [], 0⟩] scope pos) spos) (tAsg (tDcT wi g tk tv (own.map (·.2))) (gName i)) := by
  refine ⟨fun pins s σ H Dn I told => ?_⟩
  rw [exec_Assign_Name_used _ _ _ _ hsw]
  refine wpAny_bind (wpAny_standAt (wpAny_bind ?_))
  show wpAny _ X.A (do let _ ← comprehension (.DictComp kx vx [⟨tg, iter, [], 0⟩] scope pos) scope X.env (firstIterPos [⟨tg, iter, [], 0⟩] pos) newDict false (eval iter X.env) (some (assign (.Name y py) X.env))) _ _ s
  have told2 : tDcT wi g tk tv (own.map (·.2)) σ H (fun x H1 => gName i x σ H1 Dn.nx) := told
  refine wpAny_bind (thn (dcT_core (Qf := fun _ s' => SP X pins Dn .next s') I room calm nd it ok pg pk pv hs told2 fun D C s' names H' I' q ns apart => ?_) fun _ _ q => wpAny_pure (wpAny_pure q))
  show wpAny _ _ (assign (.Name y py) X.env (.ref D)) _ _ _
  obtain ⟨b0, b1, _, b3, b4, b5⟩ := apart
  refine wpAny_assign_Name (store_ok2 (v := V.ref D) I' nd hy (.inl hyl) rfl (fun s2 I2 ⟨c, sb, hc⟩ => ?_) (.inr hyl))
  have nc : C ≠ c := by
    rcases hc with e | e
    · exact e ▸ b1
    · exact fun z => b4 y c e z.symm
  exact ⟨names, ns.sameBut sb nc, fun h2 sb2 => ⟨_, H', I2.turned (t' := s2.toks) (fun b o nb q => (sb2.2 b nb).trans q) b0 b1 b3 b4 b5, q⟩⟩
theorem sw_dict {kx vx : Expr} {gs : List Comprehension} {scope : Scope} {pos py : Pos} {y : Str} {l : Nat} {env : Env} (kind : env.scope.kind = .function) (loc : env.scope.names.lookup y = some .local) (line : (py.line == pos.line) = true)
    (free : (scope.names.any fun (n, k) => n == y && (k == .local || k == .cell)) = false) : swapsWith (.DictComp kx vx gs scope pos) (some (.Name y py)) l env = pure true := by
  have k1 : env.kindOf y = some .local := loc
  have k2 : env.blockKind = .function := by unfold Env.blockKind; rw [kind]; rfl
  unfold swapsWith
  simp only [k2, k1, free, Expr.pos, line]
  rfl
end EM
/-! the program's sort of rows -/
namespace EM
open PySem PySem.Spec PyProof.Rows L2
theorem put_old {kvs : List (List Key × V)} {k : List Key} {z : V} (e : k ∈ kvs.map (·.1)) : (putK kvs k z).map (·.1) = kvs.map (·.1) := by
  unfold putK
  rw [if_pos]
  · rw [List.map_map]
    refine List.map_congr_left fun p _ => ?_
    show (if p.1 = k then (p.1, z) else p).1 = p.1
    split <;> rfl
  · obtain ⟨p, hp, e2⟩ := List.mem_map.mp e
    exact List.any_eq_true.mpr ⟨p, hp, decide_eq_true e2⟩
theorem put_new {kvs : List (List Key × V)} {k : List Key} {z : V} (e : ¬ k ∈ kvs.map (·.1)) : (putK kvs k z).map (·.1) = kvs.map (·.1) ++ [k] := by
  unfold putK
  rw [if_neg]
  · rw [List.map_append]
    rfl
  · intro q
    obtain ⟨p, hp, e2⟩ := List.any_eq_true.mp q
    exact e (List.mem_map.mpr ⟨p, hp, of_decide_eq_true e2⟩)
theorem dedup_old {α : Type} [DecidableEq α] {l : List α} {x : α} (h : x ∈ dedup l) : dedup (l ++ [x]) = dedup l := by rw [dedup_snoc, if_pos h]
theorem dedup_new {α : Type} [DecidableEq α] {l : List α} {x : α} (h : ¬ x ∈ dedup l) : dedup (l ++ [x]) = dedup l ++ [x] := by rw [dedup_snoc, if_neg h]
theorem keys_den {H : Hp} : ∀ {kvs : List (List Key × V)} {bs : List Addr}, IsKeys H kvs bs → DenL H ((kvs.map (·.1)).map eRow) (bs.map V.ref)
  | _, _, .nil => .nil
  | _, _, .cons h t => by
    rw [List.map_cons, List.map_cons, List.map_cons, denL_cons]
    exact ⟨_, _, rfl, den_row.mpr ⟨_, rfl, h⟩, keys_den t⟩
theorem strict_of {l : List Row} (nd : l.Nodup) (h : l.Pairwise fun x y => rLt y x = false) : l.Pairwise fun x y => rLt x y = true := by
  have h2 : l.Pairwise fun x y => x ≠ y ∧ rLt y x = false := (List.pairwise_and_iff (R := fun x y => x ≠ y) (S := fun x y => rLt y x = false)).mpr ⟨nd, h⟩
  refine h2.imp fun {a b} q => ?_
  cases e : rLt a b with
  | true => rfl
  | false => exact absurd (rLt_tri e q.2) q.1
theorem dedup_nodup {α : Type} [DecidableEq α] (l : List α) : (dedup l).Nodup := by
  refine snoc_ind (P := fun l => (dedup l).Nodup) List.nodup_nil (fun l x ih => ?_) l
  rw [dedup_snoc]
  split
  · exact ih
  next h => exact List.nodup_append.mpr ⟨ih, by simp, fun a ha b hb => by
      rw [List.mem_singleton.mp hb]
      intro z
      rw [z] at ha
      exact h ha⟩
section
variable {P : Program} {w : World} {K : PySem.W.Frag} {mg : Str → Option Value} {base : Heap}
def spSortedRows : Sp := fun vs H Q _ => ∃ (l : Addr) (xs : List V) (rs : List Row) (n : Nat), vs = [.ref l] ∧ H l = some (.lst xs) ∧ DenL H (rs.map eRow) xs ∧ (∀ r ∈ rs, r.length = n) ∧ n ≤ 100 ∧ rs.length ≤ 1000000 ∧
  ∀ (p : Addr) (zs : List V) (out : List Row) H', EM.St none H H' → H' p = some (.lst zs) → DenL H' (out.map eRow) zs → Sorts rs out → Q (.ref p) H'
theorem hasPSortedRows (T : Txt K mg) : Has P w K mg base 5 "sorted_rows" ["rows"] spSortedRows := by
  refine T.dPSortedRows.has scPSortedRows (fun vs H Q E h => ?_) (fun f cdv A outer s H vs Q E hr h => ?_)
  · obtain ⟨l, xs, rs, n, rfl, _⟩ := h
    rfl
  · obtain ⟨l, xs, rs, n, rfl, hl, hx, hw, hn, few, q⟩ := h
    have xl : xs.length = rs.length := hx.mlen
    refine ⟨_,
      (pss_cons (ps_setDcT (i := 1) (own := [("row", 2)]) (g := (gName 2)) rfl rfl (sw_dict rfl rfl rfl (by decide +kernel)) (hu_of hr) rfl scPSortedRows.nd (itL K (pv 0)) (blkOk_by (N := nmPSortedRows) (sc := defScope stPSortedRows) (by decide +kernel)) (fun _ _ _ _ _ => (pg_name (i := 2) scPSortedRows.nd rfl (Or.inl rfl))) (fun _ _ _ _ _ => (pv 2)) (fun _ _ _ _ _ => pe_bl))
      (pss_one (ps_ret (pe_sortK rowP eRow K (hasPRowKey T) hr (by decide) (by rfl) T.msorted (by decide +kernel) (by rfl) (pa_cons (pe_callTy (call_list_dT rfl) (by rfl) T.mlist (by decide +kernel) (pa_cons (pv 1) pa_nil)) pa_nil))))), ?_⟩
    refine ⟨.ref l, rfl, l, rfl, ⟨_, SqL.of hl⟩, fun D nD => ?_⟩
    refine ⟨fun i m H' => m = xs.length - i ∧ i ≤ xs.length ∧ EM.St none H H' ∧ ∃ kvs : List (List Key × V), H' D = some (.dT kvs) ∧ kvs.map (·.1) = dedup (rs.take i), ⟨xs.length, rfl, Nat.zero_le _, St.new nD, [], upd_same, rfl⟩, ?_⟩
    rintro i m H' ⟨rfl, hi, s', kvs, hD, hk⟩
    by_cases hlt : i < xs.length
    · refine .inr ⟨⟨xs, xs[i], SqL.of (s'.same _ _ hl), by simp [hlt]⟩, fun H2 => EM.St none H H2 ∧ ∃ kvs : List (List Key × V), H2 D = some (.dT kvs) ∧ kvs.map (·.1) = dedup (rs.take (i + 1)), fun H2 nx => ⟨xs.length - (i + 1), by omega, rfl, hlt, nx⟩, fun x H2 y => ?_⟩
      obtain ⟨e, y⟩ := y
      subst e
      have hx2 := y xs (SqL.of (s'.same _ _ hl))
      obtain ⟨r, hr', dr⟩ := (s'.denL hx).mback hx2
      obtain ⟨b, rfl, hb⟩ := den_row.mp dr
      have kl : kvs.length ≤ 1000000 := by
        rw [← List.length_map (f := (·.1)), hk]
        refine Nat.le_trans (dedup_len _) ?_
        rw [List.length_take]
        omega
      refine ⟨rfl, .ref b, rfl, kvs, r, b, rfl, hb, hD, sz_lt (by omega), s'.mut nD, _, upd_same, ?_⟩
      rw [take_snoc hr']
      by_cases q1 : r ∈ dedup (rs.take i)
      · rw [put_old (by rw [hk]; exact q1), hk, dedup_old q1]
      · rw [put_new (by rw [hk]; exact q1), hk, dedup_new q1]
    · have ie : i = xs.length := by omega
      subst ie
      rw [xl, List.take_length] at hk
      refine .inl ⟨⟨xs, SqL.of (s'.same _ _ hl), Nat.le_refl _⟩, ?_⟩
      refine ⟨.ref D, rfl, D, kvs, rfl, .inl hD, fun p bs np hbs => ?_⟩
      have s2 : EM.St none H' (upd H' p (.lst (bs.map V.ref))) := St.new np
      have dk := keys_den hbs
      rw [hk] at dk
      refine ⟨p, _, dedup rs, rfl, SqL.of upd_same, s2.denL dk, fun h2 b hb e => ?_, fun r hr => ?_, fun p2 zs out H2 s3 np2 hp2 dz perm ord => ?_⟩
      · have h0 : n = 0 := by
          rw [← hw b ((mem_dedup rs b).mp hb), e]
          rfl
        have all : ∀ r ∈ dedup rs, r = [] := fun r hr => List.eq_nil_of_length_eq_zero (by rw [hw r ((mem_dedup rs r).mp hr), h0])
        have nd := dedup_nodup rs
        match hd : dedup rs, h2, all, nd with
        | x :: y :: l, _, all, nd =>
          have e1 := all x (.head _)
          have e2 := all y (.tail _ (.head _))
          rw [e1, e2, List.nodup_cons] at nd
          exact nd.1 (.head _)
        | [x], h2, _, _ => exact absurd (show 2 ≤ 1 from h2) (by decide)
        | [], h2, _, _ => exact absurd h2 (by decide)
      · show r.length ≤ 100
        rw [hw r ((mem_dedup rs r).mp hr)]; exact hn
      · have nd := perm.nodup_iff.mpr (dedup_nodup rs)
        exact q p2 zs out H2 ((s'.trans s2).trans s3) hp2 dz ⟨strict_of nd ord, fun r => (perm.mem_iff).trans (mem_dedup rs r)⟩
end
end EM
/-! a dict whose keys are pairs of a text and a row; its items -/
namespace EM
open PySem PySem.Spec PyProof.Rows L2
def kN : Key → NestedKey
  | .inl i => .num i
  | .inr x => .text x
def nkey (n : Str) (r : Row) : NestedKey := .tup [.text n, .tup (r.map kN)]
theorem kN_inj {a b : Key} (h : kN a = kN b) : a = b := by
  cases a with
  | inl i => cases b with
    | inl j => injection h with h; rw [h]
    | inr y => cases h
  | inr x => cases b with
    | inl j => cases h
    | inr y => injection h with h; rw [h]
theorem mapN_inj : ∀ {r q : Row}, r.map kN = q.map kN → r = q
  | [], [], _ => rfl
  | [], _ :: _, e => by simp at e
  | _ :: _, [], e => by simp at e
  | a :: r, b :: q, e => by
    rw [List.map_cons, List.map_cons, List.cons.injEq] at e
    rw [kN_inj e.1, mapN_inj e.2]
theorem nkey_inj {n m : Str} {r q : Row} (h : nkey n r = nkey m q) : (n, r) = (m, q) := by
  unfold nkey at h
  injection h with h
  injection h with h1 h2
  injection h1 with h1
  injection h2 with h2
  injection h2 with h2
  rw [h1, mapN_inj h2]
theorem depN : ∀ r : Row, NestedKey.depthAll (r.map kN) = 0
  | [] => by simp [NestedKey.depthAll]
  | a :: r => by
    rw [List.map_cons, NestedKey.depthAll, depN r]
    cases a <;> simp [kN, NestedKey.depth]
theorem dep_nkey (n : Str) (r : Row) : (nkey n r).depth ≤ 8 := by
  unfold nkey
  simp only [NestedKey.depth, NestedKey.depthAll, depN]
  omega
/-- a key's tuple in the heap -/
def KeyAt (H : Hp) (p : Addr) (n : Str) (r : Row) : Prop := ∃ q, H p = some (.tup [.str n, .ref q]) ∧ H q = some (.tup (r.map kV))
theorem KeyAt.tk {H H' : Hp} {p : Addr} {n : Str} {r : Row} (t : TK H H') (h : KeyAt H p n r) : KeyAt H' p n r := by
  obtain ⟨q, h1, h2⟩ := h
  exact ⟨q, t _ _ h1, t _ _ h2⟩
theorem nested_row {h : Heap} : ∀ {r : Row} {us : List Value}, Vals (r.map kV) us → NestedAll h (r.map kN) us
  | [], _, v => by cases v; exact .nil
  | a :: r, _, v => by
    rw [List.map_cons] at v
    cases v with
    | cons ra rt =>
      refine .cons ?_ (nested_row rt)
      cases a with
      | inl i =>
        obtain ⟨t, rfl⟩ := ra
        exact .int i t
      | inr x =>
        obtain ⟨t, rfl⟩ := ra
        exact .text x t
section
variable {X : Cx} {pins : List (Addr × Obj)} {σ : L2.St} {H : Hp} {s : Shared}
theorem key_is {p : Addr} {n : Str} {r : Row} (I : Inv X pins σ H s) (k : KeyAt H p n r) : (nestedKind X.prog X.w).is s.heap (nkey n r) p := by
  obtain ⟨q, h1, h2⟩ := k
  obtain ⟨_, its, rv, o, ho, hc, m, hd⟩ := I.hok p _ h1
  obtain ⟨_, its2, rv2, o2, ho2, hc2, m2, hd2⟩ := I.hok q _ h2
  obtain ⟨u, v, rfl, ru, rq⟩ := vals2 rv
  obtain ⟨t, rfl⟩ := ru
  obtain rfl : v = Value.ref q := rq
  refine ⟨.tup ho hc hd (.cons (.text n t) (.cons (.tup ho2 hc2 hd2 (nested_row ?_)) .nil)), dep_nkey n r⟩
  exact rv2
end
abbrev GEnt := NestedKey × Addr × Addr
def gRaw (g : GEnt) : NestedKey × Addr × Value := (g.1, g.2.1, .ref g.2.2)
def GdAt (P : Program) (w : World) (d : Addr) (gs : List GEnt) (h : Heap) : Prop := (d == sysModules) = false ∧ ∃ es ep, DT.Raw h d es ep ∧ es.toList = (gs.map gRaw).map (entryOfKey (nestedKind P w)) ∧ (gs.map (·.1)).Nodup
/-- the dict at d: keys, their tuples, the lists they lead to -/
def Gd (P : Program) (w : World) (d : Addr) (gs : List GEnt) : HO := .ext (GdAt P w d gs)
theorem gd_ok {P : Program} {w : World} {H : Hp} {h : Heap} {d : Addr} {gs : List GEnt} (g : GdAt P w d gs h) : ObjOk P w H h d (Gd P w d gs) := by
  obtain ⟨ns, es, ep, ⟨o, ho, r⟩, k⟩ := id g
  exact ⟨g, ⟨o, ho⟩, fun h1 h2 ⟨ns, es, ep, raw, k⟩ q => ⟨ns, es, ep, raw.at' q, k⟩⟩
section
variable {X : Cx} {pins : List (Addr × Obj)} {σ : L2.St} {H : Hp} {s : Shared}
theorem gd_at {d : Addr} {gs : List GEnt} (I : Inv X pins σ H s) (h : H d = some (Gd X.prog X.w d gs)) : GdAt X.prog X.w d gs s.heap := (I.hok d _ h).1
theorem pe_dnewG {pos : Pos} : PE X (.Dict [] [] pos) (fun _ H Q => ∀ p, H p = none → Q (.ref p) (upd H p (Gd X.prog X.w p []))) := ⟨fun pins s σ H Q I h => by
  refine wpAny_Dict_empty ⟨.ref s.heap.objs.size, _, I.laid (a := s.heap.objs.size) (o := Gd X.prog X.w s.heap.objs.size []) (t' := s.toks) (fun _ _ q => Heap.get?_push_of_some _ q) (Nat.le_refl _) (gd_ok ?_), rfl, h _ (I.hok.fresh (Nat.le_refl _))⟩
  exact ⟨beq_eq_false_iff_ne.mpr (Ne.symm (Nat.ne_of_lt I.big)), #[], 0, ⟨_, Heap.get?_push_size _ rfl, ⟨rfl, rfl, rfl⟩, rfl⟩, rfl, List.nodup_nil⟩⟩
def tyG (P : Program) (w : World) (x : V) (H : Hp) : Prop := ∃ d gs, x = .ref d ∧ H d = some (Gd P w d gs)
theorem tyG_ok : TyOk X "dict" (tyG X.prog X.w) := by
  intro pins σ H s x v I r ⟨d, gs, e, h⟩
  subst e
  cases r
  obtain ⟨_, es, ep, raw, _⟩ := gd_at I h
  refine ⟨raw.typeIs, fun a e => ?_⟩
  cases e
  obtain ⟨o, ho, hx, _⟩ := raw
  exact ⟨o, ho, hx.2.1⟩
def rSetG (P : Program) (w : World) : V → List V → Hp → VK → Prop := fun x xs H Q => ∃ (d p l : Addr) (gs : List GEnt) (n : Str) (r : Row), x = .ref d ∧ xs = [.ref p, .ref l] ∧ H d = some (Gd P w d gs) ∧ KeyAt H p n r ∧ (∀ g ∈ gs, ∃ m q, g.1 = nkey m q ∧ KeyAt H g.2.1 m q) ∧ gs.length < 1000000 ∧
  ((∃ g ∈ gs, g.1 = nkey n r ∧ Q (.ref g.2.2) H) ∨ ((∀ g ∈ gs, g.1 ≠ nkey n r) ∧ Q (.ref l) (upd H d (Gd P w d (gs ++ [(nkey n r, p, l)])))))
theorem at_old {gs : List GEnt} {g : GEnt} (nd : (gs.map (·.1)).Nodup) (h : g ∈ gs) : atKey (gs.map gRaw) g.1 = some (g.2.1, .ref g.2.2) := by
  unfold atKey
  have e : (gs.map gRaw).find? (fun x => decide (x.1 = g.1)) = some (gRaw g) := by
    induction gs with
    | nil => cases h
    | cons a l ih =>
      rw [List.map_cons, List.nodup_cons] at nd
      rw [List.map_cons]
      rcases List.mem_cons.mp h with q | q
      · subst q
        rw [List.find?_cons_of_pos (by exact decide_eq_true rfl)]
      · rw [List.find?_cons_of_neg, ih nd.2 q]
        intro z
        have z' : a.1 = g.1 := of_decide_eq_true z
        exact nd.1 (z' ▸ List.mem_map.mpr ⟨g, q, rfl⟩)
  rw [e]
  rfl
theorem at_new {gs : List GEnt} {k : NestedKey} (h : ∀ g ∈ gs, g.1 ≠ k) : atKey (gs.map gRaw) k = none := by
  unfold atKey
  rw [List.find?_eq_none.mpr]
  · rfl
  · intro x hx z
    obtain ⟨g, hg, rfl⟩ := List.mem_map.mp hx
    exact h g hg (of_decide_eq_true z)
theorem mt_setG (hu : X.A.units + 20 < cLine) : MtR X "dict.setdefault" (rSetG X.prog X.w) := by
  intro pins s σ H x xs v us Q I rx rxs ⟨d, p, l, gs, n, r, ex, exs, hd, hk, hks, few, q⟩
  subst ex
  subst exs
  cases rx
  obtain ⟨u1, u2, rfl, r1, r2⟩ := vals2 rxs
  cases r1
  cases r2
  obtain ⟨ns, es, ep, ⟨o, ho, hx, hdt⟩, hes, nd⟩ := gd_at I hd
  have dd : s.heap.DictOfH (nestedKind X.prog X.w) d (gs.map gRaw) := ⟨o, es, ep, ho, hx, hdt, hes, fun y hy => by
    obtain ⟨g, hg, rfl⟩ := List.mem_map.mp hy
    obtain ⟨m, c, e, k⟩ := hks g hg
    show (nestedKind X.prog X.w).is s.heap g.1 g.2.1
    rw [e]
    exact key_is I k, by rw [List.map_map]; exact nd⟩
  refine call_setdefault_heap (hsz := by rw [List.length_map]; exact sz_le (by omega)) (show X.A.units + 1 + 8 < cLine by omega) (key_is I hk) ns dd (fun pv hp => ?_) (fun hn h' dd' sb => ?_)
  · rcases q with ⟨g, hg, e, q⟩ | ⟨hno, q⟩
    · rw [← e, at_old nd hg] at hp
      obtain rfl := Option.some.inj hp
      exact ⟨.ref g.2.2, H, I.tok _, rfl, q⟩
    · rw [at_new hno] at hp
      cases hp
  · rcases q with ⟨g, hg, e, q⟩ | ⟨hno, q⟩
    · rw [← e, at_old nd hg] at hn
      cases hn
    · rw [storedH_new hn] at dd'
      obtain ⟨o', es', ep', ho', hx', hdt', hes', _, nd'⟩ := dd'
      refine ⟨.ref l, _, I.write (x := d) (e := d) (t' := s.toks + _) (by rw [hd]; trivial) (.inl rfl) (fun b u hb hu => (sb.2 b hb).trans hu) ⟨o', ho'⟩ (gd_ok (gs := gs ++ [(nkey n r, p, l)]) ⟨ns, es', ep', ⟨o', ho', hx', hdt'⟩, ?_, ?_⟩), rfl, q⟩
      · rw [hes', List.map_append, show (gs ++ [(nkey n r, p, l)]).map gRaw = gs.map gRaw ++ [gRaw (nkey n r, p, l)] from List.map_append, List.map_append]
        rfl
      · rw [List.map_append, List.map_map] at nd'
        rw [List.map_append]
        exact nd'
/-- the items of such a dict, locked -/
def Itg (P : Program) (w : World) (d : Addr) (od : Obj) (gs : List GEnt) : It := ⟨fun i H => H d = some (.frz od (Gd P w d gs)) ∧ i < gs.length,
  fun i H v H' => ∃ (T : Addr) (g : GEnt), gs[i]? = some g ∧ v = .ref T ∧ H T = none ∧ H' = upd H T (.tup [.ref g.2.1, .ref g.2.2]), fun i H => H d = some (.frz od (Gd P w d gs)) ∧ gs.length ≤ i⟩
theorem frzG {d : Addr} {od : Obj} {gs : List GEnt} (I : Inv X pins σ H s) (h : H d = some (.frz od (Gd X.prog X.w d gs))) : (d == sysModules) = false ∧ ∃ es ep, DT.Raw s.heap d es ep ∧ od.data = .dict es ep ∧ es.toList = (gs.map gRaw).map (entryOfKey (nestedKind X.prog X.w)) ∧ es.size = gs.length := by
  obtain ⟨ho, (⟨ns, es, ep, ⟨o, ho2, hx, hdt⟩, hes, _⟩), _⟩ := I.hok d _ h
  obtain rfl := Option.some.inj (ho.symm.trans ho2)
  refine ⟨ns, es, ep, ⟨_, ho, hx, hdt⟩, hdt, hes, ?_⟩
  have := congrArg List.length hes
  rw [Array.length_toList, List.length_map, List.length_map] at this
  exact this
end
theorem turnG {P : Program} {w : World} {K : PySem.W.Frag} {elts : List Expr} {kk : Nat} {tpos : Pos} {d : Addr} {od : Obj} {gs : List GEnt} {es : Array DictEntry} {ep : Nat} (it : Addr) (hdt : od.data = .dict es ep) :
    Turn P w K (.Tuple elts kk tpos) (Itg P w d od gs) [it] it (fun i h => ∃ ok ov, IsItemIter h it d i gs.length ep ok ov) where
  mem := by simp
  obj := fun i h st b hb => by
    obtain ⟨ok, ov, e⟩ := st
    rw [show b = it by simpa using hb]
    exact ⟨_, e, fun v z => nomatch z⟩
  keep := fun i h h' ⟨ok, ov, e⟩ k => ⟨ok, ov, k it (by simp) _ e⟩
  item := by
    rintro X rfl rfl rfl hc i pins s σ H E I hf ⟨ok, ov, he⟩ ⟨hd, hi⟩
    obtain ⟨ns, es', ep', raw, hdt', hes, hsz⟩ := frzG I hd
    obtain ⟨rfl, rfl⟩ := dict_ep hdt hdt'
    have hlt : it < s.heap.objs.size := Heap.lt_size he
    obtain ⟨g, hg⟩ := a_get? (l := gs) (i := i) hi
    have hi2 : i < es'.size := by omega
    have hen : es'[i] = entryOfKey (nestedKind X.prog X.w) (gRaw g) := by
      have e1 : es'.toList[i]? = some es'[i] := by rw [Array.getElem?_toList, Array.getElem?_eq_getElem hi2]
      rw [hes, List.getElem?_map, List.getElem?_map, hg] at e1
      exact (Option.some.inj e1).symm
    rw [← hsz] at he
    refine DT.nextI he raw hi2 fun h' ho hT hz hk => ?_
    refine ⟨_, rfl, wpAny_letOwnedTupleGo_items (s := { s with heap := h' }) ho fun h'' he' sb => ?_⟩
    have hT2 : h''.get? s.heap.objs.size = some { cls := .type "tuple", data := .seq #[es'[i].key, es'[i].val] } := (sb.2 _ (Nat.ne_of_gt hlt)).trans hT
    have new : ObjOk X.prog X.w (upd H s.heap.objs.size (.tup [.ref g.2.1, .ref g.2.2])) h'' s.heap.objs.size (.tup [.ref g.2.1, .ref g.2.2]) := by
      refine ⟨sz_le (by show 2 ≤ 10000000; decide), [es'[i].key, es'[i].val], ?_, ⟨_, hT2, rfl, _, rfl⟩⟩
      rw [hen]
      exact .cons rfl (.cons rfl .nil)
    have I1 : Inv X pins σ (upd H s.heap.objs.size (.tup [.ref g.2.1, .ref g.2.2])) { s with heap := h'' } :=
      I.turnedNew (t' := s.toks) (ch := [it]) (fun b ob hb e => (sb.2 b (by simpa using hb)).trans (hk b ob (by simpa using hb) e)) hf (Nat.le_refl _) new
    refine ⟨.ref s.heap.objs.size, _, I1, rfl, ⟨_, g, hg, rfl, I.hok.fresh (Nat.le_refl _), rfl⟩, ⟨_, _, by rw [← hsz]; exact he'⟩, fun b hb => ?_⟩
    rw [show b = it by simpa using hb, upd_ne (Nat.ne_of_lt hlt)]
    exact (hf it (by simp)).1
  done := by
    rintro X rfl rfl rfl hc i pins s σ H E I hf ⟨ok, ov, he⟩ ⟨hd, hi⟩
    obtain ⟨ns, es', ep', raw, hdt', hes, hsz⟩ := frzG I hd
    obtain ⟨rfl, rfl⟩ := dict_ep hdt hdt'
    obtain ⟨f0, f1, f2, f3, f4, f5⟩ := hf it (by simp)
    rw [← hsz] at he
    exact DT.endI (I.ok.hd hc) he raw (by omega) fun h' eb => ⟨rfl, I.turned (t' := s.toks) (fun b ob hb e => eb b ob hb e) f0 f1 f3 f4 f5⟩
  self := fun A i s Q E ⟨_, _, e⟩ h => PySem.W.kcp_self e h
def iItemsG (P : Program) (w : World) (td : TE) : TI := fun σ H R => td σ H fun x H1 => ∃ d od gs, x = .ref d ∧ H1 d = some (.frz od (Gd P w d gs)) ∧ R (Itg P w d od gs) H1
theorem pi_itemsG {X : Cx} {e : Expr} {td : TE} {apos cpos : Pos} {elts : List Expr} {kk : Nat} {tpos : Pos} (he : PE X e td) (hbase : attributeBase e "items" X.env (eval e X.env) = eval e X.env := by rfl) (hline : (apos.endLine == cpos.line) = true := by rfl) :
    PI X (.Tuple elts kk tpos) (.Call (.Attribute e "items" apos) [] [] cpos) (iItemsG X.prog X.w td) := by
  refine ⟨fun pins s σ H R I h => ?_⟩
  refine wpAny_Call_method (T := "dict") (id := "dict.items") hbase rfl hline PySem.F.plainAttrs_dict PySem.F.slot_dict_items PySem.F.type_dict_items (thn (he.run pins s σ H _ I h) fun u s1 ⟨x, H1, I1, rx, d, od, gs, ex, hd, q⟩ => ?_)
  subst ex
  obtain rfl : u = Value.ref d := rx
  obtain ⟨ns, es, ep, raw, hdt, hes, hsz⟩ := frzG I1 hd
  refine ⟨raw.typeIs, fun a e => ?_, ?_⟩
  · cases e
    obtain ⟨o, ho, hx, _⟩ := raw
    exact ⟨o, ho, hx.2.1⟩
  have I2 : Inv X pins σ H1 { s1 with heap := s1.heap.push { cls := .type "dict_items", data := .fields #[.ref d] } } := I1.kept (t' := s1.toks) fun b ob q => Heap.get?_push_of_some _ q
  have fin : wpAny (model X.prog X.w) X.A (pyIter (.ref s1.heap.objs.size)) (PIE X pins σ (.Tuple elts kk tpos) R) X.xe { s1 with heap := s1.heap.push { cls := .type "dict_items", data := .fields #[.ref d] } } := by
    refine DT.iterI (d := d) ⟨_, Heap.get?_push_size _ rfl, rfl, rfl⟩ (raw.push _) (pi_one (tk := s1.toks) I2 _ (turnG _ hdt) ⟨.none, .none, ?_⟩ q)
    rw [← hsz]
    exact Heap.get?_push_size _ rfl
  show wpAny _ _ (callWith cpos (.builtin "dict.items") [.ref d] [] []) _ X.xe s1
  exact method_meetsIn PySem.F.slot_dict_items PySem.F.entry_dict_items rfl (PySem.evalArgs_none ⟨rfl, raw.typeIs, PySem.F.args_dict_items_1 _, _, DT.meetsItems ns, ⟨raw, fin⟩⟩)
theorem wkG {P : Program} {w : World} {d : Addr} {od : Obj} {gs : List GEnt} : Walk (Itg P w d od gs) gs.length (fun H => H d = some (.frz od (Gd P w d gs))) (fun i H v H' => ∃ (T : Addr) (g : GEnt), gs[i]? = some g ∧ v = .ref T ∧ H T = none ∧ H' = upd H T (.tup [.ref g.2.1, .ref g.2.2])) :=
  ⟨fun _ _ hi q => ⟨q, hi⟩, fun _ q => ⟨q, Nat.le_refl _⟩, fun _ _ _ _ _ _ y => y⟩
end EM
/-! the program's blocks -/
namespace EM
open PySem PySem.Spec PyProof.Rows L2
theorem room20 {k : Nat} {A : Around} (hr : Room k A) : A.units + 20 < cLine := by have := room65 hr; omega
theorem groupsP_snoc {S : List Tab} (l : List Fact) (f : Fact) : groupsP S (l ++ [f]) = addP S (groupsP S l) f := by
  unfold groupsP
  rw [List.foldl_append]
  rfl
def bkey (b : Block) : Str × Row := (b.1, b.2.1)
theorem addP_old {S : List Tab} {bs : List Block} {f : Fact} {j : Nat} {b : Block} (nd : (bs.map bkey).Nodup) (hj : bs[j]? = some b) (e : bkey b = (f.1, keyOf S f)) : addP S bs f = bs.set j (b.1, b.2.1, b.2.2 ++ [f.2]) := by
  have hm := List.mem_of_getElem? hj
  have hjl := (List.getElem?_eq_some_iff.mp hj).1
  unfold addP
  rw [if_pos (List.any_eq_true.mpr ⟨b, hm, decide_eq_true e⟩)]
  refine List.ext_getElem? fun i => ?_
  rw [List.getElem?_map, List.getElem?_set]
  by_cases hi : j = i
  · subst hi
    rw [if_pos rfl, if_pos hjl, hj]
    show some (if (b.1, b.2.1) = (f.1, keyOf S f) then _ else b) = _
    rw [if_pos (show (b.1, b.2.1) = (f.1, keyOf S f) from e)]
  · rw [if_neg hi]
    cases q : bs[i]? with
    | none => rfl
    | some c =>
      show some (if (c.1, c.2.1) = (f.1, keyOf S f) then _ else c) = _
      rw [if_neg]
      intro z
      apply hi
      have h1 : (bs.map bkey)[i]? = some (f.1, keyOf S f) := by rw [List.getElem?_map, q]; exact congrArg some z
      have h2 : (bs.map bkey)[j]? = some (f.1, keyOf S f) := by rw [List.getElem?_map, hj]; exact congrArg some e
      exact (List.getElem?_inj (List.getElem?_eq_some_iff.mp h2).1 nd).mp (h2.trans h1.symm)
theorem addP_new {S : List Tab} {bs : List Block} {f : Fact} (h : ∀ b ∈ bs, bkey b ≠ (f.1, keyOf S f)) : addP S bs f = bs ++ [(f.1, keyOf S f, [f.2])] := by
  unfold addP
  rw [if_neg]
  intro z
  obtain ⟨b, hb, e⟩ := List.any_eq_true.mp z
  exact h b hb (of_decide_eq_true e)
theorem map_set {α β : Type} (f : α → β) {l : List α} {j : Nat} {a b : α} (h : l[j]? = some a) (e : f b = f a) : (l.set j b).map f = l.map f := by
  refine List.ext_getElem? fun i => ?_
  rw [List.getElem?_map, List.getElem?_set, List.getElem?_map]
  by_cases hi : j = i
  · subst hi
    rw [if_pos rfl, if_pos (List.getElem?_eq_some_iff.mp h).1, h]
    show some (f b) = some (f a)
    rw [e]
  · rw [if_neg hi]
theorem groupsP_nd {S : List Tab} (l : List Fact) : ((groupsP S l).map bkey).Nodup := by
  refine snoc_ind (P := fun l => ((groupsP S l).map bkey).Nodup) List.nodup_nil (fun l f ih => ?_) l
  rw [groupsP_snoc]
  by_cases h : ∃ (j : Nat) (b : Block), (groupsP S l)[j]? = some b ∧ bkey b = (f.1, keyOf S f)
  · obtain ⟨j, b, hj, e⟩ := h
    rw [addP_old ih hj e, map_set bkey hj (show bkey (b.1, b.2.1, b.2.2 ++ [f.2]) = bkey b from rfl)]
    exact ih
  · have h' : ∀ b ∈ groupsP S l, bkey b ≠ (f.1, keyOf S f) := fun b hb e => by
      obtain ⟨j, hj⟩ := List.getElem?_of_mem hb
      exact h ⟨j, b, hj, e⟩
    rw [addP_new h', List.map_append]
    refine List.nodup_append.mpr ⟨ih, by simp, fun a ha b hb z => ?_⟩
    rw [List.map_cons, List.map_nil, List.mem_singleton] at hb
    obtain ⟨c, hc, e⟩ := List.mem_map.mp ha
    exact h' c hc (e.trans (z.trans hb))
theorem groupsP_few {S : List Tab} (l : List Fact) : (groupsP S l).length ≤ l.length ∧ ∀ b ∈ groupsP S l, b.2.2.length ≤ l.length := by
  refine snoc_ind (P := fun l => (groupsP S l).length ≤ l.length ∧ ∀ b ∈ groupsP S l, b.2.2.length ≤ l.length) ⟨Nat.le_refl _, fun b hb => by cases hb⟩ (fun l f ih => ?_) l
  rw [groupsP_snoc, List.length_append, List.length_singleton]
  by_cases h : ∃ (j : Nat) (b : Block), (groupsP S l)[j]? = some b ∧ bkey b = (f.1, keyOf S f)
  · obtain ⟨j, b, hj, e⟩ := h
    rw [addP_old (groupsP_nd l) hj e, List.length_set]
    refine ⟨Nat.le_succ_of_le ih.1, fun c hc => ?_⟩
    rcases List.mem_or_eq_of_mem_set hc with hc | hc
    · exact Nat.le_succ_of_le (ih.2 c hc)
    · rw [hc]
      show (b.2.2 ++ [f.2]).length ≤ _
      rw [List.length_append]
      exact Nat.succ_le_succ (ih.2 b (List.mem_of_getElem? hj))
  · have h' : ∀ b ∈ groupsP S l, bkey b ≠ (f.1, keyOf S f) := fun b hb e => by
      obtain ⟨j, hj⟩ := List.getElem?_of_mem hb
      exact h ⟨j, b, hj, e⟩
    rw [addP_new h', List.length_append]
    refine ⟨Nat.succ_le_succ ih.1, fun c hc => ?_⟩
    rcases List.mem_append.mp hc with hc | hc
    · exact Nat.le_succ_of_le (ih.2 c hc)
    · rw [List.mem_singleton.mp hc]
      show 1 ≤ _
      omega
section
variable {J : It} {n : Nat} {G : Hp → Prop} {it : Nat → V → Hp → Prop} {g : TG} {te : TE} {vs : List Nat} {σ : L2.St} {H1 : Hp} {Q : Addr → Hp → Prop}
/-- a comprehension over a walk that makes new things -/
theorem gatherN (w : Walk J n G fun i H x H' => EM.St none H H' ∧ it i x H') (hG : ∀ H, EM.St none H1 H → G H) (hn : n < 1000000) (Pd : Nat → V → Hp → Prop)
    (mono : ∀ i v H H', TK H H' → Pd i v H → Pd i v H')
    (turn : ∀ i x H, i < n → it i x H → EM.St none H1 H → ∀ R : VK, (∀ v H', EM.St none H H' → Pd i v H' → R v H') → g x (wipe σ vs) H fun σ2 H2 => wipe σ2 vs = wipe σ vs ∧ te σ2 H2 R)
    (done : ∀ D xs H', EM.St none H1 H' → H1 D = none → H' D = some (.lst xs) → xs.length = n → (∀ (i : Nat) (v : V), xs[i]? = some v → Pd i v H') → Q D H')
    (gmono : ∀ x σ H Q Q', (∀ σ2 H2, Q σ2 H2 → Q' σ2 H2) → g x σ H Q → g x σ H Q') :
    ∀ D, H1 D = none → ∃ W : Nat → Nat → Hp → Prop, (∃ k, W 0 k (upd H1 D (.lst []))) ∧ ∀ i k H, W i k H →
      (J.stop i H ∧ Q D H) ∨ (J.go i H ∧ ∃ Nx : Hp → Prop, (∀ H', Nx H' → ∃ k', k' < k ∧ W (i + 1) k' H') ∧ ∀ x H', J.yld i H x H' → g x (wipe σ vs) H' fun σ2 H2 => wipe σ2 vs = wipe σ vs ∧ tYes σ2 H2 fun b H3 =>
        if b = true then te σ2 H3 fun y H4 => ∃ acc, H4 D = some (.lst acc) ∧ acc.length < sizeLine ∧ Nx (upd H4 D (.lst (acc ++ [y]))) else Nx H3) := by
  intro D nD
  refine lc_it (tt := tYes) w (fun i H => EM.St none H1 H ∧ ∃ xs, H D = some (.lst xs) ∧ xs.length = i ∧ ∀ (k : Nat) (v : V), xs[k]? = some v → Pd k v H)
    ⟨(St.refl none H1).mut nD, [], upd_same, rfl, fun k v e => by simp at e⟩ (fun i H _ p => hG H p.1) (fun i x H H' hi p y => ?_) (fun H p => ?_)
  · obtain ⟨sy, y⟩ := y
    obtain ⟨s, xs, hx, hl, hp⟩ := p
    refine gmono _ _ _ _ _ ?_ (turn i x H' hi y (s.trans sy) (fun v H4 => ∃ acc, H4 D = some (.lst acc) ∧ acc.length < sizeLine ∧ (EM.St none H1 (upd H4 D (.lst (acc ++ [v]))) ∧ ∃ ys, (upd H4 D (.lst (acc ++ [v]))) D = some (.lst ys) ∧ ys.length = i + 1 ∧ ∀ (k : Nat) (u : V), ys[k]? = some u → Pd k u (upd H4 D (.lst (acc ++ [v])))))
      (fun v H4 s4 pd => ?_))
    · rintro σ2 H2 ⟨e1, e2⟩
      refine ⟨e1, ?_⟩
      delta tYes
      exact iteT e2
    · have sH4 := sy.trans s4
      have h4 : H4 D = some (.lst xs) := sH4.same D _ hx
      refine ⟨xs, h4, sz_lt (by omega), (s.trans sH4).mut nD, xs ++ [v], upd_same, by simp [hl], fun k u e => ?_⟩
      refine mono k u H4 _ (.lst h4) ?_
      by_cases hk : k < xs.length
      · rw [List.getElem?_append_left hk] at e
        exact mono k u H _ sH4.tup (hp k u e)
      · have hk2 : k = xs.length := by
          have := (List.getElem?_eq_some_iff.mp e).1
          simp at this
          omega
        subst hk2
        rw [List.getElem?_append_right (Nat.le_refl _)] at e
        simp at e
        subst e
        rw [hl]
        exact pd
  · obtain ⟨s, xs, hx, hl, hp⟩ := p
    exact done D xs H s nD hx hl hp
end
structure GAt (P : Program) (w : World) (H0 H : Hp) (d : Addr) (bs : List Block) (gs : List GEnt) : Prop where
  len : gs.length = bs.length
  dict : H d = some (Gd P w d gs)
  ent : ∀ (j : Nat) (b : Block) (g : GEnt), bs[j]? = some b → gs[j]? = some g → g.1 = nkey b.1 b.2.1 ∧ KeyAt H g.2.1 b.1 b.2.1 ∧ ∃ xs, H g.2.2 = some (.lst xs) ∧ DenL H (b.2.2.map eRow) xs
  own : ∀ (j : Nat) (g : GEnt), gs[j]? = some g → H0 g.2.2 = none
  apart : ∀ (j k : Nat) (g g' : GEnt), gs[j]? = some g → gs[k]? = some g' → j ≠ k → g.2.2 ≠ g'.2.2
theorem GAt.st {P : Program} {w : World} {H0 H H' : Hp} {d : Addr} {bs : List Block} {gs : List GEnt} (s : EM.St none H H') (g : GAt P w H0 H d bs gs) : GAt P w H0 H' d bs gs :=
  ⟨g.len, s.same _ _ g.dict, fun j b e h1 h2 => by
    obtain ⟨a1, a2, xs, a3, a4⟩ := g.ent j b e h1 h2
    exact ⟨a1, a2.tk s.tup, xs, s.same _ _ a3, s.denL a4⟩, g.own, g.apart⟩
section
variable {P : Program} {w : World} {K : PySem.W.Frag} {mg : Str → Option Value} {base : Heap}
def spBlocksP : Sp := fun vs H Q _ => ∃ (sv fv : V) (S : List Tab) (fs : List Fact), vs = [sv, fv] ∧ Den H (eSchema S) sv ∧ Den H (eStore fs) fv ∧ (∀ f ∈ fs, FactOk S f) ∧ fs.length ≤ 1000 ∧ ∀ v H', EM.St none H H' → Den H' (.tuple ((groupsP S fs).map eBlock)) v → Q v H'
theorem hasPBlocksOf (T : Txt K mg) : Has P w K mg base 3 "blocks_of" ["schema", "store"] spBlocksP := by
  refine T.dPBlocksOf.has scPBlocksOf (fun vs H Q E h => ?_) (fun f cdv A outer s H vs Q E hr h => ?_)
  · obtain ⟨sv, fv, S, fs, rfl, _⟩ := h
    rfl
  · obtain ⟨sv, fv, S, fs, rfl, hS, hF, ok, few, q⟩ := h
    obtain ⟨fp, fxs, rfl, hfp, hfx⟩ := den_map.mp hF
    have fl : fxs.length = fs.length := hfx.mlen
    refine ⟨_,
      (pss_cons (ps_set (i := 2) scPBlocksOf.nd rfl (.inl rfl) pe_dnewG)
      (pss_cons (ps_for PassesOwn.never rfl (itT K (pv 1)) (pg_name (i := 3) scPBlocksOf.nd rfl (Or.inl rfl))
        (pss_one (ps_expr (pe_bm PySem.F.plainAttrs_list PySem.F.slot_list_append PySem.F.type_list_append mt_append (pe_mG tyG_ok PySem.F.plainAttrs_dict PySem.F.slot_dict_setdefault PySem.F.type_dict_setdefault (mt_setG (room20 hr)) (pv 2) (pa_cons (pe_tup (pa_cons (pe_ix (ixT K) (pv 3) pe_int (fun _ _ => rfl)) (pa_cons (pe_own (hasPKeyOf T) hr (by decide) (by rfl) (pa_cons (pv 0) (pa_cons (pv 3) pa_nil))) pa_nil))) (pa_cons (pe_lst pa_nil) pa_nil))) (pa_cons (pe_ix (ixT K) (pv 3) pe_int (fun _ _ => rfl)) pa_nil)))))
      (pss_one (ps_ret (pe_callTy (tupOf K) (by rfl) T.mtuple (by decide +kernel) (pa_cons (pe_lock (pe_lc (own := [("place", 4), ("rows", 5)]) (g := (gTup K 2 (gCons (gName 4) (gCons (gName 5) gNil)))) (tt := tYes) rfl scPBlocksOf.nd (pi_itemsG (pv 2)) (blkOk_by (N := nmPBlocksOf) (sc := defScope stPBlocksOf) (by decide +kernel)) (fun _ _ _ _ _ => (gT K rfl (pgs_cons (pg_name (i := 4) scPBlocksOf.nd rfl (Or.inl rfl)) (pgs_cons (pg_name (i := 5) scPBlocksOf.nd rfl (Or.inl rfl)) pgs_nil)))) (fun _ _ _ _ _ => pts_nil) (fun _ _ _ _ _ => (pe_tup (pa_cons (pe_ix (ixT K) (pv 4) pe_int (fun _ _ => rfl)) (pa_cons (pe_ix (ixT K) (pv 4) pe_int (fun _ _ => rfl)) (pa_cons (pe_callTy (tupOf K) (by rfl) T.mtuple (by decide +kernel) (pa_cons (pv 5) pa_nil)) pa_nil))))))) pa_nil)))))), ?_⟩
    refine fun D nD => ?_
    have fpD : fp ≠ D := ne_of_none hfp nD
    refine ⟨.ref fp, rfl, fp, rfl, ⟨_, SqT.of (by rw [upd_ne fpD]; exact hfp)⟩, for_tup (K := K) (a := fp) (xs := fxs) (fun i σ H' => ∃ (y3 : Option V) (gs : List GEnt), σ = [some sv, some (.ref fp), some (.ref D), y3, none, none] ∧ EM.St none H H' ∧ GAt P w H H' D (groupsP S (fs.take i)) gs)
      ⟨none, [], rfl, St.new nD, ⟨rfl, upd_same, fun j b g h => by simp [groupsP] at h, fun j g h => by simp at h, fun j k g g' h => by simp at h⟩⟩ (fun i σ H' _ h => by obtain ⟨_, _, _, s', _⟩ := h; exact SqT.of (s'.same _ _ hfp)) ?_ ?_⟩
    · rintro i x σ H1 hi ⟨y3, gs, rfl, s1, G⟩
      have il : i < fxs.length := (List.getElem?_eq_some_iff.mp hi).1
      obtain ⟨f, hf, df⟩ := (s1.denL hfx).mback hi
      have fok := ok f (List.mem_of_getElem? hf)
      obtain ⟨p, r, rfl, hp, hr0⟩ := den_fact.mp df
      have gl := (groupsP_few (S := S) (fs.take i)).1
      have gr := (groupsP_few (S := S) (fs.take i)).2
      rw [List.length_take] at gl gr
      have nd := groupsP_nd (S := S) (fs.take i)
      have eg : groupsP S (fs.take (i + 1)) = addP S (groupsP S (fs.take i)) f := by rw [take_snoc hf, groupsP_snoc]
      generalize groupsP S (fs.take i) = bs at G gl gr nd eg
      refine ⟨.ref D, rfl, ⟨D, gs, rfl, G.dict⟩, .ref p, rfl, p, _, 0, _, rfl, rfl, SqT.of hp, atI_nat (j := 0) rfl, sv, rfl, .ref p, rfl, sv, .ref p, S, f, rfl, s1.den hS, df, fok, fun v H2 s2 dv => ?_⟩
      obtain ⟨kp, rfl, hk⟩ := den_row.mp dv
      refine ⟨sz_le (by show 2 ≤ 10000000; decide), fun tp ntp => ⟨Nat.zero_le _, fun l nl => ?_⟩⟩
      have s3 : EM.St none H2 (upd H2 tp (.tup [.str f.1, .ref kp])) := St.new ntp
      have s4 : EM.St none (upd H2 tp (.tup [.str f.1, .ref kp])) (upd (upd H2 tp (.tup [.str f.1, .ref kp])) l (.lst [])) := St.new nl
      have s24 := s3.trans s4
      have s14 := s2.trans s24
      have G4 := G.st s14
      have htp : (upd (upd H2 tp (.tup [.str f.1, .ref kp])) l (.lst [])) tp = some (.tup [.str f.1, .ref kp]) := s4.same _ _ upd_same
      have hl4 : (upd (upd H2 tp (.tup [.str f.1, .ref kp])) l (.lst [])) l = some (.lst []) := upd_same
      have hp4 := s14.same _ _ hp
      have hr4 := s14.same _ _ hr0
      have hk4 := s24.same _ _ hk
      have lnone : H1 l = none := (s2.trans s3).free0 nl
      generalize upd (upd H2 tp (.tup [.str f.1, .ref kp])) l (.lst []) = H4 at s24 s14 G4 htp hl4 hp4 hr4 hk4 s4 ⊢
      have keys : ∀ g ∈ gs, ∃ m q, g.1 = nkey m q ∧ KeyAt H4 g.2.1 m q := fun g hg => by
        obtain ⟨j, hj⟩ := List.getElem?_of_mem hg
        obtain ⟨b, hb⟩ := a_get? (l := bs) (i := j) (by rw [← G.len]; exact (List.getElem?_eq_some_iff.mp hj).1)
        obtain ⟨e1, e2, _⟩ := G4.ent j b g hb hj
        exact ⟨_, _, e1, e2⟩
      by_cases hex : ∃ (j : Nat) (b : Block), bs[j]? = some b ∧ bkey b = (f.1, keyOf S f)
      · obtain ⟨j, b, hj, e⟩ := hex
        obtain ⟨g, hg⟩ := a_get? (l := gs) (i := j) (by rw [G.len]; exact (List.getElem?_eq_some_iff.mp hj).1)
        obtain ⟨e1, e2, xs, hx, dx⟩ := G4.ent j b g hj hg
        have ek : g.1 = nkey f.1 (keyOf S f) := by
          rw [e1]
          have := Prod.mk.inj e
          rw [this.1, this.2]
        have xl : xs.length = b.2.2.length := dx.mlen
        have brl := gr b (List.mem_of_getElem? hj)
        refine ⟨D, tp, l, gs, f.1, keyOf S f, rfl, rfl, G4.dict, ⟨kp, htp, hk4⟩, keys, by rw [G.len]; omega, .inl ⟨g, List.mem_of_getElem? hg, ek, .inl ⟨rfl, _, SqL.of hx⟩, .ref p, rfl, p, _, 1, _, rfl, rfl, SqT.of hp4, atI_nat (j := 1) rfl, g.2.2, xs, .ref r, rfl, rfl, hx, sz_lt (by omega), ?_⟩⟩
        have gown := G.own j g hg
        have tk : TK H4 (upd H4 g.2.2 (.lst (xs ++ [.ref r]))) := .lst hx
        have gD : D ≠ g.2.2 := ne_of G4.dict hx (by intro z; cases z)
        refine ⟨_, gs, rfl, (s1.trans s14).mut gown, ?_⟩
        rw [eg, addP_old nd hj e]
        refine ⟨by rw [List.length_set]; exact G.len, by rw [upd_ne gD]; exact G4.dict, fun k c g' h1 h2 => ?_, G.own, G.apart⟩
        rw [List.getElem?_set] at h1
        by_cases hjk : j = k
        · subst hjk
          rw [if_pos rfl, if_pos (List.getElem?_eq_some_iff.mp hj).1] at h1
          obtain rfl := Option.some.inj h1
          rw [hg] at h2
          obtain rfl := Option.some.inj h2
          exact ⟨e1, e2.tk tk, _, upd_same, (DenL.tk tk _ _ dx).msnoc (den_row.mpr ⟨r, rfl, tk _ _ hr4⟩)⟩
        · rw [if_neg hjk] at h1
          obtain ⟨a1, a2, ys, a3, a4⟩ := G4.ent k c g' h1 h2
          refine ⟨a1, a2.tk tk, ys, ?_, DenL.tk tk _ _ a4⟩
          rw [upd_ne]
          · exact a3
          · exact fun z => G.apart j k g g' hg h2 hjk z.symm
      · have hno : ∀ b ∈ bs, bkey b ≠ (f.1, keyOf S f) := fun b hb e => by
          obtain ⟨j, hj⟩ := List.getElem?_of_mem hb
          exact hex ⟨j, b, hj, e⟩
        have gno : ∀ g ∈ gs, g.1 ≠ nkey f.1 (keyOf S f) := fun g hg z => by
          obtain ⟨j, hj⟩ := List.getElem?_of_mem hg
          obtain ⟨b, hb⟩ := a_get? (l := bs) (i := j) (by rw [← G.len]; exact (List.getElem?_eq_some_iff.mp hj).1)
          obtain ⟨e1, _⟩ := G4.ent j b g hb hj
          exact hno b (List.mem_of_getElem? hb) (nkey_inj (e1.symm.trans z))
        have Dl : D ≠ l := ne_of G4.dict hl4 (by intro z; cases z)
        refine ⟨D, tp, l, gs, f.1, keyOf S f, rfl, rfl, G4.dict, ⟨kp, htp, hk4⟩, keys, by rw [G.len]; omega, .inr ⟨gno, .inl ⟨rfl, _, SqL.of (by rw [upd_ne Dl.symm]; exact hl4)⟩, .ref p, rfl, p, _, 1, _, rfl, rfl, SqT.of (by rw [upd_ne (ne_of hp4 G4.dict (by intro z; cases z))]; exact hp4), atI_nat (j := 1) rfl, l, [], .ref r, rfl, rfl, by rw [upd_ne Dl.symm]; exact hl4, sz_lt (by decide), ?_⟩⟩
        have tk : TK H4 (upd (upd H4 D (Gd P w D (gs ++ [(nkey f.1 (keyOf S f), tp, l)]))) l (.lst ([] ++ [.ref r]))) := ⟨fun c u hc kc => by
          rw [upd_ne (fun z => by rw [z, hl4] at hc; rw [← Option.some.inj hc] at kc; exact kc), upd_ne (fun z => by rw [z, G4.dict] at hc; rw [← Option.some.inj hc] at kc; exact kc)]
          exact hc⟩
        have lnH : H l = none := s1.free0 lnone
        refine ⟨_, gs ++ [(nkey f.1 (keyOf S f), tp, l)], rfl, ((s1.trans s14).mut nD).mut lnH, ?_⟩
        rw [eg, addP_new hno]
        refine ⟨by rw [List.length_append, List.length_append, G.len]; rfl, by rw [upd_ne Dl, upd_same]; rfl, fun k c g' h1 h2 => ?_, fun k g' h => ?_, fun k k2 g' g2 h1 h2 hne => ?_⟩
        · by_cases hk2 : k < bs.length
          · rw [List.getElem?_append_left hk2] at h1
            rw [List.getElem?_append_left (by rw [G.len]; exact hk2)] at h2
            obtain ⟨a1, a2, ys, a3, a4⟩ := G4.ent k c g' h1 h2
            obtain ⟨_, _, ys', a5, _⟩ := G.ent k c g' h1 h2
            have gl' : g'.2.2 ≠ l := ne_of_none a5 lnone
            have gD' : g'.2.2 ≠ D := ne_of a3 G4.dict (by intro z; cases z)
            exact ⟨a1, a2.tk tk, ys, by rw [upd_ne gl', upd_ne gD']; exact a3, DenL.tk tk _ _ a4⟩
          · have ek : k = bs.length := by
              have := (List.getElem?_eq_some_iff.mp h1).1
              rw [List.length_append, List.length_singleton] at this
              omega
            subst ek
            rw [List.getElem?_append_right (Nat.le_refl _), Nat.sub_self] at h1
            rw [List.getElem?_append_right (by rw [G.len]; exact Nat.le_refl _), G.len, Nat.sub_self] at h2
            obtain rfl := Option.some.inj h1
            obtain rfl := Option.some.inj h2
            exact ⟨rfl, ⟨kp, tk _ _ htp, tk _ _ hk4⟩, _, upd_same, DenL.one (den_row.mpr ⟨r, rfl, tk _ _ hr4⟩)⟩
        · by_cases hk2 : k < gs.length
          · rw [List.getElem?_append_left hk2] at h
            exact G.own k g' h
          · rw [List.getElem?_append_right (by omega)] at h
            have ek : k - gs.length = 0 := by
              have := (List.getElem?_eq_some_iff.mp h).1
              rw [List.length_singleton] at this
              omega
            rw [ek] at h
            obtain rfl := Option.some.inj h
            exact lnH
        · have gnl : ∀ (k : Nat) (g' : GEnt), gs[k]? = some g' → g'.2.2 ≠ l := fun k g' h => by
            obtain ⟨b, hb⟩ := a_get? (l := bs) (i := k) (by rw [← G.len]; exact (List.getElem?_eq_some_iff.mp h).1)
            obtain ⟨_, _, ys', a5, _⟩ := G.ent k b g' hb h
            exact ne_of_none a5 lnone
          have last : ∀ (k : Nat) (g' : GEnt), ¬ k < gs.length → (gs ++ [(nkey f.1 (keyOf S f), tp, l)])[k]? = some g' → g'.2.2 = l ∧ k = gs.length := fun k g' hk h => by
            rw [List.getElem?_append_right (by omega)] at h
            have ek : k - gs.length = 0 := by
              have := (List.getElem?_eq_some_iff.mp h).1
              rw [List.length_singleton] at this
              omega
            rw [ek] at h
            rw [← Option.some.inj h]
            exact ⟨rfl, by omega⟩
          by_cases hk1 : k < gs.length
          · rw [List.getElem?_append_left hk1] at h1
            by_cases hk2 : k2 < gs.length
            · rw [List.getElem?_append_left hk2] at h2
              exact G.apart k k2 g' g2 h1 h2 hne
            · rw [(last k2 g2 hk2 h2).1]
              exact gnl k g' h1
          · by_cases hk2 : k2 < gs.length
            · rw [List.getElem?_append_left hk2] at h2
              rw [(last k g' hk1 h1).1]
              exact (gnl k2 g2 h2).symm
            · have a1 := (last k g' hk1 h1).2
              have a2 := (last k2 g2 hk2 h2).2
              omega
    · rintro σ H1 ⟨y3, gs, rfl, s1, G⟩
      rw [fl, List.take_length] at G
      have gfew := (groupsP_few (S := S) fs).1
      have grow := (groupsP_few (S := S) fs).2
      generalize groupsP S fs = bs at G q gfew grow
      refine ⟨D, _, G.dict, trivial, fun od => ?_⟩
      have dsame : ∀ H', EM.St none (upd H1 D (.frz od (Gd P w D gs))) H' → H' D = some (.frz od (Gd P w D gs)) := fun H' s' => s'.same _ _ upd_same
      refine ⟨.ref D, rfl, D, od, gs, rfl, upd_same, gatherN (it := fun i x H' => ∃ (t : Addr) (g : GEnt), gs[i]? = some g ∧ x = .ref t ∧ H' t = some (.tup [.ref g.2.1, .ref g.2.2])) (wkG.mono (fun _ h => h) fun i H x H' _ _ y => ?_) (fun H s' => dsame H s') (by rw [G.len]; omega)
        (fun i v H => ∀ b, bs[i]? = some b → Den H (eBlock b) v) (fun i v H H' t h b e => Den.tk t _ _ (h b e)) (fun i x H2 hi hx s2 R k => ?_) (fun E xs H2 s2 nE hE hl hpd => ?_) ?_⟩
      · obtain ⟨t, g, h1, h2, h3, h4⟩ := y
        subst h4
        exact ⟨St.new h3, t, g, h1, h2, upd_same⟩
      · obtain ⟨t, g, hg, rfl, ht⟩ := hx
        obtain ⟨b, hb⟩ := a_get? (l := bs) (i := i) (by rw [← G.len]; exact hi)
        obtain ⟨e1, ⟨kq, k1, k2⟩, ys, e3, e4⟩ := G.ent i b g hb hg
        have sf : ∀ c u, H1 c = some u → c ≠ D → H2 c = some u := fun c u hc ne => s2.same _ _ (by rw [upd_ne ne]; exact hc)
        have tf : TK H1 H2 := ⟨fun c u hc kc => sf c u hc fun z => by rw [z, G.dict] at hc; rw [← Option.some.inj hc] at kc; exact kc⟩
        have k1' := tf _ _ k1
        have hq2 : H2 g.2.2 = some (.lst ys) := sf _ _ e3 (ne_of e3 G.dict (by intro z; cases z))
        have d2 := DenL.tk tf _ _ e4
        refine ⟨t, _, rfl, SqT.of ht, rfl, _, _, rfl, _, _, rfl, rfl, rfl, .ref g.2.1, rfl, g.2.1, _, 0, _, rfl, rfl, SqT.of k1', atI_nat (j := 0) rfl, .ref g.2.1, rfl, g.2.1, _, 1, _, rfl, rfl, SqT.of k1', atI_nat (j := 1) rfl, .ref g.2.2, rfl, g.2.2, ys, rfl, .inl ⟨SqL.of hq2, fun u nu => ⟨sz_le (by show 3 ≤ 10000000; decide), fun p2 np2 => ?_⟩⟩⟩
        have up2 : u ≠ p2 := ne_of_none upd_same np2
        have su : EM.St none H2 (upd (upd H2 u (.tup ys)) p2 (.tup [.str b.1, .ref kq, .ref u])) := (St.new nu).trans (St.new np2)
        refine k _ _ su fun b' hb' => ?_
        rw [hb] at hb'
        obtain rfl := Option.some.inj hb'
        exact den_block.mpr ⟨p2, kq, u, ys, rfl, upd_same, su.same _ _ (tf _ _ k2), by rw [upd_ne up2, upd_same], su.denL d2⟩
      · have hd2 := s2.same _ _ (upd_same (H := H1) (a := D) (o := .frz od (Gd P w D gs)))
        have sH : EM.St none H (upd H2 D (Gd P w D gs)) := by
          refine EM.St.mut ?_ nD
          refine ⟨fun c u hc _ => ?_, ⟨fun c u hc kc => ?_⟩, fun a z => nomatch z⟩
          · exact s2.same _ _ (by rw [upd_ne (ne_of_none hc nD)]; exact s1.same _ _ hc)
          · exact s2.same _ _ (by rw [upd_ne (ne_of_none hc nD)]; exact s1.same _ _ hc)
        have tE : TK H2 (upd H2 D (Gd P w D gs)) := ⟨fun c u hc kc => by
          rw [upd_ne]
          · exact hc
          · intro z
            rw [z, hd2] at hc
            rw [← Option.some.inj hc] at kc
            exact kc⟩
        have ED : E ≠ D := (ne_of_none upd_same nE).symm
        have dl : DenL H2 (bs.map eBlock) xs := DenL.of_get (by rw [List.length_map, hl, G.len]) fun i d v h1 h2 => by
          rw [List.getElem?_map] at h1
          cases q1 : bs[i]? with
          | none => rw [q1] at h1; cases h1
          | some b =>
            rw [q1] at h1
            obtain rfl := Option.some.inj h1
            exact hpd i v h2 b q1
        refine ⟨hd2, E, xs, rfl, .inl ⟨SqL.of (by rw [upd_ne ED]; exact hE), fun u nu => q _ _ (sH.trans (St.new nu)) (den_map.mpr ⟨u, xs, rfl, upd_same, DenL.tk (tE.trans (.new nu)) _ _ dl⟩)⟩⟩
      · exact fun _ _ _ _ _ f ⟨a, xs, e, h1, h2, v, r, e1, v2, r2, e2, e3, h⟩ => ⟨a, xs, e, h1, h2, v, r, e1, v2, r2, e2, e3, f _ _ h⟩
end
end EM
/-! the program's mendings -/
namespace EM
open PySem PySem.Spec PyProof.Rows L2 RT
theorem groupsP_ne {S : List Tab} (l : List Fact) : ∀ b ∈ groupsP S l, b.2.2 ≠ [] := by
  refine snoc_ind (P := fun l => ∀ b ∈ groupsP S l, b.2.2 ≠ []) (fun b hb => by cases hb) (fun l f ih c hc => ?_) l
  rw [groupsP_snoc] at hc
  by_cases h : ∃ (j : Nat) (b : Block), (groupsP S l)[j]? = some b ∧ bkey b = (f.1, keyOf S f)
  · obtain ⟨j, b, hj, e⟩ := h
    rw [addP_old (groupsP_nd l) hj e] at hc
    rcases List.mem_or_eq_of_mem_set hc with hc | hc
    · exact ih c hc
    · rw [hc]
      show b.2.2 ++ [f.2] ≠ []
      simp
  · have h' : ∀ b ∈ groupsP S l, bkey b ≠ (f.1, keyOf S f) := fun b hb e => by
      obtain ⟨j, hj⟩ := List.getElem?_of_mem hb
      exact h ⟨j, b, hj, e⟩
    rw [addP_new h'] at hc
    rcases List.mem_append.mp hc with hc | hc
    · exact ih c hc
    · rw [List.mem_singleton.mp hc]
      exact List.cons_ne_nil _ _
theorem count_snoc (bs : List Block) (b : Block) : count (bs ++ [b]) = count bs * b.2.2.length := by
  unfold count
  rw [List.foldl_append]
  rfl
theorem count_le (bs : List Block) : (∀ b ∈ bs, b.2.2.length ≤ 7) → count bs ≤ 7 ^ bs.length := by
  refine snoc_ind (P := fun bs => (∀ b ∈ bs, b.2.2.length ≤ 7) → count bs ≤ 7 ^ bs.length) (fun _ => Nat.le_refl _) (fun l b ih h => ?_) bs
  rw [count_snoc, List.length_append, List.length_singleton, Nat.pow_succ]
  exact Nat.mul_le_mul (ih fun c hc => h c (List.mem_append_left _ hc)) (h b (List.mem_append_right _ (List.mem_singleton.mpr rfl)))
theorem count_small {S : List Tab} {fs : List Fact} (few : fs.length ≤ 7) (k : Nat) : count ((groupsP S fs).take k) ≤ 823543 := by
  obtain ⟨h1, h2⟩ := groupsP_few (S := S) fs
  refine Nat.le_trans (count_le _ fun b hb => Nat.le_trans (h2 b (List.mem_of_mem_take hb)) few) (pow7 ?_)
  rw [List.length_take]
  omega
section
variable {P : Program} {w : World} {K : PySem.W.Frag} {mg : Str → Option Value} {base : Heap}
def spCount : Sp := fun vs H Q _ => ∃ (sv fv : V) (S : List Tab) (fs : List Fact), vs = [sv, fv] ∧ Den H (eSchema S) sv ∧ Den H (eStore fs) fv ∧ (∀ f ∈ fs, FactOk S f) ∧ fs.length ≤ 7 ∧ ∀ H', EM.St none H H' → Q (.int (count (groupsP S fs) : Nat)) H'
theorem hasPCountMendings (T : Txt K mg) : Has P w K mg base 4 "count_mendings" ["schema", "store"] spCount := by
  refine T.dPCountMendings.has scPCountMendings (fun vs H Q E h => ?_) (fun f cdv A outer s H vs Q E hr h => ?_)
  · obtain ⟨sv, fv, S, fs, rfl, _⟩ := h
    rfl
  · obtain ⟨sv, fv, S, fs, rfl, hS, hF, ok, few, q⟩ := h
    refine ⟨_,
      (pss_cons (ps_set (i := 2) scPCountMendings.nd rfl (.inl rfl) pe_int)
      (pss_cons (ps_for PassesOwn.never rfl (itT K (pe_own (hasPBlocksOf T) hr (by decide) (by rfl) (pa_cons (pv 0) (pa_cons (pv 1) pa_nil)))) (pg_name (i := 3) scPCountMendings.nd rfl (Or.inl rfl))
        (pss_one (ps_set (i := 2) scPCountMendings.nd rfl (.inl rfl) (pe_op op_mul (pv 2) (pe_callB (lenS K) (by rfl) T.mlen PySem.boot_len (pa_cons (pe_ix (ixT K) (pv 3) pe_int (fun _ _ => rfl)) pa_nil))))))
      (pss_one (ps_ret (pv 2))))), ?_⟩
    refine ⟨sv, rfl, fv, rfl, sv, fv, S, fs, rfl, hS, hF, ok, by omega, fun bv H1 s1 dbv => ?_⟩
    obtain ⟨bp, bxs, rfl, hbp, dbx⟩ := den_map.mp dbv
    have bl : bxs.length = (groupsP S fs).length := dbx.mlen
    have csm := count_small (S := S) few
    refine ⟨bp, rfl, ⟨_, SqT.of hbp⟩, for_tup (K := K) (a := bp) (xs := bxs) (fun i σ H' => ∃ (y3 : Option V), σ = [some sv, some fv, some (.int (count ((groupsP S fs).take i) : Nat)), y3] ∧ EM.St none H1 H')
      ⟨none, rfl, .refl _ _⟩ (fun i σ H' _ h => by obtain ⟨_, _, s'⟩ := h; exact SqT.of (s'.same _ _ hbp)) ?_ ?_⟩
    · rintro i x σ H2 hi ⟨y3, rfl, s2⟩
      obtain ⟨b, hb, db⟩ := (s2.denL dbx).mback hi
      obtain ⟨p, bq, br, brx, rfl, hp, hbq, hbr, dbr⟩ := den_block.mp db
      have rl : brx.length = b.2.2.length := dbr.mlen
      have ec : count ((groupsP S fs).take (i + 1)) = count ((groupsP S fs).take i) * b.2.2.length := by rw [take_snoc hb, count_snoc]
      have c1 := csm i
      have rb : b.2.2.length ≤ 7 := Nat.le_trans ((groupsP_few fs).2 b (List.mem_of_getElem? hb)) few
      refine ⟨_, rfl, .ref p, rfl, p, _, 2, _, rfl, rfl, SqT.of hp, atI_nat (j := 2) rfl, br, _, rfl, .inr (SqT.of hbr), _, _, rfl, rfl, .inl ⟨by omega, by omega⟩, some (.ref p), ?_, s2⟩
      rw [ec, ← rl, Int.natCast_mul]
      rfl
    · rintro σ H2 ⟨y3, rfl, s2⟩
      rw [bl, List.take_length]
      exact ⟨_, rfl, q H2 (s1.trans s2)⟩
theorem DenL.rev {H : Hp} : ∀ {ds : List PyData} {xs : List V}, DenL H ds xs → DenL H ds.reverse xs.reverse
  | [], xs, h => by rw [denL_nil] at h; subst h; exact .nil
  | d :: ds, xs, h => by
    rw [denL_cons] at h
    obtain ⟨x, r, rfl, h1, h2⟩ := h
    rw [List.reverse_cons, List.reverse_cons]
    exact (DenL.rev h2).snoc h1
theorem digs_cons {b : Block} {r : List Block} {n : Nat} : digs (b :: r) n = (b.1, b.2.2.getD (n % b.2.2.length) []) :: digs r (n / b.2.2.length) := rfl
def spMendAt : Sp := fun vs H Q _ => ∃ (sv fv : V) (S : List Tab) (fs : List Fact) (n : Nat), vs = [sv, fv, .int (n : Nat)] ∧ Den H (eSchema S) sv ∧ Den H (eStore fs) fv ∧ (∀ f ∈ fs, FactOk S f) ∧ fs.length ≤ 7 ∧ n < count (groupsP S fs) ∧
  ∀ v H', EM.St none H H' → Den H' (eStore (mendAt (groupsP S fs) n)) v → Q v H'
theorem hasPMendingAt (T : Txt K mg) : Has P w K mg base 5 "mending_at" ["schema", "store", "n"] spMendAt := by
  refine T.dPMendingAt.has scPMendingAt (fun vs H Q E h => ?_) (fun f cdv A outer s H vs Q E hr h => ?_)
  · obtain ⟨sv, fv, S, fs, n, rfl, _⟩ := h
    rfl
  · obtain ⟨sv, fv, S, fs, n, rfl, hS, hF, ok, few, hn, q⟩ := h
    obtain ⟨gl, gr⟩ := groupsP_few (S := S) fs
    have gne := groupsP_ne (S := S) fs
    refine ⟨_,
      (pss_cons (ps_if (PW.pt (pw_or (pt_cmpR op_lt (pv 2) pe_int (nomark _)) (pw_or1 (pt_cmpR op_ge (pv 2) (pe_own (hasPCountMendings T) hr (by decide) (by rfl) (pa_cons (pv 0) (pa_cons (pv 1) pa_nil))) (nomark _)))))
        (pss_one (ps_ret pe_non))
        pss_nil)
      (pss_cons (ps_set (i := 3) scPMendingAt.nd rfl (.inl rfl) (pe_lst pa_nil))
      (pss_cons (ps_for PassesOwn.never rfl (pi_revA (by rfl) T.mreversed (pe_callTy (lstOf K) (by rfl) T.mlist (by decide +kernel) (pa_cons (pe_own (hasPBlocksOf T) hr (by decide) (by rfl) (pa_cons (pv 0) (pa_cons (pv 1) pa_nil))) pa_nil))) (gT K rfl (pgs_cons (pg_name (i := 4) scPMendingAt.nd rfl (Or.inl rfl)) (pgs_cons (pg_name (i := 5) scPMendingAt.nd rfl (Or.inl rfl)) (pgs_cons (pg_name (i := 6) scPMendingAt.nd rfl (Or.inl rfl)) pgs_nil))))
        (pss_cons (ps_expr (pe_bm PySem.F.plainAttrs_list PySem.F.slot_list_append PySem.F.type_list_append mt_append (pv 3) (pa_cons (pe_tup (pa_cons (pv 4) (pa_cons (pe_ix (ixT K) (pv 6) (pe_op op_mod (pv 2) (pe_callB (lenS K) (by rfl) T.mlen PySem.boot_len (pa_cons (pv 6) pa_nil))) (fun _ _ => rfl)) pa_nil))) pa_nil)))
        (pss_one (ps_set (i := 2) scPMendingAt.nd rfl (.inl rfl) (pe_op op_fdiv (pv 2) (pe_callB (lenS K) (by rfl) T.mlen PySem.boot_len (pa_cons (pv 6) pa_nil)))))))
      (pss_cons (ps_expr (pe_bm0 PySem.F.plainAttrs_list PySem.F.slot_list_reverse PySem.F.type_list_reverse mt_reverse (pv 3)))
      (pss_one (ps_ret (pe_callTy (tupOf K) (by rfl) T.mtuple (by decide +kernel) (pa_cons (pv 3) pa_nil)))))))), ?_⟩
    refine ⟨_, rfl, _, _, rfl, rfl, _, rfl, ite2 (fun e => absurd (of_decide_eq_true e) (by omega)) (fun e => ?_)⟩
    refine ⟨_, rfl, sv, rfl, fv, rfl, sv, fv, S, fs, rfl, hS, hF, ok, few, fun H1 s1 => ⟨_, _, rfl, rfl, _, rfl, ite2 (fun e => absurd (of_decide_eq_true e) (by omega)) (fun e => ?_)⟩⟩
    refine ⟨Nat.zero_le _, fun F nF => ?_⟩
    have sF : EM.St none H (upd H1 F (.lst [])) := s1.trans (St.new nF)
    have nF0 := s1.free0 nF
    refine ⟨sv, rfl, fv, rfl, sv, fv, S, fs, rfl, sF.den hS, sF.den hF, ok, by omega, fun bv H2 s2 dbv => ?_⟩
    obtain ⟨bp, bxs, rfl, hbp, dbx⟩ := den_map.mp dbv
    have bl : bxs.length = (groupsP S fs).length := dbx.mlen
    have s12 := sF.trans s2
    have hF2 : H2 F = some (.lst []) := s2.same _ _ upd_same
    unfold mendAt at q
    generalize groupsP S fs = gs at dbx bl gl gr gne q
    refine ⟨bp, bxs, rfl, .inr (SqT.of hbp), fun l nl => ?_⟩
    have lF : l ≠ F := (ne_of_none hF2 nl).symm
    have sl : EM.St none H2 (upd H2 l (.lst bxs)) := St.new nl
    refine ⟨l, bxs, rfl, .inl ⟨SqL.of upd_same, for_Itv (K := K) (a := l) (xs := bxs) (fun i σ H' => ∃ (y4 y5 y6 : Option V) (m : Nat) (dn : List Fact) (fxs : List V), σ = [some sv, some fv, some (.int (m : Nat)), some (.ref F), y4, y5, y6] ∧ EM.St none H H' ∧ H' l = some (.lst bxs) ∧ DenL H' (gs.map eBlock) bxs ∧
        H' F = some (.lst fxs) ∧ DenL H' (dn.map eFact) fxs ∧ digs gs.reverse n = dn ++ digs (gs.reverse.drop i) m ∧ dn.length = i)
      ⟨none, none, none, n, [], [], rfl, s12.trans sl, upd_same, sl.denL dbx, sl.same _ _ hF2, .nil, rfl, rfl⟩ (fun i σ H' h => by obtain ⟨_, _, _, _, _, _, _, _, h3, _⟩ := h; exact SqL.of h3) ?_ ?_⟩⟩
    · rintro i x σ H3 hi hx ⟨y4, y5, y6, m, dn, fxs, rfl, s3, hl3, db3, hF3, df3, eg, dl⟩
      obtain ⟨b, hb, db⟩ := db3.mback hx
      obtain ⟨p, bq, br, brx, rfl, hp, hbq, hbr, dbr⟩ := den_block.mp db
      have rl : brx.length = b.2.2.length := dbr.mlen
      have bm := List.mem_of_getElem? hb
      have rpos : 0 < b.2.2.length := List.length_pos_iff.mpr (gne b bm)
      have rle := gr b bm
      have fxl : fxs.length = dn.length := df3.mlen
      have hb2 : gs.reverse[i]? = some b := by
        rw [List.getElem?_reverse (by omega), ← bl]
        exact hb
      have ed : gs.reverse.drop i = b :: gs.reverse.drop (i + 1) := by
        have hlt := (List.getElem?_eq_some_iff.mp hb2).1
        rw [List.drop_eq_getElem_cons hlt]
        rw [List.getElem?_eq_getElem hlt] at hb2
        rw [Option.some.inj hb2]
      have hmod : m % b.2.2.length < b.2.2.length := Nat.mod_lt _ rpos
      obtain ⟨r, hr'⟩ := a_get? (l := b.2.2) hmod
      obtain ⟨rv, hrv, drv⟩ := dbr.mget hr'
      obtain ⟨rp, rfl, hrp⟩ := den_row.mp drv
      have emod : ((m : Nat) : Int) % ((brx.length : Nat) : Int) = ((m % b.2.2.length : Nat) : Int) := by rw [rl]; rfl
      refine ⟨p, _, rfl, SqT.of hp, rfl, _, _, rfl, _, _, rfl, _, _, rfl, rfl, ?_⟩
      refine ⟨.ref F, rfl, .inl ⟨rfl, _, SqL.of hF3⟩, _, rfl, .ref br, rfl, _, rfl, .ref br, rfl, br, brx, rfl, .inr (SqT.of hbr), _, _, rfl, rfl, by omega, br, brx, _, _, rfl, rfl, SqT.of hbr, at_of emod hrv, sz_le (by show 2 ≤ 10000000; decide), fun u nu => ?_⟩
      have su : EM.St none H3 (upd H3 u (.tup [.str b.1, .ref rp])) := St.new nu
      have hF4 := su.same _ _ hF3
      have tk : TK H3 (upd (upd H3 u (.tup [.str b.1, .ref rp])) F (.lst (fxs ++ [.ref u]))) := su.tup.trans (.lst hF4)
      have uF : u ≠ F := (ne_of_none hF3 nu).symm
      have hbr5 : (upd (upd H3 u (.tup [.str b.1, .ref rp])) F (.lst (fxs ++ [.ref u]))) br = some (.tup brx) := tk _ _ hbr
      refine ⟨F, fxs, .ref u, rfl, rfl, hF4, sz_lt (by omega), _, rfl, .ref br, rfl, br, brx, rfl, .inr (SqT.of hbr5), _, _, rfl, rfl, ⟨by omega, by omega⟩, some (.str b.1), some (.ref bq), some (.ref br), m / b.2.2.length, dn ++ [(b.1, r)], fxs ++ [.ref u], ?_, (s3.trans su).mut nF0, by rw [upd_ne lF]; exact su.same _ _ hl3, DenL.tk tk _ _ db3, upd_same, (DenL.tk tk _ _ df3).msnoc (den_fact.mpr ⟨u, rp, rfl, by rw [upd_ne uF, upd_same], tk _ _ hrp⟩), ?_, by rw [List.length_append, dl]; rfl⟩
      · rw [← rl]
        rfl
      · rw [eg, ed, digs_cons, List.append_assoc, List.getD_eq_getElem?_getD, hr']
        rfl
    · rintro σ H3 ⟨y4, y5, y6, m, dn, fxs, rfl, s3, hl3, db3, hF3, df3, eg, dl⟩
      rw [List.drop_of_length_le (by rw [List.length_reverse]; omega)] at eg
      rw [show digs [] m = [] from rfl, List.append_nil] at eg
      refine ⟨.ref F, rfl, .inl ⟨rfl, _, SqL.of hF3⟩, F, _, rfl, rfl, hF3, .ref F, rfl, F, fxs.reverse, rfl, .inl ⟨SqL.of upd_same, fun u nu => ?_⟩⟩
      refine q _ _ ((s3.mut nF0).trans (St.new nu)) (den_map.mpr ⟨u, fxs.reverse, rfl, upd_same, ?_⟩)
      rw [eg, List.map_reverse]
      exact DenL.tk ((TK.lst hF3).trans (.new nu)) _ _ df3.rev
end
end EM
/-! the program's valuations -/
namespace EM
open PySem PySem.Spec PyProof.Rows L2
def encM (m : Mapping) : List (Key × V) := m.map fun q => (.inr q.1, kV q.2)
theorem enc_val (m : Mapping) (x : Str) : valV (encM m) (.inr x) = (lookM m x).map kV := by
  unfold valV lookM encM
  induction m with
  | nil => rfl
  | cons q m ih =>
    rw [List.map_cons]
    by_cases e : q.1 = x
    · rw [List.find?_cons_of_pos (by exact decide_eq_true (congrArg Sum.inr e)), List.find?_cons_of_pos (by exact decide_eq_true e)]
      rfl
    · rw [List.find?_cons_of_neg (by simpa using e), List.find?_cons_of_neg (by simpa using e)]
      exact ih
theorem enc_put {m : Mapping} {x : Str} {v : Key} (h : lookM m x = none) : putK (encM m) (.inr x) (kV v) = encM (m ++ [(x, v)]) := by
  unfold putK
  rw [if_neg]
  · unfold encM
    rw [List.map_append]
    rfl
  · intro z
    obtain ⟨q, hq, e⟩ := List.any_eq_true.mp z
    obtain ⟨p, hp, rfl⟩ := List.mem_map.mp hq
    unfold lookM at h
    have h2 := Option.map_eq_none_iff.mp h
    rw [List.find?_eq_none] at h2
    exact h2 p hp (decide_eq_true (Sum.inr.inj (of_decide_eq_true e)))
def MapD (H : Hp) (m : Mapping) (v : V) : Prop := ∃ p, v = .ref p ∧ H p = some (.dK (encM m))
theorem MapD.st {H H' : Hp} {m : Mapping} {v : V} (s : EM.St none H H') (h : MapD H m v) : MapD H' m v := by
  obtain ⟨p, e, hp⟩ := h
  exact ⟨p, e, s.same _ _ hp⟩
def growOutD (H : Hp) (o : Option Mapping) (v : V) : Prop := match o with
  | none => v = .non
  | some m => MapD H m v
theorem value_ne_var : (Tm.var "x").kind ≠ (Tm.val (.inl 0)).kind := by decide
section
variable {P : Program} {w : World} {K : PySem.W.Frag} {mg : Str → Option Value} {base : Heap}
def spBound : Sp := fun vs H Q _ => ∃ (tv rv : V) (d : Addr) (ts : List Tm) (r : Row) (m : Mapping), vs = [tv, rv, .ref d] ∧ Den H (.list (ts.map eTm)) tv ∧ Den H (eRow r) rv ∧ ts.length = r.length ∧ r.length ≤ 100 ∧ H d = some (.dK (encM m)) ∧ m.length ≤ 1000 ∧
  ∀ v H', EM.St none H H' → growOutD H' (grow ts r m) v → (∀ p, v = .ref p → H p = none) → Q v H'
theorem hasPBoundValues (T : Txt K mg) : Has P w K mg base 2 "bound_values" ["terms", "row", "values"] spBound := by
  refine T.dPBoundValues.has scPBoundValues (fun vs H Q E h => ?_) (fun f cdv A outer s H vs Q E hr h => ?_)
  · obtain ⟨av, rv, ml, a, r, m, rfl, _⟩ := h
    rfl
  · obtain ⟨tv, rv, d, ts, r, m, rfl, hT, hR, hlen, hsm, hD, hml, q⟩ := h
    obtain ⟨tq, tqs, tqo, rfl, htq, hto, dtq⟩ := den_mapL.mp hT
    obtain ⟨rp, rfl, hrp⟩ := den_row.mp hR
    refine ⟨_,
      (pss_cons (ps_set (i := 3) scPBoundValues.nd rfl (.inl rfl) (pe_callTy call_dictD (by rfl) T.mdict (by decide +kernel) (pa_cons (pv 2) pa_nil)))
      (pss_cons (ps_for PassesOwn.never rfl (pi_range1 (by rfl) T.mrange (pa_cons (pe_callB (lenS K) (by rfl) T.mlen PySem.boot_len (pa_cons (pv 1) pa_nil)) pa_nil)) (pg_name (i := 4) scPBoundValues.nd rfl (Or.inl rfl))
        (pss_cons (ps_asg (pe_ix (ixT K) (pv 0) (pv 4) (fun _ _ => rfl)) (gT K rfl (pgs_cons (pg_name (i := 5) scPBoundValues.nd rfl (Or.inl rfl)) (pgs_cons (pg_name (i := 6) scPBoundValues.nd rfl (Or.inl rfl)) pgs_nil))))
        (pss_one (ps_if (pt_cmpR op_eq (pv 5) pe_str (nomark _))
          (pss_one (ps_if (pt_cmpR op_ne (pv 6) (pe_ix (ixT K) (pv 1) (pv 4) (fun _ _ => rfl)) (nomark _))
            (pss_one (ps_ret pe_non))
            pss_nil))
          (pss_one (ps_if (pt_cmpR op_ne (pe_dsetd (pv 3) (pv 6) (pe_ix (ixT K) (pv 1) (pv 4) (fun _ _ => rfl)) ⟨rfl, rfl, rfl, rfl⟩) (pe_ix (ixT K) (pv 1) (pv 4) (fun _ _ => rfl)) (nomark _))
            (pss_one (ps_ret pe_non))
            pss_nil))))))
      (pss_one (ps_ret (pv 3))))), ?_⟩
    refine ⟨.ref d, rfl, d, encM m, rfl, .inl hD, fun D nD => ?_⟩
    refine ⟨.ref rp, rfl, rp, _, rfl, .inr (SqT.of ((TK.new nD) _ _ hrp)), _, rfl, by rw [List.length_map]; omega, by rw [List.length_map]; omega,
      for_range (lo := 0) (n := (((r.map kV).length : Nat) : Int).toNat) (fun i σ H' => ∃ (y4 y5 y6 : Option V) (mk : Mapping), σ = [some (.ref tq), some (.ref rp), some (.ref d), some (.ref D), y4, y5, y6] ∧ EM.St none H H' ∧ H' D = some (.dK (encM mk)) ∧ mk.length ≤ m.length + i ∧ grow ts r m = grow (ts.drop i) (r.drop i) mk)
        ⟨none, none, none, m, rfl, St.new nD, upd_same, Nat.le_refl _, rfl⟩ ?_ ?_⟩
    · rintro i σ H2 hi ⟨y4, y5, y6, mk, rfl, s2, hD2, mkl, eg⟩
      rw [Int.toNat_natCast, List.length_map] at hi
      have e0 : (0 : Int) + (i : Int) = (i : Int) := Int.zero_add _
      obtain ⟨t, ht⟩ := a_get? (l := ts) (i := i) (by omega)
      obtain ⟨k, hk⟩ := a_get? (l := r) (i := i) hi
      obtain ⟨x, hx, dx⟩ := (s2.denL dtq).mget ht
      have hkk : (r.map kV)[i]? = some (kV k) := by rw [List.getElem?_map, hk]; rfl
      have edt : ts.drop i = t :: ts.drop (i + 1) := by
        rw [List.drop_eq_getElem_cons (by omega)]
        rw [List.getElem?_eq_getElem (by omega)] at ht
        rw [Option.some.inj ht]
      have edr : r.drop i = k :: r.drop (i + 1) := by
        rw [List.drop_eq_getElem_cons hi]
        rw [List.getElem?_eq_getElem hi] at hk
        rw [Option.some.inj hk]
      rw [edt, edr, grow_cons] at eg
      obtain ⟨p, rfl, hp⟩ := den_tm.mp dx
      have hrp2 := s2.same _ _ hrp
      have fresh : ∀ p : Addr, (V.ref D) = .ref p → H p = none := fun p z => by cases z; exact nD
      refine ⟨_, rfl, _, rfl, tq, _, _, _, rfl, rfl, SqT.z (s2.same _ _ htq), at_of e0 hx, p, _, rfl, SqT.of hp, rfl, _, _, rfl, _, _, rfl, rfl, ?_⟩
      refine ⟨_, rfl, rfl, _, rfl, ?_⟩
      cases t with
      | val c =>
        refine iteT ?_
        refine ⟨_, rfl, .ref rp, rfl, _, rfl, rp, _, _, _, rfl, rfl, SqT.of hrp2, at_of e0 hkk, scal_key c k, _, rfl, ?_⟩
        have eg' : grow ts r m = if c = k then grow (ts.drop (i + 1)) (r.drop (i + 1)) mk else none := eg
        by_cases e : c = k
        · rw [if_pos e] at eg'
          rw [show decide (kV (Tm.val c).worth = kV k) = true from decide_eq_true (kV_eq.mpr e)]
          exact iteF ⟨_, _, _, mk, rfl, s2, hD2, by omega, eg'⟩
        · rw [if_neg e] at eg'
          rw [show decide (kV (Tm.val c).worth = kV k) = false from decide_eq_false fun z => e (kV_eq.mp z)]
          refine iteT (q _ _ s2 ?_ fun p z => by cases z)
          rw [eg']
          exact rfl
      | var z =>
        refine iteF ?_
        refine ⟨.ref D, rfl, D, rfl, .inl ⟨_, .inl hD2⟩, _, rfl, .ref rp, rfl, _, rfl, rp, _, _, _, rfl, rfl, SqT.of hrp2, at_of e0 hkk, encM mk, .inr z, hD2, rfl, sz_lt (by unfold encM; rw [List.length_map]; omega), fun v hv => ?_, fun hv => ?_⟩
        · rw [enc_val] at hv
          cases ql : lookM mk z with
          | none => rw [ql] at hv; cases hv
          | some c =>
            rw [ql] at hv
            obtain rfl : kV c = v := Option.some.inj hv
            have eg' : grow ts r m = if c = k then grow (ts.drop (i + 1)) (r.drop (i + 1)) mk else none := by
              rw [eg]
              show (match (match lookM mk z with | some v => Tm.val v | none => Tm.var z) with | .var x => _ | .val c => _) = _
              rw [ql]
            refine ⟨.ref rp, rfl, _, rfl, rp, _, _, _, rfl, rfl, SqT.of hrp2, at_of e0 hkk, scal_key c k, _, rfl, ?_⟩
            by_cases e : c = k
            · rw [if_pos e] at eg'
              rw [show decide (kV c = kV k) = true from decide_eq_true (kV_eq.mpr e)]
              exact iteF ⟨_, _, _, mk, rfl, s2, hD2, by omega, eg'⟩
            · rw [if_neg e] at eg'
              rw [show decide (kV c = kV k) = false from decide_eq_false fun z => e (kV_eq.mp z)]
              refine iteT (q _ _ s2 ?_ fun p z => by cases z)
              rw [eg']
              exact rfl
        · rw [enc_val] at hv
          have ql : lookM mk z = none := Option.map_eq_none_iff.mp hv
          have eg' : grow ts r m = grow (ts.drop (i + 1)) (r.drop (i + 1)) (mk ++ [(z, k)]) := by
            rw [eg]
            show (match (match lookM mk z with | some v => Tm.val v | none => Tm.var z) with | .var x => _ | .val c => _) = _
            rw [ql]
          have s3 : EM.St none H (upd H2 D (.dK (putK (encM mk) (.inr z) (kV k)))) := s2.mut nD
          refine ⟨.ref rp, rfl, _, rfl, rp, _, _, _, rfl, rfl, SqT.of (s3.same _ _ hrp), at_of e0 hkk, scal_key k k, _, rfl, ?_⟩
          rw [show decide (kV k = kV k) = true from decide_eq_true rfl]
          exact iteF ⟨_, _, _, mk ++ [(z, k)], rfl, s3, by rw [upd_same, enc_put ql], by rw [List.length_append, List.length_singleton]; omega, eg'⟩
    · rintro σ H2 ⟨y4, y5, y6, mk, rfl, s2, hD2, mkl, eg⟩
      rw [Int.toNat_natCast, List.length_map, List.drop_of_length_le (Nat.le_refl _), List.drop_of_length_le (by omega)] at eg
      refine ⟨_, rfl, q _ _ s2 ?_ fun p e => ?_⟩
      · rw [eg]
        exact ⟨D, rfl, hD2⟩
      · cases e
        exact nD
end
end EM
namespace EM
open PySem PySem.Spec PyProof.Rows L2
theorem MapD.upd {H : Hp} {G : Addr} {xs : List V} {o : HO} {m : Mapping} {v : V} (hG : H G = some (.lst xs)) (h : MapD H m v) : MapD (upd H G o) m v := by
  obtain ⟨p, e, hp⟩ := h
  exact ⟨p, e, by rw [upd_ne (ne_of hp hG (by intro z; cases z))]; exact hp⟩
def MapsD (H : Hp) (ms : List Mapping) (xs : List V) : Prop := xs.length = ms.length ∧ ∀ (i : Nat) (m : Mapping) (v : V), ms[i]? = some m → xs[i]? = some v → MapD H m v
theorem MapsD.st {H H' : Hp} {ms : List Mapping} {xs : List V} (s : EM.St none H H') (h : MapsD H ms xs) : MapsD H' ms xs := ⟨h.1, fun i m v h1 h2 => (h.2 i m v h1 h2).st s⟩
theorem MapsD.upd {H : Hp} {G : Addr} {gs : List V} {o : HO} {ms : List Mapping} {xs : List V} (h : MapsD H ms xs) (hG : H G = some (.lst gs)) : MapsD (upd H G o) ms xs := ⟨h.1, fun i m v h1 h2 => (h.2 i m v h1 h2).upd hG⟩
theorem MapsD.snoc {H : Hp} {ms : List Mapping} {xs : List V} {m : Mapping} {v : V} (h : MapsD H ms xs) (hv : MapD H m v) : MapsD H (ms ++ [m]) (xs ++ [v]) := by
  refine ⟨by rw [List.length_append, List.length_append, h.1]; rfl, fun i m' v' h1 h2 => ?_⟩
  by_cases hi : i < ms.length
  · rw [List.getElem?_append_left hi] at h1
    rw [List.getElem?_append_left (by rw [h.1]; exact hi)] at h2
    exact h.2 i m' v' h1 h2
  · have e : i = ms.length := by
      have := (List.getElem?_eq_some_iff.mp h1).1
      rw [List.length_append, List.length_singleton] at this
      omega
    subst e
    rw [List.getElem?_append_right (Nat.le_refl _)] at h1
    rw [List.getElem?_append_right (by rw [h.1]; exact Nat.le_refl _), h.1] at h2
    simp at h1 h2
    subst h1 h2
    exact hv
theorem MapsD.get {H : Hp} {ms : List Mapping} {xs : List V} (h : MapsD H ms xs) {i : Nat} {v : V} (e : xs[i]? = some v) : ∃ m, ms[i]? = some m ∧ MapD H m v := by
  have hi : i < xs.length := (List.getElem?_eq_some_iff.mp e).1
  obtain ⟨m, hm⟩ := a_get? (l := ms) (i := i) (by rw [← h.1]; exact hi)
  exact ⟨m, hm, h.2 i m v hm e⟩
def rowsNamed (n : Str) (f : Fact) : Option Row := if f.1 = n then some f.2 else none
theorem oneV_rows (fs : List Fact) (a : Atom) (m : Mapping) : oneV fs a m = (fs.filterMap (rowsNamed a.1)).filterMap fun r => grow a.2 r m := by
  unfold oneV
  induction fs with
  | nil => rfl
  | cons f l ih =>
    by_cases e : f.1 = a.1
    · rw [List.filter_cons_of_pos (by exact decide_eq_true e), List.filterMap_cons, List.filterMap_cons_some (show rowsNamed a.1 f = some f.2 from if_pos e), List.filterMap_cons, ih]
    · rw [List.filter_cons_of_neg (by simpa using e), List.filterMap_cons_none (show rowsNamed a.1 f = none from if_neg e), ih]
theorem fm_snoc {α β : Type} {φ : α → Option β} {l : List α} {i : Nat} {a : α} (h : l[i]? = some a) : (l.take (i + 1)).filterMap φ = (l.take i).filterMap φ ++ (φ a).toList := by
  rw [take_snoc h, List.filterMap_append]
  cases q : φ a <;> simp [q]
theorem named_of {n : Str} {fs : List Fact} {r : Row} (h : r ∈ fs.filterMap (rowsNamed n)) : (n, r) ∈ fs := by
  obtain ⟨f, hf, e⟩ := List.mem_filterMap.mp h
  unfold rowsNamed at e
  split at e
  next q =>
    obtain rfl := Option.some.inj e
    rw [← q]
    exact hf
  next => cases e
section
variable {P : Program} {w : World} {K : PySem.W.Frag} {mg : Str → Option Value} {base : Heap}
theorem hasPFoundValues (T : Txt K mg) : Has P w K mg base 3 "found_values" ["store", "join"] (spVals MapsD) := by
  refine T.dPFoundValues.has scPFoundValues (fun vs H Q E h => ?_) (fun f cdv A outer s H vs Q E hr h => ?_)
  · obtain ⟨fv, jv, S, n, fs, j, rfl, _⟩ := h
    rfl
  · obtain ⟨fv, jv, S, n, fs, j, rfl, hF, hJ, wf, ok, few, jok, q⟩ := h
    obtain ⟨fp, fxs, rfl, hfp, hfx⟩ := den_map.mp hF
    obtain ⟨jp, jh, jb, rfl, hjp, djh, djb⟩ := den_2.mp hJ
    obtain ⟨bp, bxs, rfl, hbp, dbx⟩ := den_map.mp djb
    have fl : fxs.length = fs.length := hfx.mlen
    have bl : bxs.length = j.2.length := dbx.mlen
    have jfew := jok.few
    refine ⟨_,
      (pss_cons (ps_set (i := 2) scPFoundValues.nd rfl (.inl rfl) (pe_lst (pa_cons pe_dnewK pa_nil)))
      (pss_cons (ps_for PassesOwn.never rfl (itT K (pe_ix (ixT K) (pv 1) pe_int (fun _ _ => rfl))) (gT K rfl (pgs_cons (pg_name (i := 3) scPFoundValues.nd rfl (Or.inr rfl)) (pgs_cons (pg_name (i := 4) scPFoundValues.nd rfl (Or.inl rfl)) pgs_nil)))
        (pss_cons (ps_setLc (i := 6) (own := [("known", 10), ("row", 5)]) (g := (gTup K 2 (gCons (gName 10) (gCons (gName 5) gNil)))) rfl scPFoundValues.nd rfl rfl (sw_true rfl rfl rfl (by decide +kernel)) (itT K (pv 0)) (blkOk_by (N := nmPFoundValues) (sc := defScope stPFoundValues) (by decide +kernel)) (fun _ _ _ _ _ => (gT K rfl (pgs_cons (pg_name (i := 10) scPFoundValues.nd rfl (Or.inl rfl)) (pgs_cons (pg_name (i := 5) scPFoundValues.nd rfl (Or.inl rfl)) pgs_nil)))) (fun _ _ _ _ _ => (pts_one (pt_cmpR op_eq (pv 10) (pv 3) (nomark _)))) (fun _ _ _ _ _ => (pv 5)))
        (pss_cons (ps_set (i := 7) scPFoundValues.nd rfl (.inl rfl) (pe_lst pa_nil))
        (pss_cons (ps_for PassesOwn.never rfl (itL K (pv 2)) (pg_name (i := 8) scPFoundValues.nd rfl (Or.inl rfl))
          (pss_one (ps_for PassesOwn.never rfl (itL K (pv 6)) (pg_name (i := 5) scPFoundValues.nd rfl (Or.inl rfl))
            (pss_cons (ps_set (i := 9) scPFoundValues.nd rfl (.inl rfl) (pe_own (hasPBoundValues T) hr (by decide) (by rfl) (pa_cons (pv 4) (pa_cons (pv 5) (pa_cons (pv 8) pa_nil)))))
            (pss_one (ps_if (pt_cmpR op_notN (pv 9) pe_non (nomark _))
              (pss_one (ps_expr (pe_bm PySem.F.plainAttrs_list PySem.F.slot_list_append PySem.F.type_list_append mt_append (pv 7) (pa_cons (pv 9) pa_nil))))
              pss_nil))))))
        (pss_one (ps_set (i := 2) scPFoundValues.nd rfl (.inl rfl) (pv 7)))))))
      (pss_one (ps_ret (pv 2))))), ?_⟩
    refine fun e0 ne0 => ⟨sz_le (by show 1 ≤ 10000000; decide), fun L0 nL0 => ?_⟩
    have s0 : EM.St none H (upd (upd H e0 (.dK [])) L0 (.lst [.ref e0])) := (St.new ne0).trans (St.new nL0)
    have eL0 : e0 ≠ L0 := ne_of_none upd_same nL0
    have m0 : MapsD (upd (upd H e0 (.dK [])) L0 (.lst [.ref e0])) [[]] [.ref e0] := MapsD.snoc (ms := []) (xs := []) ⟨rfl, fun i m v h => by simp at h⟩ ⟨e0, rfl, by rw [upd_ne eL0, upd_same]; rfl⟩
    generalize hH0 : upd (upd H e0 (.dK [])) L0 (.lst [.ref e0]) = H0 at s0 m0 ⊢
    have hL0 : H0 L0 = some (.lst [.ref e0]) := by rw [← hH0, upd_same]
    refine ⟨.ref jp, rfl, jp, _, 1, _, rfl, rfl, SqT.of (s0.same _ _ hjp), atI_nat (j := 1) rfl, bp, rfl, ⟨_, SqT.of (s0.same _ _ hbp)⟩, for_tup (K := K) (a := bp) (xs := bxs) (fun i σ H' => ∃ (y3 y4 y5 y6 y7 y8 y9 : Option V) (L : Addr) (xs : List V), σ = [some (.ref fp), some (.ref jp), some (.ref L), y3, y4, y5, y6, y7, y8, y9, none] ∧ EM.St none H H' ∧ H L = none ∧ FreshL H xs ∧ H' L = some (.lst xs) ∧ MapsD H' ((j.2.take i).foldl (stepV fs) [[]]) xs)
      ⟨none, none, none, none, none, none, none, L0, _, rfl, s0, (St.new (m := none) ne0).free0 nL0, fun v hv p e => by
        rw [List.mem_singleton.mp hv] at e
        cases e
        exact ne0, hL0, m0⟩ (fun i σ H' _ h => by obtain ⟨_, _, _, _, _, _, _, _, _, _, s', _⟩ := h; exact SqT.of (s'.same _ _ hbp)) ?_ ?_⟩
    · rintro i x σ H2 hi ⟨y3, y4, y5, y6, y7, y8, y9, L, xs, rfl, s2, nL, fL, hL, dL⟩
      have il : i < bxs.length := (List.getElem?_eq_some_iff.mp hi).1
      obtain ⟨a, ha, da⟩ := (s2.denL dbx).mback hi
      have aok := jok.atoms a (List.mem_of_getElem? ha)
      have da0 := da
      obtain ⟨ap, nx, tx, rfl, hap, dn, dt⟩ := den_2.mp da
      obtain rfl := den_str.mp dn
      have ml : ((j.2.take i).foldl (stepV fs) [[]]).length ≤ 343 := Nat.le_trans (valsOf_len fs _) (pow_few few (by rw [List.length_take]; omega))
      have msm : ∀ m ∈ (j.2.take i).foldl (stepV fs) [[]], m.length ≤ 24 := fun m hm => by
        have := valsOf_small fs (n := 8) (fun f hf => by
          obtain ⟨t, ht, _, e⟩ := ok f hf
          have := wf.small t ht
          omega) (j.2.take i) m hm
        rw [List.length_take] at this
        omega
      have eg : (j.2.take (i + 1)).foldl (stepV fs) [[]] = ((j.2.take i).foldl (stepV fs) [[]]).flatMap (oneV fs a) := by
        rw [take_snoc ha, List.foldl_append]
        rfl
      generalize (j.2.take i).foldl (stepV fs) [[]] = ms at dL ml msm eg
      refine ⟨ap, _, rfl, SqT.of hap, rfl, _, _, rfl, _, _, rfl, rfl, ?_⟩
      -- rows
      refine ⟨.ref fp, rfl, fp, rfl, ⟨_, SqT.of (s2.same _ _ hfp)⟩, gatherD (m := none) (l := fs) (φ := rowsNamed a.1) (enc := eRow) wkT fl.symm (fun H s => SqT.of (s.same _ _ (s2.same _ _ hfp))) (fun b z => nomatch z) (by omega)
        (fun k x2 H3 f hf hx s3 Rk N k1 k2 => ?_) (fun RR rxs H3 s3 nRR hRR drx => ?_)⟩
      · obtain ⟨x', hx', dx'⟩ := ((s2.trans s3).denL hfx).mget hf
        rw [hx] at hx'
        obtain rfl := Option.some.inj hx'
        obtain ⟨p, r, rfl, hp, hr0⟩ := den_fact.mp dx'
        refine ⟨p, _, rfl, SqT.of hp, rfl, _, _, rfl, _, _, rfl, rfl, rfl, _, rfl, _, rfl, rfl, _, rfl, ite2 (fun e => ?_) (fun e => ?_)⟩
        · have e1 : f.1 = a.1 := V.str.inj (of_decide_eq_true e)
          exact ⟨_, rfl, k1 _ _ f.2 (.refl _ _) (if_pos e1) (den_row.mpr ⟨r, rfl, hr0⟩)⟩
        · exact k2 _ (.refl _ _) (if_neg fun z => e (decide_eq_true (congrArg V.str z)))
      have s23 := s2.trans s3
      have rl : rxs.length = (fs.filterMap (rowsNamed a.1)).length := drx.mlen
      have rl7 : (fs.filterMap (rowsNamed a.1)).length ≤ 7 := Nat.le_trans (List.length_filterMap_le _ _) few
      have hL3 := s3.same _ _ hL
      have dL3 := dL.st s3
      refine ⟨Nat.zero_le _, fun G nG => ?_⟩
      have sG : EM.St none H3 (upd H3 G (.lst [])) := St.new nG
      refine ⟨.ref L, rfl, L, rfl, ⟨_, SqL.of (sG.same _ _ hL3)⟩, for_list (K := K) (a := L) (xs := xs) (fun k σ H' => ∃ (y5 y8 y9 : Option V) (gxs : List V), σ = [some (.ref fp), some (.ref jp), some (.ref L), some (.str a.1), some tx, y5, some (.ref RR), some (.ref G), y8, y9, none] ∧ EM.St none H3 H' ∧ H' G = some (.lst gxs) ∧ FreshL H gxs ∧ MapsD H' ((ms.take k).flatMap (oneV fs a)) gxs)
        ⟨_, _, _, [], rfl, sG, upd_same, fun v hv => (by cases hv), ⟨rfl, fun i m v h => by simp at h⟩⟩ (fun j σ H' _ h => by obtain ⟨_, _, _, _, _, s', _⟩ := h; exact SqL.of (s'.same _ _ hL3)) ?_ ?_⟩
      · rintro k x σ H4 hk ⟨z5, z8, z9, gxs, rfl, s4, hG, fG, dG⟩
        have kl : k < xs.length := (List.getElem?_eq_some_iff.mp hk).1
        obtain ⟨m, hm, dm⟩ := dL3.get hk
        obtain ⟨mp, rfl, hmp⟩ := dm
        have m24 := msm m (List.mem_of_getElem? hm)
        refine ⟨.ref RR, rfl, RR, rfl, ⟨_, SqL.of (s4.same _ _ hRR)⟩, for_list (K := K) (a := RR) (xs := rxs) (fun l σ H' => ∃ (y5 y9 : Option V) (gxs : List V), σ = [some (.ref fp), some (.ref jp), some (.ref L), some (.str a.1), some tx, y5, some (.ref RR), some (.ref G), some (.ref mp), y9, none] ∧ EM.St none H3 H' ∧ H' G = some (.lst gxs) ∧ FreshL H gxs ∧
            MapsD H' ((ms.take k).flatMap (oneV fs a) ++ ((fs.filterMap (rowsNamed a.1)).take l).filterMap fun r => grow a.2 r m) gxs)
          ⟨_, _, gxs, rfl, s4, hG, fG, by rw [List.take_zero, List.filterMap_nil, List.append_nil]; exact dG⟩ (fun l σ H' _ h => by obtain ⟨_, _, _, _, s', _⟩ := h; exact SqL.of (s'.same _ _ hRR)) ?_ ?_⟩
        · rintro l x σ H5 hl ⟨z5, z9, gxs, rfl, s5, hG, fG, dG⟩
          have ll : l < rxs.length := (List.getElem?_eq_some_iff.mp hl).1
          obtain ⟨r, hr', dr⟩ := (s5.denL drx).mback hl
          have rmem := named_of (List.mem_of_getElem? hr')
          have fok := ok _ rmem
          have eo := fm_snoc (φ := fun r => grow a.2 r m) hr'
          have gxl : gxs.length ≤ 343 * 7 + 7 := by
            rw [dG.1, List.length_append]
            have h1 := flat_len (f := oneV fs a) (n := 7) (l := ms.take k) fun m _ => Nat.le_trans (oneV_len fs a m) few
            have h2 := List.length_filterMap_le (fun r => grow a.2 r m) ((fs.filterMap (rowsNamed a.1)).take l)
            rw [List.length_take] at h1 h2
            have : (min k ms.length) * 7 ≤ 343 * 7 := Nat.mul_le_mul_right 7 (by omega)
            omega
          have hlen : a.2.length = r.length := by
            obtain ⟨t, ht, hn, hlen⟩ := fok
            obtain ⟨t2, ht2, hn2, hlen2⟩ := aok
            have := wf.uniq ht ht2 (hn.trans hn2.symm)
            subst this
            have h1 : t.2.1 + t.2.2 = r.length := hlen
            omega
          have f8 : r.length ≤ 8 := by
            obtain ⟨t, ht, _, hlen⟩ := fok
            have := wf.small t ht
            have h1 : t.2.1 + t.2.2 = r.length := hlen
            omega
          refine ⟨_, rfl, _, rfl, .ref mp, rfl, tx, x, mp, a.2, r, m, rfl, (s3.trans s5).den dt, dr, hlen, by omega, s5.same _ _ hmp, by omega, fun v H6 s6 hv hfr => ?_⟩
          have hG6 := s6.same _ _ hG
          have dG6 := dG.st s6
          cases q1 : grow a.2 r m with
          | none =>
            rw [q1] at hv eo
            obtain rfl : v = .non := hv
            refine ⟨_, rfl, rfl, _, rfl, ?_⟩
            rw [show (!decide (V.non = V.non)) = false from by simp]
            refine iteF ⟨_, _, gxs, rfl, s5.trans s6, hG6, fG, ?_⟩
            rw [eo, show (none : Option Mapping).toList = [] from rfl, List.append_nil]
            exact dG6
          | some m' =>
            rw [q1] at hv eo
            obtain ⟨p5, rfl, hp5⟩ : MapD H6 m' v := hv
            refine ⟨_, rfl, rfl, _, rfl, ?_⟩
            rw [show (!decide (V.ref p5 = V.non)) = true from by simp]
            refine iteT ⟨.ref G, rfl, .inl ⟨rfl, _, SqL.of hG6⟩, .ref p5, rfl, G, gxs, .ref p5, rfl, rfl, hG6, sz_lt (by omega), _, _, gxs ++ [.ref p5], rfl, (s5.trans s6).mut nG, upd_same, fun v hv p e => ?_, ?_⟩
            · rcases List.mem_append.mp hv with hv | hv
              · exact fG v hv p e
              · rw [List.mem_singleton.mp hv] at e
                cases e
                exact (s23.trans s5).free0 (hfr p5 rfl)
            · rw [eo, show (some m').toList = [m'] from rfl, ← List.append_assoc]
              exact (dG6.upd hG6).snoc (MapD.upd hG6 ⟨p5, rfl, hp5⟩)
        · rintro σ H5 ⟨z5, z9, gxs, rfl, s5, hG, fG, dG⟩
          rw [rl, List.take_length, ← oneV_rows] at dG
          refine ⟨_, _, _, gxs, rfl, s5, hG, fG, ?_⟩
          rw [flat_snoc hm]
          exact dG
      · rintro σ H4 ⟨z5, z8, z9, gxs, rfl, s4, hG, fG, dG⟩
        rw [dL.1, List.take_length] at dG
        refine ⟨_, rfl, _, _, _, _, _, _, _, G, gxs, rfl, s23.trans s4, s23.free0 nG, fG, hG, ?_⟩
        rw [eg]
        exact dG
    · rintro σ H2 ⟨y3, y4, y5, y6, y7, y8, y9, L, xs, rfl, s2, nL, fL, hL, dL⟩
      rw [bl, List.take_length] at dL
      exact ⟨_, rfl, q L xs H2 s2 nL fL hL dL⟩
end
end EM
/-! the program's answers -/
namespace EM
open PySem PySem.Spec PyProof.Rows L2
theorem look_app {m : Mapping} {x : Str} {v : Key} {q : Mapping} (h : lookM m x = some v) : lookM (m ++ q) x = some v := by
  unfold lookM at h ⊢
  rw [List.find?_append]
  cases e : m.find? fun p => decide (p.1 = x) with
  | none => rw [e] at h; cases h
  | some p => rw [e] at h; exact h
theorem look_new {m : Mapping} {x : Str} {v : Key} (h : lookM m x = none) : lookM (m ++ [(x, v)]) x = some v := by
  unfold lookM at h ⊢
  rw [List.find?_append, Option.map_eq_none_iff.mp h]
  rw [Option.none_or, List.find?_cons_of_pos (by exact decide_eq_true rfl)]
  rfl
theorem put_var {m : Mapping} {x : Str} (q : lookM m x = none) : putM m (.var x) = .var x := by
  show (match lookM m x with | some v => Tm.val v | none => Tm.var x) = _
  rw [q]
theorem put_val {m : Mapping} {x : Str} {c : Key} (q : lookM m x = some c) : putM m (.var x) = .val c := by
  show (match lookM m x with | some v => Tm.val v | none => Tm.var x) = _
  rw [q]
theorem grow_keep : ∀ {ts : List Tm} {vs : Row} {m m' : Mapping} {x : Str} {v : Key}, grow ts vs m = some m' → lookM m x = some v → lookM m' x = some v
  | [], _, m, m', x, v, h, e => by
    obtain rfl := Option.some.inj h
    exact e
  | _ :: _, [], m, m', x, v, h, e => by
    obtain rfl := Option.some.inj h
    exact e
  | t :: ts, w :: vs, m, m', x, v, h, e => by
    rw [grow_cons] at h
    cases q : putM m t with
    | var z =>
      rw [q] at h
      exact grow_keep h (look_app e)
    | val c =>
      rw [q] at h
      dsimp only at h
      split at h
      · exact grow_keep h e
      · cases h
theorem grow_binds : ∀ {ts : List Tm} {vs : Row} {m m' : Mapping} {x : Str}, ts.length = vs.length → grow ts vs m = some m' → Tm.var x ∈ ts → ∃ v, lookM m' x = some v
  | [], _, m, m', x, _, h, e => by cases e
  | _ :: _, [], m, m', x, hl, h, e => by simp at hl
  | t :: ts, w :: vs, m, m', x, hl, h, e => by
    rw [grow_cons] at h
    rcases List.mem_cons.mp e with e | e
    · subst e
      cases q : lookM m x with
      | none =>
        rw [put_var q] at h
        exact ⟨w, grow_keep h (look_new q)⟩
      | some c =>
        rw [put_val q] at h
        dsimp only at h
        split at h
        · exact ⟨c, grow_keep h q⟩
        · cases h
    · cases q : putM m t with
      | var z =>
        rw [q] at h
        exact grow_binds (by simpa using hl) h e
      | val c =>
        rw [q] at h
        dsimp only at h
        split at h
        · exact grow_binds (by simpa using hl) h e
        · cases h
theorem vals_bind (fs : List Fact) (as : List Atom) : (∀ a ∈ as, ∀ f ∈ fs, f.1 = a.1 → a.2.length = f.2.length) → ∀ m ∈ as.foldl (stepV fs) [[]], ∀ a ∈ as, ∀ x, Tm.var x ∈ a.2 → ∃ v, lookM m x = some v := by
  refine snoc_ind (P := fun as => (∀ a ∈ as, ∀ f ∈ fs, f.1 = a.1 → a.2.length = f.2.length) → ∀ m ∈ as.foldl (stepV fs) [[]], ∀ a ∈ as, ∀ x, Tm.var x ∈ a.2 → ∃ v, lookM m x = some v) (fun _ m _ a ha => by cases ha) (fun l b ih hok m hm a ha x hx => ?_) as
  rw [List.foldl_append] at hm
  obtain ⟨m', h1, h2⟩ := List.mem_flatMap.mp (show m ∈ (l.foldl (stepV fs) [[]]).flatMap (oneV fs b) from hm)
  obtain ⟨f, h3, h4⟩ := List.mem_filterMap.mp h2
  obtain ⟨h5, h6⟩ := List.mem_filter.mp h3
  rcases List.mem_append.mp ha with ha | ha
  · obtain ⟨v, hv⟩ := ih (fun a ha => hok a (List.mem_append_left _ ha)) m' h1 a ha x hx
    exact ⟨v, grow_keep h4 hv⟩
  · rw [List.mem_singleton.mp ha] at hx
    exact grow_binds (hok b (List.mem_append_right _ (List.mem_singleton.mpr rfl)) f h5 (of_decide_eq_true h6)) h4 hx
theorem same_wide {S : List Tab} {n : Nat} {fs : List Fact} {j : Join} (wf : WfS S) (ok : ∀ f ∈ fs, FactOk S f) (jok : JoinOk S n j) : ∀ a ∈ j.2, ∀ f ∈ fs, f.1 = a.1 → a.2.length = f.2.length := fun a ha f hf e => by
  obtain ⟨t, ht, hn, hlen⟩ := ok f hf
  obtain ⟨t2, ht2, hn2, hlen2⟩ := jok.atoms a ha
  have := wf.uniq ht ht2 (hn.trans (e.trans hn2.symm))
  subst this
  omega
section
variable {P : Program} {w : World} {K : PySem.W.Frag} {mg : Str → Option Value} {base : Heap}
def spAnsP : Sp := fun vs H Q _ => ∃ (S : List Tab) (fv qv : V) (n : Nat) (fs : List Fact) (qs : List Join), vs = [fv, qv] ∧ Den H (eStore fs) fv ∧ Den H (eQ n qs) qv ∧ WfS S ∧ (∀ f ∈ fs, FactOk S f) ∧ fs.length ≤ 7 ∧ QOk S n qs ∧ n ≤ 100 ∧
  ∀ v (out : List Row) H', EM.St none H H' → Den H' (eRows out) v → Sorts (rowsOf fs qs) out → Q v H'
theorem hasPAnswers (T : Txt K mg) : Has P w K mg base 6 "answers" ["store", "question"] spAnsP := by
  refine T.dPAnswers.has scPAnswers (fun vs H Q E h => ?_) (fun f cdv A outer s H vs Q E hr h => ?_)
  · obtain ⟨S, fv, jv, n, fs, j, rfl, _⟩ := h
    rfl
  · obtain ⟨S, fv, qv, n, fs, qs, rfl, hF, hQ, wf, ok, few, qok, hn, q⟩ := h
    obtain ⟨qp, q1, q2, rfl, hqp, dq1, dq2⟩ := den_2.mp hQ
    obtain ⟨jp, jxs, rfl, hjp, djx⟩ := den_map.mp dq2
    have jl : jxs.length = qs.length := djx.mlen
    have q3 := qok.few
    refine ⟨_,
      (pss_cons (ps_set (i := 2) scPAnswers.nd rfl (.inl rfl) (pe_lst pa_nil))
      (pss_cons (ps_for PassesOwn.never rfl (itT K (pe_ix (ixT K) (pv 1) pe_int (fun _ _ => rfl))) (pg_name (i := 3) scPAnswers.nd rfl (Or.inl rfl))
        (pss_one (ps_for PassesOwn.never rfl (itL K (pe_own (hasPFoundValues T) hr (by decide) (by rfl) (pa_cons (pv 0) (pa_cons (pv 3) pa_nil)))) (pg_name (i := 4) scPAnswers.nd rfl (Or.inr rfl))
          (pss_one (ps_expr (pe_bm PySem.F.plainAttrs_list PySem.F.slot_list_append PySem.F.type_list_append mt_append (pv 2) (pa_cons (pe_callTy (tupOf K) (by rfl) T.mtuple (by decide +kernel) (pa_cons (pe_lc (own := [("kind", 5), ("worth", 6)]) (g := (gTup K 2 (gCons (gName 5) (gCons (gName 6) gNil)))) (tt := tYes) rfl scPAnswers.nd (itT K (pe_ix (ixT K) (pv 3) pe_int (fun _ _ => rfl))) (blkOk_by (N := nmPAnswers) (sc := defScope stPAnswers) (by decide +kernel)) (fun _ _ _ _ _ => (gT K rfl (pgs_cons (pg_name (i := 5) scPAnswers.nd rfl (Or.inl rfl)) (pgs_cons (pg_name (i := 6) scPAnswers.nd rfl (Or.inl rfl)) pgs_nil)))) (fun _ _ _ _ _ => pts_nil) (fun _ _ _ _ _ => (pe_ifExp (pt_cmpR op_eq (pv 5) pe_str (nomark _)) (pe_dget (hu_of hr) (pv 4) (pv 6) (fun _ _ => rfl)) (pv 6)))) pa_nil)) pa_nil)))))))
      (pss_one (ps_ret (pe_callTy (tupOf K) (by rfl) T.mtuple (by decide +kernel) (pa_cons (pe_own (hasPSortedRows T) hr (by decide) (by rfl) (pa_cons (pv 2) pa_nil)) pa_nil)))))), ?_⟩
    refine ⟨Nat.zero_le _, fun R nR => ?_⟩
    have s0 : EM.St none H (upd H R (.lst [])) := St.new nR
    refine ⟨.ref qp, rfl, qp, _, 1, _, rfl, rfl, SqT.of (s0.same _ _ hqp), atI_nat (j := 1) rfl, jp, rfl, ⟨_, SqT.of (s0.same _ _ hjp)⟩, for_tup (K := K) (a := jp) (xs := jxs) (fun i σ H' => ∃ (y3 y4 : Option V) (xs : List V), σ = [some fv, some (.ref qp), some (.ref R), y3, y4, none, none] ∧ EM.St none H H' ∧ H' R = some (.lst xs) ∧ DenL H' ((rowsOf fs (qs.take i)).map eRow) xs)
      ⟨none, none, [], rfl, s0, upd_same, .nil⟩ (fun i σ H' _ h => by obtain ⟨_, _, _, _, s', _⟩ := h; exact SqT.of (s'.same _ _ hjp)) ?_ ?_⟩
    · rintro i x σ H1 hi ⟨y3, y4, xs, rfl, s1, hR, dR⟩
      have il : i < jxs.length := (List.getElem?_eq_some_iff.mp hi).1
      obtain ⟨j, hj, dj⟩ := (s1.denL djx).mback hi
      have jok := qok.joins j (List.mem_of_getElem? hj)
      have dj0 := dj
      obtain ⟨p, hv, bv, rfl, hp, dh, db⟩ := den_2.mp dj
      obtain ⟨hp0, hxs, rfl, hhp, dhx⟩ := den_map.mp dh
      have hl : hxs.length = j.1.length := dhx.mlen
      have jw := jok.wide
      refine ⟨fv, rfl, .ref p, rfl, fv, .ref p, S, n, fs, j, rfl, s1.den hF, dj0, wf, ok, few, jok, fun vp vxs H2 s2 nvp fvx hvp dvx => ?_⟩
      have vpR : vp ≠ R := (ne_of_none hR nvp).symm
      have s12 := s1.trans s2
      have vl : vxs.length = (valsOf fs j).length := dvx.1
      have v343 : (valsOf fs j).length ≤ 343 := Nat.le_trans (valsOf_len fs j.2) (pow_few few jok.few)
      have binds := vals_bind fs j.2 (same_wide wf ok jok)
      have eg : rowsOf fs (qs.take (i + 1)) = rowsOf fs (qs.take i) ++ (valsOf fs j).map fun m => rowOf m j.1 := by
        unfold rowsOf
        rw [flat_snoc hj]
      have r0 : (rowsOf fs (qs.take i)).length ≤ 1029 := rowsOf_len few (by rw [List.length_take]; omega) fun j hj => (qok.joins j (List.mem_of_mem_take hj)).few
      refine ⟨vp, rfl, ⟨_, SqL.of hvp⟩, for_list (K := K) (a := vp) (xs := vxs) (fun k σ H' => ∃ (y4 : Option V) (xs : List V), σ = [some fv, some (.ref qp), some (.ref R), some (.ref p), y4, none, none] ∧ EM.St none H H' ∧ H' vp = some (.lst vxs) ∧ MapsD H' (valsOf fs j) vxs ∧ H' p = some (.tup [.ref hp0, bv]) ∧ H' hp0 = some (.tup hxs) ∧ DenL H' (j.1.map eTm) hxs ∧ H' R = some (.lst xs) ∧
          DenL H' ((rowsOf fs (qs.take i) ++ ((valsOf fs j).take k).map fun m => rowOf m j.1).map eRow) xs)
        ⟨_, xs, rfl, s12, hvp, dvx, s2.same _ _ hp, s2.same _ _ hhp, s2.denL dhx, s2.same _ _ hR, by rw [List.take_zero, List.map_nil, List.append_nil]; exact s2.denL dR⟩ (fun k σ H' _ h => by obtain ⟨_, _, _, _, hv, _⟩ := h; exact SqL.of hv) ?_ ?_⟩
      · rintro k x σ H3 hk ⟨y4, xs, rfl, s3, hvp, dvx, hp, hhp, dhx, hR, dR⟩
        have kl : k < vxs.length := (List.getElem?_eq_some_iff.mp hk).1
        obtain ⟨m, hm, dm⟩ := dvx.get hk
        obtain ⟨mp, rfl, hmp⟩ := dm
        have mmem := List.mem_of_getElem? hm
        have xl : xs.length ≤ 1029 + 343 := by
          rw [dR.mlen, List.length_append, List.length_map, List.length_take]
          omega
        refine ⟨.ref R, rfl, .inl ⟨rfl, _, SqL.of hR⟩, .ref p, rfl, p, _, 0, _, rfl, rfl, SqT.of hp, atI_nat (j := 0) rfl, hp0, rfl, ⟨_, SqT.of hhp⟩, gather (m := none) wkT (fun H s => SqT.of (s.same _ _ hhp)) (fun b z => nomatch z) (by omega)
          (fun l v H => ∀ t, j.1[l]? = some t → v = kV (putM m t).worth) (fun l v H H' t h => h) (fun l x H4 hl hx s4 Rk kk => ?_) (fun D dxs H4 s4 nD hD hl hpd => ?_) (fun _ _ _ _ _ f ⟨a, xs, e, h1, h2, v, r, e1, v2, r2, e2, e3, h⟩ => ⟨a, xs, e, h1, h2, v, r, e1, v2, r2, e2, e3, f _ _ h⟩)⟩
        · obtain ⟨t, ht, dt⟩ := (s4.denL dhx).mback hx
          obtain ⟨tp, rfl, htp⟩ := den_tm.mp dt
          refine ⟨tp, _, rfl, SqT.of htp, rfl, _, _, rfl, _, _, rfl, rfl, rfl, ?_⟩
          refine ⟨_, rfl, rfl, _, rfl, ?_⟩
          cases t with
          | val c =>
            refine iteF ⟨_, rfl, kk _ _ (.refl _ _) fun t' ht' => ?_⟩
            rw [ht] at ht'
            rw [← Option.some.inj ht']
            rfl
          | var z =>
            obtain ⟨b, hb, hz⟩ := jok.vars z (List.mem_of_getElem? ht)
            obtain ⟨c, hc⟩ := binds m mmem b hb z hz
            refine iteT ⟨_, rfl, _, rfl, mp, kV c, rfl, ?_, kk _ _ (.refl _ _) fun t' ht' => ?_⟩
            · have := DGet.k (k := .inr z) (s4.same _ _ hmp)
              rw [enc_val, hc] at this
              exact this
            · rw [ht] at ht'
              rw [← Option.some.inj ht', put_val hc]
              rfl
        · have ed : dxs = (rowOf m j.1).map kV := by
            refine List.ext_getElem? fun l => ?_
            unfold rowOf
            rw [List.getElem?_map, List.getElem?_map]
            cases q1 : j.1[l]? with
            | none =>
              rw [List.getElem?_eq_none]
              · rfl
              · have := List.getElem?_eq_none_iff.mp q1
                omega
            | some t =>
              have hl2 := (List.getElem?_eq_some_iff.mp q1).1
              obtain ⟨v, hv⟩ := a_get? (l := dxs) (i := l) (by omega)
              rw [hv, hpd l v hv t q1]
              rfl
          subst ed
          have hR4 := s4.same _ _ hR
          refine ⟨D, _, rfl, .inl ⟨SqL.of hD, fun u nu => ?_⟩⟩
          have Ru : R ≠ u := ne_of_none hR4 nu
          have su : EM.St none H4 (upd H4 u (.tup ((rowOf m j.1).map kV))) := St.new nu
          have hR5 := su.same _ _ hR4
          have s34 := s4.trans su
          have tk : TK H3 (upd (upd H4 u (.tup ((rowOf m j.1).map kV))) R (.lst (xs ++ [.ref u]))) := s34.tup.trans (.lst hR5)
          refine ⟨R, xs, .ref u, rfl, rfl, hR5, sz_lt (by omega), _, xs ++ [.ref u], rfl, (s3.trans s34).mut nR, by rw [upd_ne vpR]; exact s34.same _ _ hvp, (dvx.st s34).upd hR5, tk _ _ hp, tk _ _ hhp, DenL.tk tk _ _ dhx, upd_same, ?_⟩
          have el : rowsOf fs (qs.take i) ++ ((valsOf fs j).take (k + 1)).map (fun m => rowOf m j.1) = (rowsOf fs (qs.take i) ++ ((valsOf fs j).take k).map fun m => rowOf m j.1) ++ [rowOf m j.1] := by
            rw [take_snoc hm, List.map_append, ← List.append_assoc]
            rfl
          rw [el]
          refine (DenL.tk tk _ _ dR).msnoc (den_row.mpr ⟨u, rfl, ?_⟩)
          rw [upd_ne Ru.symm, upd_same]
      · rintro σ H3 ⟨y4, xs, rfl, s3, hvp, dvx, hp, hhp, dhx, hR, dR⟩
        rw [vl, List.take_length, ← eg] at dR
        exact ⟨_, _, xs, rfl, s3, hR, dR⟩
    · rintro σ H1 ⟨y3, y4, xs, rfl, s1, hR, dR⟩
      rw [jl, List.take_length] at dR
      refine ⟨.ref R, rfl, R, xs, rowsOf fs qs, n, rfl, hR, dR, fun r hr => rowsOf_wide qok r hr, hn, Nat.le_trans (rowsOf_len few q3 fun j hj => (qok.joins j hj).few) (by decide), fun p zs out H2 s2 hp dz so => ?_⟩
      refine ⟨p, zs, rfl, .inl ⟨SqL.of hp, fun u nu => q _ out _ ((s1.trans s2).trans (St.new nu)) (den_map.mpr ⟨u, zs, rfl, upd_same, DenL.tk (.new nu) _ _ dz⟩) so⟩⟩
end
end EM
/-! the program's sure rows -/
namespace EM
open PySem PySem.Spec PyProof.Rows L2
theorem groupsP_sub {S : List Tab} (l : List Fact) : ∀ b ∈ groupsP S l, ∀ r ∈ b.2.2, (b.1, r) ∈ l := by
  refine snoc_ind (P := fun l => ∀ b ∈ groupsP S l, ∀ r ∈ b.2.2, (b.1, r) ∈ l) (fun b hb => by cases hb) (fun l f ih c hc r hr => ?_) l
  rw [groupsP_snoc] at hc
  by_cases h : ∃ (j : Nat) (b : Block), (groupsP S l)[j]? = some b ∧ bkey b = (f.1, keyOf S f)
  · obtain ⟨j, b, hj, e⟩ := h
    rw [addP_old (groupsP_nd l) hj e] at hc
    rcases List.mem_or_eq_of_mem_set hc with hc | hc
    · exact List.mem_append_left _ (ih c hc r hr)
    · subst hc
      rcases List.mem_append.mp (show r ∈ b.2.2 ++ [f.2] from hr) with hr | hr
      · exact List.mem_append_left _ (ih b (List.mem_of_getElem? hj) r hr)
      · rw [List.mem_singleton.mp hr]
        rw [show b.1 = f.1 from (Prod.mk.inj e).1]
        exact List.mem_append_right _ (List.mem_singleton.mpr rfl)
  · have h' : ∀ b ∈ groupsP S l, bkey b ≠ (f.1, keyOf S f) := fun b hb e => by
      obtain ⟨j, hj⟩ := List.getElem?_of_mem hb
      exact h ⟨j, b, hj, e⟩
    rw [addP_new h'] at hc
    rcases List.mem_append.mp hc with hc | hc
    · exact List.mem_append_left _ (ih c hc r hr)
    · rw [List.mem_singleton] at hc
      subst hc
      rw [List.mem_singleton.mp (show r ∈ [f.2] from hr)]
      exact List.mem_append_right _ (List.mem_singleton.mpr rfl)
theorem digs_sub : ∀ (bs : List Block) (n : Nat), (∀ b ∈ bs, b.2.2 ≠ []) → ∀ f ∈ digs bs n, ∃ b ∈ bs, f.1 = b.1 ∧ f.2 ∈ b.2.2
  | [], n, _, f, hf => by cases hf
  | b :: r, n, ne, f, hf => by
    rw [digs_cons] at hf
    rcases List.mem_cons.mp hf with e | hf
    · subst e
      refine ⟨b, .head _, rfl, ?_⟩
      have pos := List.length_pos_iff.mpr (ne b (.head _))
      have lt := Nat.mod_lt n pos
      show b.2.2.getD (n % b.2.2.length) [] ∈ b.2.2
      rw [List.getD_eq_getElem?_getD, List.getElem?_eq_getElem lt]
      exact List.getElem_mem lt
    · obtain ⟨c, hc, k⟩ := digs_sub r _ (fun b hb => ne b (.tail _ hb)) f hf
      exact ⟨c, .tail _ hc, k⟩
theorem digs_len : ∀ (bs : List Block) (n : Nat), (digs bs n).length = bs.length
  | [], _ => rfl
  | b :: r, n => by rw [digs_cons, List.length_cons, List.length_cons, digs_len r]
theorem mendAt_in {S : List Tab} {fs : List Fact} {n : Nat} : ∀ f ∈ mendAt (groupsP S fs) n, f ∈ fs := fun f hf => by
  unfold mendAt at hf
  rw [List.mem_reverse] at hf
  obtain ⟨b, hb, e, hr⟩ := digs_sub _ _ (fun b hb => groupsP_ne fs b (List.mem_reverse.mp hb)) f hf
  have := groupsP_sub fs b (List.mem_reverse.mp hb) f.2 hr
  rw [← e] at this
  exact this
theorem mendAt_len (bs : List Block) (n : Nat) : (mendAt bs n).length = bs.length := by
  unfold mendAt
  rw [List.length_reverse, digs_len, List.length_reverse]
theorem count_pos (bs : List Block) : (∀ b ∈ bs, b.2.2 ≠ []) → 0 < count bs := by
  refine snoc_ind (P := fun bs => (∀ b ∈ bs, b.2.2 ≠ []) → 0 < count bs) (fun _ => Nat.zero_lt_one) (fun l b ih h => ?_) bs
  rw [count_snoc]
  exact Nat.mul_pos (ih fun c hc => h c (List.mem_append_left _ hc)) (List.length_pos_iff.mpr (h b (List.mem_append_right _ (List.mem_singleton.mpr rfl))))
section
variable {P : Program} {w : World} {K : PySem.W.Frag} {mg : Str → Option Value} {base : Heap}
def spSureP : Sp := fun vs H Q _ => ∃ (S : List Tab) (sv fv qv : V) (n : Nat) (fs : List Fact) (qs : List Join), vs = [sv, fv, qv] ∧ Den H (eSchema S) sv ∧ Den H (eStore fs) fv ∧ Den H (eQ n qs) qv ∧ WfS S ∧ StoreOk S fs ∧ QOk S n qs ∧ n ≤ 100 ∧
  ∀ v (out : List Row) H', EM.St none H H' → Den H' (eRows out) v → SureP S fs qs out → Q v H'
theorem hasPSurePlainly (T : Txt K mg) : Has P w K mg base 7 "sure_plainly" ["schema", "store", "question"] spSureP := by
  refine T.dPSurePlainly.has scPSurePlainly (fun vs H Q E h => ?_) (fun f cdv A outer s H vs Q E hr h => ?_)
  · obtain ⟨S, sv, fv, jv, n, fs, j, rfl, _⟩ := h
    rfl
  · obtain ⟨S, sv, fv, qv, n, fs, qs, rfl, hS, hF, hQ, wf, sok, qok, hn, q⟩ := h
    have ok := sok.fit
    have few := sok.few
    have cpos := count_pos (groupsP S fs) (groupsP_ne fs)
    have csm : count (groupsP S fs) ≤ 823543 := by
      have := count_small (S := S) few (groupsP S fs).length
      rw [List.take_length] at this
      exact this
    have mok : ∀ k, ∀ f ∈ mendAt (groupsP S fs) k, FactOk S f := fun k f hf => ok f (mendAt_in f hf)
    have mfew : ∀ k, (mendAt (groupsP S fs) k).length ≤ 7 := fun k => by
      rw [mendAt_len]
      exact Nat.le_trans (groupsP_few fs).1 few
    refine ⟨_,
      (pss_cons (ps_set (i := 3) scPSurePlainly.nd rfl (.inl rfl) (pe_own (hasPAnswers T) hr (by decide) (by rfl) (pa_cons (pe_own (hasPMendingAt T) hr (by decide) (by rfl) (pa_cons (pv 0) (pa_cons (pv 1) (pa_cons pe_int pa_nil)))) (pa_cons (pv 2) pa_nil))))
      (pss_cons (ps_for PassesOwn.never rfl (pi_range2 (by rfl) T.mrange (pa_cons pe_int (pa_cons (pe_own (hasPCountMendings T) hr (by decide) (by rfl) (pa_cons (pv 0) (pa_cons (pv 1) pa_nil))) pa_nil))) (pg_name (i := 4) scPSurePlainly.nd rfl (Or.inl rfl))
        (pss_one (ps_if (pt_cmpR op_gt (pe_callB (lenS K) (by rfl) T.mlen PySem.boot_len (pa_cons (pv 3) pa_nil)) pe_int (nomark _))
          (pss_cons (ps_set (i := 5) scPSurePlainly.nd rfl (.inr rfl) (pe_own (hasPAnswers T) hr (by decide) (by rfl) (pa_cons (pe_own (hasPMendingAt T) hr (by decide) (by rfl) (pa_cons (pv 0) (pa_cons (pv 1) (pa_cons (pv 4) pa_nil)))) (pa_cons (pv 2) pa_nil))))
          (pss_one (ps_set (i := 3) scPSurePlainly.nd rfl (.inl rfl) (pe_callTy (tupOf K) (by rfl) T.mtuple (by decide +kernel) (pa_cons (pe_lc (own := [("row", 6)]) (g := (gName 6)) rfl scPSurePlainly.nd (itT K (pv 3)) (blkOk_by (N := nmPSurePlainly) (sc := defScope stPSurePlainly) (by decide +kernel)) (fun _ _ _ _ _ => (pg_name (i := 6) scPSurePlainly.nd rfl (Or.inl rfl))) (fun _ _ _ _ _ => (pts_one (pt_cmpR (inT K hr) (pv 6) (pv 5) (by rfl)))) (fun _ _ _ _ _ => (pv 6))) pa_nil)))))
          pss_nil)))
      (pss_one (ps_ret (pv 3))))), ?_⟩
    refine ⟨sv, rfl, fv, rfl, sv, fv, S, fs, 0, rfl, hS, hF, ok, few, cpos, fun mv H1 s1 dm => ?_⟩
    refine ⟨qv, rfl, S, mv, qv, n, _, qs, rfl, dm, s1.den hQ, wf, mok 0, mfew 0, qok, hn, fun rv0 out0 H2 s2 dr0 so0 => ?_⟩
    have s12 := s1.trans s2
    refine ⟨sv, rfl, fv, rfl, sv, fv, S, fs, rfl, s12.den hS, s12.den hF, ok, few, fun H3 s3 => ?_⟩
    have s13 := s12.trans s3
    refine ⟨1, _, rfl, by omega, for_range (lo := 1) (n := (((count (groupsP S fs) : Nat) : Int) - 1).toNat) (fun i σ H' => ∃ (y4 y5 : Option V) (rv : V) (out : List Row), σ = [some sv, some fv, some qv, some rv, y4, y5, none] ∧ EM.St none H H' ∧ Den H' (eRows out) rv ∧ (out.Pairwise fun r s => rLt r s = true) ∧
        ∀ r, r ∈ out ↔ ∀ k, k < i + 1 → r ∈ rowsOf (mendAt (groupsP S fs) k) qs)
      ⟨none, none, rv0, out0, rfl, s13, s3.den dr0, so0.up, fun r => ⟨fun h k hk => ?_, fun h => (so0.mem r).mpr (h 0 (by omega))⟩⟩ ?_ ?_⟩
    · obtain rfl : k = 0 := by omega
      exact (so0.mem r).mp h
    · rintro i σ H4 hi ⟨y4, y5, rv, out, rfl, s4, dr, up, mem⟩
      obtain ⟨rp, rxs, rfl, hrp, drx⟩ := den_map.mp dr
      have rl : rxs.length = out.length := drx.mlen
      have olen : out.length ≤ 1029 := Nat.le_trans (up_len up fun r hr => (mem r).mp hr 0 (by omega)) (rowsOf_len (mfew 0) qok.few fun j hj => (qok.joins j hj).few)
      refine ⟨.ref rp, rfl, rp, _, rfl, .inr (SqT.of hrp), _, _, rfl, rfl, _, rfl, ite2 (fun e => ?_) (fun e => ?_)⟩
      · have iN : i + 1 < count (groupsP S fs) := by omega
        refine ⟨sv, rfl, fv, rfl, _, rfl, sv, fv, S, fs, i + 1, by rw [show (1 : Int) + (i : Int) = ((i + 1 : Nat) : Int) by omega]; rfl, s4.den hS, s4.den hF, ok, few, iN, fun mv2 H5 s5 dm2 => ?_⟩
        have s45 := s4.trans s5
        refine ⟨qv, rfl, S, mv2, qv, n, _, qs, rfl, dm2, s45.den hQ, wf, mok (i + 1), mfew (i + 1), qok, hn, fun tv there H6 s6 dt so2 => ?_⟩
        obtain ⟨tp, txs, rfl, htp, dtx⟩ := den_map.mp dt
        have s56 := s5.trans s6
        have hrp6 := s56.same _ _ hrp
        have drx6 := s56.denL drx
        refine ⟨.ref rp, rfl, rp, rfl, ⟨_, SqT.of hrp6⟩, gatherD (m := none) (l := out) (φ := keepB there) (enc := eRow) wkT rl.symm (fun H s => SqT.of (s.same _ _ hrp6)) (fun b z => nomatch z) (by omega)
          (fun k x2 H7 g hg hx s7 Rk N k1 k2 => ?_) (fun D dxs H7 s7 nD hD dxl => ?_)⟩
        · obtain ⟨x', hx', dx'⟩ := (s7.denL drx6).mget hg
          rw [hx] at hx'
          obtain rfl := Option.some.inj hx'
          refine ⟨rfl, x2, rfl, .ref tp, rfl, eRow g, there.map eRow, Den.dp _ _ (noL_row g) dx', .tup (SqT.of (s7.same _ _ htp)) (DenL.dp _ _ (noLs_map noL_row _) (s7.denL dtx)), lay_row g, plain_tup lay_row _, by have := dep_row g; omega, _, rfl, ?_⟩
          rw [any_inB]
          cases q1 : inB there g with
          | true => exact iteT ⟨x2, rfl, k1 _ _ g (.refl _ _) (if_pos q1) dx'⟩
          | false => exact iteF (k2 _ (.refl _ _) (if_neg (by rw [q1]; decide)))
        · refine ⟨D, dxs, rfl, .inl ⟨SqL.of hD, fun u nu => ⟨_, _, .ref u, out.filterMap (keepB there), rfl, ((s45.trans s6).trans s7).trans (St.new nu), den_map.mpr ⟨u, dxs, rfl, upd_same, DenL.tk (.new nu) _ _ dxl⟩, keep_up up, fun r => ?_⟩⟩⟩
          rw [keep_mem, mem, so2.mem]
          constructor
          · rintro ⟨h1, h2⟩ k hk
            by_cases hk2 : k < i + 1
            · exact h1 k hk2
            · obtain rfl : k = i + 1 := by omega
              exact h2
          · intro h
            exact ⟨fun k hk => h k (by omega), h (i + 1) (by omega)⟩
      · have e0 : out = [] := by
          refine List.eq_nil_of_length_eq_zero ?_
          have : ¬ (0 : Int) < ((rxs.length : Nat) : Int) := fun z => e (decide_eq_true z)
          omega
        refine ⟨_, _, _, out, rfl, s4, dr, up, fun r => ⟨fun h => ?_, fun h => (mem r).mpr fun k hk => h k (by omega)⟩⟩
        rw [e0] at h
        cases h
    · rintro σ H4 ⟨y4, y5, rv, out, rfl, s4, dr, up, mem⟩
      refine ⟨rv, rfl, q rv out H4 s4 dr ⟨up, fun r => ?_⟩⟩
      rw [mem]
      exact ⟨fun h k hk => h k (by omega), fun h k hk => h k (by omega)⟩
end
end EM
/-! the plain law: both ways to the sure rows give one list -/
namespace EM
open PySem PySem.Spec PyProof.Rows L2
theorem take_mid : ∀ {k : Nat} {r s t : Row}, rLt r s = true → rLt s t = true → r.take k = t.take k → s.take k = t.take k
  | 0, _, _, _, _, _, _ => by rw [List.take_zero, List.take_zero]
  | k + 1, [], [], _, h, _, _ => by cases h
  | k + 1, _ :: _, [], _, h, _, _ => by cases h
  | k + 1, _, _ :: _, [], _, h, _ => by cases h
  | k + 1, [], b :: s, c :: t, _, _, e => by rw [List.take_nil, List.take_succ_cons] at e; cases e
  | k + 1, a :: r, b :: s, c :: t, h1, h2, e => by
    rw [List.take_succ_cons, List.take_succ_cons, List.cons.injEq] at e
    obtain ⟨e1, e2⟩ := e
    subst e1
    rw [rLt_cons] at h1 h2
    by_cases q : a = b
    · subst q
      rw [if_pos rfl] at h1 h2
      rw [List.take_succ_cons, List.take_succ_cons, take_mid h1 h2 e2]
    · rw [if_neg q] at h1
      rw [if_neg fun z => q z.symm] at h2
      rw [kTot.asym h1] at h2
      cases h2
def fkey (S : List Tab) (f : Fact) : Str × Row := (f.1, keyOf S f)
theorem key_mid {S : List Tab} {h g f : Fact} (h1 : fLt h g = true) (h2 : fLt g f = true) (e : fkey S h = fkey S f) : fkey S g = fkey S f := by
  obtain ⟨e1, e2⟩ := Prod.mk.inj e
  have eg : g.1 = f.1 := by
    unfold fLt at h1 h2
    by_cases q1 : h.1 = g.1
    · exact q1.symm.trans e1
    · rw [if_neg q1] at h1
      by_cases q2 : g.1 = f.1
      · exact q2
      · rw [if_neg q2] at h2
        have := sLt_trans (of_decide_eq_true h1) (of_decide_eq_true h2)
        rw [e1] at this
        exact absurd this (List.lt_irrefl _)
  unfold fLt at h1 h2
  rw [if_pos (e1.trans eg.symm)] at h1
  rw [if_pos eg] at h2
  unfold fkey keyOf
  unfold keyOf at e2
  rw [e1] at e2
  rw [eg, take_mid h1 h2 e2]
theorem groups_key {S : List Tab} (l : List Fact) : (∀ b ∈ groupsL S l, ∃ f ∈ l, bkey b = fkey S f) ∧ ∀ m f, l = m ++ [f] → ∃ bs b, groupsL S l = bs ++ [b] ∧ bkey b = fkey S f := by
  refine snoc_ind (P := fun l => (∀ b ∈ groupsL S l, ∃ f ∈ l, bkey b = fkey S f) ∧ ∀ m f, l = m ++ [f] → ∃ bs b, groupsL S l = bs ++ [b] ∧ bkey b = fkey S f) ⟨fun b hb => (by cases hb), fun m f e => (by simp at e)⟩ (fun l f ih => ?_) l
  rw [groupsL_snoc]
  rcases snoc_cases (groupsL S l) with e | ⟨bs, b, e⟩
  · rw [e, addL_nil]
    refine ⟨fun c hc => ⟨f, List.mem_append_right _ (List.mem_singleton.mpr rfl), ?_⟩, fun m g hg => ?_⟩
    · rw [List.mem_singleton.mp hc]
      rfl
    · obtain ⟨_, e2⟩ := List.append_inj' hg rfl
      injection e2 with e2
      subst e2
      exact ⟨[], _, rfl, rfl⟩
  · rw [e, addL_snoc]
    have old : ∀ c ∈ bs ++ [b], ∃ g ∈ l ++ [f], bkey c = fkey S g := fun c hc => by
      obtain ⟨g, hg, k⟩ := ih.1 c (by rw [e]; exact hc)
      exact ⟨g, List.mem_append_left _ hg, k⟩
    split
    next q =>
      refine ⟨fun c hc => ?_, fun m g hg => ?_⟩
      · rcases List.mem_append.mp hc with hc | hc
        · exact old c (List.mem_append_left _ hc)
        · rw [List.mem_singleton.mp hc]
          exact ⟨f, List.mem_append_right _ (List.mem_singleton.mpr rfl), rfl⟩
      · obtain ⟨_, e2⟩ := List.append_inj' hg rfl
        injection e2 with e2
        subst e2
        exact ⟨bs, _, rfl, rfl⟩
    next q =>
      refine ⟨fun c hc => ?_, fun m g hg => ?_⟩
      · rcases List.mem_append.mp hc with hc | hc
        · exact old c hc
        · rw [List.mem_singleton.mp hc]
          exact ⟨f, List.mem_append_right _ (List.mem_singleton.mpr rfl), rfl⟩
      · obtain ⟨_, e2⟩ := List.append_inj' hg rfl
        injection e2 with e2
        subst e2
        exact ⟨bs ++ [b], _, rfl, rfl⟩
theorem groups_eq {S : List Tab} (l : List Fact) : (l.Pairwise fun f g => fLt f g = true) → groupsP S l = groupsL S l := by
  refine snoc_ind (P := fun l => (l.Pairwise fun f g => fLt f g = true) → groupsP S l = groupsL S l) (fun _ => rfl) (fun l f ih up => ?_) l
  obtain ⟨up1, _, up3⟩ := List.pairwise_append.mp up
  have e0 := ih up1
  have nd := groupsP_nd (S := S) l
  rw [e0] at nd
  rw [groupsP_snoc, groupsL_snoc, e0]
  obtain ⟨k1, k2⟩ := groups_key (S := S) l
  rcases snoc_cases (groupsL S l) with e | ⟨bs, b, e⟩
  · rw [e]
    rfl
  · have hl : (bs ++ [b])[bs.length]? = some b := by simp
    rw [e] at nd k1 ⊢
    rw [addL_snoc]
    by_cases q : bkey b = fkey S f
    · rw [if_pos (show (b.1, b.2.1) = (f.1, keyOf S f) from q), addP_old nd hl q]
      have : (bs ++ [b]).set bs.length (b.1, b.2.1, b.2.2 ++ [f.2]) = bs ++ [(b.1, b.2.1, b.2.2 ++ [f.2])] := by simp
      rw [this]
      obtain ⟨q1, q2⟩ := Prod.mk.inj (show (b.1, b.2.1) = (f.1, keyOf S f) from q)
      rw [q1, q2]
    · rw [if_neg (show ¬ (b.1, b.2.1) = (f.1, keyOf S f) from q)]
      refine addP_new fun c hc z => ?_
      obtain ⟨h, hh, kh⟩ := k1 c hc
      rcases snoc_cases l with el | ⟨m, g, el⟩
      · subst el
        cases hh
      · obtain ⟨bs2, b2, e2, kb⟩ := k2 m g el
        rw [e] at e2
        obtain ⟨_, e3⟩ := List.append_inj' e2 rfl
        injection e3 with e3
        subst e3
        have gf : fLt g f = true := up3 g (by rw [el]; exact List.mem_append_right _ (List.mem_singleton.mpr rfl)) f (List.mem_singleton.mpr rfl)
        have hz : fkey S h = fkey S f := kh.symm.trans z
        apply q
        rw [kb]
        rw [el] at hh up1
        rcases List.mem_append.mp hh with hm | hm
        · exact key_mid ((List.pairwise_append.mp up1).2.2 h hm g (List.mem_singleton.mpr rfl)) gf hz
        · rw [List.mem_singleton.mp hm] at hz
          exact hz
theorem mendAt_snoc (bs : List Block) (b : Block) (n : Nat) : mendAt (bs ++ [b]) n = mendAt bs (n / b.2.2.length) ++ [(b.1, b.2.2.getD (n % b.2.2.length) [])] := by
  unfold mendAt
  rw [List.reverse_append]
  show (digs (b :: bs.reverse) n).reverse = _
  rw [digs_cons, List.reverse_cons]
theorem mends_iff (bs : List Block) : (∀ b ∈ bs, b.2.2 ≠ []) → ∀ m, m ∈ mends bs ↔ ∃ n, n < count bs ∧ m = mendAt bs n := by
  refine snoc_ind (P := fun bs => (∀ b ∈ bs, b.2.2 ≠ []) → ∀ m, m ∈ mends bs ↔ ∃ n, n < count bs ∧ m = mendAt bs n) (fun _ m => ?_) (fun l b ih ne m => ?_) bs
  · rw [show mends [] = [[]] from rfl, List.mem_singleton]
    constructor
    · intro h
      exact ⟨0, Nat.zero_lt_one, h⟩
    · rintro ⟨n, _, h⟩
      exact h
  · have pos := List.length_pos_iff.mpr (ne b (List.mem_append_right _ (List.mem_singleton.mpr rfl)))
    have ih' := ih fun c hc => ne c (List.mem_append_left _ hc)
    rw [mends_snoc, count_snoc]
    constructor
    · intro h
      obtain ⟨m', h1, h2⟩ := List.mem_flatMap.mp h
      obtain ⟨r, hr, rfl⟩ := List.mem_map.mp h2
      obtain ⟨k, hk, rfl⟩ := (ih' m').mp h1
      obtain ⟨j, hj⟩ := List.getElem?_of_mem hr
      have jl := (List.getElem?_eq_some_iff.mp hj).1
      have d1 : (b.2.2.length * k + j) / b.2.2.length = k := by rw [Nat.mul_add_div pos, Nat.div_eq_of_lt jl, Nat.add_zero]
      have d2 : (b.2.2.length * k + j) % b.2.2.length = j := by rw [Nat.mul_add_mod, Nat.mod_eq_of_lt jl]
      refine ⟨b.2.2.length * k + j, ?_, ?_⟩
      · calc b.2.2.length * k + j < b.2.2.length * k + b.2.2.length := Nat.add_lt_add_left jl _
          _ = b.2.2.length * (k + 1) := (Nat.mul_succ _ _).symm
          _ ≤ b.2.2.length * count l := Nat.mul_le_mul_left _ hk
          _ = count l * b.2.2.length := Nat.mul_comm _ _
      · rw [mendAt_snoc, d1, d2, List.getD_eq_getElem?_getD, hj]
        rfl
    · rintro ⟨n, hn, rfl⟩
      rw [mendAt_snoc]
      have jl := Nat.mod_lt n pos
      refine List.mem_flatMap.mpr ⟨mendAt l (n / b.2.2.length), (ih' _).mpr ⟨_, Nat.div_lt_of_lt_mul (by rw [Nat.mul_comm]; exact hn), rfl⟩, List.mem_map.mpr ⟨b.2.2.getD (n % b.2.2.length) [], ?_, rfl⟩⟩
      rw [List.getD_eq_getElem?_getD, List.getElem?_eq_getElem jl]
      exact List.getElem_mem jl
theorem vals_mono {s t : List Fact} (h : ∀ f ∈ s, f ∈ t) (as : List Atom) : ∀ m ∈ as.foldl (stepV s) [[]], m ∈ as.foldl (stepV t) [[]] := by
  refine snoc_ind (P := fun as => ∀ m ∈ as.foldl (stepV s) [[]], m ∈ as.foldl (stepV t) [[]]) (fun m hm => hm) (fun l a ih m hm => ?_) as
  rw [List.foldl_append] at hm ⊢
  obtain ⟨m', h1, h2⟩ := List.mem_flatMap.mp (show m ∈ (l.foldl (stepV s) [[]]).flatMap (oneV s a) from hm)
  obtain ⟨f, h3, h4⟩ := List.mem_filterMap.mp h2
  obtain ⟨h5, h6⟩ := List.mem_filter.mp h3
  exact show m ∈ (l.foldl (stepV t) [[]]).flatMap (oneV t a) from List.mem_flatMap.mpr ⟨m', ih m' h1, List.mem_filterMap.mpr ⟨f, List.mem_filter.mpr ⟨h f h5, h6⟩, h4⟩⟩
theorem rows_mono {s t : List Fact} (h : ∀ f ∈ s, f ∈ t) (qs : List Join) : ∀ r ∈ rowsOf s qs, r ∈ rowsOf t qs := fun r hr => by
  obtain ⟨j, hj, h2⟩ := List.mem_flatMap.mp hr
  obtain ⟨m, hm, rfl⟩ := List.mem_map.mp h2
  exact List.mem_flatMap.mpr ⟨j, hj, List.mem_map.mpr ⟨m, vals_mono h j.2 m hm, rfl⟩⟩
/-- the two answers are one -/
theorem sure_eq {S : List Tab} {fs : List Fact} {qs : List Join} {out out' : List Row} (ok : StoreOk S fs) (a : SureP S fs qs out) (b : SureL S fs qs out') : out = out' := by
  have eg := groups_eq (S := S) fs ok.up
  have ne := groupsP_ne (S := S) fs
  have mi := mends_iff (groupsP S fs) ne
  have pos := count_pos (groupsP S fs) ne
  refine sorted_eq rTot a.up b.up fun r => ?_
  rw [a.mem, b.mem, ← eg]
  constructor
  · intro h
    refine ⟨rows_mono (fun f hf => mendAt_in f hf) qs r (h 0 pos), fun m hm => ?_⟩
    obtain ⟨n, hn, rfl⟩ := (mi m).mp hm
    exact h n hn
  · rintro ⟨_, h⟩ n hn
    exact h _ ((mi _).mpr ⟨n, hn, rfl⟩)
end EM
/-! the law's own equality: the same datum -/
namespace EM
open PySem PySem.Spec PyProof.Rows L2
mutual
def fewD : PyData → Bool
  | .tuple ds => decide (ds.length ≤ 100000) && fewDs ds
  | .int _ => true
  | .str _ => true
  | _ => false
def fewDs : List PyData → Bool
  | [] => true
  | d :: ds => fewD d && fewDs ds
end
theorem fewDs_at : ∀ {ds : List PyData} {i : Nat} {d : PyData}, fewDs ds = true → ds[i]? = some d → fewD d = true
  | [], i, d, _, h => by simp at h
  | c :: ds, 0, d, f, h => by
    rw [fewDs, Bool.and_eq_true] at f
    rw [← Option.some.inj h]
    exact f.1
  | c :: ds, i + 1, d, f, h => by
    rw [fewDs, Bool.and_eq_true] at f
    exact fewDs_at f.2 (by simpa using h)
theorem depAll_at : ∀ {ds : List PyData} {i : Nat} {d : PyData}, ds[i]? = some d → d.depth ≤ PyData.depthAll ds
  | [], i, d, h => by simp at h
  | c :: ds, 0, d, h => by
    rw [← Option.some.inj h]
    simp only [PyData.depthAll]
    omega
  | c :: ds, i + 1, d, h => by
    have := depAll_at (ds := ds) (i := i) (d := d) (by simpa using h)
    simp only [PyData.depthAll]
    omega
theorem iteNe {x : V} {A B : Prop} (h : B) : if (!decide (x = x)) = true then A else B := by
  rw [show (!decide (x = x)) = false by simp]
  exact iteF h
theorem kAny_tup {K : PySem.W.Frag} : PySem.W.kitAny K (.type "tuple") [.type "tuple", .type "list"] = some true := by rfl
theorem kOne_tt {K : PySem.W.Frag} : PySem.W.kitOne K (.type "tuple") (.type "tuple") = some true := by rfl
theorem kOne_tl {K : PySem.W.Frag} : PySem.W.kitOne K (.type "tuple") (.type "list") = some false := by rfl
def tyK : Key → Value
  | .inl _ => .type "int"
  | .inr _ => .type "str"
theorem tyK_ok {K : PySem.W.Frag} {H : Hp} (k : Key) : TyX K H (kV k) (tyK k) := by
  cases k with
  | inl i => exact .base (.int _)
  | inr x => exact .base (.str _)
theorem kAny_key {K : PySem.W.Frag} (k : Key) : PySem.W.kitAny K (tyK k) [.type "tuple", .type "list"] = some false := by cases k <;> rfl
theorem kOne_bool {K : PySem.W.Frag} (k : Key) : PySem.W.kitOne K (tyK k) (.type "bool") = some false := by cases k <;> rfl
theorem kOne_int {K : PySem.W.Frag} (k : Key) : ∃ b, PySem.W.kitOne K (tyK k) (.type "int") = some b := by
  cases k with
  | inl i => exact ⟨true, rfl⟩
  | inr x => exact ⟨false, rfl⟩
theorem kOne_str {K : PySem.W.Frag} (k : Key) : ∃ b, PySem.W.kitOne K (tyK k) (.type "str") = some b := by
  cases k with
  | inl i => exact ⟨false, rfl⟩
  | inr x => exact ⟨true, rfl⟩
theorem leaf_of {H : Hp} {d : PyData} {x y : V} (hx : Den H d x) (hy : Den H d y) (few : fewD d = true) : (∃ k, x = kV k ∧ y = kV k) ∨ ∃ ds, d = .tuple ds := by
  cases d with
  | int i => exact .inl ⟨.inl i, den_int.mp hx, den_int.mp hy⟩
  | str z => exact .inl ⟨.inr z, den_str.mp hx, den_str.mp hy⟩
  | tuple ds => exact .inr ⟨ds, rfl⟩
  | none => rw [Den] at hx; exact hx.elim
  | bool b => rw [Den] at hx; exact hx.elim
  | list ds => simp [fewD] at few
  | dict ds => rw [Den] at hx; exact hx.elim
section
variable {P : Program} {w : World} {K : PySem.W.Frag} {mg : Str → Option Value} {base : Heap}
def spSame (n : Nat) : Sp := fun vs H Q _ => ∃ (d : PyData) (x y : V), vs = [x, y] ∧ Den H d x ∧ Den H d y ∧ fewD d = true ∧ d.depth ≤ n ∧ ∀ H', EM.St none H H' → Q (.bl true) H'
theorem same_none (T : Txt K mg) : Has P w K mg base 1 "_law_same" ["_law_actual", "_law_due"] (fun _ _ _ _ => False) :=
  T.dLSame.has scLSame (fun vs H Q E h => h.elim) (fun f cdv A outer s H vs Q E hr h => h.elim)
theorem same_step (T : Txt K mg) {k : Nat} {sp : Sp} (n : Nat) (ih : Has P w K mg base k "_law_same" ["_law_actual", "_law_due"] sp)
    (hsp : ∀ (d : PyData) (x y : V) (H : Hp) (Q : VK) (E : XK), Den H d x → Den H d y → fewD d = true → d.depth + 1 ≤ n → (∀ H', EM.St none H H' → Q (.bl true) H') → sp [x, y] H Q E) : Has P w K mg base (k + 1) "_law_same" ["_law_actual", "_law_due"] (spSame n) := by
  have hasLSame : Txt K mg → Has P w K mg base k "_law_same" ["_law_actual", "_law_due"] sp := fun _ => ih
  refine T.dLSame.has scLSame (fun vs H Q E h => ?_) (fun f cdv A outer s H vs Q E hr h => ?_)
  · obtain ⟨d, x, y, rfl, _⟩ := h
    rfl
  · obtain ⟨d, x, y, rfl, hx, hy, few, dep, q⟩ := h
    refine ⟨_,
      (pss_cons (ps_if (pt_val (pe_callB (isiT K) (by rfl) T.misinstance (by decide +kernel) (pa_cons (pv 1) (pa_cons (pe_tup (pa_cons (pe_ty (n := "tuple") T.mtuple (by decide +kernel)) (pa_cons (pe_ty (n := "list") T.mlist (by decide +kernel)) pa_nil))) pa_nil))))
        (pss_cons (ps_if (PW.pt (pw_or (pt_cmpR op_ne (pe_callB (isi K) (by rfl) T.misinstance (by decide +kernel) (pa_cons (pv 0) (pa_cons (pe_ty (n := "tuple") T.mtuple (by decide +kernel)) pa_nil))) (pe_callB (isi K) (by rfl) T.misinstance (by decide +kernel) (pa_cons (pv 1) (pa_cons (pe_ty (n := "tuple") T.mtuple (by decide +kernel)) pa_nil))) (nomark _)) (pw_or1 (pt_cmpR op_ne (pe_callB (isi K) (by rfl) T.misinstance (by decide +kernel) (pa_cons (pv 0) (pa_cons (pe_ty (n := "list") T.mlist (by decide +kernel)) pa_nil))) (pe_callB (isi K) (by rfl) T.misinstance (by decide +kernel) (pa_cons (pv 1) (pa_cons (pe_ty (n := "list") T.mlist (by decide +kernel)) pa_nil))) (nomark _)))))
          (pss_one (ps_ret pe_bl))
          pss_nil)
        (pss_cons (ps_if (pt_cmpR op_ne (pe_callB (lenS K) (by rfl) T.mlen PySem.boot_len (pa_cons (pv 0) pa_nil)) (pe_callB (lenS K) (by rfl) T.mlen PySem.boot_len (pa_cons (pv 1) pa_nil)) (nomark _))
          (pss_one (ps_ret pe_bl))
          pss_nil)
        (pss_one (ps_ret (pe_cmpR (ninS K) pe_bl (pe_lc (own := [("_law_k", 2)]) (g := (gName 2)) (tt := tYes) rfl scLSame.nd (pi_range1 (by rfl) T.mrange (pa_cons (pe_callB (lenS K) (by rfl) T.mlen PySem.boot_len (pa_cons (pv 1) pa_nil)) pa_nil)) (blkOk_by (N := nmLSame) (sc := defScope stLSame) (by decide +kernel)) (fun _ _ _ _ _ => (pg_name (i := 2) scLSame.nd rfl (Or.inl rfl))) (fun _ _ _ _ _ => pts_nil) (fun _ _ _ _ _ => (pe_own (hasLSame T) hr (Nat.le_refl _) (by rfl) (pa_cons (pe_ix (ixT K) (pv 0) (pv 2) (fun _ _ => rfl)) (pa_cons (pe_ix (ixT K) (pv 1) (pv 2) (fun _ _ => rfl)) pa_nil))))) (by rfl))))))
        pss_nil)
      (pss_cons (ps_if (PW.pt (pw_or (pt_cmpR op_ne (pe_callB (isi K) (by rfl) T.misinstance (by decide +kernel) (pa_cons (pv 0) (pa_cons (pe_ty (n := "bool") T.mbool (by decide +kernel)) pa_nil))) (pe_callB (isi K) (by rfl) T.misinstance (by decide +kernel) (pa_cons (pv 1) (pa_cons (pe_ty (n := "bool") T.mbool (by decide +kernel)) pa_nil))) (nomark _)) (pw_or1 (pt_cmpR op_ne (pe_callB (isi K) (by rfl) T.misinstance (by decide +kernel) (pa_cons (pv 0) (pa_cons (pe_ty (n := "int") T.mint (by decide +kernel)) pa_nil))) (pe_callB (isi K) (by rfl) T.misinstance (by decide +kernel) (pa_cons (pv 1) (pa_cons (pe_ty (n := "int") T.mint (by decide +kernel)) pa_nil))) (nomark _)))))
        (pss_one (ps_ret pe_bl))
        pss_nil)
      (pss_cons (ps_if (PW.pt (pw_or (pt_cmpR op_ne (pe_callB (isi K) (by rfl) T.misinstance (by decide +kernel) (pa_cons (pv 0) (pa_cons (pe_ty (n := "str") T.mstr (by decide +kernel)) pa_nil))) (pe_callB (isi K) (by rfl) T.misinstance (by decide +kernel) (pa_cons (pv 1) (pa_cons (pe_ty (n := "str") T.mstr (by decide +kernel)) pa_nil))) (nomark _)) (pw_or1 (pt_cmpR op_ne (pe_cmpR op_isN (pv 0) pe_non (nomark _)) (pe_cmpR op_isN (pv 1) pe_non (nomark _)) (nomark _)))))
        (pss_one (ps_ret pe_bl))
        pss_nil)
      (pss_one (ps_ret (pe_cmpR op_eq (pv 0) (pv 1) (nomark _))))))), ?_⟩
    refine ⟨y, rfl, sz_le (by show 2 ≤ 10000000; decide), fun tp ntp => ?_⟩
    have st : EM.St none H (upd H tp (.tup [.ty "tuple", .ty "list"])) := St.new ntp
    rcases leaf_of hx hy few with ⟨k, rfl, rfl⟩ | ⟨ds, rfl⟩
    · refine ⟨_, tp, _, _, _, false, rfl, upd_same, .cons (.ty _) (.cons (.ty _) .nil), tyK_ok k, kAny_key k, _, rfl, iteF ?_⟩
      obtain ⟨b1, i1⟩ := kOne_int (K := K) k
      obtain ⟨b2, i2⟩ := kOne_str (K := K) k
      refine ⟨_, rfl, _, _, _, _, false, rfl, .ty _, tyK_ok k, kOne_bool k, _, rfl, _, _, _, _, false, rfl, .ty _, tyK_ok k, kOne_bool k, rfl, _, rfl, iteNe ?_⟩
      refine ⟨_, rfl, _, _, _, _, b1, rfl, .ty _, tyK_ok k, i1, _, rfl, _, _, _, _, b1, rfl, .ty _, tyK_ok k, i1, rfl, _, rfl, iteNe ?_⟩
      refine ⟨_, rfl, _, _, _, _, b2, rfl, .ty _, tyK_ok k, i2, _, rfl, _, _, _, _, b2, rfl, .ty _, tyK_ok k, i2, rfl, _, rfl, iteNe ?_⟩
      refine ⟨_, rfl, rfl, _, rfl, rfl, rfl, _, rfl, iteNe ?_⟩
      refine ⟨_, rfl, _, rfl, scal_key k k, ?_⟩
      rw [show decide (kV k = kV k) = true by simp]
      exact q _ st
    · obtain ⟨p, xs, rfl, hp, dx⟩ := den_tup.mp hx
      obtain ⟨p2, ys, rfl, hp2, dy⟩ := den_tup.mp hy
      have hpt := st.same _ _ hp
      have hpt2 := st.same _ _ hp2
      have tx : TyX K (upd H tp (.tup [.ty "tuple", .ty "list"])) (.ref p) (.type "tuple") := .base (.tup hpt)
      have ty : TyX K (upd H tp (.tup [.ty "tuple", .ty "list"])) (.ref p2) (.type "tuple") := .base (.tup hpt2)
      have xl := dx.len
      have yl := dy.len
      rw [fewD, Bool.and_eq_true] at few
      have few1 := of_decide_eq_true few.1
      refine ⟨_, tp, _, _, _, true, rfl, upd_same, .cons (.ty _) (.cons (.ty _) .nil), ty, kAny_tup, _, rfl, iteT ?_⟩
      refine ⟨_, rfl, _, _, _, _, true, rfl, .ty _, tx, kOne_tt, _, rfl, _, _, _, _, true, rfl, .ty _, ty, kOne_tt, rfl, _, rfl, iteNe ?_⟩
      refine ⟨_, rfl, _, _, _, _, false, rfl, .ty _, tx, kOne_tl, _, rfl, _, _, _, _, false, rfl, .ty _, ty, kOne_tl, rfl, _, rfl, iteNe ?_⟩
      refine ⟨_, rfl, p, xs, rfl, .inr (SqT.of hpt), _, rfl, p2, ys, rfl, .inr (SqT.of hpt2), rfl, _, rfl, ?_⟩
      rw [xl, yl]
      refine iteNe ?_
      refine ⟨_, rfl, p2, ys, rfl, .inr (SqT.of hpt2), _, rfl, by omega, by omega, gather (m := none) (n := ((ys.length : Nat) : Int).toNat) wkR (fun _ _ => trivial) (fun b z => nomatch z) (by omega) (fun i v H => v = .bl true) (fun _ _ _ _ _ h => h) (fun i v H2 hi hv s2 R k => ?_) (fun D zs H2 s2 nD hD hl hpd => ?_) gname_mono⟩
      · rw [Int.toNat_natCast, yl] at hi
        obtain ⟨d, hd⟩ := a_get? (l := ds) (i := i) hi
        have st2 := st.trans s2
        obtain ⟨u, hu, du⟩ := (st2.denL dx).get hd
        obtain ⟨u2, hu2, du2⟩ := (st2.denL dy).get hd
        subst hv
        have dd := depAll_at hd
        have dt : (PyData.tuple ds).depth = PyData.depthAll ds + 1 := by simp only [PyData.depth]
        refine ⟨rfl, _, rfl, _, rfl, p, _, _, _, rfl, rfl, SqT.of (st2.same _ _ hp), atI_nat hu, _, rfl, _, rfl, p2, _, _, _, rfl, rfl, SqT.of (st2.same _ _ hp2), atI_nat hu2, hsp d u u2 _ _ _ du du2 (fewDs_at few.2 hd) (by omega) fun H3 s3 => k _ _ s3 rfl⟩
      · have hall : ∀ v ∈ zs, v = V.bl true := fun v hv => by
          obtain ⟨i, hi⟩ := List.getElem?_of_mem hv
          exact hpd i v hi
        have fl : zs.all flatV = true := List.all_eq_true.mpr fun v hv => by rw [hall v hv]; rfl
        have nin : inV (.bl false) zs = false := by
          cases e : inV (.bl false) zs with
          | false => rfl
          | true =>
            obtain ⟨v, hv, e2⟩ := List.any_eq_true.mp e
            rw [hall v hv] at e2
            exact absurd e2 (by decide)
        refine ⟨D, zs, rfl, .inl (SqL.of hD), rfl, fl, ?_⟩
        rw [nin]
        exact q _ (st.trans s2)
theorem same_all (T : Txt K mg) : ∀ n : Nat, Has P w K mg base (n + 2) "_law_same" ["_law_actual", "_law_due"] (spSame n)
  | 0 => same_step T 0 (same_none T) fun d x y H Q E _ _ _ h => absurd h (by omega)
  | n + 1 => same_step T (n + 1) (same_all T n) fun d x y H Q E hx hy few h q => ⟨d, x, y, rfl, hx, hy, few, by omega, q⟩
theorem hasLSame (T : Txt K mg) : Has P w K mg base 4 "_law_same" ["_law_actual", "_law_due"] (spSame 2) := same_all T 2
end
end EM
/-! the law -/
namespace EM
open PySem PySem.Spec PyProof.Rows L2
theorem few_keys : ∀ r : Row, fewDs (r.map eV) = true
  | [] => by rw [List.map_nil, fewDs]
  | a :: r => by
    rw [List.map_cons, fewDs, few_keys r]
    cases a <;> simp [eV, fewD]
theorem few_map {out : List Row} (h : ∀ r ∈ out, r.length ≤ 100) : fewDs (out.map eRow) = true := by
  induction out with
  | nil => rw [List.map_nil, fewDs]
  | cons r l ih =>
    rw [List.map_cons, fewDs, ih fun q hq => h q (.tail _ hq)]
    have h1 := h r (.head _)
    unfold eRow
    rw [fewD, few_keys, List.length_map]
    simp
    omega
theorem few_rows {out : List Row} (hl : out.length ≤ 1029) (h : ∀ r ∈ out, r.length ≤ 100) : fewD (eRows out) = true := by
  unfold eRows
  rw [fewD, few_map h, List.length_map]
  simp
  omega
theorem dep_rows (out : List Row) : (eRows out).depth ≤ 2 := by
  have := depthAll_le dep_row out
  unfold eRows
  simp only [PyData.depth]
  omega
theorem sureL_few {S : List Tab} {n : Nat} {fs : List Fact} {qs : List Join} {out : List Row} (sok : StoreOk S fs) (qok : QOk S n qs) (hn : n ≤ 100) (b : SureL S fs qs out) : fewD (eRows out) = true :=
  few_rows (Nat.le_trans (up_len b.up fun r hr => ((b.mem r).mp hr).1) (rowsOf_len sok.few qok.few fun j hj => (qok.joins j hj).few)) fun r hr => by
    rw [rowsOf_wide qok r ((b.mem r).mp hr).1]
    exact hn
theorem pick4 {n a b c d : Nat} (h : n < 4) (ha : a ≤ 3) (hb : b ≤ 3) (hc : c ≤ 3) (hd : d ≤ 3) : ∃ w : Nat, w ≤ 3 ∧ [V.int (a : Nat), V.int (b : Nat), V.int (c : Nat), V.int (d : Nat)][n]? = some (V.int (w : Nat)) := by
  match n, h with
  | 0, _ => exact ⟨a, ha, rfl⟩
  | 1, _ => exact ⟨b, hb, rfl⟩
  | 2, _ => exact ⟨c, hc, rfl⟩
  | 3, _ => exact ⟨d, hd, rfl⟩
section
variable {P : Program} {w : World} {K : PySem.W.Frag} {mg : Str → Option Value} {base : Heap}
def spLaw (K : PySem.W.Frag) : Sp := fun vs H Q _ => ∃ (l : Addr) (ns : List Int), vs = [.ref l] ∧ ns.length ≤ 63 ∧ SqL K H l (ns.map V.int) ∧ ∀ H', Q (.bl true) H'
theorem lawOk (T : Txt K mg) {f : Addr} {fd : FuncData} (F : Fun K "law" "law" stPLaw f fd) : FnOk P w K mg base CX0 8 f fd ["_law_script"] (spLaw K) := by
  refine F.ok scPLaw (fun vs H Q E h => ?_) (fun cdv A outer s H vs Q E hr h => ?_)
  · obtain ⟨l, ns, rfl, _⟩ := h
    rfl
  · obtain ⟨l, ns, rfl, hlen, hl, q⟩ := h
    refine ⟨_,
      (pss_cons (ps_set (i := 1) scPLaw.nd rfl (.inl rfl) (pe_own (hasLDraws T) hr (by decide) (by rfl) (pa_cons (pv 0) (pa_cons pe_int pa_nil))))
      (pss_cons (ps_set (i := 2) scPLaw.nd rfl (.inl rfl) (pe_own (hasLWorld T) hr (by decide) (by rfl) (pa_cons (pv 1) pa_nil)))
      (pss_cons (ps_set (i := 3) scPLaw.nd rfl (.inl rfl) (pe_own (hasLQuestion T) hr (by decide) (by rfl) (pa_cons (pv 1) (pa_cons (pv 2) (pa_cons (pe_ix (ixL K) (pe_lst (pa_cons pe_int (pa_cons pe_int (pa_cons pe_int (pa_cons pe_int pa_nil))))) (pe_own (hasLTake T) hr (by decide) (by rfl) (pa_cons (pv 1) (pa_cons pe_int pa_nil))) (fun _ _ => rfl)) pa_nil)))))
      (pss_cons (ps_set (i := 4) scPLaw.nd rfl (.inl rfl) (pe_own (hasLStore T) hr (by decide) (by rfl) (pa_cons (pe_own (hasLFacts T) hr (by decide) (by rfl) (pa_cons (pv 1) (pa_cons (pv 2) (pa_cons (pe_ix (ixT K) (pv 3) pe_int (fun _ _ => rfl)) (pa_cons pe_int pa_nil))))) pa_nil)))
      (pss_cons (ps_if (pt_not (pt_val (pe_own (hasLSame T) hr (by decide) (by rfl) (pa_cons (pe_own (hasPSurePlainly T) hr (by decide) (by rfl) (pa_cons (pe_ix (ixL K) (pv 2) pe_int (fun _ _ => rfl)) (pa_cons (pv 4) (pa_cons (pv 3) pa_nil)))) (pa_cons (pe_callTy (tupOf K) (by rfl) T.mtuple (by decide +kernel) (pa_cons (pe_own (hasLSure T) hr (by decide) (by rfl) (pa_cons (pe_ix (ixL K) (pv 2) pe_int (fun _ _ => rfl)) (pa_cons (pv 4) (pa_cons (pv 3) pa_nil)))) pa_nil)) pa_nil)))))
        (pss_one (ps_ret pe_bl))
        pss_nil)
      (pss_cons (ps_set (i := 2) scPLaw.nd rfl (.inl rfl) (pe_own (hasLBroadWorld T) hr (by decide) (by rfl) (pa_cons (pv 1) (pa_cons (pv 0) pa_nil))))
      (pss_cons (ps_set (i := 3) scPLaw.nd rfl (.inl rfl) (pe_own (hasLBroadQuestion T) hr (by decide) (by rfl) (pa_cons (pv 1) (pa_cons (pv 2) (pa_cons (pe_ix (ixL K) (pe_lst (pa_cons pe_int (pa_cons pe_int (pa_cons pe_int (pa_cons pe_int pa_nil))))) (pe_own (hasLTake T) hr (by decide) (by rfl) (pa_cons (pv 1) (pa_cons pe_int pa_nil))) (fun _ _ => rfl)) (pa_cons pe_int pa_nil))))))
      (pss_cons (ps_set (i := 4) scPLaw.nd rfl (.inl rfl) (pe_own (hasLStore T) hr (by decide) (by rfl) (pa_cons (pe_own (hasLBroadFacts T) hr (by decide) (by rfl) (pa_cons (pv 1) (pa_cons (pv 2) (pa_cons (pe_ix (ixT K) (pv 3) pe_int (fun _ _ => rfl)) (pa_cons pe_int pa_nil))))) pa_nil)))
      (pss_one (ps_ret (pe_own (hasLSame T) hr (by decide) (by rfl) (pa_cons (pe_own (hasPSurePlainly T) hr (by decide) (by rfl) (pa_cons (pe_ix (ixL K) (pv 2) pe_int (fun _ _ => rfl)) (pa_cons (pv 4) (pa_cons (pv 3) pa_nil)))) (pa_cons (pe_callTy (tupOf K) (by rfl) T.mtuple (by decide +kernel) (pa_cons (pe_own (hasLSure T) hr (by decide) (by rfl) (pa_cons (pe_ix (ixL K) (pv 2) pe_int (fun _ _ => rfl)) (pa_cons (pv 4) (pa_cons (pv 3) pa_nil)))) pa_nil)) pa_nil))))))))))))), ?_⟩
    refine ⟨.ref l, rfl, l, ns, rfl, hl, hlen, fun a H1 s1 na d1 => ?_⟩
    have keepL : ∀ H', EM.St (some a) H1 H' → SqL K H' l (ns.map V.int) := fun H' s' => by
      have k : ∀ u, H l = some u → H' l = some u := fun u hu => s'.kp (s1 _ _ hu) (ne_of_none hu na)
      rcases hl with (e | ⟨o, e⟩) | e
      · exact .inl (.inl (k _ e))
      · exact .inl (.inr ⟨o, k _ e⟩)
      · exact .inr e
    refine ⟨.ref a, rfl, a, rfl, d1, fun wd S vars vals H2 s2 W2 => ?_⟩
    have d2 := s2.draws d1
    -- the question
    refine ⟨.ref a, rfl, .ref wd, rfl, sz_le (by show 4 ≤ 10000000; decide), fun c nc => ?_⟩
    have s3 : EM.St (some a) H2 (upd H2 c (.lst [.int 1, .int 0, .int 2, .int 1])) := St.new nc
    have ca : c ≠ a := (d2.ne nc).symm
    refine ⟨.ref a, rfl, a, 4, rfl, s3.draws d2, by decide, fun n3 H3 s4 hn3 => ?_⟩
    obtain ⟨n, hn, hp⟩ := pick4 (a := 1) (b := 0) (c := 2) (d := 1) hn3 (by decide) (by decide) (by decide) (by decide)
    have s24 := s3.trans s4
    have d3 := s24.draws d2
    refine ⟨c, _, _, _, rfl, rfl, SqL.of (s4.kp upd_same ca), atI_nat hp, a, wd, S, vars, vals, n, rfl, d3, W2.st s24, hn, fun qv qs H4 s5 dq qok => ?_⟩
    have s25 := s24.trans s5
    have d4 := s5.draws d3
    obtain ⟨qp, q1, jv, rfl, hqp, dq1, dj⟩ := den_2.mp dq
    -- the store
    refine ⟨.ref a, rfl, .ref wd, rfl, .ref qp, rfl, qp, _, 1, _, rfl, rfl, SqT.of hqp, atI_nat (j := 1) rfl, a, wd, S, vars, vals, n, qs, jv, rfl, d4, W2.st s25, dj, qok, fun F fs H5 s6 nF hF few => ?_⟩
    obtain ⟨⟨fxs, hFx, dF⟩, okF⟩ := hF
    refine ⟨S, F, fxs, fs, rfl, hFx, dF, W2.wf, okF, few, fun sv st H6 s7 dst sok => ?_⟩
    have s26 := (s25.trans s6).trans s7.weak
    have d6 := s26.draws d2
    have W6 := W2.st s26
    have dq6 := (s6.trans s7.weak).den dq
    have n100 : n ≤ 100 := by omega
    obtain ⟨⟨sp, vr, vl, sxs, w1, w2, w3, w4, w5, m1, m2, m3⟩, wf, nv, nl⟩ := W6
    -- the two ways
    refine ⟨.ref wd, rfl, wd, _, 0, _, rfl, rfl, SqL.of w1, atI_nat (j := 0) rfl, _, rfl, .ref qp, rfl, S, .ref sp, sv, .ref qp, n, st, qs, rfl, den_map.mpr ⟨sp, sxs, rfl, w2, w3⟩, dst, dq6, wf, sok, qok, n100, fun v1 out1 H7 s8 dv1 sp1 => ?_⟩
    have W7 := W2.st (s26.trans s8.weak)
    obtain ⟨⟨sp, vr, vl, sxs, w1, w2, w3, w4, w5, m1, m2, m3⟩, wf, nv, nl⟩ := W7
    refine ⟨.ref wd, rfl, wd, _, 0, _, rfl, rfl, SqL.of w1, atI_nat (j := 0) rfl, _, rfl, .ref qp, rfl, S, .ref sp, sv, .ref qp, n, st, qs, rfl, den_map.mpr ⟨sp, sxs, rfl, w2, w3⟩, s8.den dst, s8.den dq6, wf, sok, qok, n100, fun p zs out2 H8 s9 hp dz sp2 => ?_⟩
    obtain rfl := sure_eq sok sp1 sp2
    refine ⟨p, zs, rfl, .inl ⟨SqL.of hp, fun u nu => ?_⟩⟩
    have su : EM.St none H8 (upd H8 u (.tup zs)) := St.new nu
    refine ⟨eRows out1, v1, .ref u, rfl, (s9.trans su).den dv1, den_map.mpr ⟨u, zs, rfl, upd_same, su.denL dz⟩, sureL_few sok qok n100 sp2, dep_rows out1, fun H9 s10 => ?_⟩
    have s29 := s26.trans (((s8.trans s9).trans su).trans s10).weak
    have d9 := s29.draws d2
    refine ⟨_, rfl, iteF ?_⟩
    have s19 := s2.trans s29
    clear sp2 sp1 dz hp dv1 w1 w2 w3 w4 w5 m1 m2 m3 wf nv nl sok dst dF okF few hFx nF dj dq1 hqp dq dq6 qok hn n100
    -- the broad world
    refine ⟨.ref a, rfl, .ref l, rfl, a, l, ns, rfl, d9, fun H' s' => keepL H' (s19.trans s'), fun wd S vars vals H10 s11 W2 hvl => ?_⟩
    have d2 := s11.draws d9
    refine ⟨.ref a, rfl, .ref wd, rfl, sz_le (by show 4 ≤ 10000000; decide), fun c nc => ?_⟩
    have s3 : EM.St (some a) H10 (upd H10 c (.lst [.int 1, .int 2, .int 0, .int 3])) := St.new nc
    have ca : c ≠ a := (d2.ne nc).symm
    refine ⟨.ref a, rfl, a, 4, rfl, s3.draws d2, by decide, fun n3 H11 s4 hn3 => ?_⟩
    obtain ⟨n, hn, hp⟩ := pick4 (a := 1) (b := 2) (c := 0) (d := 3) hn3 (by decide) (by decide) (by decide) (by decide)
    have s24 := s3.trans s4
    have d3 := s24.draws d2
    refine ⟨c, _, _, _, rfl, rfl, SqL.of (s4.kp upd_same ca), atI_nat hp, a, wd, S, vars, vals, n, rfl, d3, W2.st s24, hn, fun qv qs H12 s5 dq qok => ?_⟩
    have s25 := s24.trans s5
    have d4 := s5.draws d3
    obtain ⟨qp, q1, jv, rfl, hqp, dq1, dj⟩ := den_2.mp dq
    -- the store
    refine ⟨.ref a, rfl, .ref wd, rfl, .ref qp, rfl, qp, _, 1, _, rfl, rfl, SqT.of hqp, atI_nat (j := 1) rfl, a, wd, S, vars, vals, n, qs, jv, rfl, d4, W2.st s25, hvl, dj, qok, fun F fs H13 s6 nF hF few => ?_⟩
    obtain ⟨⟨fxs, hFx, dF⟩, okF⟩ := hF
    refine ⟨S, F, fxs, fs, rfl, hFx, dF, W2.wf, okF, few, fun sv st H14 s7 dst sok => ?_⟩
    have s26 := (s25.trans s6).trans s7.weak
    have W6 := W2.st s26
    have dq6 := (s6.trans s7.weak).den dq
    have n100 : n ≤ 100 := by omega
    obtain ⟨⟨sp, vr, vl, sxs, w1, w2, w3, w4, w5, m1, m2, m3⟩, wf, nv, nl⟩ := W6
    -- the two ways
    refine ⟨.ref wd, rfl, wd, _, 0, _, rfl, rfl, SqL.of w1, atI_nat (j := 0) rfl, _, rfl, .ref qp, rfl, S, .ref sp, sv, .ref qp, n, st, qs, rfl, den_map.mpr ⟨sp, sxs, rfl, w2, w3⟩, dst, dq6, wf, sok, qok, n100, fun v1 out1 H15 s8 dv1 sp1 => ?_⟩
    have W7 := W2.st (s26.trans s8.weak)
    obtain ⟨⟨sp, vr, vl, sxs, w1, w2, w3, w4, w5, m1, m2, m3⟩, wf, nv, nl⟩ := W7
    refine ⟨.ref wd, rfl, wd, _, 0, _, rfl, rfl, SqL.of w1, atI_nat (j := 0) rfl, _, rfl, .ref qp, rfl, S, .ref sp, sv, .ref qp, n, st, qs, rfl, den_map.mpr ⟨sp, sxs, rfl, w2, w3⟩, s8.den dst, s8.den dq6, wf, sok, qok, n100, fun p zs out2 H16 s9 hp dz sp2 => ?_⟩
    obtain rfl := sure_eq sok sp1 sp2
    refine ⟨p, zs, rfl, .inl ⟨SqL.of hp, fun u nu => ?_⟩⟩
    have su : EM.St none H16 (upd H16 u (.tup zs)) := St.new nu
    exact ⟨eRows out1, v1, .ref u, rfl, (s9.trans su).den dv1, den_map.mpr ⟨u, zs, rfl, upd_same, su.denL dz⟩, sureL_few sok qok n100 sp2, dep_rows out1, fun H17 s10 => q H17⟩
end
end EM
/-! what the top has written; the row -/
namespace EM
open PySem PySem.Spec PyProof.Rows L2
section
variable {K : PySem.W.Frag} {h : Heap} {mg : Str → Option Value} {f : Addr} {x : Str} {st : Stmt} {ps : List Str} {od an : Option Addr} {sl : Array (Option Value)} {oc kV dc pm cd ct : Value}
theorem def_at (X : K.In h) (G : h.Ns mainGlobals mg) (b : ∀ (oc kV dc pm cd ct : Value) (an : Option Addr) (us : List Value), us.length = ps.length → bindArgs (PySem.W.fnOf x x (defArgs st) (defBody st) (defScope st) .none kV dc pm an cd ct) ⟨us, []⟩ = pure (ps.zip us))
    (a : PySem.W.nsIn K mainGlobals x = some (some (.ref f))) (l : K.lookup f = some ⟨oc, od, .func (PySem.W.fnOf x x (defArgs st) (defBody st) (defScope st) .none kV dc pm an cd ct), sl⟩) (c : PySem.W.codeIn K cd x = true) (k : PySem.W.keepIn K (.ref f) = true) : DefAt K mg x st ps :=
  ⟨f, _, fun_mk l c k, PySem.W.mg_of X G a, .all fun us hl => b oc kV dc pm cd ct an us hl⟩
end
theorem txt_mk {K : PySem.W.Frag} {h : Heap} {mg : Str → Option Value} (X : K.In h) (G : h.Ns mainGlobals mg)
    {od0 an0 : Option Addr} {sl0 : Array (Option Value)} {f0 : Addr} {oc0 kV0 dc0 pm0 cd0 ct0 : Value}
    (a0 : PySem.W.nsIn K mainGlobals "value_key" = some (some (.ref f0))) (l0 : K.lookup f0 = some ⟨oc0, od0, .func (PySem.W.fnOf "value_key" "value_key" (defArgs stPValueKey) (defBody stPValueKey) (defScope stPValueKey) .none kV0 dc0 pm0 an0 cd0 ct0), sl0⟩) (c0 : PySem.W.codeIn K cd0 "value_key" = true) (k0 : PySem.W.keepIn K (.ref f0) = true)
    {od1 an1 : Option Addr} {sl1 : Array (Option Value)} {f1 : Addr} {oc1 kV1 dc1 pm1 cd1 ct1 : Value}
    (a1 : PySem.W.nsIn K mainGlobals "row_key" = some (some (.ref f1))) (l1 : K.lookup f1 = some ⟨oc1, od1, .func (PySem.W.fnOf "row_key" "row_key" (defArgs stPRowKey) (defBody stPRowKey) (defScope stPRowKey) .none kV1 dc1 pm1 an1 cd1 ct1), sl1⟩) (c1 : PySem.W.codeIn K cd1 "row_key" = true) (k1 : PySem.W.keepIn K (.ref f1) = true)
    {od2 an2 : Option Addr} {sl2 : Array (Option Value)} {f2 : Addr} {oc2 kV2 dc2 pm2 cd2 ct2 : Value}
    (a2 : PySem.W.nsIn K mainGlobals "sorted_rows" = some (some (.ref f2))) (l2 : K.lookup f2 = some ⟨oc2, od2, .func (PySem.W.fnOf "sorted_rows" "sorted_rows" (defArgs stPSortedRows) (defBody stPSortedRows) (defScope stPSortedRows) .none kV2 dc2 pm2 an2 cd2 ct2), sl2⟩) (c2 : PySem.W.codeIn K cd2 "sorted_rows" = true) (k2 : PySem.W.keepIn K (.ref f2) = true)
    {od3 an3 : Option Addr} {sl3 : Array (Option Value)} {f3 : Addr} {oc3 kV3 dc3 pm3 cd3 ct3 : Value}
    (a3 : PySem.W.nsIn K mainGlobals "table_of" = some (some (.ref f3))) (l3 : K.lookup f3 = some ⟨oc3, od3, .func (PySem.W.fnOf "table_of" "table_of" (defArgs stPTableOf) (defBody stPTableOf) (defScope stPTableOf) .none kV3 dc3 pm3 an3 cd3 ct3), sl3⟩) (c3 : PySem.W.codeIn K cd3 "table_of" = true) (k3 : PySem.W.keepIn K (.ref f3) = true)
    {od4 an4 : Option Addr} {sl4 : Array (Option Value)} {f4 : Addr} {oc4 kV4 dc4 pm4 cd4 ct4 : Value}
    (a4 : PySem.W.nsIn K mainGlobals "key_of" = some (some (.ref f4))) (l4 : K.lookup f4 = some ⟨oc4, od4, .func (PySem.W.fnOf "key_of" "key_of" (defArgs stPKeyOf) (defBody stPKeyOf) (defScope stPKeyOf) .none kV4 dc4 pm4 an4 cd4 ct4), sl4⟩) (c4 : PySem.W.codeIn K cd4 "key_of" = true) (k4 : PySem.W.keepIn K (.ref f4) = true)
    {od5 an5 : Option Addr} {sl5 : Array (Option Value)} {f5 : Addr} {oc5 kV5 dc5 pm5 cd5 ct5 : Value}
    (a5 : PySem.W.nsIn K mainGlobals "blocks_of" = some (some (.ref f5))) (l5 : K.lookup f5 = some ⟨oc5, od5, .func (PySem.W.fnOf "blocks_of" "blocks_of" (defArgs stPBlocksOf) (defBody stPBlocksOf) (defScope stPBlocksOf) .none kV5 dc5 pm5 an5 cd5 ct5), sl5⟩) (c5 : PySem.W.codeIn K cd5 "blocks_of" = true) (k5 : PySem.W.keepIn K (.ref f5) = true)
    {od6 an6 : Option Addr} {sl6 : Array (Option Value)} {f6 : Addr} {oc6 kV6 dc6 pm6 cd6 ct6 : Value}
    (a6 : PySem.W.nsIn K mainGlobals "count_mendings" = some (some (.ref f6))) (l6 : K.lookup f6 = some ⟨oc6, od6, .func (PySem.W.fnOf "count_mendings" "count_mendings" (defArgs stPCountMendings) (defBody stPCountMendings) (defScope stPCountMendings) .none kV6 dc6 pm6 an6 cd6 ct6), sl6⟩) (c6 : PySem.W.codeIn K cd6 "count_mendings" = true) (k6 : PySem.W.keepIn K (.ref f6) = true)
    {od7 an7 : Option Addr} {sl7 : Array (Option Value)} {f7 : Addr} {oc7 kV7 dc7 pm7 cd7 ct7 : Value}
    (a7 : PySem.W.nsIn K mainGlobals "mending_at" = some (some (.ref f7))) (l7 : K.lookup f7 = some ⟨oc7, od7, .func (PySem.W.fnOf "mending_at" "mending_at" (defArgs stPMendingAt) (defBody stPMendingAt) (defScope stPMendingAt) .none kV7 dc7 pm7 an7 cd7 ct7), sl7⟩) (c7 : PySem.W.codeIn K cd7 "mending_at" = true) (k7 : PySem.W.keepIn K (.ref f7) = true)
    {od8 an8 : Option Addr} {sl8 : Array (Option Value)} {f8 : Addr} {oc8 kV8 dc8 pm8 cd8 ct8 : Value}
    (a8 : PySem.W.nsIn K mainGlobals "bound_values" = some (some (.ref f8))) (l8 : K.lookup f8 = some ⟨oc8, od8, .func (PySem.W.fnOf "bound_values" "bound_values" (defArgs stPBoundValues) (defBody stPBoundValues) (defScope stPBoundValues) .none kV8 dc8 pm8 an8 cd8 ct8), sl8⟩) (c8 : PySem.W.codeIn K cd8 "bound_values" = true) (k8 : PySem.W.keepIn K (.ref f8) = true)
    {od9 an9 : Option Addr} {sl9 : Array (Option Value)} {f9 : Addr} {oc9 kV9 dc9 pm9 cd9 ct9 : Value}
    (a9 : PySem.W.nsIn K mainGlobals "found_values" = some (some (.ref f9))) (l9 : K.lookup f9 = some ⟨oc9, od9, .func (PySem.W.fnOf "found_values" "found_values" (defArgs stPFoundValues) (defBody stPFoundValues) (defScope stPFoundValues) .none kV9 dc9 pm9 an9 cd9 ct9), sl9⟩) (c9 : PySem.W.codeIn K cd9 "found_values" = true) (k9 : PySem.W.keepIn K (.ref f9) = true)
    {od10 an10 : Option Addr} {sl10 : Array (Option Value)} {f10 : Addr} {oc10 kV10 dc10 pm10 cd10 ct10 : Value}
    (a10 : PySem.W.nsIn K mainGlobals "answers" = some (some (.ref f10))) (l10 : K.lookup f10 = some ⟨oc10, od10, .func (PySem.W.fnOf "answers" "answers" (defArgs stPAnswers) (defBody stPAnswers) (defScope stPAnswers) .none kV10 dc10 pm10 an10 cd10 ct10), sl10⟩) (c10 : PySem.W.codeIn K cd10 "answers" = true) (k10 : PySem.W.keepIn K (.ref f10) = true)
    {od11 an11 : Option Addr} {sl11 : Array (Option Value)} {f11 : Addr} {oc11 kV11 dc11 pm11 cd11 ct11 : Value}
    (a11 : PySem.W.nsIn K mainGlobals "sure_plainly" = some (some (.ref f11))) (l11 : K.lookup f11 = some ⟨oc11, od11, .func (PySem.W.fnOf "sure_plainly" "sure_plainly" (defArgs stPSurePlainly) (defBody stPSurePlainly) (defScope stPSurePlainly) .none kV11 dc11 pm11 an11 cd11 ct11), sl11⟩) (c11 : PySem.W.codeIn K cd11 "sure_plainly" = true) (k11 : PySem.W.keepIn K (.ref f11) = true)
    {od12 an12 : Option Addr} {sl12 : Array (Option Value)} {f12 : Addr} {oc12 kV12 dc12 pm12 cd12 ct12 : Value}
    (a12 : PySem.W.nsIn K mainGlobals "_law_draws" = some (some (.ref f12))) (l12 : K.lookup f12 = some ⟨oc12, od12, .func (PySem.W.fnOf "_law_draws" "_law_draws" (defArgs stLDraws) (defBody stLDraws) (defScope stLDraws) .none kV12 dc12 pm12 an12 cd12 ct12), sl12⟩) (c12 : PySem.W.codeIn K cd12 "_law_draws" = true) (k12 : PySem.W.keepIn K (.ref f12) = true)
    {od13 an13 : Option Addr} {sl13 : Array (Option Value)} {f13 : Addr} {oc13 kV13 dc13 pm13 cd13 ct13 : Value}
    (a13 : PySem.W.nsIn K mainGlobals "_law_take" = some (some (.ref f13))) (l13 : K.lookup f13 = some ⟨oc13, od13, .func (PySem.W.fnOf "_law_take" "_law_take" (defArgs stLTake) (defBody stLTake) (defScope stLTake) .none kV13 dc13 pm13 an13 cd13 ct13), sl13⟩) (c13 : PySem.W.codeIn K cd13 "_law_take" = true) (k13 : PySem.W.keepIn K (.ref f13) = true)
    {od14 an14 : Option Addr} {sl14 : Array (Option Value)} {f14 : Addr} {oc14 kV14 dc14 pm14 cd14 ct14 : Value}
    (a14 : PySem.W.nsIn K mainGlobals "_law_pick" = some (some (.ref f14))) (l14 : K.lookup f14 = some ⟨oc14, od14, .func (PySem.W.fnOf "_law_pick" "_law_pick" (defArgs stLPick) (defBody stLPick) (defScope stLPick) .none kV14 dc14 pm14 an14 cd14 ct14), sl14⟩) (c14 : PySem.W.codeIn K cd14 "_law_pick" = true) (k14 : PySem.W.keepIn K (.ref f14) = true)
    {od15 an15 : Option Addr} {sl15 : Array (Option Value)} {f15 : Addr} {oc15 kV15 dc15 pm15 cd15 ct15 : Value}
    (a15 : PySem.W.nsIn K mainGlobals "_law_size" = some (some (.ref f15))) (l15 : K.lookup f15 = some ⟨oc15, od15, .func (PySem.W.fnOf "_law_size" "_law_size" (defArgs stLSize) (defBody stLSize) (defScope stLSize) .none kV15 dc15 pm15 an15 cd15 ct15), sl15⟩) (c15 : PySem.W.codeIn K cd15 "_law_size" = true) (k15 : PySem.W.keepIn K (.ref f15) = true)
    {od16 an16 : Option Addr} {sl16 : Array (Option Value)} {f16 : Addr} {oc16 kV16 dc16 pm16 cd16 ct16 : Value}
    (a16 : PySem.W.nsIn K mainGlobals "_law_same" = some (some (.ref f16))) (l16 : K.lookup f16 = some ⟨oc16, od16, .func (PySem.W.fnOf "_law_same" "_law_same" (defArgs stLSame) (defBody stLSame) (defScope stLSame) .none kV16 dc16 pm16 an16 cd16 ct16), sl16⟩) (c16 : PySem.W.codeIn K cd16 "_law_same" = true) (k16 : PySem.W.keepIn K (.ref f16) = true)
    {od17 an17 : Option Addr} {sl17 : Array (Option Value)} {f17 : Addr} {oc17 kV17 dc17 pm17 cd17 ct17 : Value}
    (a17 : PySem.W.nsIn K mainGlobals "_law_pool" = some (some (.ref f17))) (l17 : K.lookup f17 = some ⟨oc17, od17, .func (PySem.W.fnOf "_law_pool" "_law_pool" (defArgs stLPool) (defBody stLPool) (defScope stLPool) .none kV17 dc17 pm17 an17 cd17 ct17), sl17⟩) (c17 : PySem.W.codeIn K cd17 "_law_pool" = true) (k17 : PySem.W.keepIn K (.ref f17) = true)
    {od18 an18 : Option Addr} {sl18 : Array (Option Value)} {f18 : Addr} {oc18 kV18 dc18 pm18 cd18 ct18 : Value}
    (a18 : PySem.W.nsIn K mainGlobals "_law_values" = some (some (.ref f18))) (l18 : K.lookup f18 = some ⟨oc18, od18, .func (PySem.W.fnOf "_law_values" "_law_values" (defArgs stLValues) (defBody stLValues) (defScope stLValues) .none kV18 dc18 pm18 an18 cd18 ct18), sl18⟩) (c18 : PySem.W.codeIn K cd18 "_law_values" = true) (k18 : PySem.W.keepIn K (.ref f18) = true)
    {od19 an19 : Option Addr} {sl19 : Array (Option Value)} {f19 : Addr} {oc19 kV19 dc19 pm19 cd19 ct19 : Value}
    (a19 : PySem.W.nsIn K mainGlobals "_law_value" = some (some (.ref f19))) (l19 : K.lookup f19 = some ⟨oc19, od19, .func (PySem.W.fnOf "_law_value" "_law_value" (defArgs stLValue) (defBody stLValue) (defScope stLValue) .none kV19 dc19 pm19 an19 cd19 ct19), sl19⟩) (c19 : PySem.W.codeIn K cd19 "_law_value" = true) (k19 : PySem.W.keepIn K (.ref f19) = true)
    {od20 an20 : Option Addr} {sl20 : Array (Option Value)} {f20 : Addr} {oc20 kV20 dc20 pm20 cd20 ct20 : Value}
    (a20 : PySem.W.nsIn K mainGlobals "_law_key" = some (some (.ref f20))) (l20 : K.lookup f20 = some ⟨oc20, od20, .func (PySem.W.fnOf "_law_key" "_law_key" (defArgs stLKey) (defBody stLKey) (defScope stLKey) .none kV20 dc20 pm20 an20 cd20 ct20), sl20⟩) (c20 : PySem.W.codeIn K cd20 "_law_key" = true) (k20 : PySem.W.keepIn K (.ref f20) = true)
    {od21 an21 : Option Addr} {sl21 : Array (Option Value)} {f21 : Addr} {oc21 kV21 dc21 pm21 cd21 ct21 : Value}
    (a21 : PySem.W.nsIn K mainGlobals "_law_row_key" = some (some (.ref f21))) (l21 : K.lookup f21 = some ⟨oc21, od21, .func (PySem.W.fnOf "_law_row_key" "_law_row_key" (defArgs stLRowKey) (defBody stLRowKey) (defScope stLRowKey) .none kV21 dc21 pm21 an21 cd21 ct21), sl21⟩) (c21 : PySem.W.codeIn K cd21 "_law_row_key" = true) (k21 : PySem.W.keepIn K (.ref f21) = true)
    {od22 an22 : Option Addr} {sl22 : Array (Option Value)} {f22 : Addr} {oc22 kV22 dc22 pm22 cd22 ct22 : Value}
    (a22 : PySem.W.nsIn K mainGlobals "_law_sorted" = some (some (.ref f22))) (l22 : K.lookup f22 = some ⟨oc22, od22, .func (PySem.W.fnOf "_law_sorted" "_law_sorted" (defArgs stLSorted) (defBody stLSorted) (defScope stLSorted) .none kV22 dc22 pm22 an22 cd22 ct22), sl22⟩) (c22 : PySem.W.codeIn K cd22 "_law_sorted" = true) (k22 : PySem.W.keepIn K (.ref f22) = true)
    {od23 an23 : Option Addr} {sl23 : Array (Option Value)} {f23 : Addr} {oc23 kV23 dc23 pm23 cd23 ct23 : Value}
    (a23 : PySem.W.nsIn K mainGlobals "_law_schema" = some (some (.ref f23))) (l23 : K.lookup f23 = some ⟨oc23, od23, .func (PySem.W.fnOf "_law_schema" "_law_schema" (defArgs stLSchema) (defBody stLSchema) (defScope stLSchema) .none kV23 dc23 pm23 an23 cd23 ct23), sl23⟩) (c23 : PySem.W.codeIn K cd23 "_law_schema" = true) (k23 : PySem.W.keepIn K (.ref f23) = true)
    {od24 an24 : Option Addr} {sl24 : Array (Option Value)} {f24 : Addr} {oc24 kV24 dc24 pm24 cd24 ct24 : Value}
    (a24 : PySem.W.nsIn K mainGlobals "_law_world" = some (some (.ref f24))) (l24 : K.lookup f24 = some ⟨oc24, od24, .func (PySem.W.fnOf "_law_world" "_law_world" (defArgs stLWorld) (defBody stLWorld) (defScope stLWorld) .none kV24 dc24 pm24 an24 cd24 ct24), sl24⟩) (c24 : PySem.W.codeIn K cd24 "_law_world" = true) (k24 : PySem.W.keepIn K (.ref f24) = true)
    {od25 an25 : Option Addr} {sl25 : Array (Option Value)} {f25 : Addr} {oc25 kV25 dc25 pm25 cd25 ct25 : Value}
    (a25 : PySem.W.nsIn K mainGlobals "_law_table" = some (some (.ref f25))) (l25 : K.lookup f25 = some ⟨oc25, od25, .func (PySem.W.fnOf "_law_table" "_law_table" (defArgs stLTable) (defBody stLTable) (defScope stLTable) .none kV25 dc25 pm25 an25 cd25 ct25), sl25⟩) (c25 : PySem.W.codeIn K cd25 "_law_table" = true) (k25 : PySem.W.keepIn K (.ref f25) = true)
    {od26 an26 : Option Addr} {sl26 : Array (Option Value)} {f26 : Addr} {oc26 kV26 dc26 pm26 cd26 ct26 : Value}
    (a26 : PySem.W.nsIn K mainGlobals "_law_key_of" = some (some (.ref f26))) (l26 : K.lookup f26 = some ⟨oc26, od26, .func (PySem.W.fnOf "_law_key_of" "_law_key_of" (defArgs stLKeyOf) (defBody stLKeyOf) (defScope stLKeyOf) .none kV26 dc26 pm26 an26 cd26 ct26), sl26⟩) (c26 : PySem.W.codeIn K cd26 "_law_key_of" = true) (k26 : PySem.W.keepIn K (.ref f26) = true)
    {od27 an27 : Option Addr} {sl27 : Array (Option Value)} {f27 : Addr} {oc27 kV27 dc27 pm27 cd27 ct27 : Value}
    (a27 : PySem.W.nsIn K mainGlobals "_law_fact_key" = some (some (.ref f27))) (l27 : K.lookup f27 = some ⟨oc27, od27, .func (PySem.W.fnOf "_law_fact_key" "_law_fact_key" (defArgs stLFactKey) (defBody stLFactKey) (defScope stLFactKey) .none kV27 dc27 pm27 an27 cd27 ct27), sl27⟩) (c27 : PySem.W.codeIn K cd27 "_law_fact_key" = true) (k27 : PySem.W.keepIn K (.ref f27) = true)
    {od28 an28 : Option Addr} {sl28 : Array (Option Value)} {f28 : Addr} {oc28 kV28 dc28 pm28 cd28 ct28 : Value}
    (a28 : PySem.W.nsIn K mainGlobals "_law_store" = some (some (.ref f28))) (l28 : K.lookup f28 = some ⟨oc28, od28, .func (PySem.W.fnOf "_law_store" "_law_store" (defArgs stLStore) (defBody stLStore) (defScope stLStore) .none kV28 dc28 pm28 an28 cd28 ct28), sl28⟩) (c28 : PySem.W.codeIn K cd28 "_law_store" = true) (k28 : PySem.W.keepIn K (.ref f28) = true)
    {od29 an29 : Option Addr} {sl29 : Array (Option Value)} {f29 : Addr} {oc29 kV29 dc29 pm29 cd29 ct29 : Value}
    (a29 : PySem.W.nsIn K mainGlobals "_law_blocks" = some (some (.ref f29))) (l29 : K.lookup f29 = some ⟨oc29, od29, .func (PySem.W.fnOf "_law_blocks" "_law_blocks" (defArgs stLBlocks) (defBody stLBlocks) (defScope stLBlocks) .none kV29 dc29 pm29 an29 cd29 ct29), sl29⟩) (c29 : PySem.W.codeIn K cd29 "_law_blocks" = true) (k29 : PySem.W.keepIn K (.ref f29) = true)
    {od30 an30 : Option Addr} {sl30 : Array (Option Value)} {f30 : Addr} {oc30 kV30 dc30 pm30 cd30 ct30 : Value}
    (a30 : PySem.W.nsIn K mainGlobals "_law_mendings" = some (some (.ref f30))) (l30 : K.lookup f30 = some ⟨oc30, od30, .func (PySem.W.fnOf "_law_mendings" "_law_mendings" (defArgs stLMendings) (defBody stLMendings) (defScope stLMendings) .none kV30 dc30 pm30 an30 cd30 ct30), sl30⟩) (c30 : PySem.W.codeIn K cd30 "_law_mendings" = true) (k30 : PySem.W.keepIn K (.ref f30) = true)
    {od31 an31 : Option Addr} {sl31 : Array (Option Value)} {f31 : Addr} {oc31 kV31 dc31 pm31 cd31 ct31 : Value}
    (a31 : PySem.W.nsIn K mainGlobals "_law_term" = some (some (.ref f31))) (l31 : K.lookup f31 = some ⟨oc31, od31, .func (PySem.W.fnOf "_law_term" "_law_term" (defArgs stLTerm) (defBody stLTerm) (defScope stLTerm) .none kV31 dc31 pm31 an31 cd31 ct31), sl31⟩) (c31 : PySem.W.codeIn K cd31 "_law_term" = true) (k31 : PySem.W.keepIn K (.ref f31) = true)
    {od32 an32 : Option Addr} {sl32 : Array (Option Value)} {f32 : Addr} {oc32 kV32 dc32 pm32 cd32 ct32 : Value}
    (a32 : PySem.W.nsIn K mainGlobals "_law_atom" = some (some (.ref f32))) (l32 : K.lookup f32 = some ⟨oc32, od32, .func (PySem.W.fnOf "_law_atom" "_law_atom" (defArgs stLAtom) (defBody stLAtom) (defScope stLAtom) .none kV32 dc32 pm32 an32 cd32 ct32), sl32⟩) (c32 : PySem.W.codeIn K cd32 "_law_atom" = true) (k32 : PySem.W.keepIn K (.ref f32) = true)
    {od33 an33 : Option Addr} {sl33 : Array (Option Value)} {f33 : Addr} {oc33 kV33 dc33 pm33 cd33 ct33 : Value}
    (a33 : PySem.W.nsIn K mainGlobals "_law_join" = some (some (.ref f33))) (l33 : K.lookup f33 = some ⟨oc33, od33, .func (PySem.W.fnOf "_law_join" "_law_join" (defArgs stLJoin) (defBody stLJoin) (defScope stLJoin) .none kV33 dc33 pm33 an33 cd33 ct33), sl33⟩) (c33 : PySem.W.codeIn K cd33 "_law_join" = true) (k33 : PySem.W.keepIn K (.ref f33) = true)
    {od34 an34 : Option Addr} {sl34 : Array (Option Value)} {f34 : Addr} {oc34 kV34 dc34 pm34 cd34 ct34 : Value}
    (a34 : PySem.W.nsIn K mainGlobals "_law_question" = some (some (.ref f34))) (l34 : K.lookup f34 = some ⟨oc34, od34, .func (PySem.W.fnOf "_law_question" "_law_question" (defArgs stLQuestion) (defBody stLQuestion) (defScope stLQuestion) .none kV34 dc34 pm34 an34 cd34 ct34), sl34⟩) (c34 : PySem.W.codeIn K cd34 "_law_question" = true) (k34 : PySem.W.keepIn K (.ref f34) = true)
    {od35 an35 : Option Addr} {sl35 : Array (Option Value)} {f35 : Addr} {oc35 kV35 dc35 pm35 cd35 ct35 : Value}
    (a35 : PySem.W.nsIn K mainGlobals "_law_put" = some (some (.ref f35))) (l35 : K.lookup f35 = some ⟨oc35, od35, .func (PySem.W.fnOf "_law_put" "_law_put" (defArgs stLPut) (defBody stLPut) (defScope stLPut) .none kV35 dc35 pm35 an35 cd35 ct35), sl35⟩) (c35 : PySem.W.codeIn K cd35 "_law_put" = true) (k35 : PySem.W.keepIn K (.ref f35) = true)
    {od36 an36 : Option Addr} {sl36 : Array (Option Value)} {f36 : Addr} {oc36 kV36 dc36 pm36 cd36 ct36 : Value}
    (a36 : PySem.W.nsIn K mainGlobals "_law_facts" = some (some (.ref f36))) (l36 : K.lookup f36 = some ⟨oc36, od36, .func (PySem.W.fnOf "_law_facts" "_law_facts" (defArgs stLFacts) (defBody stLFacts) (defScope stLFacts) .none kV36 dc36 pm36 an36 cd36 ct36), sl36⟩) (c36 : PySem.W.codeIn K cd36 "_law_facts" = true) (k36 : PySem.W.keepIn K (.ref f36) = true)
    {od37 an37 : Option Addr} {sl37 : Array (Option Value)} {f37 : Addr} {oc37 kV37 dc37 pm37 cd37 ct37 : Value}
    (a37 : PySem.W.nsIn K mainGlobals "_law_grown" = some (some (.ref f37))) (l37 : K.lookup f37 = some ⟨oc37, od37, .func (PySem.W.fnOf "_law_grown" "_law_grown" (defArgs stLGrown) (defBody stLGrown) (defScope stLGrown) .none kV37 dc37 pm37 an37 cd37 ct37), sl37⟩) (c37 : PySem.W.codeIn K cd37 "_law_grown" = true) (k37 : PySem.W.keepIn K (.ref f37) = true)
    {od38 an38 : Option Addr} {sl38 : Array (Option Value)} {f38 : Addr} {oc38 kV38 dc38 pm38 cd38 ct38 : Value}
    (a38 : PySem.W.nsIn K mainGlobals "_law_valuations" = some (some (.ref f38))) (l38 : K.lookup f38 = some ⟨oc38, od38, .func (PySem.W.fnOf "_law_valuations" "_law_valuations" (defArgs stLValuations) (defBody stLValuations) (defScope stLValuations) .none kV38 dc38 pm38 an38 cd38 ct38), sl38⟩) (c38 : PySem.W.codeIn K cd38 "_law_valuations" = true) (k38 : PySem.W.keepIn K (.ref f38) = true)
    {od39 an39 : Option Addr} {sl39 : Array (Option Value)} {f39 : Addr} {oc39 kV39 dc39 pm39 cd39 ct39 : Value}
    (a39 : PySem.W.nsIn K mainGlobals "_law_answers" = some (some (.ref f39))) (l39 : K.lookup f39 = some ⟨oc39, od39, .func (PySem.W.fnOf "_law_answers" "_law_answers" (defArgs stLAnswers) (defBody stLAnswers) (defScope stLAnswers) .none kV39 dc39 pm39 an39 cd39 ct39), sl39⟩) (c39 : PySem.W.codeIn K cd39 "_law_answers" = true) (k39 : PySem.W.keepIn K (.ref f39) = true)
    {od40 an40 : Option Addr} {sl40 : Array (Option Value)} {f40 : Addr} {oc40 kV40 dc40 pm40 cd40 ct40 : Value}
    (a40 : PySem.W.nsIn K mainGlobals "_law_sure" = some (some (.ref f40))) (l40 : K.lookup f40 = some ⟨oc40, od40, .func (PySem.W.fnOf "_law_sure" "_law_sure" (defArgs stLSure) (defBody stLSure) (defScope stLSure) .none kV40 dc40 pm40 an40 cd40 ct40), sl40⟩) (c40 : PySem.W.codeIn K cd40 "_law_sure" = true) (k40 : PySem.W.keepIn K (.ref f40) = true)
    {od41 an41 : Option Addr} {sl41 : Array (Option Value)} {f41 : Addr} {oc41 kV41 dc41 pm41 cd41 ct41 : Value}
    (a41 : PySem.W.nsIn K mainGlobals "_law_words" = some (some (.ref f41))) (l41 : K.lookup f41 = some ⟨oc41, od41, .func (PySem.W.fnOf "_law_words" "_law_words" (defArgs stLWords) (defBody stLWords) (defScope stLWords) .none kV41 dc41 pm41 an41 cd41 ct41), sl41⟩) (c41 : PySem.W.codeIn K cd41 "_law_words" = true) (k41 : PySem.W.keepIn K (.ref f41) = true)
    {od42 an42 : Option Addr} {sl42 : Array (Option Value)} {f42 : Addr} {oc42 kV42 dc42 pm42 cd42 ct42 : Value}
    (a42 : PySem.W.nsIn K mainGlobals "_law_number" = some (some (.ref f42))) (l42 : K.lookup f42 = some ⟨oc42, od42, .func (PySem.W.fnOf "_law_number" "_law_number" (defArgs stLNumber) (defBody stLNumber) (defScope stLNumber) .none kV42 dc42 pm42 an42 cd42 ct42), sl42⟩) (c42 : PySem.W.codeIn K cd42 "_law_number" = true) (k42 : PySem.W.keepIn K (.ref f42) = true)
    {od43 an43 : Option Addr} {sl43 : Array (Option Value)} {f43 : Addr} {oc43 kV43 dc43 pm43 cd43 ct43 : Value}
    (a43 : PySem.W.nsIn K mainGlobals "_law_any_schema" = some (some (.ref f43))) (l43 : K.lookup f43 = some ⟨oc43, od43, .func (PySem.W.fnOf "_law_any_schema" "_law_any_schema" (defArgs stLAnySchema) (defBody stLAnySchema) (defScope stLAnySchema) .none kV43 dc43 pm43 an43 cd43 ct43), sl43⟩) (c43 : PySem.W.codeIn K cd43 "_law_any_schema" = true) (k43 : PySem.W.keepIn K (.ref f43) = true)
    {od44 an44 : Option Addr} {sl44 : Array (Option Value)} {f44 : Addr} {oc44 kV44 dc44 pm44 cd44 ct44 : Value}
    (a44 : PySem.W.nsIn K mainGlobals "_law_broad_world" = some (some (.ref f44))) (l44 : K.lookup f44 = some ⟨oc44, od44, .func (PySem.W.fnOf "_law_broad_world" "_law_broad_world" (defArgs stLBroadWorld) (defBody stLBroadWorld) (defScope stLBroadWorld) .none kV44 dc44 pm44 an44 cd44 ct44), sl44⟩) (c44 : PySem.W.codeIn K cd44 "_law_broad_world" = true) (k44 : PySem.W.keepIn K (.ref f44) = true)
    {od45 an45 : Option Addr} {sl45 : Array (Option Value)} {f45 : Addr} {oc45 kV45 dc45 pm45 cd45 ct45 : Value}
    (a45 : PySem.W.nsIn K mainGlobals "_law_broad_term" = some (some (.ref f45))) (l45 : K.lookup f45 = some ⟨oc45, od45, .func (PySem.W.fnOf "_law_broad_term" "_law_broad_term" (defArgs stLBroadTerm) (defBody stLBroadTerm) (defScope stLBroadTerm) .none kV45 dc45 pm45 an45 cd45 ct45), sl45⟩) (c45 : PySem.W.codeIn K cd45 "_law_broad_term" = true) (k45 : PySem.W.keepIn K (.ref f45) = true)
    {od46 an46 : Option Addr} {sl46 : Array (Option Value)} {f46 : Addr} {oc46 kV46 dc46 pm46 cd46 ct46 : Value}
    (a46 : PySem.W.nsIn K mainGlobals "_law_broad_join" = some (some (.ref f46))) (l46 : K.lookup f46 = some ⟨oc46, od46, .func (PySem.W.fnOf "_law_broad_join" "_law_broad_join" (defArgs stLBroadJoin) (defBody stLBroadJoin) (defScope stLBroadJoin) .none kV46 dc46 pm46 an46 cd46 ct46), sl46⟩) (c46 : PySem.W.codeIn K cd46 "_law_broad_join" = true) (k46 : PySem.W.keepIn K (.ref f46) = true)
    {od47 an47 : Option Addr} {sl47 : Array (Option Value)} {f47 : Addr} {oc47 kV47 dc47 pm47 cd47 ct47 : Value}
    (a47 : PySem.W.nsIn K mainGlobals "_law_broad_question" = some (some (.ref f47))) (l47 : K.lookup f47 = some ⟨oc47, od47, .func (PySem.W.fnOf "_law_broad_question" "_law_broad_question" (defArgs stLBroadQuestion) (defBody stLBroadQuestion) (defScope stLBroadQuestion) .none kV47 dc47 pm47 an47 cd47 ct47), sl47⟩) (c47 : PySem.W.codeIn K cd47 "_law_broad_question" = true) (k47 : PySem.W.keepIn K (.ref f47) = true)
    {od48 an48 : Option Addr} {sl48 : Array (Option Value)} {f48 : Addr} {oc48 kV48 dc48 pm48 cd48 ct48 : Value}
    (a48 : PySem.W.nsIn K mainGlobals "_law_near_valuation" = some (some (.ref f48))) (l48 : K.lookup f48 = some ⟨oc48, od48, .func (PySem.W.fnOf "_law_near_valuation" "_law_near_valuation" (defArgs stLNearValuation) (defBody stLNearValuation) (defScope stLNearValuation) .none kV48 dc48 pm48 an48 cd48 ct48), sl48⟩) (c48 : PySem.W.codeIn K cd48 "_law_near_valuation" = true) (k48 : PySem.W.keepIn K (.ref f48) = true)
    {od49 an49 : Option Addr} {sl49 : Array (Option Value)} {f49 : Addr} {oc49 kV49 dc49 pm49 cd49 ct49 : Value}
    (a49 : PySem.W.nsIn K mainGlobals "_law_broad_facts" = some (some (.ref f49))) (l49 : K.lookup f49 = some ⟨oc49, od49, .func (PySem.W.fnOf "_law_broad_facts" "_law_broad_facts" (defArgs stLBroadFacts) (defBody stLBroadFacts) (defScope stLBroadFacts) .none kV49 dc49 pm49 an49 cd49 ct49), sl49⟩) (c49 : PySem.W.codeIn K cd49 "_law_broad_facts" = true) (k49 : PySem.W.keepIn K (.ref f49) = true)
    {od50 an50 : Option Addr} {sl50 : Array (Option Value)} {f50 : Addr} {oc50 kV50 dc50 pm50 cd50 ct50 : Value}
    (a50 : PySem.W.nsIn K mainGlobals "law" = some (some (.ref f50))) (l50 : K.lookup f50 = some ⟨oc50, od50, .func (PySem.W.fnOf "law" "law" (defArgs stPLaw) (defBody stPLaw) (defScope stPLaw) .none kV50 dc50 pm50 an50 cd50 ct50), sl50⟩) (c50 : PySem.W.codeIn K cd50 "law" = true) (k50 : PySem.W.keepIn K (.ref f50) = true)
    (z0 : PySem.W.nsIn K mainGlobals "isinstance" = some none)
    (z1 : PySem.W.nsIn K mainGlobals "str" = some none)
    (z2 : PySem.W.nsIn K mainGlobals "tuple" = some none)
    (z3 : PySem.W.nsIn K mainGlobals "sorted" = some none)
    (z4 : PySem.W.nsIn K mainGlobals "list" = some none)
    (z5 : PySem.W.nsIn K mainGlobals "dict" = some none)
    (z6 : PySem.W.nsIn K mainGlobals "range" = some none)
    (z7 : PySem.W.nsIn K mainGlobals "len" = some none)
    (z8 : PySem.W.nsIn K mainGlobals "reversed" = some none)
    (z9 : PySem.W.nsIn K mainGlobals "int" = some none)
    (z10 : PySem.W.nsIn K mainGlobals "abs" = some none)
    (z11 : PySem.W.nsIn K mainGlobals "bool" = some none)
    : Txt K mg where
  dPValueKey := def_at X G (fun _ _ _ _ _ _ _ us hl => match us, hl with | [_], _ => rfl) a0 l0 c0 k0
  dPRowKey := def_at X G (fun _ _ _ _ _ _ _ us hl => match us, hl with | [_], _ => rfl) a1 l1 c1 k1
  dPSortedRows := def_at X G (fun _ _ _ _ _ _ _ us hl => match us, hl with | [_], _ => rfl) a2 l2 c2 k2
  dPTableOf := def_at X G (fun _ _ _ _ _ _ _ us hl => match us, hl with | [_, _], _ => rfl) a3 l3 c3 k3
  dPKeyOf := def_at X G (fun _ _ _ _ _ _ _ us hl => match us, hl with | [_, _], _ => rfl) a4 l4 c4 k4
  dPBlocksOf := def_at X G (fun _ _ _ _ _ _ _ us hl => match us, hl with | [_, _], _ => rfl) a5 l5 c5 k5
  dPCountMendings := def_at X G (fun _ _ _ _ _ _ _ us hl => match us, hl with | [_, _], _ => rfl) a6 l6 c6 k6
  dPMendingAt := def_at X G (fun _ _ _ _ _ _ _ us hl => match us, hl with | [_, _, _], _ => rfl) a7 l7 c7 k7
  dPBoundValues := def_at X G (fun _ _ _ _ _ _ _ us hl => match us, hl with | [_, _, _], _ => rfl) a8 l8 c8 k8
  dPFoundValues := def_at X G (fun _ _ _ _ _ _ _ us hl => match us, hl with | [_, _], _ => rfl) a9 l9 c9 k9
  dPAnswers := def_at X G (fun _ _ _ _ _ _ _ us hl => match us, hl with | [_, _], _ => rfl) a10 l10 c10 k10
  dPSurePlainly := def_at X G (fun _ _ _ _ _ _ _ us hl => match us, hl with | [_, _, _], _ => rfl) a11 l11 c11 k11
  dLDraws := def_at X G (fun _ _ _ _ _ _ _ us hl => match us, hl with | [_, _], _ => rfl) a12 l12 c12 k12
  dLTake := def_at X G (fun _ _ _ _ _ _ _ us hl => match us, hl with | [_, _], _ => rfl) a13 l13 c13 k13
  dLPick := def_at X G (fun _ _ _ _ _ _ _ us hl => match us, hl with | [_, _], _ => rfl) a14 l14 c14 k14
  dLSize := def_at X G (fun _ _ _ _ _ _ _ us hl => match us, hl with | [_, _], _ => rfl) a15 l15 c15 k15
  dLSame := def_at X G (fun _ _ _ _ _ _ _ us hl => match us, hl with | [_, _], _ => rfl) a16 l16 c16 k16
  dLPool := def_at X G (fun _ _ _ _ _ _ _ us hl => match us, hl with | [_, _], _ => rfl) a17 l17 c17 k17
  dLValues := def_at X G (fun _ _ _ _ _ _ _ us hl => match us, hl with | [_, _], _ => rfl) a18 l18 c18 k18
  dLValue := def_at X G (fun _ _ _ _ _ _ _ us hl => match us, hl with | [_, _], _ => rfl) a19 l19 c19 k19
  dLKey := def_at X G (fun _ _ _ _ _ _ _ us hl => match us, hl with | [_], _ => rfl) a20 l20 c20 k20
  dLRowKey := def_at X G (fun _ _ _ _ _ _ _ us hl => match us, hl with | [_], _ => rfl) a21 l21 c21 k21
  dLSorted := def_at X G (fun _ _ _ _ _ _ _ us hl => match us, hl with | [_], _ => rfl) a22 l22 c22 k22
  dLSchema := def_at X G (fun _ _ _ _ _ _ _ us hl => match us, hl with | [_, _], _ => rfl) a23 l23 c23 k23
  dLWorld := def_at X G (fun _ _ _ _ _ _ _ us hl => match us, hl with | [_], _ => rfl) a24 l24 c24 k24
  dLTable := def_at X G (fun _ _ _ _ _ _ _ us hl => match us, hl with | [_, _], _ => rfl) a25 l25 c25 k25
  dLKeyOf := def_at X G (fun _ _ _ _ _ _ _ us hl => match us, hl with | [_, _], _ => rfl) a26 l26 c26 k26
  dLFactKey := def_at X G (fun _ _ _ _ _ _ _ us hl => match us, hl with | [_], _ => rfl) a27 l27 c27 k27
  dLStore := def_at X G (fun _ _ _ _ _ _ _ us hl => match us, hl with | [_], _ => rfl) a28 l28 c28 k28
  dLBlocks := def_at X G (fun _ _ _ _ _ _ _ us hl => match us, hl with | [_, _], _ => rfl) a29 l29 c29 k29
  dLMendings := def_at X G (fun _ _ _ _ _ _ _ us hl => match us, hl with | [_, _], _ => rfl) a30 l30 c30 k30
  dLTerm := def_at X G (fun _ _ _ _ _ _ _ us hl => match us, hl with | [_, _], _ => rfl) a31 l31 c31 k31
  dLAtom := def_at X G (fun _ _ _ _ _ _ _ us hl => match us, hl with | [_, _, _], _ => rfl) a32 l32 c32 k32
  dLJoin := def_at X G (fun _ _ _ _ _ _ _ us hl => match us, hl with | [_, _, _, _], _ => rfl) a33 l33 c33 k33
  dLQuestion := def_at X G (fun _ _ _ _ _ _ _ us hl => match us, hl with | [_, _, _], _ => rfl) a34 l34 c34 k34
  dLPut := def_at X G (fun _ _ _ _ _ _ _ us hl => match us, hl with | [_, _], _ => rfl) a35 l35 c35 k35
  dLFacts := def_at X G (fun _ _ _ _ _ _ _ us hl => match us, hl with | [_, _, _, _], _ => rfl) a36 l36 c36 k36
  dLGrown := def_at X G (fun _ _ _ _ _ _ _ us hl => match us, hl with | [_, _, _], _ => rfl) a37 l37 c37 k37
  dLValuations := def_at X G (fun _ _ _ _ _ _ _ us hl => match us, hl with | [_, _], _ => rfl) a38 l38 c38 k38
  dLAnswers := def_at X G (fun _ _ _ _ _ _ _ us hl => match us, hl with | [_, _], _ => rfl) a39 l39 c39 k39
  dLSure := def_at X G (fun _ _ _ _ _ _ _ us hl => match us, hl with | [_, _, _], _ => rfl) a40 l40 c40 k40
  dLWords := def_at X G (fun _ _ _ _ _ _ _ us hl => match us, hl with | [_, _], _ => rfl) a41 l41 c41 k41
  dLNumber := def_at X G (fun _ _ _ _ _ _ _ us hl => match us, hl with | [_, _], _ => rfl) a42 l42 c42 k42
  dLAnySchema := def_at X G (fun _ _ _ _ _ _ _ us hl => match us, hl with | [_, _], _ => rfl) a43 l43 c43 k43
  dLBroadWorld := def_at X G (fun _ _ _ _ _ _ _ us hl => match us, hl with | [_, _], _ => rfl) a44 l44 c44 k44
  dLBroadTerm := def_at X G (fun _ _ _ _ _ _ _ us hl => match us, hl with | [_, _], _ => rfl) a45 l45 c45 k45
  dLBroadJoin := def_at X G (fun _ _ _ _ _ _ _ us hl => match us, hl with | [_, _, _, _], _ => rfl) a46 l46 c46 k46
  dLBroadQuestion := def_at X G (fun _ _ _ _ _ _ _ us hl => match us, hl with | [_, _, _, _], _ => rfl) a47 l47 c47 k47
  dLNearValuation := def_at X G (fun _ _ _ _ _ _ _ us hl => match us, hl with | [_, _, _], _ => rfl) a48 l48 c48 k48
  dLBroadFacts := def_at X G (fun _ _ _ _ _ _ _ us hl => match us, hl with | [_, _, _, _], _ => rfl) a49 l49 c49 k49
  dPLaw := def_at X G (fun _ _ _ _ _ _ _ us hl => match us, hl with | [_], _ => rfl) a50 l50 c50 k50
  misinstance := PySem.W.mg_none_of X G z0
  mstr := PySem.W.mg_none_of X G z1
  mtuple := PySem.W.mg_none_of X G z2
  msorted := PySem.W.mg_none_of X G z3
  mlist := PySem.W.mg_none_of X G z4
  mdict := PySem.W.mg_none_of X G z5
  mrange := PySem.W.mg_none_of X G z6
  mlen := PySem.W.mg_none_of X G z7
  mreversed := PySem.W.mg_none_of X G z8
  mint := PySem.W.mg_none_of X G z9
  mabs := PySem.W.mg_none_of X G z10
  mbool := PySem.W.mg_none_of X G z11
theorem all_mk {l : PySem.W.OpenLaw} {w : World} {K : PySem.W.Frag} {h : Heap} {mg : Str → Option Value} {fa : Addr} (X : K.In h) (G : h.Ns mainGlobals mg) (hfa : mg "law" = some (.ref fa))
    {od0 an0 : Option Addr} {sl0 : Array (Option Value)} {f0 : Addr} {oc0 kV0 dc0 pm0 cd0 ct0 : Value}
    (a0 : PySem.W.nsIn K mainGlobals "value_key" = some (some (.ref f0))) (l0 : K.lookup f0 = some ⟨oc0, od0, .func (PySem.W.fnOf "value_key" "value_key" (defArgs stPValueKey) (defBody stPValueKey) (defScope stPValueKey) .none kV0 dc0 pm0 an0 cd0 ct0), sl0⟩) (c0 : PySem.W.codeIn K cd0 "value_key" = true) (k0 : PySem.W.keepIn K (.ref f0) = true)
    {od1 an1 : Option Addr} {sl1 : Array (Option Value)} {f1 : Addr} {oc1 kV1 dc1 pm1 cd1 ct1 : Value}
    (a1 : PySem.W.nsIn K mainGlobals "row_key" = some (some (.ref f1))) (l1 : K.lookup f1 = some ⟨oc1, od1, .func (PySem.W.fnOf "row_key" "row_key" (defArgs stPRowKey) (defBody stPRowKey) (defScope stPRowKey) .none kV1 dc1 pm1 an1 cd1 ct1), sl1⟩) (c1 : PySem.W.codeIn K cd1 "row_key" = true) (k1 : PySem.W.keepIn K (.ref f1) = true)
    {od2 an2 : Option Addr} {sl2 : Array (Option Value)} {f2 : Addr} {oc2 kV2 dc2 pm2 cd2 ct2 : Value}
    (a2 : PySem.W.nsIn K mainGlobals "sorted_rows" = some (some (.ref f2))) (l2 : K.lookup f2 = some ⟨oc2, od2, .func (PySem.W.fnOf "sorted_rows" "sorted_rows" (defArgs stPSortedRows) (defBody stPSortedRows) (defScope stPSortedRows) .none kV2 dc2 pm2 an2 cd2 ct2), sl2⟩) (c2 : PySem.W.codeIn K cd2 "sorted_rows" = true) (k2 : PySem.W.keepIn K (.ref f2) = true)
    {od3 an3 : Option Addr} {sl3 : Array (Option Value)} {f3 : Addr} {oc3 kV3 dc3 pm3 cd3 ct3 : Value}
    (a3 : PySem.W.nsIn K mainGlobals "table_of" = some (some (.ref f3))) (l3 : K.lookup f3 = some ⟨oc3, od3, .func (PySem.W.fnOf "table_of" "table_of" (defArgs stPTableOf) (defBody stPTableOf) (defScope stPTableOf) .none kV3 dc3 pm3 an3 cd3 ct3), sl3⟩) (c3 : PySem.W.codeIn K cd3 "table_of" = true) (k3 : PySem.W.keepIn K (.ref f3) = true)
    {od4 an4 : Option Addr} {sl4 : Array (Option Value)} {f4 : Addr} {oc4 kV4 dc4 pm4 cd4 ct4 : Value}
    (a4 : PySem.W.nsIn K mainGlobals "key_of" = some (some (.ref f4))) (l4 : K.lookup f4 = some ⟨oc4, od4, .func (PySem.W.fnOf "key_of" "key_of" (defArgs stPKeyOf) (defBody stPKeyOf) (defScope stPKeyOf) .none kV4 dc4 pm4 an4 cd4 ct4), sl4⟩) (c4 : PySem.W.codeIn K cd4 "key_of" = true) (k4 : PySem.W.keepIn K (.ref f4) = true)
    {od5 an5 : Option Addr} {sl5 : Array (Option Value)} {f5 : Addr} {oc5 kV5 dc5 pm5 cd5 ct5 : Value}
    (a5 : PySem.W.nsIn K mainGlobals "blocks_of" = some (some (.ref f5))) (l5 : K.lookup f5 = some ⟨oc5, od5, .func (PySem.W.fnOf "blocks_of" "blocks_of" (defArgs stPBlocksOf) (defBody stPBlocksOf) (defScope stPBlocksOf) .none kV5 dc5 pm5 an5 cd5 ct5), sl5⟩) (c5 : PySem.W.codeIn K cd5 "blocks_of" = true) (k5 : PySem.W.keepIn K (.ref f5) = true)
    {od6 an6 : Option Addr} {sl6 : Array (Option Value)} {f6 : Addr} {oc6 kV6 dc6 pm6 cd6 ct6 : Value}
    (a6 : PySem.W.nsIn K mainGlobals "count_mendings" = some (some (.ref f6))) (l6 : K.lookup f6 = some ⟨oc6, od6, .func (PySem.W.fnOf "count_mendings" "count_mendings" (defArgs stPCountMendings) (defBody stPCountMendings) (defScope stPCountMendings) .none kV6 dc6 pm6 an6 cd6 ct6), sl6⟩) (c6 : PySem.W.codeIn K cd6 "count_mendings" = true) (k6 : PySem.W.keepIn K (.ref f6) = true)
    {od7 an7 : Option Addr} {sl7 : Array (Option Value)} {f7 : Addr} {oc7 kV7 dc7 pm7 cd7 ct7 : Value}
    (a7 : PySem.W.nsIn K mainGlobals "mending_at" = some (some (.ref f7))) (l7 : K.lookup f7 = some ⟨oc7, od7, .func (PySem.W.fnOf "mending_at" "mending_at" (defArgs stPMendingAt) (defBody stPMendingAt) (defScope stPMendingAt) .none kV7 dc7 pm7 an7 cd7 ct7), sl7⟩) (c7 : PySem.W.codeIn K cd7 "mending_at" = true) (k7 : PySem.W.keepIn K (.ref f7) = true)
    {od8 an8 : Option Addr} {sl8 : Array (Option Value)} {f8 : Addr} {oc8 kV8 dc8 pm8 cd8 ct8 : Value}
    (a8 : PySem.W.nsIn K mainGlobals "bound_values" = some (some (.ref f8))) (l8 : K.lookup f8 = some ⟨oc8, od8, .func (PySem.W.fnOf "bound_values" "bound_values" (defArgs stPBoundValues) (defBody stPBoundValues) (defScope stPBoundValues) .none kV8 dc8 pm8 an8 cd8 ct8), sl8⟩) (c8 : PySem.W.codeIn K cd8 "bound_values" = true) (k8 : PySem.W.keepIn K (.ref f8) = true)
    {od9 an9 : Option Addr} {sl9 : Array (Option Value)} {f9 : Addr} {oc9 kV9 dc9 pm9 cd9 ct9 : Value}
    (a9 : PySem.W.nsIn K mainGlobals "found_values" = some (some (.ref f9))) (l9 : K.lookup f9 = some ⟨oc9, od9, .func (PySem.W.fnOf "found_values" "found_values" (defArgs stPFoundValues) (defBody stPFoundValues) (defScope stPFoundValues) .none kV9 dc9 pm9 an9 cd9 ct9), sl9⟩) (c9 : PySem.W.codeIn K cd9 "found_values" = true) (k9 : PySem.W.keepIn K (.ref f9) = true)
    {od10 an10 : Option Addr} {sl10 : Array (Option Value)} {f10 : Addr} {oc10 kV10 dc10 pm10 cd10 ct10 : Value}
    (a10 : PySem.W.nsIn K mainGlobals "answers" = some (some (.ref f10))) (l10 : K.lookup f10 = some ⟨oc10, od10, .func (PySem.W.fnOf "answers" "answers" (defArgs stPAnswers) (defBody stPAnswers) (defScope stPAnswers) .none kV10 dc10 pm10 an10 cd10 ct10), sl10⟩) (c10 : PySem.W.codeIn K cd10 "answers" = true) (k10 : PySem.W.keepIn K (.ref f10) = true)
    {od11 an11 : Option Addr} {sl11 : Array (Option Value)} {f11 : Addr} {oc11 kV11 dc11 pm11 cd11 ct11 : Value}
    (a11 : PySem.W.nsIn K mainGlobals "sure_plainly" = some (some (.ref f11))) (l11 : K.lookup f11 = some ⟨oc11, od11, .func (PySem.W.fnOf "sure_plainly" "sure_plainly" (defArgs stPSurePlainly) (defBody stPSurePlainly) (defScope stPSurePlainly) .none kV11 dc11 pm11 an11 cd11 ct11), sl11⟩) (c11 : PySem.W.codeIn K cd11 "sure_plainly" = true) (k11 : PySem.W.keepIn K (.ref f11) = true)
    {od12 an12 : Option Addr} {sl12 : Array (Option Value)} {f12 : Addr} {oc12 kV12 dc12 pm12 cd12 ct12 : Value}
    (a12 : PySem.W.nsIn K mainGlobals "_law_draws" = some (some (.ref f12))) (l12 : K.lookup f12 = some ⟨oc12, od12, .func (PySem.W.fnOf "_law_draws" "_law_draws" (defArgs stLDraws) (defBody stLDraws) (defScope stLDraws) .none kV12 dc12 pm12 an12 cd12 ct12), sl12⟩) (c12 : PySem.W.codeIn K cd12 "_law_draws" = true) (k12 : PySem.W.keepIn K (.ref f12) = true)
    {od13 an13 : Option Addr} {sl13 : Array (Option Value)} {f13 : Addr} {oc13 kV13 dc13 pm13 cd13 ct13 : Value}
    (a13 : PySem.W.nsIn K mainGlobals "_law_take" = some (some (.ref f13))) (l13 : K.lookup f13 = some ⟨oc13, od13, .func (PySem.W.fnOf "_law_take" "_law_take" (defArgs stLTake) (defBody stLTake) (defScope stLTake) .none kV13 dc13 pm13 an13 cd13 ct13), sl13⟩) (c13 : PySem.W.codeIn K cd13 "_law_take" = true) (k13 : PySem.W.keepIn K (.ref f13) = true)
    {od14 an14 : Option Addr} {sl14 : Array (Option Value)} {f14 : Addr} {oc14 kV14 dc14 pm14 cd14 ct14 : Value}
    (a14 : PySem.W.nsIn K mainGlobals "_law_pick" = some (some (.ref f14))) (l14 : K.lookup f14 = some ⟨oc14, od14, .func (PySem.W.fnOf "_law_pick" "_law_pick" (defArgs stLPick) (defBody stLPick) (defScope stLPick) .none kV14 dc14 pm14 an14 cd14 ct14), sl14⟩) (c14 : PySem.W.codeIn K cd14 "_law_pick" = true) (k14 : PySem.W.keepIn K (.ref f14) = true)
    {od15 an15 : Option Addr} {sl15 : Array (Option Value)} {f15 : Addr} {oc15 kV15 dc15 pm15 cd15 ct15 : Value}
    (a15 : PySem.W.nsIn K mainGlobals "_law_size" = some (some (.ref f15))) (l15 : K.lookup f15 = some ⟨oc15, od15, .func (PySem.W.fnOf "_law_size" "_law_size" (defArgs stLSize) (defBody stLSize) (defScope stLSize) .none kV15 dc15 pm15 an15 cd15 ct15), sl15⟩) (c15 : PySem.W.codeIn K cd15 "_law_size" = true) (k15 : PySem.W.keepIn K (.ref f15) = true)
    {od16 an16 : Option Addr} {sl16 : Array (Option Value)} {f16 : Addr} {oc16 kV16 dc16 pm16 cd16 ct16 : Value}
    (a16 : PySem.W.nsIn K mainGlobals "_law_same" = some (some (.ref f16))) (l16 : K.lookup f16 = some ⟨oc16, od16, .func (PySem.W.fnOf "_law_same" "_law_same" (defArgs stLSame) (defBody stLSame) (defScope stLSame) .none kV16 dc16 pm16 an16 cd16 ct16), sl16⟩) (c16 : PySem.W.codeIn K cd16 "_law_same" = true) (k16 : PySem.W.keepIn K (.ref f16) = true)
    {od17 an17 : Option Addr} {sl17 : Array (Option Value)} {f17 : Addr} {oc17 kV17 dc17 pm17 cd17 ct17 : Value}
    (a17 : PySem.W.nsIn K mainGlobals "_law_pool" = some (some (.ref f17))) (l17 : K.lookup f17 = some ⟨oc17, od17, .func (PySem.W.fnOf "_law_pool" "_law_pool" (defArgs stLPool) (defBody stLPool) (defScope stLPool) .none kV17 dc17 pm17 an17 cd17 ct17), sl17⟩) (c17 : PySem.W.codeIn K cd17 "_law_pool" = true) (k17 : PySem.W.keepIn K (.ref f17) = true)
    {od18 an18 : Option Addr} {sl18 : Array (Option Value)} {f18 : Addr} {oc18 kV18 dc18 pm18 cd18 ct18 : Value}
    (a18 : PySem.W.nsIn K mainGlobals "_law_values" = some (some (.ref f18))) (l18 : K.lookup f18 = some ⟨oc18, od18, .func (PySem.W.fnOf "_law_values" "_law_values" (defArgs stLValues) (defBody stLValues) (defScope stLValues) .none kV18 dc18 pm18 an18 cd18 ct18), sl18⟩) (c18 : PySem.W.codeIn K cd18 "_law_values" = true) (k18 : PySem.W.keepIn K (.ref f18) = true)
    {od19 an19 : Option Addr} {sl19 : Array (Option Value)} {f19 : Addr} {oc19 kV19 dc19 pm19 cd19 ct19 : Value}
    (a19 : PySem.W.nsIn K mainGlobals "_law_value" = some (some (.ref f19))) (l19 : K.lookup f19 = some ⟨oc19, od19, .func (PySem.W.fnOf "_law_value" "_law_value" (defArgs stLValue) (defBody stLValue) (defScope stLValue) .none kV19 dc19 pm19 an19 cd19 ct19), sl19⟩) (c19 : PySem.W.codeIn K cd19 "_law_value" = true) (k19 : PySem.W.keepIn K (.ref f19) = true)
    {od20 an20 : Option Addr} {sl20 : Array (Option Value)} {f20 : Addr} {oc20 kV20 dc20 pm20 cd20 ct20 : Value}
    (a20 : PySem.W.nsIn K mainGlobals "_law_key" = some (some (.ref f20))) (l20 : K.lookup f20 = some ⟨oc20, od20, .func (PySem.W.fnOf "_law_key" "_law_key" (defArgs stLKey) (defBody stLKey) (defScope stLKey) .none kV20 dc20 pm20 an20 cd20 ct20), sl20⟩) (c20 : PySem.W.codeIn K cd20 "_law_key" = true) (k20 : PySem.W.keepIn K (.ref f20) = true)
    {od21 an21 : Option Addr} {sl21 : Array (Option Value)} {f21 : Addr} {oc21 kV21 dc21 pm21 cd21 ct21 : Value}
    (a21 : PySem.W.nsIn K mainGlobals "_law_row_key" = some (some (.ref f21))) (l21 : K.lookup f21 = some ⟨oc21, od21, .func (PySem.W.fnOf "_law_row_key" "_law_row_key" (defArgs stLRowKey) (defBody stLRowKey) (defScope stLRowKey) .none kV21 dc21 pm21 an21 cd21 ct21), sl21⟩) (c21 : PySem.W.codeIn K cd21 "_law_row_key" = true) (k21 : PySem.W.keepIn K (.ref f21) = true)
    {od22 an22 : Option Addr} {sl22 : Array (Option Value)} {f22 : Addr} {oc22 kV22 dc22 pm22 cd22 ct22 : Value}
    (a22 : PySem.W.nsIn K mainGlobals "_law_sorted" = some (some (.ref f22))) (l22 : K.lookup f22 = some ⟨oc22, od22, .func (PySem.W.fnOf "_law_sorted" "_law_sorted" (defArgs stLSorted) (defBody stLSorted) (defScope stLSorted) .none kV22 dc22 pm22 an22 cd22 ct22), sl22⟩) (c22 : PySem.W.codeIn K cd22 "_law_sorted" = true) (k22 : PySem.W.keepIn K (.ref f22) = true)
    {od23 an23 : Option Addr} {sl23 : Array (Option Value)} {f23 : Addr} {oc23 kV23 dc23 pm23 cd23 ct23 : Value}
    (a23 : PySem.W.nsIn K mainGlobals "_law_schema" = some (some (.ref f23))) (l23 : K.lookup f23 = some ⟨oc23, od23, .func (PySem.W.fnOf "_law_schema" "_law_schema" (defArgs stLSchema) (defBody stLSchema) (defScope stLSchema) .none kV23 dc23 pm23 an23 cd23 ct23), sl23⟩) (c23 : PySem.W.codeIn K cd23 "_law_schema" = true) (k23 : PySem.W.keepIn K (.ref f23) = true)
    {od24 an24 : Option Addr} {sl24 : Array (Option Value)} {f24 : Addr} {oc24 kV24 dc24 pm24 cd24 ct24 : Value}
    (a24 : PySem.W.nsIn K mainGlobals "_law_world" = some (some (.ref f24))) (l24 : K.lookup f24 = some ⟨oc24, od24, .func (PySem.W.fnOf "_law_world" "_law_world" (defArgs stLWorld) (defBody stLWorld) (defScope stLWorld) .none kV24 dc24 pm24 an24 cd24 ct24), sl24⟩) (c24 : PySem.W.codeIn K cd24 "_law_world" = true) (k24 : PySem.W.keepIn K (.ref f24) = true)
    {od25 an25 : Option Addr} {sl25 : Array (Option Value)} {f25 : Addr} {oc25 kV25 dc25 pm25 cd25 ct25 : Value}
    (a25 : PySem.W.nsIn K mainGlobals "_law_table" = some (some (.ref f25))) (l25 : K.lookup f25 = some ⟨oc25, od25, .func (PySem.W.fnOf "_law_table" "_law_table" (defArgs stLTable) (defBody stLTable) (defScope stLTable) .none kV25 dc25 pm25 an25 cd25 ct25), sl25⟩) (c25 : PySem.W.codeIn K cd25 "_law_table" = true) (k25 : PySem.W.keepIn K (.ref f25) = true)
    {od26 an26 : Option Addr} {sl26 : Array (Option Value)} {f26 : Addr} {oc26 kV26 dc26 pm26 cd26 ct26 : Value}
    (a26 : PySem.W.nsIn K mainGlobals "_law_key_of" = some (some (.ref f26))) (l26 : K.lookup f26 = some ⟨oc26, od26, .func (PySem.W.fnOf "_law_key_of" "_law_key_of" (defArgs stLKeyOf) (defBody stLKeyOf) (defScope stLKeyOf) .none kV26 dc26 pm26 an26 cd26 ct26), sl26⟩) (c26 : PySem.W.codeIn K cd26 "_law_key_of" = true) (k26 : PySem.W.keepIn K (.ref f26) = true)
    {od27 an27 : Option Addr} {sl27 : Array (Option Value)} {f27 : Addr} {oc27 kV27 dc27 pm27 cd27 ct27 : Value}
    (a27 : PySem.W.nsIn K mainGlobals "_law_fact_key" = some (some (.ref f27))) (l27 : K.lookup f27 = some ⟨oc27, od27, .func (PySem.W.fnOf "_law_fact_key" "_law_fact_key" (defArgs stLFactKey) (defBody stLFactKey) (defScope stLFactKey) .none kV27 dc27 pm27 an27 cd27 ct27), sl27⟩) (c27 : PySem.W.codeIn K cd27 "_law_fact_key" = true) (k27 : PySem.W.keepIn K (.ref f27) = true)
    {od28 an28 : Option Addr} {sl28 : Array (Option Value)} {f28 : Addr} {oc28 kV28 dc28 pm28 cd28 ct28 : Value}
    (a28 : PySem.W.nsIn K mainGlobals "_law_store" = some (some (.ref f28))) (l28 : K.lookup f28 = some ⟨oc28, od28, .func (PySem.W.fnOf "_law_store" "_law_store" (defArgs stLStore) (defBody stLStore) (defScope stLStore) .none kV28 dc28 pm28 an28 cd28 ct28), sl28⟩) (c28 : PySem.W.codeIn K cd28 "_law_store" = true) (k28 : PySem.W.keepIn K (.ref f28) = true)
    {od29 an29 : Option Addr} {sl29 : Array (Option Value)} {f29 : Addr} {oc29 kV29 dc29 pm29 cd29 ct29 : Value}
    (a29 : PySem.W.nsIn K mainGlobals "_law_blocks" = some (some (.ref f29))) (l29 : K.lookup f29 = some ⟨oc29, od29, .func (PySem.W.fnOf "_law_blocks" "_law_blocks" (defArgs stLBlocks) (defBody stLBlocks) (defScope stLBlocks) .none kV29 dc29 pm29 an29 cd29 ct29), sl29⟩) (c29 : PySem.W.codeIn K cd29 "_law_blocks" = true) (k29 : PySem.W.keepIn K (.ref f29) = true)
    {od30 an30 : Option Addr} {sl30 : Array (Option Value)} {f30 : Addr} {oc30 kV30 dc30 pm30 cd30 ct30 : Value}
    (a30 : PySem.W.nsIn K mainGlobals "_law_mendings" = some (some (.ref f30))) (l30 : K.lookup f30 = some ⟨oc30, od30, .func (PySem.W.fnOf "_law_mendings" "_law_mendings" (defArgs stLMendings) (defBody stLMendings) (defScope stLMendings) .none kV30 dc30 pm30 an30 cd30 ct30), sl30⟩) (c30 : PySem.W.codeIn K cd30 "_law_mendings" = true) (k30 : PySem.W.keepIn K (.ref f30) = true)
    {od31 an31 : Option Addr} {sl31 : Array (Option Value)} {f31 : Addr} {oc31 kV31 dc31 pm31 cd31 ct31 : Value}
    (a31 : PySem.W.nsIn K mainGlobals "_law_term" = some (some (.ref f31))) (l31 : K.lookup f31 = some ⟨oc31, od31, .func (PySem.W.fnOf "_law_term" "_law_term" (defArgs stLTerm) (defBody stLTerm) (defScope stLTerm) .none kV31 dc31 pm31 an31 cd31 ct31), sl31⟩) (c31 : PySem.W.codeIn K cd31 "_law_term" = true) (k31 : PySem.W.keepIn K (.ref f31) = true)
    {od32 an32 : Option Addr} {sl32 : Array (Option Value)} {f32 : Addr} {oc32 kV32 dc32 pm32 cd32 ct32 : Value}
    (a32 : PySem.W.nsIn K mainGlobals "_law_atom" = some (some (.ref f32))) (l32 : K.lookup f32 = some ⟨oc32, od32, .func (PySem.W.fnOf "_law_atom" "_law_atom" (defArgs stLAtom) (defBody stLAtom) (defScope stLAtom) .none kV32 dc32 pm32 an32 cd32 ct32), sl32⟩) (c32 : PySem.W.codeIn K cd32 "_law_atom" = true) (k32 : PySem.W.keepIn K (.ref f32) = true)
    {od33 an33 : Option Addr} {sl33 : Array (Option Value)} {f33 : Addr} {oc33 kV33 dc33 pm33 cd33 ct33 : Value}
    (a33 : PySem.W.nsIn K mainGlobals "_law_join" = some (some (.ref f33))) (l33 : K.lookup f33 = some ⟨oc33, od33, .func (PySem.W.fnOf "_law_join" "_law_join" (defArgs stLJoin) (defBody stLJoin) (defScope stLJoin) .none kV33 dc33 pm33 an33 cd33 ct33), sl33⟩) (c33 : PySem.W.codeIn K cd33 "_law_join" = true) (k33 : PySem.W.keepIn K (.ref f33) = true)
    {od34 an34 : Option Addr} {sl34 : Array (Option Value)} {f34 : Addr} {oc34 kV34 dc34 pm34 cd34 ct34 : Value}
    (a34 : PySem.W.nsIn K mainGlobals "_law_question" = some (some (.ref f34))) (l34 : K.lookup f34 = some ⟨oc34, od34, .func (PySem.W.fnOf "_law_question" "_law_question" (defArgs stLQuestion) (defBody stLQuestion) (defScope stLQuestion) .none kV34 dc34 pm34 an34 cd34 ct34), sl34⟩) (c34 : PySem.W.codeIn K cd34 "_law_question" = true) (k34 : PySem.W.keepIn K (.ref f34) = true)
    {od35 an35 : Option Addr} {sl35 : Array (Option Value)} {f35 : Addr} {oc35 kV35 dc35 pm35 cd35 ct35 : Value}
    (a35 : PySem.W.nsIn K mainGlobals "_law_put" = some (some (.ref f35))) (l35 : K.lookup f35 = some ⟨oc35, od35, .func (PySem.W.fnOf "_law_put" "_law_put" (defArgs stLPut) (defBody stLPut) (defScope stLPut) .none kV35 dc35 pm35 an35 cd35 ct35), sl35⟩) (c35 : PySem.W.codeIn K cd35 "_law_put" = true) (k35 : PySem.W.keepIn K (.ref f35) = true)
    {od36 an36 : Option Addr} {sl36 : Array (Option Value)} {f36 : Addr} {oc36 kV36 dc36 pm36 cd36 ct36 : Value}
    (a36 : PySem.W.nsIn K mainGlobals "_law_facts" = some (some (.ref f36))) (l36 : K.lookup f36 = some ⟨oc36, od36, .func (PySem.W.fnOf "_law_facts" "_law_facts" (defArgs stLFacts) (defBody stLFacts) (defScope stLFacts) .none kV36 dc36 pm36 an36 cd36 ct36), sl36⟩) (c36 : PySem.W.codeIn K cd36 "_law_facts" = true) (k36 : PySem.W.keepIn K (.ref f36) = true)
    {od37 an37 : Option Addr} {sl37 : Array (Option Value)} {f37 : Addr} {oc37 kV37 dc37 pm37 cd37 ct37 : Value}
    (a37 : PySem.W.nsIn K mainGlobals "_law_grown" = some (some (.ref f37))) (l37 : K.lookup f37 = some ⟨oc37, od37, .func (PySem.W.fnOf "_law_grown" "_law_grown" (defArgs stLGrown) (defBody stLGrown) (defScope stLGrown) .none kV37 dc37 pm37 an37 cd37 ct37), sl37⟩) (c37 : PySem.W.codeIn K cd37 "_law_grown" = true) (k37 : PySem.W.keepIn K (.ref f37) = true)
    {od38 an38 : Option Addr} {sl38 : Array (Option Value)} {f38 : Addr} {oc38 kV38 dc38 pm38 cd38 ct38 : Value}
    (a38 : PySem.W.nsIn K mainGlobals "_law_valuations" = some (some (.ref f38))) (l38 : K.lookup f38 = some ⟨oc38, od38, .func (PySem.W.fnOf "_law_valuations" "_law_valuations" (defArgs stLValuations) (defBody stLValuations) (defScope stLValuations) .none kV38 dc38 pm38 an38 cd38 ct38), sl38⟩) (c38 : PySem.W.codeIn K cd38 "_law_valuations" = true) (k38 : PySem.W.keepIn K (.ref f38) = true)
    {od39 an39 : Option Addr} {sl39 : Array (Option Value)} {f39 : Addr} {oc39 kV39 dc39 pm39 cd39 ct39 : Value}
    (a39 : PySem.W.nsIn K mainGlobals "_law_answers" = some (some (.ref f39))) (l39 : K.lookup f39 = some ⟨oc39, od39, .func (PySem.W.fnOf "_law_answers" "_law_answers" (defArgs stLAnswers) (defBody stLAnswers) (defScope stLAnswers) .none kV39 dc39 pm39 an39 cd39 ct39), sl39⟩) (c39 : PySem.W.codeIn K cd39 "_law_answers" = true) (k39 : PySem.W.keepIn K (.ref f39) = true)
    {od40 an40 : Option Addr} {sl40 : Array (Option Value)} {f40 : Addr} {oc40 kV40 dc40 pm40 cd40 ct40 : Value}
    (a40 : PySem.W.nsIn K mainGlobals "_law_sure" = some (some (.ref f40))) (l40 : K.lookup f40 = some ⟨oc40, od40, .func (PySem.W.fnOf "_law_sure" "_law_sure" (defArgs stLSure) (defBody stLSure) (defScope stLSure) .none kV40 dc40 pm40 an40 cd40 ct40), sl40⟩) (c40 : PySem.W.codeIn K cd40 "_law_sure" = true) (k40 : PySem.W.keepIn K (.ref f40) = true)
    {od41 an41 : Option Addr} {sl41 : Array (Option Value)} {f41 : Addr} {oc41 kV41 dc41 pm41 cd41 ct41 : Value}
    (a41 : PySem.W.nsIn K mainGlobals "_law_words" = some (some (.ref f41))) (l41 : K.lookup f41 = some ⟨oc41, od41, .func (PySem.W.fnOf "_law_words" "_law_words" (defArgs stLWords) (defBody stLWords) (defScope stLWords) .none kV41 dc41 pm41 an41 cd41 ct41), sl41⟩) (c41 : PySem.W.codeIn K cd41 "_law_words" = true) (k41 : PySem.W.keepIn K (.ref f41) = true)
    {od42 an42 : Option Addr} {sl42 : Array (Option Value)} {f42 : Addr} {oc42 kV42 dc42 pm42 cd42 ct42 : Value}
    (a42 : PySem.W.nsIn K mainGlobals "_law_number" = some (some (.ref f42))) (l42 : K.lookup f42 = some ⟨oc42, od42, .func (PySem.W.fnOf "_law_number" "_law_number" (defArgs stLNumber) (defBody stLNumber) (defScope stLNumber) .none kV42 dc42 pm42 an42 cd42 ct42), sl42⟩) (c42 : PySem.W.codeIn K cd42 "_law_number" = true) (k42 : PySem.W.keepIn K (.ref f42) = true)
    {od43 an43 : Option Addr} {sl43 : Array (Option Value)} {f43 : Addr} {oc43 kV43 dc43 pm43 cd43 ct43 : Value}
    (a43 : PySem.W.nsIn K mainGlobals "_law_any_schema" = some (some (.ref f43))) (l43 : K.lookup f43 = some ⟨oc43, od43, .func (PySem.W.fnOf "_law_any_schema" "_law_any_schema" (defArgs stLAnySchema) (defBody stLAnySchema) (defScope stLAnySchema) .none kV43 dc43 pm43 an43 cd43 ct43), sl43⟩) (c43 : PySem.W.codeIn K cd43 "_law_any_schema" = true) (k43 : PySem.W.keepIn K (.ref f43) = true)
    {od44 an44 : Option Addr} {sl44 : Array (Option Value)} {f44 : Addr} {oc44 kV44 dc44 pm44 cd44 ct44 : Value}
    (a44 : PySem.W.nsIn K mainGlobals "_law_broad_world" = some (some (.ref f44))) (l44 : K.lookup f44 = some ⟨oc44, od44, .func (PySem.W.fnOf "_law_broad_world" "_law_broad_world" (defArgs stLBroadWorld) (defBody stLBroadWorld) (defScope stLBroadWorld) .none kV44 dc44 pm44 an44 cd44 ct44), sl44⟩) (c44 : PySem.W.codeIn K cd44 "_law_broad_world" = true) (k44 : PySem.W.keepIn K (.ref f44) = true)
    {od45 an45 : Option Addr} {sl45 : Array (Option Value)} {f45 : Addr} {oc45 kV45 dc45 pm45 cd45 ct45 : Value}
    (a45 : PySem.W.nsIn K mainGlobals "_law_broad_term" = some (some (.ref f45))) (l45 : K.lookup f45 = some ⟨oc45, od45, .func (PySem.W.fnOf "_law_broad_term" "_law_broad_term" (defArgs stLBroadTerm) (defBody stLBroadTerm) (defScope stLBroadTerm) .none kV45 dc45 pm45 an45 cd45 ct45), sl45⟩) (c45 : PySem.W.codeIn K cd45 "_law_broad_term" = true) (k45 : PySem.W.keepIn K (.ref f45) = true)
    {od46 an46 : Option Addr} {sl46 : Array (Option Value)} {f46 : Addr} {oc46 kV46 dc46 pm46 cd46 ct46 : Value}
    (a46 : PySem.W.nsIn K mainGlobals "_law_broad_join" = some (some (.ref f46))) (l46 : K.lookup f46 = some ⟨oc46, od46, .func (PySem.W.fnOf "_law_broad_join" "_law_broad_join" (defArgs stLBroadJoin) (defBody stLBroadJoin) (defScope stLBroadJoin) .none kV46 dc46 pm46 an46 cd46 ct46), sl46⟩) (c46 : PySem.W.codeIn K cd46 "_law_broad_join" = true) (k46 : PySem.W.keepIn K (.ref f46) = true)
    {od47 an47 : Option Addr} {sl47 : Array (Option Value)} {f47 : Addr} {oc47 kV47 dc47 pm47 cd47 ct47 : Value}
    (a47 : PySem.W.nsIn K mainGlobals "_law_broad_question" = some (some (.ref f47))) (l47 : K.lookup f47 = some ⟨oc47, od47, .func (PySem.W.fnOf "_law_broad_question" "_law_broad_question" (defArgs stLBroadQuestion) (defBody stLBroadQuestion) (defScope stLBroadQuestion) .none kV47 dc47 pm47 an47 cd47 ct47), sl47⟩) (c47 : PySem.W.codeIn K cd47 "_law_broad_question" = true) (k47 : PySem.W.keepIn K (.ref f47) = true)
    {od48 an48 : Option Addr} {sl48 : Array (Option Value)} {f48 : Addr} {oc48 kV48 dc48 pm48 cd48 ct48 : Value}
    (a48 : PySem.W.nsIn K mainGlobals "_law_near_valuation" = some (some (.ref f48))) (l48 : K.lookup f48 = some ⟨oc48, od48, .func (PySem.W.fnOf "_law_near_valuation" "_law_near_valuation" (defArgs stLNearValuation) (defBody stLNearValuation) (defScope stLNearValuation) .none kV48 dc48 pm48 an48 cd48 ct48), sl48⟩) (c48 : PySem.W.codeIn K cd48 "_law_near_valuation" = true) (k48 : PySem.W.keepIn K (.ref f48) = true)
    {od49 an49 : Option Addr} {sl49 : Array (Option Value)} {f49 : Addr} {oc49 kV49 dc49 pm49 cd49 ct49 : Value}
    (a49 : PySem.W.nsIn K mainGlobals "_law_broad_facts" = some (some (.ref f49))) (l49 : K.lookup f49 = some ⟨oc49, od49, .func (PySem.W.fnOf "_law_broad_facts" "_law_broad_facts" (defArgs stLBroadFacts) (defBody stLBroadFacts) (defScope stLBroadFacts) .none kV49 dc49 pm49 an49 cd49 ct49), sl49⟩) (c49 : PySem.W.codeIn K cd49 "_law_broad_facts" = true) (k49 : PySem.W.keepIn K (.ref f49) = true)
    {od50 an50 : Option Addr} {sl50 : Array (Option Value)} {f50 : Addr} {oc50 kV50 dc50 pm50 cd50 ct50 : Value}
    (a50 : PySem.W.nsIn K mainGlobals "law" = some (some (.ref f50))) (l50 : K.lookup f50 = some ⟨oc50, od50, .func (PySem.W.fnOf "law" "law" (defArgs stPLaw) (defBody stPLaw) (defScope stPLaw) .none kV50 dc50 pm50 an50 cd50 ct50), sl50⟩) (c50 : PySem.W.codeIn K cd50 "law" = true) (k50 : PySem.W.keepIn K (.ref f50) = true)
    (z0 : PySem.W.nsIn K mainGlobals "isinstance" = some none)
    (z1 : PySem.W.nsIn K mainGlobals "str" = some none)
    (z2 : PySem.W.nsIn K mainGlobals "tuple" = some none)
    (z3 : PySem.W.nsIn K mainGlobals "sorted" = some none)
    (z4 : PySem.W.nsIn K mainGlobals "list" = some none)
    (z5 : PySem.W.nsIn K mainGlobals "dict" = some none)
    (z6 : PySem.W.nsIn K mainGlobals "range" = some none)
    (z7 : PySem.W.nsIn K mainGlobals "len" = some none)
    (z8 : PySem.W.nsIn K mainGlobals "reversed" = some none)
    (z9 : PySem.W.nsIn K mainGlobals "int" = some none)
    (z10 : PySem.W.nsIn K mainGlobals "abs" = some none)
    (z11 : PySem.W.nsIn K mainGlobals "bool" = some none)
    : ∃ fd : FuncData, (∀ (s : Shared) (v : Value), BindsTo s fd ⟨[v], []⟩ [("_law_script", v)]) ∧ ∀ base : Heap, K.In base → base.Ns mainGlobals mg → FnOk l.prog w K mg base CX0 8 fa fd ["_law_script"] (spLaw K) := by
  have e := hfa.symm.trans (PySem.W.mg_of X G a50)
  cases e
  have T : Txt K mg := txt_mk X G a0 l0 c0 k0 a1 l1 c1 k1 a2 l2 c2 k2 a3 l3 c3 k3 a4 l4 c4 k4 a5 l5 c5 k5 a6 l6 c6 k6 a7 l7 c7 k7 a8 l8 c8 k8 a9 l9 c9 k9 a10 l10 c10 k10 a11 l11 c11 k11 a12 l12 c12 k12 a13 l13 c13 k13 a14 l14 c14 k14 a15 l15 c15 k15 a16 l16 c16 k16 a17 l17 c17 k17 a18 l18 c18 k18 a19 l19 c19 k19 a20 l20 c20 k20 a21 l21 c21 k21 a22 l22 c22 k22 a23 l23 c23 k23 a24 l24 c24 k24 a25 l25 c25 k25 a26 l26 c26 k26 a27 l27 c27 k27 a28 l28 c28 k28 a29 l29 c29 k29 a30 l30 c30 k30 a31 l31 c31 k31 a32 l32 c32 k32 a33 l33 c33 k33 a34 l34 c34 k34 a35 l35 c35 k35 a36 l36 c36 k36 a37 l37 c37 k37 a38 l38 c38 k38 a39 l39 c39 k39 a40 l40 c40 k40 a41 l41 c41 k41 a42 l42 c42 k42 a43 l43 c43 k43 a44 l44 c44 k44 a45 l45 c45 k45 a46 l46 c46 k46 a47 l47 c47 k47 a48 l48 c48 k48 a49 l49 c49 k49 a50 l50 c50 k50 z0 z1 z2 z3 z4 z5 z6 z7 z8 z9 z10 z11
  exact ⟨_, fun s v => .of_eq rfl, fun base _ _ => lawOk T (fun_mk (st := stPLaw) l50 c50 k50)⟩
end EM
open PySem PySem.W PyProof.Rows
set_option maxHeartbeats 0 in
theorem PySem.Challenge.cw_everymending_k36_whole_sure_rows_holds : PySem.Challenge.rw_everymending_k36_whole_sure_rows.Holds := by
  w_on; o_law; k_head; (case hw => w_witness2)
  k_fill
  refine L2.walk_of (l := PySem.Challenge.rw_everymending_k36_whole_sure_rows) (n := 63) (k := 8) (x := "_law_script") (CX := fun _ => L2.CX0) (sp := fun w => EM.spLaw _) rfl (by decide) rfl ⟨rfl, by decide, by decide⟩ (fun w h Y => PySem.W.kIn_of Y) ?F (fun _ _ a ns hl _ hS => ⟨a, ns, rfl, hl, hS, fun _ => rfl⟩) (fun _ _ _ _ _ h => h)
  case F =>
    intro w mg fa h KX G hmg
    refine' EM.all_mk KX G hmg ?a0 ?l0 ?c0 ?k0 ?a1 ?l1 ?c1 ?k1 ?a2 ?l2 ?c2 ?k2 ?a3 ?l3 ?c3 ?k3 ?a4 ?l4 ?c4 ?k4 ?a5 ?l5 ?c5 ?k5 ?a6 ?l6 ?c6 ?k6 ?a7 ?l7 ?c7 ?k7 ?a8 ?l8 ?c8 ?k8 ?a9 ?l9 ?c9 ?k9 ?a10 ?l10 ?c10 ?k10 ?a11 ?l11 ?c11 ?k11 ?a12 ?l12 ?c12 ?k12 ?a13 ?l13 ?c13 ?k13 ?a14 ?l14 ?c14 ?k14 ?a15 ?l15 ?c15 ?k15 ?a16 ?l16 ?c16 ?k16 ?a17 ?l17 ?c17 ?k17 ?a18 ?l18 ?c18 ?k18 ?a19 ?l19 ?c19 ?k19 ?a20 ?l20 ?c20 ?k20 ?a21 ?l21 ?c21 ?k21 ?a22 ?l22 ?c22 ?k22 ?a23 ?l23 ?c23 ?k23 ?a24 ?l24 ?c24 ?k24 ?a25 ?l25 ?c25 ?k25 ?a26 ?l26 ?c26 ?k26 ?a27 ?l27 ?c27 ?k27 ?a28 ?l28 ?c28 ?k28 ?a29 ?l29 ?c29 ?k29 ?a30 ?l30 ?c30 ?k30 ?a31 ?l31 ?c31 ?k31 ?a32 ?l32 ?c32 ?k32 ?a33 ?l33 ?c33 ?k33 ?a34 ?l34 ?c34 ?k34 ?a35 ?l35 ?c35 ?k35 ?a36 ?l36 ?c36 ?k36 ?a37 ?l37 ?c37 ?k37 ?a38 ?l38 ?c38 ?k38 ?a39 ?l39 ?c39 ?k39 ?a40 ?l40 ?c40 ?k40 ?a41 ?l41 ?c41 ?k41 ?a42 ?l42 ?c42 ?k42 ?a43 ?l43 ?c43 ?k43 ?a44 ?l44 ?c44 ?k44 ?a45 ?l45 ?c45 ?k45 ?a46 ?l46 ?c46 ?k46 ?a47 ?l47 ?c47 ?k47 ?a48 ?l48 ?c48 ?k48 ?a49 ?l49 ?c49 ?k49 ?a50 ?l50 ?c50 ?k50 ?z0 ?z1 ?z2 ?z3 ?z4 ?z5 ?z6 ?z7 ?z8 ?z9 ?z10 ?z11
    (case a0 => k_is); (case l0 => k_is); (case c0 => k_is); (case k0 => k_is); (case a1 => k_is); (case l1 => k_is); (case c1 => k_is); (case k1 => k_is); (case a2 => k_is); (case l2 => k_is); (case c2 => k_is); (case k2 => k_is); (case a3 => k_is); (case l3 => k_is); (case c3 => k_is); (case k3 => k_is); (case a4 => k_is); (case l4 => k_is); (case c4 => k_is); (case k4 => k_is); (case a5 => k_is); (case l5 => k_is); (case c5 => k_is); (case k5 => k_is); (case a6 => k_is); (case l6 => k_is); (case c6 => k_is); (case k6 => k_is); (case a7 => k_is); (case l7 => k_is); (case c7 => k_is); (case k7 => k_is); (case a8 => k_is); (case l8 => k_is); (case c8 => k_is); (case k8 => k_is); (case a9 => k_is); (case l9 => k_is); (case c9 => k_is); (case k9 => k_is); (case a10 => k_is); (case l10 => k_is); (case c10 => k_is); (case k10 => k_is); (case a11 => k_is); (case l11 => k_is); (case c11 => k_is); (case k11 => k_is); (case a12 => k_is); (case l12 => k_is); (case c12 => k_is); (case k12 => k_is); (case a13 => k_is); (case l13 => k_is); (case c13 => k_is); (case k13 => k_is); (case a14 => k_is); (case l14 => k_is); (case c14 => k_is); (case k14 => k_is); (case a15 => k_is); (case l15 => k_is); (case c15 => k_is); (case k15 => k_is); (case a16 => k_is); (case l16 => k_is); (case c16 => k_is); (case k16 => k_is); (case a17 => k_is); (case l17 => k_is); (case c17 => k_is); (case k17 => k_is); (case a18 => k_is); (case l18 => k_is); (case c18 => k_is); (case k18 => k_is); (case a19 => k_is); (case l19 => k_is); (case c19 => k_is); (case k19 => k_is); (case a20 => k_is); (case l20 => k_is); (case c20 => k_is); (case k20 => k_is); (case a21 => k_is); (case l21 => k_is); (case c21 => k_is); (case k21 => k_is); (case a22 => k_is); (case l22 => k_is); (case c22 => k_is); (case k22 => k_is); (case a23 => k_is); (case l23 => k_is); (case c23 => k_is); (case k23 => k_is); (case a24 => k_is); (case l24 => k_is); (case c24 => k_is); (case k24 => k_is); (case a25 => k_is); (case l25 => k_is); (case c25 => k_is); (case k25 => k_is); (case a26 => k_is); (case l26 => k_is); (case c26 => k_is); (case k26 => k_is); (case a27 => k_is); (case l27 => k_is); (case c27 => k_is); (case k27 => k_is); (case a28 => k_is); (case l28 => k_is); (case c28 => k_is); (case k28 => k_is); (case a29 => k_is); (case l29 => k_is); (case c29 => k_is); (case k29 => k_is); (case a30 => k_is); (case l30 => k_is); (case c30 => k_is); (case k30 => k_is); (case a31 => k_is); (case l31 => k_is); (case c31 => k_is); (case k31 => k_is); (case a32 => k_is); (case l32 => k_is); (case c32 => k_is); (case k32 => k_is); (case a33 => k_is); (case l33 => k_is); (case c33 => k_is); (case k33 => k_is); (case a34 => k_is); (case l34 => k_is); (case c34 => k_is); (case k34 => k_is); (case a35 => k_is); (case l35 => k_is); (case c35 => k_is); (case k35 => k_is); (case a36 => k_is); (case l36 => k_is); (case c36 => k_is); (case k36 => k_is); (case a37 => k_is); (case l37 => k_is); (case c37 => k_is); (case k37 => k_is); (case a38 => k_is); (case l38 => k_is); (case c38 => k_is); (case k38 => k_is); (case a39 => k_is); (case l39 => k_is); (case c39 => k_is); (case k39 => k_is); (case a40 => k_is); (case l40 => k_is); (case c40 => k_is); (case k40 => k_is); (case a41 => k_is); (case l41 => k_is); (case c41 => k_is); (case k41 => k_is); (case a42 => k_is); (case l42 => k_is); (case c42 => k_is); (case k42 => k_is); (case a43 => k_is); (case l43 => k_is); (case c43 => k_is); (case k43 => k_is); (case a44 => k_is); (case l44 => k_is); (case c44 => k_is); (case k44 => k_is); (case a45 => k_is); (case l45 => k_is); (case c45 => k_is); (case k45 => k_is); (case a46 => k_is); (case l46 => k_is); (case c46 => k_is); (case k46 => k_is); (case a47 => k_is); (case l47 => k_is); (case c47 => k_is); (case k47 => k_is); (case a48 => k_is); (case l48 => k_is); (case c48 => k_is); (case k48 => k_is); (case a49 => k_is); (case l49 => k_is); (case c49 => k_is); (case k49 => k_is); (case a50 => k_is); (case l50 => k_is); (case c50 => k_is); (case k50 => k_is); (case z0 => k_is); (case z1 => k_is); (case z2 => k_is); (case z3 => k_is); (case z4 => k_is); (case z5 => k_is); (case z6 => k_is); (case z7 => k_is); (case z8 => k_is); (case z9 => k_is); (case z10 => k_is); (case z11 => k_is)
