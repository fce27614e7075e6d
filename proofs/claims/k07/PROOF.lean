import PyProof.Rows.All
import HandS.ForMost
import HandS.Rev
import KE.KDictList
import KE.KRevIter
import HandS.Walk
import HandS.IsInst
import HandS.Style
import HandS.Wide
import HandS.WordsDict
import HandS.Flow
import HandS.Star
import HandS.TryOnly
import HandS.DictComp
import HandS.Defaults
import KE.KStateDown
import Lean
import HandS.Ends
import HandS.More
import HandS.Words
import HandS.WordsExc
import HandS.Head0
import HandS.Head1
import HandS.Head2
import HandS.HeadEnd
import HandS.HeadHook1
import HandS.HeadHook2
import HandS.HeadHook4
import PySem.Challenge.RW_coopward_k07_whole_great_loans
section
set_option Elab.async false
set_option linter.all false
set_option maxRecDepth 100000
set_option maxHeartbeats 4000000
/-! list(reversed(a list)) -/
namespace Q
open PySem PySem.Spec PyProof.Rows L2
theorem nolen_lr : typeLookup (.type "list_reverseiterator") "__len__" = pure none := by
  rw [typeLookup_type, builtinLookup_eq_fast]; kernel_rfl
theorem hint_lr : typeLookup (.type "list_reverseiterator") "__length_hint__" = pure (some (.builtin "list_reverseiterator.__length_hint__")) := by
  rw [typeLookup_type, builtinLookup_eq_fast]; kernel_rfl
section
variable {prog : Program} {w : World} {A : Around} {E : Value → Shared → Prop} {s : Shared} {it l : Addr} {items : Array Value}
theorem hintRev {Q : Bool → Shared → Prop} (hT : s.TypeIs (.ref it) "list_reverseiterator") (h : Q false s) : wpAny (model prog w) A (Builtin.List.listLengthHint (.ref it)) Q E s := by
  unfold Builtin.List.listLengthHint
  refine wpAny_bind (wpAny_specialOf hT nolen_lr ?_)
  show wpAny _ A (specialOf (Value.ref it) (Str.ofString "__length_hint__") >>= _) _ _ _
  refine wpAny_bind (wpAny_specialOf hT hint_lr ?_)
  generalize hid : ("list_reverseiterator.__length_hint__" : String) = id0
  wp_delta
  rw [show splitId id0 = some ("list_reverseiterator", "__length_hint__") from by subst hid; decide +kernel]
  subst hid
  refine wpAny_bind (wpAny_isInstance (b := true) hT (by rw [isSubtype_type]; kernel_rfl) ?_)
  refine wpAny_ite_split (fun hab => absurd hab (by decide)) (fun _ => ?_)
  refine wpAny_ite_split (fun _ => ?_) (fun hab => absurd (by decide +kernel) hab)
  refine wpAny_ite_split (fun hab => absurd hab (by decide +kernel)) (fun _ => ?_)
  exact wpAny_pure h
def RevP (items : Array Value) : Nat → Value → Prop := fun i v => items[items.size - 1 - i]? = some v
theorem extRev {R : Result → Shared → Prop} (hh : A.handled = none) (hit : s.heap.IsRevIter it l ((items.size : Int) - 1)) (hl : s.heap.IsList l items) (hne : l ≠ it) (S : Addr) (hSr : S ≠ it) (hSd : S ≠ l) (res : Value) (c₀ : Nat)
    (hS : s.heap.get? S = some { cls := .type "list", data := .seq #[] c₀ }) (hn : items.size ≤ sizeLine)
    (hR : ∀ h' tk acc' c', (∀ b o, b ≠ S → b ≠ it → s.heap.get? b = some o → h'.get? b = some o) → h'.get? S = some { cls := .type "list", dict := none, data := .seq acc' c', slots := #[] } → ItemsOf (RevP items) acc' items.size → R (.ok (.ret res)) { s with heap := h', toks := tk }) :
    wpAny (model prog w) A.in1 (Builtin.List.listExtendWith (.ref S) (.ref it) res)
      (fun fin s' => match fin with | .done f => R (.ok f) s' | .again c' => c'.quiet = true ∧ codeAny (model prog w) A c' R s') (fun e s' => R (.error e) s') s := by
  have hSf : S ∉ [it, l] := by simp only [List.mem_cons, List.not_mem_nil, or_false, not_or]; exact ⟨hSr, hSd⟩
  have W := Walks.listRev (prog := prog) (w := w) (A := A.in1) hh it l hne items
  have key : ∀ (h : Heap) (c₁ tk : Nat), h.IsRevIter it l ((items.size : Int) - 1) → h.IsList l items → (∀ b o, b ≠ S → s.heap.get? b = some o → h.get? b = some o) →
      h.get? S = some { cls := .type "list", data := .seq #[] c₁ } → codeAny (model prog w) A (.builtin "list.extend.loop" ⟨[.ref S, .ref it, res], []⟩) R { s with heap := h, toks := tk } := by
    intro h c₁ tk h1 h2 hk hS₁
    have e0 : (items.size : Int) - 1 - ((0 : Nat) : Int) = (items.size : Int) - 1 := by omega
    refine codeAny_extend_loopS W.toS hn S hSf res items.size 0 _ #[] c₁ rfl (Nat.zero_le _) ⟨Nat.zero_le _, by rw [e0]; exact h1, h2⟩ hS₁ (ItemsOf.nil _) fun s' acc' c' hm hS' hacc => ?_
    rw [Moved.eq_with hm]
    refine hR s'.heap s'.toks acc' c' (fun b o hb hi e => hm.heap b o (fun hmem => ?_) (hk b o hb e)) hS' hacc
    rcases List.mem_cons.mp hmem with e' | hmem
    · exact hb e'
    · exact hi (List.mem_singleton.mp hmem)
  unfold Builtin.List.listExtendWith
  refine wpAny_bind (wpAny_typeOf hit.typeIs ?_)
  have h1 : Builtin.List.listSameRef (.ref S) (.ref it) = false := by simp [Builtin.List.listSameRef, hSr]
  rw [if_neg (by rw [h1]; decide)]
  refine wpAny_bind (wpAny_pyIter_revIter hit ?_)
  refine wpAny_bind (wpAny_holding (hintRev hit.typeIs ?_))
  refine wpAny_ite_split (fun _ => ?_) (fun _ => wpAny_pure ⟨plainId_quiet PySem.F.plain_extend_loop _, key _ c₀ _ hit hl (fun b o _ e => e) hS⟩)
  refine wpAny_bind (wpAny_rule ?_)
  refine wpAny_bind ?_
  show wpAny _ _ (updateSeq S (·.push .none) >>= fun _ => updateSeq S (·.pop)) _ _ _
  refine wpAny_bind (wpAny_updateSeq hS rfl ?_)
  have hS₂ := Heap.get?_update_self (Obj.mapSeq (·.push Value.none)) hS rfl
  refine wpAny_updateSeq (hz := by seq_fits) hS₂ rfl ?_
  have hS₃ := Heap.get?_update_self (Obj.mapSeq (·.pop)) hS₂ rfl
  have oth : ∀ b o, b ≠ S → s.heap.get? b = some o → ((s.heap.update S (Obj.mapSeq (·.push Value.none))).update S (Obj.mapSeq (·.pop))).get? b = some o :=
    fun b o hb e => (Heap.get?_update_other _ _ (Ne.symm hb)).trans ((Heap.get?_update_other _ _ (Ne.symm hb)).trans e)
  exact wpAny_pure ⟨plainId_quiet PySem.F.plain_extend_loop _, key _ _ _ (hit.at fun o e => oth it o hSr.symm e) (hl.at fun o e => oth l o hSd.symm e) oth hS₃⟩
theorem initRev {R : Result → Shared → Prop} (hh : A.handled = none) (hit : s.heap.IsRevIter it l ((items.size : Int) - 1)) (hl : s.heap.IsList l items) (hne : l ≠ it) (S : Addr) (hSr : S ≠ it) (hSd : S ≠ l)
    (hS : s.heap.get? S = some { cls := .type "list", data := .seq #[] }) (hn : items.size ≤ sizeLine)
    (hR : ∀ h' tk acc' c', (∀ b o, b ≠ S → b ≠ it → s.heap.get? b = some o → h'.get? b = some o) → h'.get? S = some { cls := .type "list", dict := none, data := .seq acc' c', slots := #[] } → ItemsOf (RevP items) acc' items.size → R (.ok (.ret .none)) { s with heap := h', toks := tk }) :
    wpAny (model prog w) A.in1 (Builtin.«list.__init__» ⟨[.ref S, .ref it], []⟩)
      (fun fin s' => match fin with | .done f => R (.ok f) s' | .again c' => c'.quiet = true ∧ codeAny (model prog w) A c' R s') (fun e s' => R (.error e) s') s := by
  show wpAny _ _ (do let old ← Builtin.List.listItems (.ref S); Builtin.List.listUpdate (.ref S) (fun _ => #[]); letGo old.toList.reverse; Builtin.List.listExtendWith (.ref S) (.ref it) .none) _ _ s
  refine wpAny_bind ?_
  unfold Builtin.List.listItems
  refine wpAny_bind (wpAny_seqItems hS rfl (wpAny_pure ?_))
  show wpAny _ _ (updateSeq S (fun _ => #[]) >>= fun _ => letGo (#[] : Array Value).toList.reverse >>= fun _ => Builtin.List.listExtendWith (.ref S) (.ref it) .none) _ _ s
  refine wpAny_bind (wpAny_updateSeq hS rfl ?_)
  have hS₂ := Heap.get?_update_self (Obj.mapSeq (fun _ => (#[] : Array Value))) hS rfl
  have oth : ∀ b o, b ≠ S → s.heap.get? b = some o → (s.heap.update S (Obj.mapSeq (fun _ => (#[] : Array Value)))).get? b = some o :=
    fun b o hb e => (Heap.get?_update_other _ _ (Ne.symm hb)).trans e
  refine wpAny_bind (wpAny_letGo ?_)
  refine extRev hh (hit.at fun o e => oth it o hSr.symm e) (hl.at fun o e => oth l o hSd.symm e) hne S hSr hSd .none _ hS₂ hn fun h' tk acc' c' hk hS' hacc => ?_
  exact hR h' tk acc' c' (fun b o hb hi e => hk b o hb hi (oth b o hb e)) hS' hacc
theorem callListRev {Q : Value → Shared → Prop} (hh : A.handled = none) (hit : s.heap.IsRevIter it l ((items.size : Int) - 1)) (hl : s.heap.IsList l items) (hne : l ≠ it) (hn : items.size ≤ sizeLine)
    (hQ : ∀ h' tk acc' c', (∀ b o, b ≠ it → s.heap.get? b = some o → h'.get? b = some o) → h'.get? s.heap.objs.size = some { cls := .type "list", dict := none, data := .seq acc' c', slots := #[] } → ItemsOf (RevP items) acc' items.size → Q (.ref s.heap.objs.size) { s with heap := h', toks := tk }) :
    wpAny (model prog w) A (call (.type "list") [.ref it]) Q E s := by
  refine callType_codes (Q₁ := fun obj s₁ => obj = .ref s.heap.objs.size ∧ s₁ = { s with heap := s.heap.push { cls := .type "list", data := .seq #[] } }) PySem.F.called_list (PySem.F.typeCall_list_1 _) PySem.F.entry_list_init
    (code_list_new _ ⟨rfl, rfl⟩) fun obj s₁ h₁ => ?_
  obtain ⟨rfl, rfl⟩ := h₁
  have hS : (s.heap.push { cls := .type "list", data := .seq #[] }).get? s.heap.objs.size = some { cls := .type "list", data := .seq #[] } := Heap.get?_push_size _ rfl
  have l1 : it < s.heap.objs.size := let ⟨o, ho, _⟩ := hit; Heap.lt_size ho
  have l2 : l < s.heap.objs.size := let ⟨o, ho, _⟩ := hl; Heap.lt_size ho
  refine ⟨⟨_, hS, rfl⟩, PySem.F.args_list_init_2 _ _, initRev (A := A.in1) hh (hit.at fun o e => Heap.get?_push_of_some _ e) (hl.push _) hne _ (Nat.ne_of_gt l1) (Nat.ne_of_gt l2) hS hn fun h' tk acc' c' hk hS' hacc => ?_⟩
  exact ⟨rfl, hQ h' tk acc' c' (fun b o hi e => hk b o (Nat.ne_of_lt (Heap.lt_size e)) hi (Heap.get?_push_of_some _ e)) hS' hacc⟩
end
def tLrev (K : PySem.W.Frag) (te : TE) : TE := fun σ H Q => te σ H fun x H1 => ∃ a xs, x = .ref a ∧ SqL K H1 a xs ∧ ∀ q, H1 q = none → Q (.ref q) (upd H1 q (.lst xs.reverse))
theorem pe_lrev {X : Cx} {e : Expr} {te : TE} {p p2 pos pos2 : Pos} (hc : X.calm = true) (hg : Gl X "list") (hm : X.mg "list" = none) (hg2 : Gl X "reversed") (hm2 : X.mg "reversed" = none) (he : PE X e te)
    (hs : starEach [e] X.env = (false, eval e X.env) :: starEach [] X.env) :
    PE X (.Call (.Name "list" p) [.Call (.Name "reversed" p2) [e] [] pos2] [] pos) (tLrev X.K te) := by
  refine ⟨fun pins s σ H Q I h => ?_⟩
  refine Call_ (ld_blt I hg hm boot_list (PyProof.Rows.callWith_type1 (args_cons (Call_ (ld_blt I hg2 hm2 PyProof.Rows.boot_reversed (PyProof.Rows.callWith_type1 (args_cons (thn (he.run pins s σ H _ I h) fun u s1 ⟨v, H1, I1, r1, q1⟩ => args_nil ?_) hs) hs rfl))) rfl) rfl rfl))
  obtain ⟨a, xs, ev, hq, q⟩ := q1
  subst ev
  obtain rfl : u = Value.ref a := r1
  obtain ⟨its, rv, p', hz⟩ := I1.list hq
  refine call_reversed_list p'.isList (args_nil ?_)
  have k0 : ∀ b o, s1.heap.get? b = some o → (s1.heap.push (revObj a ((its.toArray.size : Int) - 1))).get? b = some o := fun b o e => Heap.get?_push_of_some _ e
  have I2 : Inv X pins σ H1 { s1 with heap := s1.heap.push (revObj a ((its.toArray.size : Int) - 1)) } := I1.kept (t' := s1.toks) k0
  obtain ⟨f0, f1, f2, f3, f4, f5⟩ := I1.fpOk (H' := H1) (b := s1.heap.objs.size) (Nat.le_refl _) (I1.hok.fresh (Nat.le_refl _))
  have hl := p'.isList
  obtain ⟨ol, hol, _⟩ := id hl
  have hne : a ≠ s1.heap.objs.size := Nat.ne_of_lt (Heap.lt_size hol)
  have hn : its.toArray.size ≤ sizeLine := by rw [List.size_toArray, ← rv.length]; exact hz
  refine callListRev (s := { s1 with heap := s1.heap.push (revObj a ((its.toArray.size : Int) - 1)) }) (I1.ok.hd hc) ⟨_, Heap.get?_push_size _ rfl, rfl, rfl⟩ (hl.push _) hne hn fun h' tk acc c' hk hp hi => ?_
  have nn : ({ s1 with heap := s1.heap.push (revObj a ((its.toArray.size : Int) - 1)) } : Shared).heap.objs.size ≠ s1.heap.objs.size := by
    show (s1.heap.push _).objs.size ≠ _
    rw [Heap.size_push]; omega
  have rr : Vals xs.reverse acc.toList := RT.vals_rev rv hi
  refine ⟨.ref _, _, I2.turnedNew (t' := tk) (ch := [s1.heap.objs.size]) (fun b o hb e => hk b o (fun x => hb (by simp [x])) e) (fun b hb => ?_) (Nat.le_refl _) (show ObjOk X.prog X.w _ h' _ (.lst xs.reverse) from ⟨by rw [List.length_reverse]; exact hz, acc.toList, c', rr, by rw [Array.toArray_toList]; exact hp⟩), rfl, q _ (I2.hok.fresh (Nat.le_refl _))⟩
  rw [List.mem_singleton.mp hb]
  exact ⟨f0, f1, f2, f3, f4, f5⟩
end Q
end

section
set_option Elab.async false
set_option linter.all false
set_option maxRecDepth 100000
/-! Q: a small interpreter of the Python subset that the program and its laws use: values are pure data; lists and dicts that a def changes are owned by one name; cells are lists that are handed around. -/
namespace Q
open PySem
/-- data -/
inductive D where
  | non | bl (b : Bool) | int (i : Int) | str (x : Str)
  | tup (ds : List D) | lst (ds : List D) | dct (kvs : List (D × D)) | cel (n : Nat)
  deriving Inhabited
abbrev Cells := List (List D)
abbrev Row := List (Option (Bool × D))
/-- an outcome -/
inductive R (σ α : Type) where
  | ok (a : α) (s : σ) | exc (e : Nat) (c : Cells) | bad
def R.b {σ τ α β : Type} : R σ α → (α → σ → R τ β) → R τ β
  | .ok a s, f => f a s
  | .exc e c, _ => .exc e c
  | .bad, _ => .bad
@[simp] theorem R.b_ok {σ τ α β : Type} (a : α) (s : σ) (f : α → σ → R τ β) : (R.ok a s).b f = f a s := rfl
@[simp] theorem R.b_exc {σ τ α β : Type} (e : Nat) (c : Cells) (f : α → σ → R τ β) : (R.exc e c : R σ α).b f = .exc e c := rfl
@[simp] theorem R.b_bad {σ τ α β : Type} (f : α → σ → R τ β) : (R.bad : R σ α).b f = .bad := rfl
def R.of {σ α : Type} (o : Option α) (s : σ) : R σ α := match o with
  | some a => .ok a s
  | none => .bad
@[simp] theorem R.of_some {σ α : Type} (a : α) (s : σ) : R.of (some a) s = .ok a s := rfl
@[simp] theorem R.of_none {σ α : Type} (s : σ) : R.of (none : Option α) s = .bad := rfl
structure S where
  r : Row
  c : Cells
inductive Op where | add | sub | mul | fdiv | mod | pow
inductive Cm where | eq | ne | lt | le | gt | ge | is | isn
inductive Tg where | n (i : Nat) | t (ts : List Tg)
/-- what is walked -/
inductive Ik where | seq | rng | enu | rev | vals
inductive Ty where | int | bool | str | tup | lst | dct
inductive Bi where | len | abs | max | min | sum | int | all | list
inductive Ex where
  | c (d : D) | v (i : Nat) | fz (i : Nat)
  | bin (o : Op) (a b : Ex) | neg (a : Ex) | cmp (o : Cm) (a b : Ex) | chn (o p : Cm) (a b c : Ex)
  | and (a b : Ex) | or (a b : Ex) | not (a : Ex) | ite (c a b : Ex)
  | tup (es : List Ex) | lst (es : List Ex) | dct (es : List Ex)
  | ix (a b : Ex)
  | lc (e : Ex) (t : Tg) (k : Ik) (its : List Ex) (cond : Option Ex) (own : List Nat)
  | call (f : Nat) (es : List Ex) | callS (f : Nat) (a : Ex) (es : List Ex)
  | bi (b : Bi) (es : List Ex) | isi (a : Ex) (t : Ty) | get (a k d : Ex) | lrev (a : Ex) | pop (i : Nat)
inductive Sx where
  | set (i : Nat) (e : Ex) | own (i : Nat) (e : Ex) | mkc (i : Nat) (e : Ex) | unp (t : Tg) (e : Ex) | par (is : List (Nat × Bool)) (es : List Ex)
  | aug (i : Nat) (o : Op) (e : Ex) | app (i : Nat) (e : Ex) | put (i : Nat) (k e : Ex) | expr (e : Ex)
  | ret (e : Ex) | retN | ite (c : Ex) (a b : List Sx) | whl (c : Ex) (b : List Sx) | for_ (t : Tg) (k : Ik) (its : List Ex) (b : List Sx)
  | pass | brk | cnt | raise (e : Nat)
inductive Fl where | nx | ret (o : Bool) (d : D) | bk | ct
abbrev Cl := Nat → List D → Cells → R Cells (Bool × D)
/-! ### on data -/
def bI (b : Bool) : Int := if b then 1 else 0
mutual
def eqD : D → D → Bool
  | .non, y => match y with | .non => true | _ => false
  | .bl a, y => match y with | .bl b => a == b | .int j => bI a == j | _ => false
  | .int i, y => match y with | .bl b => i == bI b | .int j => i == j | _ => false
  | .str x, y => match y with | .str z => x == z | _ => false
  | .tup xs, y => match y with | .tup ys => eqDs xs ys | _ => false
  | .lst xs, y => match y with | .lst ys => eqDs xs ys | _ => false
  | .dct _, _ => false
  | .cel _, _ => false
def eqDs : List D → List D → Bool
  | [], ys => match ys with | [] => true | _ :: _ => false
  | x :: xs, ys => match ys with | y :: ys => eqD x y && eqDs xs ys | [] => false
end
/-- is made of what == takes, to a depth -/
def pl : Nat → D → Bool
  | _, .non => true
  | _, .bl _ => true
  | _, .int _ => true
  | _, .str x => PyData.strOk x
  | n + 1, .tup ds => ds.all (pl n)
  | n + 1, .lst ds => ds.all (pl n)
  | _, _ => false
mutual
/-- no list, no dict in it -/
def flat : D → Bool
  | .tup ds => flats ds
  | .lst _ => false
  | .dct _ => false
  | .non => true
  | .bl _ => true
  | .int _ => true
  | .str _ => true
  | .cel _ => true
def flats : List D → Bool
  | [] => true
  | d :: ds => flat d && flats ds
end
/-- it cannot be one of the lists that were handed in -/
def noAl : Bool → D → Bool
  | false, d => flat d
  | true, .lst ds => flats ds
  | true, .dct kvs => flats (kvs.map (·.2))
  | true, _ => false
def lim : Nat := 4000000
def smI (i : Int) : Bool := decide (i.natAbs < 2 ^ 6000)
def truthD : D → Option Bool
  | .non => some false
  | .bl b => some b
  | .int i => some (i != 0)
  | .str x => if x.length ≤ lim then some ((x.length : Int) != 0) else none
  | .tup ds => some (!ds.isEmpty)
  | .lst ds => some (!ds.isEmpty)
  | .dct kvs => some (!kvs.isEmpty)
  | .cel _ => none
def binD : Op → D → D → Option (Bool × D)
  | .add, .int i, .int j => some (false, .int (i + j))
  | .add, .lst xs, .lst ys => if xs.length + ys.length ≤ lim then some (true, .lst (xs ++ ys)) else none
  | .sub, .int i, .int j => some (false, .int (i - j))
  | .mul, .int i, .int j => if smI i && smI j then some (false, .int (i * j)) else none
  | .fdiv, .int i, .int j => if decide (0 < j) && smI j then some (false, .int (i / j)) else none
  | .mod, .int i, .int j => if 0 < j then some (false, .int (i % j)) else none
  | .pow, .int i, .int j => if decide (0 ≤ j) && decide (j ≤ 1000) && decide (i.natAbs < 2 ^ 64) then some (false, .int (i ^ j.toNat)) else none
  | _, _, _ => none
def isNon : D → Bool
  | .non => true
  | _ => false
def cmpD : Cm → D → D → Option Bool
  | .eq, x, y => if pl 60 x && pl 60 y then some (eqD x y) else none
  | .ne, x, y => if pl 60 x && pl 60 y then some (!eqD x y) else none
  | .lt, .int i, .int j => some (decide (i < j))
  | .le, .int i, .int j => some (decide (i ≤ j))
  | .gt, .int i, .int j => some (decide (j < i))
  | .ge, .int i, .int j => some (decide (j ≤ i))
  | .is, x, .non => some (isNon x)
  | .isn, x, .non => some (!isNon x)
  | .is, .bl a, .bl b => some (a == b)
  | .isn, .bl a, .bl b => some (a != b)
  | _, _, _ => none
def ixN (n : Nat) (i : Int) : Option Nat := if 0 ≤ i then (if i < n then some i.toNat else none) else if -(n : Int) ≤ i then some (i + n).toNat else none
def atD {α : Type} (xs : List α) (i : Int) : Option α := match ixN xs.length i with
  | some j => xs[j]?
  | none => none
def isKey : D → Bool
  | .int _ => true
  | .str _ => true
  | _ => false
def eqK : D → D → Bool
  | .int i, .int j => i == j
  | .str x, .str y => x == y
  | _, _ => false
def getD : List (D × D) → D → Option D
  | [], _ => none
  | (k, v) :: r, x => if eqK k x then some v else getD r x
def putD (kvs : List (D × D)) (k v : D) : List (D × D) := if kvs.any (fun p => eqK p.1 k) then kvs.map (fun p => if eqK p.1 k then (p.1, v) else p) else kvs ++ [(k, v)]
def mkD : List D → List (D × D) → Option (List (D × D))
  | [], a => some a
  | k :: v :: r, a => if isKey k then mkD r (putD a k v) else none
  | _, _ => none
def ixD : D → D → Option D
  | .lst xs, .int i => atD xs i
  | .tup xs, .int i => atD xs i
  | .dct kvs, k => if isKey k then getD kvs k else none
  | _, _ => none
def intsD : List D → Option (List Int)
  | [] => some []
  | .int i :: r => (intsD r).map (i :: ·)
  | _ :: _ => none
def blsD : List D → Option (List Bool)
  | [] => some []
  | .bl i :: r => (blsD r).map (i :: ·)
  | _ :: _ => none
def biD : Bi → List D → Cells → Option (Bool × D)
  | .len, [.lst xs], _ => some (false, .int xs.length)
  | .len, [.tup xs], _ => some (false, .int xs.length)
  | .len, [.dct xs], _ => some (false, .int xs.length)
  | .len, [.cel n], c => (c[n]?).map fun xs => (false, .int xs.length)
  | .abs, [.int i], _ => some (false, .int (if i < 0 then -i else i))
  | .max, [.int i, .int j], _ => some (false, .int (if j > i then j else i))
  | .min, [.int i, .int j], _ => some (false, .int (if j < i then j else i))
  | .sum, [.lst xs], _ => (intsD xs).map fun is => (false, .int is.sum)
  | .int, [.int i], _ => some (false, .int i)
  | .int, [.bl b], _ => some (false, .int (bI b))
  | .all, [.lst xs], _ => (blsD xs).map fun bs => (false, .bl (bs.all id))
  | .list, [.lst xs], _ => some (true, .lst xs)
  | .list, [.tup xs], _ => some (true, .lst xs)
  | _, _, _ => none
def isD : D → Ty → Option Bool
  | .cel _, _ => none
  | .int _, .int => some true
  | .bl _, .int => some true
  | .bl _, .bool => some true
  | .str _, .str => some true
  | .tup _, .tup => some true
  | .lst _, .lst => some true
  | .dct _, .dct => some true
  | _, _ => some false
def rngD (a : Int) (n : Nat) : List D := (List.range n).map fun i => .int (a + (i : Nat))
def enuD : Nat → List D → List D
  | _, [] => []
  | n, d :: ds => .tup [.int n, d] :: enuD (n + 1) ds
def isRng (i : Int) : Bool := decide (-(2 ^ 60) ≤ i) && decide (i < 2 ^ 60)
def itD : Ik → List D → Option (List D)
  | .seq, [.lst xs] => some xs
  | .seq, [.tup xs] => some xs
  | .seq, [.dct kvs] => some (kvs.map (·.1))
  | .rng, [.int j] => if isRng j then some (rngD 0 j.toNat) else none
  | .rng, [.int i, .int j] => if isRng i && isRng j then some (rngD i (j - i).toNat) else none
  | .enu, [.lst xs] => some (enuD 0 xs)
  | .rev, [.lst xs] => some xs.reverse
  | .vals, [.dct kvs] => some (kvs.map (·.2))
  | _, _ => none
/-! ### names -/
def setR (r : Row) (i : Nat) (x : Option (Bool × D)) : Row := r.set i x
mutual
def asg : Tg → D → Row → Option Row
  | .n i, d, r => some (r.set i (some (false, d)))
  | .t ts, d, r => match d with
    | .tup ds => asgs ts ds r
    | .lst ds => asgs ts ds r
    | _ => none
def asgs : List Tg → List D → Row → Option Row
  | [], ds, r => match ds with
    | [] => some r
    | _ :: _ => none
  | t :: ts, ds, r => match ds with
    | d :: ds => match asg t d r with
      | some r1 => asgs ts ds r1
      | none => none
    | [] => none
end
def wipeR : Row → List Nat → Row
  | r, [] => r
  | r, i :: is => (wipeR r is).set i none
def backR (old : Row) : Row → List Nat → Row
  | r, [] => r
  | r, i :: is => (backR old r is).set i (old[i]?.join)
def isPk : Ex → Bool
  | .v _ => true
  | .ite _ a b => isPk a || isPk b
  | .and a b => isPk a || isPk b
  | .or a b => isPk a || isPk b
  | _ => false
def frzR : List Ex → Row → Row
  | [], r => r
  | .v i :: es, r => match r[i]? with
    | some (some (true, d)) => frzR es (r.set i (some (false, d)))
    | _ => frzR es r
  | _ :: es, r => frzR es r
def anyO : List Ex → Row → Bool
  | [], _ => false
  | .v i :: es, r => match r[i]? with
    | some (some (true, _)) => true
    | _ => anyO es r
  | _ :: es, r => anyO es r
/-! ### expressions -/
/-- one turn after another -/
def lcL (f : D → S → R S (Option D)) : List D → S → List D → R S (List D)
  | [], s, acc => .ok acc s
  | x :: xs, s, acc => (f x s).b fun o s => match o with
    | some d => if acc.length < lim then lcL f xs s (acc ++ [d]) else .bad
    | none => lcL f xs s acc
def tru (d : Bool × D) (s : S) : R S Bool := R.of (truthD d.2) s
def callD (C : Cl) (f : Nat) (es : List Ex) (ds : List D) (s : S) : R S (Bool × D) :=
  (C f ds s.c).b fun od c => .ok od ⟨if anyO es s.r && !(noAl od.1 od.2 && c.all flats) then frzR es s.r else s.r, c⟩
def isV : Ex → Bool
  | .v _ => true
  | _ => false
/-- an owned dict that is walked is owned no more -/
def fzD : List Ex → Row → Row
  | [], r => r
  | .v i :: es, r => match r[i]? with
    | some (some (true, .dct k)) => fzD es (r.set i (some (false, .dct k)))
    | _ => fzD es r
  | _ :: es, r => fzD es r
def notOwn : List Nat → Row → Bool
  | [], _ => true
  | i :: is, r => match r[i]? with
    | some (some (true, _)) => false
    | _ => notOwn is r
mutual
def tgIn (own : List Nat) : Tg → Bool
  | .n i => own.contains i
  | .t ts => tgsIn own ts
def tgsIn (own : List Nat) : List Tg → Bool
  | [] => true
  | t :: ts => tgIn own t && tgsIn own ts
end
mutual
def ev (C : Cl) : Ex → S → R S (Bool × D)
  | .c d, s => .ok (false, d) s
  | .v i, s => match s.r[i]? with
    | some (some od) => .ok od s
    | _ => .bad
  | .fz i, s => match s.r[i]? with
    | some (some od) => .ok (false, od.2) ⟨s.r.set i (some (false, od.2)), s.c⟩
    | _ => .bad
  | .bin o a b, s => (ev C a s).b fun x s => (ev C b s).b fun y s => R.of (binD o x.2 y.2) s
  | .neg a, s => (ev C a s).b fun x s => match x.2 with
    | .int i => .ok (false, .int (-i)) s
    | _ => .bad
  | .cmp o a b, s => (ev C a s).b fun x s => (ev C b s).b fun y s => (R.of (cmpD o x.2 y.2) s).b fun t s => .ok (false, .bl t) s
  | .chn o p a b c, s => (ev C a s).b fun x s => (ev C b s).b fun y s => (R.of (cmpD o x.2 y.2) s).b fun t s =>
      if t then (ev C c s).b fun z s => (R.of (cmpD p y.2 z.2) s).b fun t s => .ok (false, .bl t) s else .ok (false, .bl false) s
  | .and a b, s => (ev C a s).b fun x s => (tru x s).b fun t s => if t then ev C b s else .ok x s
  | .or a b, s => (ev C a s).b fun x s => (tru x s).b fun t s => if t then .ok x s else ev C b s
  | .not a, s => (ev C a s).b fun x s => (tru x s).b fun t s => .ok (false, .bl (!t)) s
  | .ite c a b, s => (ev C c s).b fun x s => (tru x s).b fun t s => if t then ev C a s else ev C b s
  | .tup es, s => (evF C es s).b fun ds s => .ok (false, .tup ds) s
  | .lst es, s => (evF C es s).b fun ds s => .ok (true, .lst ds) s
  | .dct es, s => (evF C es s).b fun ds s => (R.of (mkD ds []) s).b fun kvs s => .ok (true, .dct kvs) s
  | .ix a b, s => (ev C a s).b fun x s => (ev C b s).b fun y s => (R.of (ixD x.2 y.2) s).b fun d s => .ok (false, d) s
  | .lc e t k its cond own, s => if !(tgIn own t && notOwn own s.r) then .bad else (evA C its s).b fun ds s => (R.of (itD k ds) ⟨fzD its s.r, s.c⟩).b fun xs s0 =>
      (lcL (fun x s => (R.of (asg t x (wipeR s.r own)) s).b fun r s => (evT C cond ⟨r, s.c⟩).b fun b s =>
        if b then (ev C e s).b fun y s => if y.1 && isPk e then .bad else .ok (some y.2) s else .ok none s) xs s0 []).b fun acc s => .ok (true, .lst acc) ⟨backR s0.r s.r own, s.c⟩
  | .call f es, s => (evA C es s).b fun ds s => callD C f es ds s
  | .callS f a es, s => (ev C a s).b fun x s => (evA C es s).b fun ds s => match x.2 with
    | .tup xs => callD C f es (xs ++ ds) s
    | _ => .bad
  | .bi b es, s => (evA C es s).b fun ds s => R.of (biD b ds s.c) s
  | .isi a t, s => (ev C a s).b fun x s => (R.of (isD x.2 t) s).b fun t s => .ok (false, .bl t) s
  | .get a k d, s => (ev C a s).b fun x s => (ev C k s).b fun y s => (ev C d s).b fun z s => match x.2 with
    | .dct kvs => if isKey y.2 && !(z.1 && isPk d) then .ok (false, (getD kvs y.2).getD z.2) s else .bad
    | _ => .bad
  | .lrev a, s => (ev C a s).b fun x s => match x.2 with
    | .lst xs => .ok (true, .lst xs.reverse) s
    | _ => .bad
  | .pop i, s => match s.r[i]? with
    | some (some (_, .cel n)) => match s.c[n]? with
      | some xs => match xs.getLast? with
        | some d => .ok (false, d) ⟨s.r, s.c.set n xs.dropLast⟩
        | none => .bad
      | none => .bad
    | _ => .bad
/-- arguments: looked at alone -/
def evA (C : Cl) : List Ex → S → R S (List D)
  | [], s => .ok [] s
  | e :: es, s => (ev C e s).b fun x s => if x.1 && isPk e && !isV e then .bad else (evA C es s).b fun ds s => .ok (x.2 :: ds) s
/-- items: kept -/
def evF (C : Cl) : List Ex → S → R S (List D)
  | [], s => .ok [] s
  | e :: es, s => (ev C e s).b fun x s => if x.1 && isPk e then .bad else (evF C es s).b fun ds s => .ok (x.2 :: ds) s
def evT (C : Cl) : Option Ex → S → R S Bool
  | none, s => .ok true s
  | some e, s => (ev C e s).b fun x s => tru x s
end
/-! ### statements -/
def forL (f : D → S → R S Fl) : List D → S → R S Fl
  | [], s => .ok .nx s
  | x :: xs, s => (f x s).b fun fl s => match fl with
    | .nx => forL f xs s
    | .ct => forL f xs s
    | .bk => .ok .nx s
    | .ret o d => .ok (.ret o d) s
def whlL (t : S → R S Bool) (f : S → R S Fl) : Nat → S → R S Fl
  | 0, _ => .bad
  | n + 1, s => (t s).b fun b s => if b then (f s).b fun fl s => match fl with
    | .nx => whlL t f n s
    | .ct => whlL t f n s
    | .bk => .ok .nx s
    | .ret o d => .ok (.ret o d) s else .ok .nx s
def turns : Nat := 10 ^ 18
def parR : List (Nat × Bool) → List (Bool × D) → Row → Option Row
  | [], [], r => some r
  | (i, o) :: is, d :: ds, r => parR is ds (r.set i (some (o && d.1, d.2)))
  | _, _, _ => none
def evP (C : Cl) : List Ex → S → R S (List (Bool × D))
  | [], s => .ok [] s
  | e :: es, s => (ev C e s).b fun x s => if x.1 && isPk e then .bad else (evP C es s).b fun ds s => .ok (x :: ds) s
mutual
def xe (C : Cl) : Sx → S → R S Fl
  | .set i e, s => (ev C e s).b fun x s => if x.1 && isPk e then .bad else .ok .nx ⟨s.r.set i (some (false, x.2)), s.c⟩
  | .own i e, s => (ev C e s).b fun x s => if x.1 && isPk e then .bad else .ok .nx ⟨s.r.set i (some x), s.c⟩
  | .mkc i e, s => (ev C e s).b fun x s => match x with
    | (true, .lst ds) => if isPk e then .bad else .ok .nx ⟨s.r.set i (some (false, .cel s.c.length)), s.c ++ [ds]⟩
    | _ => .bad
  | .unp t e, s => (ev C e s).b fun x s => if x.1 && isPk e then .bad else (R.of (asg t x.2 s.r) s).b fun r s => .ok .nx ⟨r, s.c⟩
  | .par is es, s => (evP C es s).b fun ds s => (R.of (parR is ds s.r) s).b fun r s => .ok .nx ⟨r, s.c⟩
  | .aug i o e, s => match s.r[i]? with
    | some (some (_, .int n)) => (ev C e s).b fun y s => match o, y.2 with
      | .add, .int m => .ok .nx ⟨s.r.set i (some (false, .int (n + m))), s.c⟩
      | .sub, .int m => .ok .nx ⟨s.r.set i (some (false, .int (n - m))), s.c⟩
      | _, _ => .bad
    | _ => .bad
  | .app i e, s => (ev C e s).b fun x s => if x.1 && isPk e then .bad else match s.r[i]? with
    | some (some (true, .lst ds)) => if ds.length < lim then .ok .nx ⟨s.r.set i (some (true, .lst (ds ++ [x.2]))), s.c⟩ else .bad
    | _ => .bad
  | .put i k e, s => (ev C e s).b fun x s => if x.1 && isPk e then .bad else (ev C k s).b fun y s => match s.r[i]? with
    | some (some (true, .dct kvs)) => if isKey y.2 && decide (kvs.length < lim) then .ok .nx ⟨s.r.set i (some (true, .dct (putD kvs y.2 x.2))), s.c⟩ else .bad
    | _ => .bad
  | .expr e, s => (ev C e s).b fun _ s => .ok .nx s
  | .ret e, s => (ev C e s).b fun x s => .ok (.ret x.1 x.2) s
  | .retN, s => .ok (.ret false .non) s
  | .ite c a b, s => (ev C c s).b fun x s => (tru x s).b fun t s => if t then xes C a s else xes C b s
  | .whl c b, s => whlL (fun s => (ev C c s).b fun x s => tru x s) (fun s => xes C b s) turns s
  | .for_ t k its b, s => (evF C its s).b fun ds s => (R.of (itD k ds) s).b fun xs s =>
      forL (fun x s => (R.of (asg t x s.r) s).b fun r s => xes C b ⟨r, s.c⟩) xs s
  | .pass, s => .ok .nx s
  | .brk, s => .ok .bk s
  | .cnt, s => .ok .ct s
  | .raise e, s => .exc e s.c
def xes (C : Cl) : List Sx → S → R S Fl
  | [], s => .ok .nx s
  | x :: xs, s => (xe C x s).b fun fl s => match fl with
    | .nx => xes C xs s
    | .ret o d => .ok (.ret o d) s
    | .bk => .ok .bk s
    | .ct => .ok .ct s
end
/-! ### defs -/
structure Fd where
  np : Nat
  nn : Nat
  body : List Sx
def frame (f : Fd) (ds : List D) : Row := ds.map (fun d => some (false, d)) ++ List.replicate (f.nn - f.np) none
/-- a program's defs, to a depth of calls -/
def call (T : List Fd) : Nat → Cl
  | 0, _, _, _ => .bad
  | k + 1, f, ds, c => match T[f]? with
    | none => .bad
    | some fd => if ds.length = fd.np then (xes (call T k) fd.body ⟨frame fd ds, c⟩).b fun fl s => match fl with
      | .nx => .ok (false, .non) s.c
      | .ret o d => .ok (o, d) s.c
      | _ => .bad else .bad
end Q
end

section
set_option Elab.async false
set_option linter.all false
set_option maxRecDepth 100000
set_option maxHeartbeats 4000000
namespace Q
open PySem
theorem R.b_eq {σ τ α β : Type} {r : R σ α} {f : α → σ → R τ β} {b : β} {t : τ} (h : r.b f = .ok b t) : ∃ a s, r = .ok a s ∧ f a s = .ok b t := by
  cases r with
  | ok a s => exact ⟨a, s, rfl, h⟩
  | exc e c => cases h
  | bad => cases h
theorem R.of_eq {σ α : Type} {o : Option α} {s t : σ} {a : α} (h : R.of o s = .ok a t) : o = some a ∧ s = t := by
  cases o with
  | some x => cases h; exact ⟨rfl, rfl⟩
  | none => cases h
/-- names stay, but for what is no more owned -/
def FolX (own : List Nat) (r r' : Row) : Prop := r'.length = r.length ∧ ∀ i, i ∉ own → r'[i]? = r[i]? ∨ ∃ d, r[i]? = some (some (true, d)) ∧ r'[i]? = some (some (false, d))
def Fol (r r' : Row) : Prop := FolX [] r r'
section
variable {own : List Nat} {r r1 r2 : Row}
theorem FolX.refl (r : Row) : FolX own r r := ⟨rfl, fun _ _ => .inl rfl⟩
theorem FolX.trans (a : FolX own r r1) (b : FolX own r1 r2) : FolX own r r2 := ⟨b.1.trans a.1, fun i n => by
  rcases a.2 i n with x | ⟨d, x, y⟩
  · rw [← x]; exact b.2 i n
  · rcases b.2 i n with z | ⟨e, z, w⟩
    · exact .inr ⟨d, x, by rw [z]; exact y⟩
    · rw [y] at z; cases z⟩
theorem FolX.frz {i : Nat} {o : Bool} {d : D} (h : r[i]? = some (some (o, d))) : FolX own r (r.set i (some (false, d))) := ⟨by simp, fun j _ => by
  by_cases e : j = i
  · subst e
    have hl : j < r.length := (List.getElem?_eq_some_iff.mp h).1
    cases o with
    | true => exact .inr ⟨d, h, by simp [hl]⟩
    | false => exact .inl (by rw [h]; simp [hl])
  · exact .inl (by rw [List.getElem?_set_ne (fun x => e x.symm)])⟩
theorem Fol.x (a : Fol r r1) : FolX own r r1 := ⟨a.1, fun i _ => a.2 i (by simp)⟩
theorem fol_frzR : ∀ (es : List Ex) (r : Row), Fol r (frzR es r)
  | [], r => FolX.refl r
  | .v i :: es, r => by
    unfold frzR
    split
    · rename_i d h
      exact (FolX.frz h).trans (fol_frzR es _)
    · exact fol_frzR es r
  | .c _ :: es, r => fol_frzR es r
  | .fz _ :: es, r => fol_frzR es r
  | .bin _ _ _ :: es, r => fol_frzR es r
  | .neg _ :: es, r => fol_frzR es r
  | .cmp _ _ _ :: es, r => fol_frzR es r
  | .chn _ _ _ _ _ :: es, r => fol_frzR es r
  | .and _ _ :: es, r => fol_frzR es r
  | .or _ _ :: es, r => fol_frzR es r
  | .not _ :: es, r => fol_frzR es r
  | .ite _ _ _ :: es, r => fol_frzR es r
  | .tup _ :: es, r => fol_frzR es r
  | .lst _ :: es, r => fol_frzR es r
  | .dct _ :: es, r => fol_frzR es r
  | .ix _ _ :: es, r => fol_frzR es r
  | .lc _ _ _ _ _ _ :: es, r => fol_frzR es r
  | .call _ _ :: es, r => fol_frzR es r
  | .callS _ _ _ :: es, r => fol_frzR es r
  | .bi _ _ :: es, r => fol_frzR es r
  | .isi _ _ :: es, r => fol_frzR es r
  | .get _ _ _ :: es, r => fol_frzR es r
  | .lrev _ :: es, r => fol_frzR es r
  | .pop _ :: es, r => fol_frzR es r
theorem fol_fzD : ∀ (es : List Ex) (r : Row), Fol r (fzD es r)
  | [], r => FolX.refl r
  | .v i :: es, r => by
    unfold fzD
    split
    · rename_i d h
      exact (FolX.frz h).trans (fol_fzD es _)
    · exact fol_fzD es r
  | .c _ :: es, r => fol_fzD es r
  | .fz _ :: es, r => fol_fzD es r
  | .bin _ _ _ :: es, r => fol_fzD es r
  | .neg _ :: es, r => fol_fzD es r
  | .cmp _ _ _ :: es, r => fol_fzD es r
  | .chn _ _ _ _ _ :: es, r => fol_fzD es r
  | .and _ _ :: es, r => fol_fzD es r
  | .or _ _ :: es, r => fol_fzD es r
  | .not _ :: es, r => fol_fzD es r
  | .ite _ _ _ :: es, r => fol_fzD es r
  | .tup _ :: es, r => fol_fzD es r
  | .lst _ :: es, r => fol_fzD es r
  | .dct _ :: es, r => fol_fzD es r
  | .ix _ _ :: es, r => fol_fzD es r
  | .lc _ _ _ _ _ _ :: es, r => fol_fzD es r
  | .call _ _ :: es, r => fol_fzD es r
  | .callS _ _ _ :: es, r => fol_fzD es r
  | .bi _ _ :: es, r => fol_fzD es r
  | .isi _ _ :: es, r => fol_fzD es r
  | .get _ _ _ :: es, r => fol_fzD es r
  | .lrev _ :: es, r => fol_fzD es r
  | .pop _ :: es, r => fol_fzD es r
theorem wipe_len : ∀ (r : Row) (is : List Nat), (wipeR r is).length = r.length
  | r, [] => rfl
  | r, i :: is => by simp [wipeR, wipe_len r is]
theorem wipe_out' : ∀ (r : Row) (is : List Nat) (i : Nat), i ∉ is → (wipeR r is)[i]? = r[i]?
  | r, [], i, _ => rfl
  | r, j :: is, i, h => by
    simp only [List.mem_cons, not_or] at h
    simp only [wipeR]
    rw [List.getElem?_set_ne (fun x => h.1 x.symm), wipe_out' r is i h.2]
theorem wipe_in : ∀ (r : Row) (is : List Nat) (i : Nat) (x : Bool × D), (wipeR r is)[i]? = some (some x) → i ∉ is ∧ r[i]? = some (some x)
  | r, [], i, x, h => ⟨by simp, h⟩
  | r, j :: is, i, x, h => by
    simp only [wipeR] at h
    by_cases e : j = i
    · subst e
      rw [List.getElem?_set_self'] at h
      cases g : (wipeR r is)[j]? <;> simp [g] at h
    · rw [List.getElem?_set_ne e] at h
      have := wipe_in r is i x h
      exact ⟨by simp [this.1, Ne.symm e], this.2⟩
theorem fol_wipe (r : Row) : FolX own r (wipeR r own) := ⟨wipe_len r own, fun i n => .inl (wipe_out' r own i n)⟩
mutual
theorem fol_asg : ∀ (t : Tg) (d : D) (r r1 : Row), tgIn own t = true → asg t d r = some r1 → FolX own r r1
  | .n i, d, r, r1, h, e => by
    cases e
    refine ⟨by simp, fun j n => .inl ?_⟩
    rw [List.getElem?_set_ne]
    intro x; subst x
    simp [tgIn] at h
    exact n h
  | .t ts, d, r, r1, h, e => by
    cases d <;> simp only [asg, reduceCtorEq] at e
    · exact fol_asgs ts _ r r1 (by simpa [tgIn] using h) e
    · exact fol_asgs ts _ r r1 (by simpa [tgIn] using h) e
theorem fol_asgs : ∀ (t : List Tg) (d : List D) (r r1 : Row), tgsIn own t = true → asgs t d r = some r1 → FolX own r r1
  | [], d, r, r1, h, e => by
    cases d with
    | nil => cases e; exact FolX.refl r
    | cons _ _ => cases e
  | t :: ts, d, r, r1, h, e => by
    cases d with
    | nil => cases e
    | cons d ds =>
      simp only [asgs] at e
      simp only [tgsIn, Bool.and_eq_true] at h
      split at e
      · rename_i r2 h2
        exact (fol_asg t d r r2 h.1 h2).trans (fol_asgs ts ds r2 r1 h.2 e)
      · cases e
end
theorem back_len : ∀ (old r : Row) (is : List Nat), (backR old r is).length = r.length
  | old, r, [] => rfl
  | old, r, i :: is => by simp [backR, back_len old r is]
theorem back_in : ∀ (old r : Row) (is : List Nat) (i : Nat), r.length = old.length → i ∈ is → (backR old r is)[i]? = old[i]?
  | old, r, [], i, _, h => by simp at h
  | old, r, j :: is, i, l, h => by
    simp only [backR]
    by_cases e : j = i
    · subst e
      rw [List.getElem?_set_self', ]
      have hb := back_len old r is
      by_cases x : j < old.length
      · rw [List.getElem?_eq_getElem (show j < (backR old r is).length by omega), List.getElem?_eq_getElem x]; rfl
      · rw [List.getElem?_eq_none (show (backR old r is).length ≤ j by omega), List.getElem?_eq_none (show old.length ≤ j by omega)]; rfl
    · rw [List.getElem?_set_ne e]
      exact back_in old r is i l (by simpa [Ne.symm e] using h)
theorem back_out : ∀ (old r : Row) (is : List Nat) (i : Nat), i ∉ is → (backR old r is)[i]? = r[i]?
  | old, r, [], i, _ => rfl
  | old, r, j :: is, i, h => by
    simp only [List.mem_cons, not_or] at h
    simp only [backR]
    rw [List.getElem?_set_ne (fun x => h.1 x.symm), back_out old r is i h.2]
theorem fol_back (h : FolX own r r1) : Fol r (backR r r1 own) := ⟨(back_len r r1 own).trans h.1, fun i _ => by
  by_cases m : i ∈ own
  · exact .inl (back_in r r1 own i h.1 m)
  · rw [back_out r r1 own i m]; exact h.2 i m⟩
theorem fol_lcL {f : D → S → R S (Option D)} (hf : ∀ x s o s', f x s = .ok o s' → FolX own s.r s'.r) : ∀ (xs : List D) (s : S) (acc : List D) (out : List D) (s' : S), lcL f xs s acc = .ok out s' → FolX own s.r s'.r
  | [], s, acc, out, s', h => by cases h; exact FolX.refl _
  | x :: xs, s, acc, out, s', h => by
    obtain ⟨o, s1, h1, h2⟩ := R.b_eq h
    have a := hf x s o s1 h1
    cases o with
    | none => exact a.trans (fol_lcL hf xs s1 acc out s' h2)
    | some d =>
      simp only at h2
      split at h2
      · exact a.trans (fol_lcL hf xs s1 _ out s' h2)
      · cases h2
theorem fol_callD {C : Cl} {f : Nat} {es : List Ex} {ds : List D} {s s' : S} {od : Bool × D} (h : callD C f es ds s = .ok od s') : Fol s.r s'.r := by
  obtain ⟨o, c, h1, h2⟩ := R.b_eq h
  cases h2
  show Fol s.r (if _ then _ else _)
  split
  · exact fol_frzR es s.r
  · exact FolX.refl _
end
theorem tru_eq {x : Bool × D} {s s' : S} {b : Bool} (h : tru x s = .ok b s') : truthD x.2 = some b ∧ s = s' := R.of_eq h
variable {C : Cl}
mutual
theorem fol_ev : ∀ (x : Ex) (s : S) (od : Bool × D) (s' : S), ev C x s = .ok od s' → Fol s.r s'.r
  | .c d, s, od, s', h => by cases h; exact FolX.refl _
  | .v i, s, od, s', h => by
    simp only [ev] at h
    split at h
    · cases h; exact FolX.refl _
    · cases h
  | .fz i, s, od, s', h => by
    simp only [ev] at h
    split at h
    · rename_i od' e
      cases h
      exact FolX.frz (o := od'.1) (d := od'.2) e
    · cases h
  | .bin o a b, s, od, s', h => by
    obtain ⟨x, s1, h1, h⟩ := R.b_eq h
    obtain ⟨y, s2, h2, h⟩ := R.b_eq h
    obtain ⟨h3, rfl⟩ := R.of_eq h
    exact (fol_ev a _ _ _ h1).trans (fol_ev b _ _ _ h2)
  | .neg a, s, od, s', h => by
    obtain ⟨x, s1, h1, h⟩ := R.b_eq h
    split at h
    · cases h; exact fol_ev a _ _ _ h1
    · cases h
  | .cmp o a b, s, od, s', h => by
    obtain ⟨x, s1, h1, h⟩ := R.b_eq h
    obtain ⟨y, s2, h2, h⟩ := R.b_eq h
    obtain ⟨t, s3, h3, h⟩ := R.b_eq h
    obtain ⟨h3, rfl⟩ := R.of_eq h3
    cases h
    exact (fol_ev a _ _ _ h1).trans (fol_ev b _ _ _ h2)
  | .chn o p a b c, s, od, s', h => by
    obtain ⟨x, s1, h1, h⟩ := R.b_eq h
    obtain ⟨y, s2, h2, h⟩ := R.b_eq h
    obtain ⟨t, s3, h3, h⟩ := R.b_eq h
    obtain ⟨h3, rfl⟩ := R.of_eq h3
    have f := (fol_ev a _ _ _ h1).trans (fol_ev b _ _ _ h2)
    split at h
    · obtain ⟨z, s4, h4, h⟩ := R.b_eq h
      obtain ⟨t2, s5, h5, h⟩ := R.b_eq h
      obtain ⟨h5, rfl⟩ := R.of_eq h5
      cases h
      exact f.trans (fol_ev c _ _ _ h4)
    · cases h; exact f
  | .and a b, s, od, s', h => by
    obtain ⟨x, s1, h1, h⟩ := R.b_eq h
    obtain ⟨t, s2, h2, h⟩ := R.b_eq h
    obtain ⟨h2, rfl⟩ := tru_eq h2
    have f := fol_ev a _ _ _ h1
    split at h
    · exact f.trans (fol_ev b _ _ _ h)
    · cases h; exact f
  | .or a b, s, od, s', h => by
    obtain ⟨x, s1, h1, h⟩ := R.b_eq h
    obtain ⟨t, s2, h2, h⟩ := R.b_eq h
    obtain ⟨h2, rfl⟩ := tru_eq h2
    have f := fol_ev a _ _ _ h1
    split at h
    · cases h; exact f
    · exact f.trans (fol_ev b _ _ _ h)
  | .not a, s, od, s', h => by
    obtain ⟨x, s1, h1, h⟩ := R.b_eq h
    obtain ⟨t, s2, h2, h⟩ := R.b_eq h
    obtain ⟨h2, rfl⟩ := tru_eq h2
    cases h
    exact fol_ev a _ _ _ h1
  | .ite c a b, s, od, s', h => by
    obtain ⟨x, s1, h1, h⟩ := R.b_eq h
    obtain ⟨t, s2, h2, h⟩ := R.b_eq h
    obtain ⟨h2, rfl⟩ := tru_eq h2
    have f := fol_ev c _ _ _ h1
    split at h
    · exact f.trans (fol_ev a _ _ _ h)
    · exact f.trans (fol_ev b _ _ _ h)
  | .tup es, s, od, s', h => by
    obtain ⟨x, s1, h1, h⟩ := R.b_eq h
    cases h
    exact fol_evF es _ _ _ h1
  | .lst es, s, od, s', h => by
    obtain ⟨x, s1, h1, h⟩ := R.b_eq h
    cases h
    exact fol_evF es _ _ _ h1
  | .dct es, s, od, s', h => by
    obtain ⟨x, s1, h1, h⟩ := R.b_eq h
    obtain ⟨z, s3, h3, h⟩ := R.b_eq h
    obtain ⟨h3, rfl⟩ := R.of_eq h3
    cases h
    exact fol_evF es _ _ _ h1
  | .ix a b, s, od, s', h => by
    obtain ⟨x, s1, h1, h⟩ := R.b_eq h
    obtain ⟨y, s2, h2, h⟩ := R.b_eq h
    obtain ⟨z, s3, h3, h⟩ := R.b_eq h
    obtain ⟨h3, rfl⟩ := R.of_eq h3
    cases h
    exact (fol_ev a _ _ _ h1).trans (fol_ev b _ _ _ h2)
  | .lc e t k its cond own, s, od, s', h => by
    simp only [ev] at h
    split at h
    · cases h
    rename_i ht
    have ht : tgIn own t = true := by
      cases g : tgIn own t with
      | true => rfl
      | false => rw [g] at ht; exact absurd rfl ht
    obtain ⟨ds, s1, h1, h⟩ := R.b_eq h
    obtain ⟨xs, s2, h2, h⟩ := R.b_eq h
    obtain ⟨h2, rfl⟩ := R.of_eq h2
    obtain ⟨acc, s3, h3, h⟩ := R.b_eq h
    cases h
    refine ((fol_evA its _ _ _ h1).trans (fol_fzD its s1.r)).trans (fol_back ?_)
    refine fol_lcL (fun x s o s' hx => ?_) xs _ [] acc s3 h3
    obtain ⟨r, s4, h4', hx⟩ := R.b_eq hx
    obtain ⟨h4, rfl⟩ := R.of_eq h4'
    have f1 : FolX own s.r r := (fol_wipe s.r).trans (fol_asg t x _ r ht h4)
    obtain ⟨b, s5, h5, hx⟩ := R.b_eq hx
    have f2 : FolX own s.r s5.r := f1.trans (Fol.x (fol_evT cond _ _ _ h5))
    split at hx
    · obtain ⟨y, s6, h6, hx⟩ := R.b_eq hx
      split at hx
      · cases hx
      · cases hx
        exact f2.trans (Fol.x (fol_ev e _ _ _ h6))
    · cases hx; exact f2
  | .call f es, s, od, s', h => by
    obtain ⟨x, s1, h1, h⟩ := R.b_eq h
    exact (fol_evA es _ _ _ h1).trans (fol_callD h)
  | .callS f a es, s, od, s', h => by
    obtain ⟨x, s1, h1, h⟩ := R.b_eq h
    obtain ⟨y, s2, h2, h⟩ := R.b_eq h
    split at h
    · exact ((fol_ev a _ _ _ h1).trans (fol_evA es _ _ _ h2)).trans (fol_callD h)
    · cases h
  | .bi b es, s, od, s', h => by
    obtain ⟨x, s1, h1, h⟩ := R.b_eq h
    obtain ⟨h2, rfl⟩ := R.of_eq h
    exact fol_evA es _ _ _ h1
  | .isi a t, s, od, s', h => by
    obtain ⟨x, s1, h1, h⟩ := R.b_eq h
    obtain ⟨z, s3, h3, h⟩ := R.b_eq h
    obtain ⟨h3, rfl⟩ := R.of_eq h3
    cases h
    exact fol_ev a _ _ _ h1
  | .get a k d, s, od, s', h => by
    obtain ⟨x, s1, h1, h⟩ := R.b_eq h
    obtain ⟨y, s2, h2, h⟩ := R.b_eq h
    obtain ⟨z, s3, h3, h⟩ := R.b_eq h
    have f := ((fol_ev a _ _ _ h1).trans (fol_ev k _ _ _ h2)).trans (fol_ev d _ _ _ h3)
    split at h
    · split at h
      · cases h; exact f
      · cases h
    · cases h
  | .lrev a, s, od, s', h => by
    obtain ⟨x, s1, h1, h⟩ := R.b_eq h
    split at h
    · cases h; exact fol_ev a _ _ _ h1
    · cases h
  | .pop i, s, od, s', h => by
    simp only [ev] at h
    split at h
    · split at h
      · split at h
        · cases h; exact FolX.refl _
        · cases h
      · cases h
    · cases h
theorem fol_evA : ∀ (es : List Ex) (s : S) (ds : List D) (s' : S), evA C es s = .ok ds s' → Fol s.r s'.r
  | [], s, od, s', h => by cases h; exact FolX.refl _
  | e :: es, s, od, s', h => by
    obtain ⟨x, s1, h1, h⟩ := R.b_eq h
    split at h
    · cases h
    · obtain ⟨y, s2, h2, h⟩ := R.b_eq h
      cases h
      exact (fol_ev e _ _ _ h1).trans (fol_evA es _ _ _ h2)
theorem fol_evF : ∀ (es : List Ex) (s : S) (ds : List D) (s' : S), evF C es s = .ok ds s' → Fol s.r s'.r
  | [], s, od, s', h => by cases h; exact FolX.refl _
  | e :: es, s, od, s', h => by
    obtain ⟨x, s1, h1, h⟩ := R.b_eq h
    split at h
    · cases h
    · obtain ⟨y, s2, h2, h⟩ := R.b_eq h
      cases h
      exact (fol_ev e _ _ _ h1).trans (fol_evF es _ _ _ h2)
theorem fol_evT : ∀ (e : Option Ex) (s : S) (b : Bool) (s' : S), evT C e s = .ok b s' → Fol s.r s'.r
  | none, s, od, s', h => by cases h; exact FolX.refl _
  | some e, s, od, s', h => by
    obtain ⟨x, s1, h1, h⟩ := R.b_eq h
    obtain ⟨h2, rfl⟩ := tru_eq h
    exact fol_ev e _ _ _ h1
end
end Q
end

section
set_option Elab.async false
set_option linter.all false
set_option maxRecDepth 100000
set_option maxHeartbeats 4000000
namespace Q
open PySem PySem.Spec PyProof.Rows L2
/-- what stands in G stands in H, maybe locked -/
def Le (G H : Hp) : Prop := ∀ a u, Rd G a u → Rd H a u
theorem Le.refl (G : Hp) : Le G G := fun _ _ h => h
theorem Le.trans {A B C : Hp} (h : Le A B) (k : Le B C) : Le A C := fun a u x => k a u (h a u x)
theorem Le.ex {G H : Hp} (h : Le G H) {a : Addr} {o : HO} (e : G a = some o) : ∃ u, H a = some u := by
  rcases h a o (.inl e) with x | ⟨_, x⟩ <;> exact ⟨_, x⟩
theorem Le.nov {G H : Hp} (h : Le G H) {a : Addr} (e : H a = none) : G a = none := by
  cases g : G a with
  | none => rfl
  | some o => obtain ⟨u, x⟩ := h.ex g; rw [e] at x; cases x
theorem Le.of {G H : Hp} (h : ∀ a o, G a = some o → H a = some o) : Le G H := fun a u r => by
  rcases r with x | ⟨od, x⟩
  · exact .inl (h _ _ x)
  · exact .inr ⟨od, h _ _ x⟩
theorem Le.new {H : Hp} {p : Addr} {o : HO} (h : H p = none) : Le H (upd H p o) := Le.of fun a u e => by
  rw [upd_ne (ne_of_none e h)]; exact e
theorem Le.add {G H : Hp} {p : Addr} {o : HO} (h : Le G H) (e : H p = some o) : Le (upd G p o) H := fun a u r => by
  by_cases x : a = p
  · subst x
    rcases r with y | ⟨od, y⟩
    · rw [upd_same] at y; cases y; exact .inl e
    · rw [upd_same] at y; cases y; exact .inr ⟨od, e⟩
  · refine h a u ?_
    rcases r with y | ⟨od, y⟩
    · rw [upd_ne x] at y; exact .inl y
    · rw [upd_ne x] at y; exact .inr ⟨od, y⟩
theorem Le.seqL {K : PySem.W.Frag} {G H : Hp} (h : Le G H) {a : Addr} {xs : List V} (s : SqL K G a xs) : SqL K H a xs := by
  rcases s with s | s
  · exact .inl (h _ _ s)
  · exact .inr s
theorem Le.seqT {K : PySem.W.Frag} {G H : Hp} (h : Le G H) {a : Addr} {xs : List V} (s : SqT K G a xs) : SqT K H a xs := by
  rcases s with s | s
  · exact .inl (h _ _ s)
  · exact .inr s
def keyD : D → Option Key
  | .int i => some (.inl i)
  | .str x => some (.inr x)
  | _ => none
mutual
inductive Rep (K : PySem.W.Frag) (cs : List Addr) (G : Hp) : V → D → Prop
  | non : Rep K cs G .non .non
  | bl (b : Bool) : Rep K cs G (.bl b) (.bl b)
  | int (i : Int) : Rep K cs G (.int i) (.int i)
  | str (x : Str) : Rep K cs G (.str x) (.str x)
  | tup {a : Addr} {vs : List V} {ds : List D} : SqT K G a vs → Reps K cs G vs ds → Rep K cs G (.ref a) (.tup ds)
  | lst {a : Addr} {vs : List V} {ds : List D} : SqL K G a vs → Reps K cs G vs ds → Rep K cs G (.ref a) (.lst ds)
  | dct {a : Addr} {kvs : List (Key × V)} {ds : List (D × D)} : Rd G a (.dK kvs) → RepK K cs G kvs ds → Rep K cs G (.ref a) (.dct ds)
  | cel {a : Addr} {n : Nat} : cs[n]? = some a → Rep K cs G (.ref a) (.cel n)
inductive Reps (K : PySem.W.Frag) (cs : List Addr) (G : Hp) : List V → List D → Prop
  | nil : Reps K cs G [] []
  | cons {v : V} {vs : List V} {d : D} {ds : List D} : Rep K cs G v d → Reps K cs G vs ds → Reps K cs G (v :: vs) (d :: ds)
inductive RepK (K : PySem.W.Frag) (cs : List Addr) (G : Hp) : List (Key × V) → List (D × D) → Prop
  | nil : RepK K cs G [] []
  | cons {k : Key} {v : V} {r : List (Key × V)} {kd d : D} {rd : List (D × D)} : keyD kd = some k → Rep K cs G v d → RepK K cs G r rd → RepK K cs G ((k, v) :: r) ((kd, d) :: rd)
end
def Pre (cs cs' : List Addr) : Prop := ∀ (n : Nat) (a : Addr), cs[n]? = some a → cs'[n]? = some a
theorem Pre.refl (cs : List Addr) : Pre cs cs := fun _ _ h => h
theorem Pre.trans {a b c : List Addr} (h : Pre a b) (k : Pre b c) : Pre a c := fun n x e => k n x (h n x e)
theorem Pre.mem {cs cs' : List Addr} (h : Pre cs cs') {a : Addr} (m : a ∈ cs) : a ∈ cs' := by
  obtain ⟨n, e⟩ := List.getElem?_of_mem m
  exact List.mem_of_getElem? (h n a e)
section
variable {K : PySem.W.Frag} {cs cs' : List Addr} {G G' : Hp}
mutual
theorem Rep.mono (p : Pre cs cs') (h : Le G G') : ∀ {v : V} {d : D}, Rep K cs G v d → Rep K cs' G' v d
  | _, _, .non => .non
  | _, _, .bl b => .bl b
  | _, _, .int b => .int b
  | _, _, .str b => .str b
  | _, _, .tup s r => .tup (h.seqT s) (Reps.mono p h r)
  | _, _, .lst s r => .lst (h.seqL s) (Reps.mono p h r)
  | _, _, .dct s r => .dct (h _ _ s) (RepK.mono p h r)
  | _, _, .cel e => .cel (p _ _ e)
theorem Reps.mono (p : Pre cs cs') (h : Le G G') : ∀ {v : List V} {d : List D}, Reps K cs G v d → Reps K cs' G' v d
  | _, _, .nil => .nil
  | _, _, .cons a b => .cons (Rep.mono p h a) (Reps.mono p h b)
theorem RepK.mono (p : Pre cs cs') (h : Le G G') : ∀ {v : List (Key × V)} {d : List (D × D)}, RepK K cs G v d → RepK K cs' G' v d
  | _, _, .nil => .nil
  | _, _, .cons e a b => .cons e (Rep.mono p h a) (RepK.mono p h b)
end
theorem Reps.len : ∀ {vs : List V} {ds : List D}, Reps K cs G vs ds → vs.length = ds.length
  | _, _, .nil => rfl
  | _, _, .cons _ r => by simp [r.len]
theorem Reps.get : ∀ {vs : List V} {ds : List D}, Reps K cs G vs ds → ∀ {i : Nat} {d : D}, ds[i]? = some d → ∃ v, vs[i]? = some v ∧ Rep K cs G v d
  | _, _, .nil, i, d, e => by simp at e
  | _, _, .cons a r, 0, d, e => by simp at e; subst e; exact ⟨_, rfl, a⟩
  | _, _, .cons a r, i + 1, d, e => by simpa using r.get (i := i) (by simpa using e)
theorem Reps.get' : ∀ {vs : List V} {ds : List D}, Reps K cs G vs ds → ∀ {i : Nat} {v : V}, vs[i]? = some v → ∃ d, ds[i]? = some d ∧ Rep K cs G v d
  | _, _, .nil, i, d, e => by simp at e
  | _, _, .cons a r, 0, d, e => by simp at e; subst e; exact ⟨_, rfl, a⟩
  | _, _, .cons a r, i + 1, d, e => by simpa using r.get' (i := i) (by simpa using e)
theorem Reps.app : ∀ {vs ws : List V} {ds es : List D}, Reps K cs G vs ds → Reps K cs G ws es → Reps K cs G (vs ++ ws) (ds ++ es)
  | _, _, _, _, .nil, s => s
  | _, _, _, _, .cons a r, s => .cons a (r.app s)
theorem Reps.rev : ∀ {vs : List V} {ds : List D}, Reps K cs G vs ds → Reps K cs G vs.reverse ds.reverse
  | _, _, .nil => .nil
  | _, _, .cons a r => by
    rw [List.reverse_cons, List.reverse_cons]
    exact r.rev.app (.cons a .nil)
theorem Reps.dropLast : ∀ {vs : List V} {ds : List D}, Reps K cs G vs ds → Reps K cs G vs.dropLast ds.dropLast
  | _, _, .nil => .nil
  | _, _, .cons a .nil => .nil
  | _, _, .cons a (.cons b r) => .cons a (Reps.dropLast (.cons b r))
theorem RepK.len : ∀ {vs : List (Key × V)} {ds : List (D × D)}, RepK K cs G vs ds → vs.length = ds.length
  | _, _, .nil => rfl
  | _, _, .cons _ _ r => by simp [r.len]
theorem Rep.int_inv {v : V} {i : Int} (r : Rep K cs G v (.int i)) : v = .int i := by cases r; rfl
theorem Rep.bl_inv {v : V} {i : Bool} (r : Rep K cs G v (.bl i)) : v = .bl i := by cases r; rfl
theorem Rep.str_inv {v : V} {i : Str} (r : Rep K cs G v (.str i)) : v = .str i := by cases r; rfl
theorem Rep.non_inv {v : V} (r : Rep K cs G v .non) : v = .non := by cases r; rfl
theorem Rep.tup_inv {v : V} {ds : List D} (r : Rep K cs G v (.tup ds)) : ∃ a vs, v = .ref a ∧ SqT K G a vs ∧ Reps K cs G vs ds := by cases r; exact ⟨_, _, rfl, ‹_›, ‹_›⟩
theorem Rep.lst_inv {v : V} {ds : List D} (r : Rep K cs G v (.lst ds)) : ∃ a vs, v = .ref a ∧ SqL K G a vs ∧ Reps K cs G vs ds := by cases r; exact ⟨_, _, rfl, ‹_›, ‹_›⟩
theorem Rep.dct_inv {v : V} {ds : List (D × D)} (r : Rep K cs G v (.dct ds)) : ∃ a vs, v = .ref a ∧ Rd G a (.dK vs) ∧ RepK K cs G vs ds := by cases r; exact ⟨_, _, rfl, ‹_›, ‹_›⟩
theorem Rep.cel_inv {v : V} {n : Nat} (r : Rep K cs G v (.cel n)) : ∃ a, v = .ref a ∧ cs[n]? = some a := by cases r; exact ⟨_, rfl, ‹_›⟩
end
/-! ### the world -/
/-- what a def was entered with: the heap, its frozen part; which dicts are locked -/
structure Bs where
  h0 : Hp
  g0 : Hp
  lk : List (Addr × Obj)
structure Wd (K : PySem.W.Frag) (B : Bs) (cs : List Addr) (G : Hp) (c : Cells) (H : Hp) : Prop where
  le : Le G H
  gl : Le B.g0 G
  gn : ∀ a o, G a = some o → B.g0 a ≠ none ∨ B.h0 a = none
  cg : ∀ a ∈ cs, G a = none
  nd : cs.Nodup
  len : c.length = cs.length
  cel : ∀ (n : Nat) (a : Addr) (ds : List D), cs[n]? = some a → c[n]? = some ds → ∃ vs, H a = some (.lst vs) ∧ Reps K cs G vs ds
  lok : ∀ p ∈ B.lk, ∃ kvs, G p.1 = some (.dK kvs) ∧ H p.1 = some (.frz p.2 (.dK kvs))
  fr : ∀ a o, B.h0 a = some o → a ∉ cs → H a = some o ∨ ∃ od, (a, od) ∈ B.lk ∧ H a = some (.frz od o)
/-- an owned list, dict at p -/
def Own (K : PySem.W.Frag) (cs : List Addr) (G H : Hp) (p : Addr) : D → Prop
  | .lst ds => ∃ vs, H p = some (.lst vs) ∧ Reps K cs G vs ds
  | .dct ds => ∃ vs, H p = some (.dK vs) ∧ RepK K cs G vs ds
  | _ => False
def ValR (K : PySem.W.Frag) (B : Bs) (cs : List Addr) (G H : Hp) : Bool → V → D → Prop
  | false, v, d => Rep K cs G v d
  | true, v, d => ∃ p, v = .ref p ∧ G p = none ∧ p ∉ cs ∧ B.h0 p = none ∧ Own K cs G H p d
structure En (K : PySem.W.Frag) (B : Bs) (cs : List Addr) (G H : Hp) (r : Row) (σ : L2.St) : Prop where
  len : σ.length = r.length
  val : ∀ (i : Nat) (o : Bool) (d : D), r[i]? = some (some (o, d)) → ∃ v, σ[i]? = some (some v) ∧ ValR K B cs G H o v d
  dis : ∀ (i j : Nat) (d e : D) (v : V), i ≠ j → r[i]? = some (some (true, d)) → r[j]? = some (some (true, e)) → σ[i]? = some (some v) → σ[j]? ≠ some (some v)
/-- as an operand -/
def Vw (K : PySem.W.Frag) (cs : List Addr) (G H : Hp) (v : V) (d : D) : Prop := Rep K cs G v d ∨ ∃ p, v = .ref p ∧ p ∉ cs ∧ Own K cs G H p d
structure Stp (cs : List Addr) (G H : Hp) (cs' : List Addr) (G' H' : Hp) : Prop where
  pre : Pre cs cs'
  new : ∀ a ∈ cs', a ∈ cs ∨ H a = none
  le : Le G G'
  keep : ∀ a o, a ∉ cs → H a = some o → H' a = some o
theorem Stp.refl (cs : List Addr) (G H : Hp) : Stp cs G H cs G H := ⟨Pre.refl _, fun _ h => .inl h, Le.refl _, fun _ _ _ h => h⟩
theorem Stp.trans {cs cs1 cs2 : List Addr} {G G1 G2 H H1 H2 : Hp} (a : Stp cs G H cs1 G1 H1) (b : Stp cs1 G1 H1 cs2 G2 H2) : Stp cs G H cs2 G2 H2 where
  pre := a.pre.trans b.pre
  new := fun x m => by
    rcases b.new x m with h | h
    · exact a.new x h
    · by_cases e : x ∈ cs
      · exact .inl e
      · right
        cases g : H x with
        | none => rfl
        | some o => rw [a.keep x o e g] at h; cases h
  le := a.le.trans b.le
  keep := fun x o n h => by
    have h1 := a.keep x o n h
    refine b.keep x o (fun m => ?_) h1
    rcases a.new x m with y | y
    · exact n y
    · rw [h] at y; cases y
section
variable {K : PySem.W.Frag} {cs cs' : List Addr} {B : Bs} {G G' H H' : Hp} {c c' : Cells} {r : Row} {σ : L2.St} {v : V} {d : D} {p : Addr} {o : HO}
theorem Own.mono (s : Stp cs G H cs' G' H') (n : p ∉ cs) (h : Own K cs G H p d) : Own K cs' G' H' p d := by
  cases d with
  | lst ds => obtain ⟨vs, e, r⟩ := h; exact ⟨vs, s.keep _ _ n e, r.mono s.pre s.le⟩
  | dct ds => obtain ⟨vs, e, r⟩ := h; exact ⟨vs, s.keep _ _ n e, r.mono s.pre s.le⟩
  | _ => exact h.elim
theorem Own.there (h : Own K cs G H p d) : ∃ o, H p = some o := by
  cases d with
  | lst ds => obtain ⟨vs, e, r⟩ := h; exact ⟨_, e⟩
  | dct ds => obtain ⟨vs, e, r⟩ := h; exact ⟨_, e⟩
  | _ => exact h.elim
theorem Stp.nin (s : Stp cs G H cs' G' H') (n : p ∉ cs) (e : H p = some o) : p ∉ cs' := fun m => by
  rcases s.new p m with y | y
  · exact n y
  · rw [e] at y; cases y
theorem Vw.mono (s : Stp cs G H cs' G' H') (h : Vw K cs G H v d) : Vw K cs' G' H' v d := by
  rcases h with h | ⟨p, e, n, h⟩
  · exact .inl (h.mono s.pre s.le)
  · obtain ⟨o, x⟩ := h.there
    exact .inr ⟨p, e, s.nin n x, h.mono s n⟩
theorem ValR.vw {b : Bool} (h : ValR K B cs G H b v d) : Vw K cs G H v d := by
  cases b with
  | false => exact .inl h
  | true => obtain ⟨p, e, _, n, _, h⟩ := h; exact .inr ⟨p, e, n, h⟩
theorem Vw.int {i : Int} (h : Vw K cs G H v (.int i)) : v = .int i := by
  rcases h with h | ⟨p, e, n, h⟩
  · exact h.int_inv
  · exact h.elim
theorem Vw.bl {i : Bool} (h : Vw K cs G H v (.bl i)) : v = .bl i := by
  rcases h with h | ⟨p, e, n, h⟩
  · exact h.bl_inv
  · exact h.elim
theorem Vw.str {i : Str} (h : Vw K cs G H v (.str i)) : v = .str i := by
  rcases h with h | ⟨p, e, n, h⟩
  · exact h.str_inv
  · exact h.elim
theorem Vw.non (h : Vw K cs G H v .non) : v = .non := by
  rcases h with h | ⟨p, e, n, h⟩
  · exact h.non_inv
  · exact h.elim
theorem Vw.lst {ds : List D} (le : Le G H) (h : Vw K cs G H v (.lst ds)) : ∃ a vs, v = .ref a ∧ SqL K H a vs ∧ Reps K cs G vs ds := by
  rcases h with h | ⟨p, e, n, h⟩
  · obtain ⟨a, vs, e, s, r⟩ := h.lst_inv
    exact ⟨a, vs, e, le.seqL s, r⟩
  · obtain ⟨vs, x, r⟩ := h
    exact ⟨p, vs, e, .of x, r⟩
theorem Vw.tup {ds : List D} (le : Le G H) (h : Vw K cs G H v (.tup ds)) : ∃ a vs, v = .ref a ∧ SqT K H a vs ∧ Reps K cs G vs ds := by
  rcases h with h | ⟨p, e, n, h⟩
  · obtain ⟨a, vs, e, s, r⟩ := h.tup_inv
    exact ⟨a, vs, e, le.seqT s, r⟩
  · exact h.elim
theorem Vw.dct {ds : List (D × D)} (le : Le G H) (h : Vw K cs G H v (.dct ds)) : ∃ a vs, v = .ref a ∧ Rd H a (.dK vs) ∧ RepK K cs G vs ds := by
  rcases h with h | ⟨p, e, n, h⟩
  · obtain ⟨a, vs, e, s, r⟩ := h.dct_inv
    exact ⟨a, vs, e, le _ _ s, r⟩
  · obtain ⟨vs, x, r⟩ := h
    exact ⟨p, vs, e, .inl x, r⟩
theorem Vw.cel {n : Nat} (h : Vw K cs G H v (.cel n)) : ∃ a, v = .ref a ∧ cs[n]? = some a := by
  rcases h with h | ⟨p, e, n, h⟩
  · exact h.cel_inv
  · exact h.elim
/-! ### a new object -/
theorem Wd.cut (w : Wd K B cs G c H) {a : Addr} (m : a ∈ cs) : ∃ vs, H a = some (.lst vs) := by
  obtain ⟨n, e⟩ := List.getElem?_of_mem m
  have hn : n < cs.length := (List.getElem?_eq_some_iff.mp e).1
  rw [← w.len] at hn
  obtain ⟨vs, h, _⟩ := w.cel n a c[n] e (List.getElem?_eq_getElem hn)
  exact ⟨vs, h⟩
theorem Wd.fresh (w : Wd K B cs G c H) (h : H p = none) : G p = none ∧ p ∉ cs ∧ B.h0 p = none := by
  have n : p ∉ cs := fun m => by obtain ⟨vs, e⟩ := w.cut m; rw [h] at e; cases e
  refine ⟨w.le.nov h, n, ?_⟩
  cases g : B.h0 p with
  | none => rfl
  | some o =>
    rcases w.fr p o g n with e | ⟨od, _, e⟩
    · rw [h] at e; cases e
    · rw [h] at e; cases e
theorem Stp.alloc (w : Wd K B cs G c H) (h : H p = none) : Stp cs G H cs G (upd H p o) :=
  ⟨Pre.refl _, fun _ h => .inl h, Le.refl _, fun a u _ e => by rw [upd_ne (ne_of_none e h)]; exact e⟩
theorem Wd.alloc (w : Wd K B cs G c H) (h : H p = none) : Wd K B cs G c (upd H p o) where
  le := w.le.trans (Le.new h)
  gl := w.gl
  gn := w.gn
  cg := w.cg
  nd := w.nd
  len := w.len
  cel := fun n a ds e1 e2 => by
    obtain ⟨vs, x, r⟩ := w.cel n a ds e1 e2
    exact ⟨vs, by rw [upd_ne (ne_of_none x h)]; exact x, r⟩
  lok := fun q m => by
    obtain ⟨u, x, y⟩ := w.lok q m
    exact ⟨u, x, by rw [upd_ne (ne_of_none y h)]; exact y⟩
  fr := fun a u e n => by
    rcases w.fr a u e n with x | ⟨od, m, x⟩
    · exact .inl (by rw [upd_ne (ne_of_none x h)]; exact x)
    · exact .inr ⟨od, m, by rw [upd_ne (ne_of_none x h)]; exact x⟩
/-- the frozen part grows by an object that stands -/
theorem Wd.grow (w : Wd K B cs G c H) (e : H p = some o) (n : p ∉ cs) (g : G p = none) (z : B.h0 p = none) : Wd K B cs (upd G p o) c H where
  le := w.le.add e
  gl := w.gl.trans (Le.new g)
  gn := fun a u x => by
    by_cases y : a = p
    · exact .inr (by rw [y]; exact z)
    · rw [upd_ne y] at x; exact w.gn a u x
  cg := fun a m => by
    rw [upd_ne (fun (x : a = p) => n (by rw [← x]; exact m))]; exact w.cg a m
  nd := w.nd
  len := w.len
  cel := fun i a ds e1 e2 => by
    obtain ⟨vs, x, r⟩ := w.cel i a ds e1 e2
    exact ⟨vs, x, r.mono (Pre.refl _) (Le.new g)⟩
  lok := fun q m => by
    obtain ⟨u, x, y⟩ := w.lok q m
    exact ⟨u, by rw [upd_ne (ne_of_none x g)]; exact x, y⟩
  fr := w.fr
theorem En.mono (e : En K B cs G H r σ) (s : Stp cs G H cs' G' H') (g : ∀ (i : Nat) (d : D) (p : Addr), r[i]? = some (some (true, d)) → σ[i]? = some (some (.ref p)) → G' p = none) : En K B cs' G' H' r σ where
  len := e.len
  val := fun i o d h => by
    obtain ⟨v, x, q⟩ := e.val i o d h
    refine ⟨v, x, ?_⟩
    cases o with
    | false => exact q.mono s.pre s.le
    | true =>
      obtain ⟨p, rfl, _, n, z, w⟩ := q
      obtain ⟨o, y⟩ := w.there
      exact ⟨p, rfl, g i d p h x, s.nin n y, z, w.mono s n⟩
  dis := e.dis
theorem En.alloc (e : En K B cs G H r σ) (w : Wd K B cs G c H) (h : H p = none) : En K B cs G (upd H p o) r σ := e.mono (Stp.alloc w h) fun i d q hi hs => by
  obtain ⟨v, x, y⟩ := e.val i true d hi
  rw [hs] at x; cases x
  obtain ⟨_, e1, g, _⟩ := y
  cases e1; exact g
end
end Q
end

section
set_option Elab.async false
set_option linter.all false
set_option maxRecDepth 100000
set_option maxHeartbeats 4000000
namespace Q
open PySem PySem.Spec PyProof.Rows L2
/-- it comes to an end with P -/
def Rn {σ α : Type} (r : R σ α) (P : α → σ → Prop) : Prop := match r with
  | .ok a s => P a s
  | _ => False
theorem Rn.ok {σ α : Type} {a : α} {s : σ} {P : α → σ → Prop} (h : P a s) : Rn (.ok a s) P := h
theorem Rn.b {σ τ α β : Type} {r : R σ α} {f : α → σ → R τ β} {P : β → τ → Prop} (h : Rn (r.b f) P) : Rn r fun a s => Rn (f a s) P := by
  cases r with
  | ok a s => exact h
  | exc e c => exact h.elim
  | bad => exact h.elim
theorem Rn.mono {σ α : Type} {r : R σ α} {P Q : α → σ → Prop} (h : Rn r P) (k : ∀ a s, P a s → Q a s) : Rn r Q := by
  cases r with
  | ok a s => exact k _ _ h
  | exc e c => exact h.elim
  | bad => exact h.elim
theorem Rn.of {σ α : Type} {o : Option α} {s : σ} {P : α → σ → Prop} (h : Rn (R.of o s) P) : ∃ a, o = some a ∧ P a s := by
  cases o with
  | some a => exact ⟨a, rfl, h⟩
  | none => exact h.elim
theorem Rn.eq {σ α : Type} {r : R σ α} {P : α → σ → Prop} (h : Rn r P) : ∃ a s, r = .ok a s ∧ P a s := by
  cases r with
  | ok a s => exact ⟨a, s, rfl, h⟩
  | exc e c => exact h.elim
  | bad => exact h.elim
structure At (K : PySem.W.Frag) (B : Bs) (cs : List Addr) (G : Hp) (s : S) (σ : L2.St) (H : Hp) : Prop where
  wd : Wd K B cs G s.c H
  en : En K B cs G H s.r σ
def Res (K : PySem.W.Frag) (B : Bs) (cs : List Addr) (G H : Hp) (s : S) (σ : L2.St) (pk : Bool) (vi : Option Nat) (od : Bool × D) (v : V) : Prop :=
  ValR K B cs G H od.1 v od.2 ∧ (od.1 = true → pk = false → ∀ (i : Nat) (e : D), s.r[i]? = some (some (true, e)) → σ[i]? ≠ some (some v)) ∧ ∀ i, vi = some i → σ[i]? = some (some v)
def vOf : Ex → Option Nat
  | .v i => some i
  | _ => none
/-- what an expression's end is worth -/
def Ps (K : PySem.W.Frag) (B : Bs) (cs : List Addr) (G H : Hp) (σ : L2.St) (pk : Bool) (vi : Option Nat) (Q : VK) (od : Bool × D) (s' : S) : Prop :=
  ∀ v cs' G' H', Stp cs G H cs' G' H' → At K B cs' G' s' σ H' → Res K B cs' G' H' s' σ pk vi od v → Q v H'
def tE (X : Cx) (C : Cl) (x : Ex) : TE := fun σ H Q => ∃ B cs G s, At X.K B cs G s σ H ∧ Rn (ev C x s) (Ps X.K B cs G H σ (isPk x) (vOf x) Q)
def tT (X : Cx) (C : Cl) (x : Ex) : TT := fun σ H Q => ∃ B cs G s, At X.K B cs G s σ H ∧ Rn ((ev C x s).b tru) fun b s' =>
  ∀ cs' G' H', Stp cs G H cs' G' H' → At X.K B cs' G' s' σ H' → Q b H'
theorem peM {X : Cx} {e : Expr} {t t' : TE} (h : PE X e t) (m : ∀ σ H Q, t' σ H Q → t σ H Q) : PE X e t' := ⟨fun pins s σ H Q I q => h.run pins s σ H Q I (m σ H Q q)⟩
theorem ptM {X : Cx} {e : Expr} {t t' : TT} (h : PT X e t) (m : ∀ σ H Q, t' σ H Q → t σ H Q) : PT X e t' := ⟨fun pins s σ H Q I q => h.run pins s σ H Q I (m σ H Q q)⟩
theorem pwM {X : Cx} {e : Expr} {t t' : TT} (h : PW X e t) (m : ∀ σ H Q, t' σ H Q → t σ H Q) : PW X e t' := ⟨fun w pins s σ H Q I q => h.run w pins s σ H Q I (m σ H Q q)⟩
theorem peOr {X : Cx} {e : Expr} {t t' : TE} (h : PE X e t) (h' : PE X e t') : PE X e (fun σ H Q => t σ H Q ∨ t' σ H Q) := ⟨fun pins s σ H Q I q => q.elim (h.run pins s σ H Q I) (h'.run pins s σ H Q I)⟩
section
variable {K : PySem.W.Frag} {cs : List Addr} {B : Bs} {G H : Hp} {s : S} {σ : L2.St} {v : V} {d : D} {p : Addr} {Q : VK} {pk : Bool}
/-! ### what is made -/
theorem Ps.scal (at_ : At K B cs G s σ H) (r : Rep K cs G v d) (q : Ps K B cs G H σ pk none Q (false, d) s) : Q v H :=
  q v cs G H (Stp.refl _ _ _) at_ ⟨r, fun h => (nomatch h), fun _ h => nomatch h⟩
theorem At.alloc {o : HO} (at_ : At K B cs G s σ H) (h : H p = none) : At K B cs G s σ (upd H p o) := ⟨at_.wd.alloc h, at_.en.alloc at_.wd h⟩
theorem At.nown (at_ : At K B cs G s σ H) (h : H p = none) (i : Nat) (e : D) (hi : s.r[i]? = some (some (true, e))) : σ[i]? ≠ some (some (.ref p)) := fun x => by
  obtain ⟨v, y, q, rfl, _, _, _, w⟩ := at_.en.val i true e hi
  rw [x] at y; cases y
  obtain ⟨o, z⟩ := w.there
  rw [h] at z; cases z
/-- the frozen part grows -/
theorem At.grow {o : HO} (at_ : At K B cs G s σ H) (e : H p = some o) (n : p ∉ cs) (g : G p = none) (z : B.h0 p = none) (no : ∀ (i : Nat) (d : D), s.r[i]? = some (some (true, d)) → σ[i]? ≠ some (some (.ref p))) : At K B cs (upd G p o) s σ H :=
  ⟨at_.wd.grow e n g z, at_.en.mono ⟨Pre.refl _, fun _ h => .inl h, Le.new g, fun _ _ _ h => h⟩ fun i d q hi hs => by
    rw [upd_ne (fun (x : q = p) => no i d hi (by rw [← x]; exact hs))]
    obtain ⟨v, x, y⟩ := at_.en.val i true d hi
    rw [hs] at x; cases x
    obtain ⟨_, e1, g, _⟩ := y
    cases e1; exact g⟩
theorem Ps.tup {vs : List V} {ds : List D} (at_ : At K B cs G s σ H) (r : Reps K cs G vs ds) (h : H p = none) (q : Ps K B cs G H σ pk none Q (false, .tup ds) s) : Q (.ref p) (upd H p (.tup vs)) := by
  obtain ⟨g, n, z⟩ := at_.wd.fresh h
  have a1 : At K B cs G s σ (upd H p (.tup vs)) := at_.alloc h
  have a2 := a1.grow upd_same n g z (at_.nown h)
  refine q _ cs (upd G p (.tup vs)) _ ⟨Pre.refl _, fun _ h => .inl h, Le.new g, (Stp.alloc at_.wd h).keep⟩ a2 ⟨?_, fun h => (nomatch h), fun _ h => nomatch h⟩
  exact .tup (.of upd_same) (r.mono (Pre.refl _) (Le.new g))
theorem Ps.lst {vs : List V} {ds : List D} (at_ : At K B cs G s σ H) (r : Reps K cs G vs ds) (h : H p = none) (q : Ps K B cs G H σ pk none Q (true, .lst ds) s) : Q (.ref p) (upd H p (.lst vs)) := by
  obtain ⟨g, n, z⟩ := at_.wd.fresh h
  exact q _ cs G _ (Stp.alloc at_.wd h) (at_.alloc h) ⟨⟨p, rfl, g, n, z, vs, upd_same, r⟩, fun _ _ => at_.nown h, fun _ h => nomatch h⟩
theorem Ps.dct {vs : List (Key × V)} {ds : List (D × D)} (at_ : At K B cs G s σ H) (r : RepK K cs G vs ds) (h : H p = none) (q : Ps K B cs G H σ pk none Q (true, .dct ds) s) : Q (.ref p) (upd H p (.dK vs)) := by
  obtain ⟨g, n, z⟩ := at_.wd.fresh h
  exact q _ cs G _ (Stp.alloc at_.wd h) (at_.alloc h) ⟨⟨p, rfl, g, n, z, vs, upd_same, r⟩, fun _ _ => at_.nown h, fun _ h => nomatch h⟩
/-- an owned result joins the frozen part -/
theorem Res.freeze {od : Bool × D} (at_ : At K B cs G s σ H) {vi : Option Nat} (r : Res K B cs G H s σ pk vi od v) (np : (od.1 && pk) = false) : ∃ G', Le G G' ∧ At K B cs G' s σ H ∧ Rep K cs G' v od.2 := by
  obtain ⟨o, d⟩ := od
  cases o with
  | false => exact ⟨G, Le.refl _, at_, r.1⟩
  | true =>
    obtain ⟨⟨p, rfl, g, n, z, w⟩, no, _⟩ := r
    have np' : pk = false := by simpa using np
    cases d with
    | lst ds =>
      obtain ⟨vs, e, q⟩ := w
      exact ⟨_, Le.new g, at_.grow e n g z (no rfl np'), .lst (.of upd_same) (q.mono (Pre.refl _) (Le.new g))⟩
    | dct ds =>
      obtain ⟨vs, e, q⟩ := w
      exact ⟨_, Le.new g, at_.grow e n g z (no rfl np'), .dct (.inl upd_same) (q.mono (Pre.refl _) (Le.new g))⟩
    | _ => exact w.elim
theorem Stp.grow {G' : Hp} (h : Le G G') : Stp cs G H cs G' H := ⟨Pre.refl _, fun _ h => .inl h, h, fun _ _ _ h => h⟩
end
/-! ### == -/
mutual
def toPy : D → PyData
  | .non => .none
  | .bl b => .bool b
  | .int i => .int i
  | .str x => .str x
  | .tup ds => .tuple (toPys ds)
  | .lst ds => .list (toPys ds)
  | .dct _ => .none
  | .cel _ => .none
def toPys : List D → List PyData
  | [] => []
  | d :: ds => toPy d :: toPys ds
end
mutual
theorem toPy_ok : ∀ (d : D) (n : Nat), pl n d = true → (toPy d).canLay0 = true ∧ (toPy d).depth ≤ n
  | .non, n, _ => ⟨rfl, Nat.zero_le _⟩
  | .bl _, n, _ => ⟨rfl, Nat.zero_le _⟩
  | .int _, n, _ => ⟨rfl, Nat.zero_le _⟩
  | .str x, n, h => ⟨by simpa [toPy, PyData.canLay0, pl] using h, Nat.zero_le _⟩
  | .tup ds, 0, h => by simp [pl] at h
  | .lst ds, 0, h => by simp [pl] at h
  | .tup ds, n + 1, h => by
    have := toPys_ok ds n (by simpa [pl] using h)
    exact ⟨this.1, Nat.succ_le_succ this.2⟩
  | .lst ds, n + 1, h => by
    have := toPys_ok ds n (by simpa [pl] using h)
    exact ⟨this.1, Nat.succ_le_succ this.2⟩
  | .dct _, n, h => by cases n <;> simp [pl] at h
  | .cel _, n, h => by cases n <;> simp [pl] at h
theorem toPys_ok : ∀ (ds : List D) (n : Nat), ds.all (pl n) = true → PyData.canLayAll0 (toPys ds) = true ∧ PyData.depthAll (toPys ds) ≤ n
  | [], n, _ => ⟨rfl, Nat.zero_le _⟩
  | d :: ds, n, h => by
    rw [List.all_cons, Bool.and_eq_true] at h
    have h1 := toPy_ok d n h.1
    have h2 := toPys_ok ds n h.2
    exact ⟨by simp [toPys, PyData.canLayAll0, h1.1, h2.1], by simp only [toPys, PyData.depthAll]; omega⟩
end
theorem bI_eq (b : Bool) : (if b = true then (1 : Int) else 0) = bI b := rfl
mutual
theorem eqv_toPy : ∀ (a b : D) (n m : Nat), pl n a = true → pl m b = true → PyData.eqv (toPy a) (toPy b) = eqD a b
  | .tup xs, .tup ys, n + 1, m + 1, h, k => by
    have := eqvs_toPy xs ys n m (by simpa [pl] using h) (by simpa [pl] using k)
    simpa [toPy, PyData.eqv, eqD] using this
  | .lst xs, .lst ys, n + 1, m + 1, h, k => by
    have := eqvs_toPy xs ys n m (by simpa [pl] using h) (by simpa [pl] using k)
    simpa [toPy, PyData.eqv, eqD] using this
  | .tup _, _, 0, _, h, _ => by simp [pl] at h
  | .lst _, _, 0, _, h, _ => by simp [pl] at h
  | _, .tup _, _, 0, _, h => by simp [pl] at h
  | _, .lst _, _, 0, _, h => by simp [pl] at h
  | .dct _, _, n, _, h, _ => by cases n <;> simp [pl] at h
  | .cel _, _, n, _, h, _ => by cases n <;> simp [pl] at h
  | _, .dct _, _, n, _, h => by cases n <;> simp [pl] at h
  | _, .cel _, _, n, _, h => by cases n <;> simp [pl] at h
  | .non, .non, _, _, _, _ => rfl
  | .non, .bl _, _, _, _, _ => rfl
  | .non, .int _, _, _, _, _ => rfl
  | .non, .str _, _, _, _, _ => rfl
  | .non, .tup _, _, _, _, _ => rfl
  | .non, .lst _, _, _, _, _ => rfl
  | .bl _, .non, _, _, _, _ => rfl
  | .bl _, .bl _, _, _, _, _ => rfl
  | .bl b, .int _, _, _, _, _ => by cases b <;> rfl
  | .bl _, .str _, _, _, _, _ => rfl
  | .bl _, .tup _, _, _, _, _ => rfl
  | .bl _, .lst _, _, _, _, _ => rfl
  | .int _, .non, _, _, _, _ => rfl
  | .int _, .bl b, _, _, _, _ => by cases b <;> rfl
  | .int _, .int _, _, _, _, _ => rfl
  | .int _, .str _, _, _, _, _ => rfl
  | .int _, .tup _, _, _, _, _ => rfl
  | .int _, .lst _, _, _, _, _ => rfl
  | .str _, .non, _, _, _, _ => rfl
  | .str _, .bl _, _, _, _, _ => rfl
  | .str _, .int _, _, _, _, _ => rfl
  | .str _, .str _, _, _, _, _ => rfl
  | .str _, .tup _, _, _, _, _ => rfl
  | .str _, .lst _, _, _, _, _ => rfl
  | .tup _, .non, _, _, _, _ => rfl
  | .tup _, .bl _, _, _, _, _ => rfl
  | .tup _, .int _, _, _, _, _ => rfl
  | .tup _, .str _, _, _, _, _ => rfl
  | .tup _, .lst _, _, _, _, _ => rfl
  | .lst _, .non, _, _, _, _ => rfl
  | .lst _, .bl _, _, _, _, _ => rfl
  | .lst _, .int _, _, _, _, _ => rfl
  | .lst _, .str _, _, _, _, _ => rfl
  | .lst _, .tup _, _, _, _, _ => rfl
theorem eqvs_toPy : ∀ (a b : List D) (n m : Nat), a.all (pl n) = true → b.all (pl m) = true → PyData.eqvAll (toPys a) (toPys b) = eqDs a b
  | [], [], _, _, _, _ => rfl
  | [], _ :: _, _, _, _, _ => rfl
  | _ :: _, [], _, _, _, _ => rfl
  | x :: xs, y :: ys, n, m, h, k => by
    rw [List.all_cons, Bool.and_eq_true] at h k
    simp only [toPys, PyData.eqvAll, eqDs]
    rw [eqv_toPy x y n m h.1 k.1, eqvs_toPy xs ys n m h.2 k.2]
end
section
variable {K : PySem.W.Frag} {cs : List Addr} {G H : Hp}
mutual
theorem Rep.dp (le : Le G H) : ∀ (d : D) (v : V) (n : Nat), pl n d = true → Rep K cs G v d → Dp K H v (toPy d)
  | .non, _, _, _, .non => .non
  | .bl _, _, _, _, .bl _ => .bl _
  | .int _, _, _, _, .int _ => .int _
  | .str _, _, _, _, .str _ => .str _
  | .tup ds, _, 0, h, _ => by simp [pl] at h
  | .lst ds, _, 0, h, _ => by simp [pl] at h
  | .tup ds, _, n + 1, h, .tup s r => .tup (le.seqT s) (Reps.dp le ds _ n (by simpa [pl] using h) r)
  | .lst ds, _, n + 1, h, .lst s r => .lst (le.seqL s) (Reps.dp le ds _ n (by simpa [pl] using h) r)
  | .dct _, _, n, h, _ => by cases n <;> simp [pl] at h
  | .cel _, _, n, h, _ => by cases n <;> simp [pl] at h
theorem Reps.dp (le : Le G H) : ∀ (d : List D) (v : List V) (n : Nat), d.all (pl n) = true → Reps K cs G v d → DpAll K H v (toPys d)
  | [], _, _, _, .nil => .nil
  | d :: ds, _, n, h, .cons a r => by
    rw [List.all_cons, Bool.and_eq_true] at h
    exact .cons (Rep.dp le d _ n h.1 a) (Reps.dp le ds _ n h.2 r)
end
theorem Vw.dp (le : Le G H) {d : D} {v : V} {n : Nat} (h : pl n d = true) (w : Vw K cs G H v d) : Dp K H v (toPy d) := by
  rcases w with w | ⟨p, e, _, w⟩
  · exact w.dp le d v n h
  · cases d with
    | lst ds =>
      obtain ⟨vs, x, r⟩ := w
      cases n with
      | zero => simp [pl] at h
      | succ n => subst e; exact .lst (.of x) (r.dp le ds vs n (by simpa [pl] using h))
    | dct ds => cases n <;> simp [pl] at h
    | _ => exact w.elim
end
end Q
end

section
set_option Elab.async false
set_option linter.all false
set_option maxRecDepth 100000
set_option maxHeartbeats 4000000
namespace Q
open PySem PySem.Spec PyProof.Rows L2
theorem lim_le {n : Nat} (h : n ≤ lim) : n ≤ sizeLine := Nat.le_trans h (by decide)
theorem lim_lt {n : Nat} (h : n < lim) : n < sizeLine := Nat.lt_of_lt_of_le h (by decide)
/-! ### rules of the layer, put together -/
def rLCat (K : PySem.W.Frag) : R2 := fun x y H Q => ∃ a b xs ys, x = .ref a ∧ y = .ref b ∧ SqL K H a xs ∧ SqL K H b ys ∧ xs.length + ys.length ≤ sizeLine ∧ ∀ p, H p = none → Q (.ref p) (upd H p (.lst (xs ++ ys)))
theorem o_lcat {X : Cx} : OpR X (binaryOp .Add) (rLCat X.K) := by
  intro pins s σ H x y v u Q I rx ry ⟨a, b, xs, ys, e1, e2, h1, h2, hz, q⟩
  subst e1; subst e2
  cases rx
  cases ry
  obtain ⟨ia, r1, p1, _⟩ := I.list h1
  obtain ⟨ib, r2, p2, _⟩ := I.list h2
  obtain ⟨⟨k1, t1, w1, sl1⟩, g1, c1, n1, d1⟩ := p1.isList
  obtain ⟨⟨k2, t2, w2, sl2⟩, g2, c2, n2, d2⟩ := p2.isList
  simp only at c1 d1 c2 d2
  subst c1 d1 c2 d2
  have l1 := r1.length
  have l2 := r2.length
  have ea : ia.toArray ++ ib.toArray = (ia ++ ib).toArray := by simp
  refine concat_meets ⟨_, g1, rfl⟩ ⟨_, g2, rfl⟩ noFill_list_add seq_list_add PySem.F.slot_list_add PySem.F.entry_list_add (PySem.F.args_list_add_2 _ _) (list_addW a b ia.toArray ib.toArray n1 n2 t1 t2 sl1 sl2 (by simp only [List.size_toArray]; omega)) ⟨g1, g2, ?_⟩
  rw [ea]
  exact ⟨.ref _, _, I.lnew (t' := s.toks) (r1.append r2) (by rw [List.length_append]; omega), rfl, q _ I.fresh⟩
def rTru (K : PySem.W.Frag) : V → Hp → (Bool → Hp → Prop) → Prop := fun x H Q => (∃ k, TruV K x H k ∧ Q k H) ∨ ∃ p kvs, x = .ref p ∧ Rd H p (.dK kvs) ∧ Q (!kvs.isEmpty) H
theorem o_tru {X : Cx} : TruR X (rTru X.K) := by
  intro pins s σ H x v Q I rx h
  rcases h with h | ⟨p, kvs, e, h, q⟩
  · exact tru_ok pins s σ H x v Q I rx h
  · subst e
    cases rx
    exact d_truth I h fun s' I' => ⟨H, I', q⟩
def rLen (K : PySem.W.Frag) : List V → Hp → VK → Prop := fun xs H Q => (∃ p ys, xs = [.ref p] ∧ (SqL K H p ys ∨ SqT K H p ys) ∧ Q (.int ys.length) H) ∨ ∃ p kvs, xs = [.ref p] ∧ Rd H p (.dK kvs) ∧ Q (.int kvs.length) H
theorem o_len {X : Cx} : CallR X (.builtin "len") (rLen X.K) := by
  intro pins s σ H xs us Q I r h
  rcases h with h | ⟨p, kvs, e, h, q⟩
  · exact call_len_seq pins s σ H xs us Q I r h
  · subst e
    obtain ⟨u, rfl, ru⟩ := vals1 r
    cases ru
    exact d_len I h fun t s' I' => ⟨.int kvs.length, H, I', ⟨t, rfl⟩, q⟩
section
variable {K : PySem.W.Frag} {cs : List Addr} {B : Bs} {G H : Hp} {s : S} {σ : L2.St} {v w : V} {d dx dy : D} {p : Addr} {Q : VK} {pk : Bool}
theorem smI_log {i : Int} (h : smI i = true) : i.natAbs.log2 < 6000 := by
  have h1 : i.natAbs < 2 ^ 6000 := of_decide_eq_true h
  exact PySem.Flt.log2_lt_of (by decide) h1
def rBin (K : PySem.W.Frag) : Op → R2
  | .add => fun x y H Q => rI0 (fun i j => .int (i + j)) x y H Q ∨ rLCat K x y H Q
  | .sub => rI0 fun i j => .int (i - j)
  | .mul => rI CMulW fun i j => .int (i * j)
  | .fdiv => rI CDivW fun i j => .int (i / j)
  | .mod => rI (fun _ j => 0 < j) fun i j => .int (i % j)
  | .pow => rI CPow fun i j => .int (i ^ j.toNat)
def opP : Op → Operator
  | .add => .Add | .sub => .Sub | .mul => .Mult | .fdiv => .FloorDiv | .mod => .Mod | .pow => .Pow
theorem o_bin {X : Cx} : ∀ o : Op, OpR X (binaryOp (opP o)) (rBin X.K o)
  | .add => OpR.or op_add o_lcat
  | .sub => op_sub
  | .mul => op_mulW
  | .fdiv => op_fdivW
  | .mod => op_mod
  | .pow => op_pow
theorem bin_ok (at_ : At K B cs G s σ H) (hv : Vw K cs G H v dx) (hw : Vw K cs G H w dy) {o : Op} {od : Bool × D} (e : binD o dx dy = some od) (q : Ps K B cs G H σ pk none Q od s) : rBin K o v w H Q := by
  cases o <;> cases dx <;> cases dy <;> simp only [binD, reduceCtorEq] at e
  case add.int.int i j =>
    cases e
    exact .inl ⟨i, j, hv.int, hw.int, Ps.scal at_ (.int _) q⟩
  case add.lst.lst xs ys =>
    split at e
    · cases e
      rename_i hz
      obtain ⟨a, vs, rfl, h1, r1⟩ := hv.lst at_.wd.le
      obtain ⟨b, ws, rfl, h2, r2⟩ := hw.lst at_.wd.le
      refine .inr ⟨a, b, vs, ws, rfl, rfl, h1, h2, ?_, fun p hp => Ps.lst at_ (r1.app r2) hp q⟩
      rw [r1.len, r2.len]
      exact lim_le hz
    · cases e
  case sub.int.int i j =>
    cases e
    exact ⟨i, j, hv.int, hw.int, Ps.scal at_ (.int _) q⟩
  case mul.int.int i j =>
    split at e
    · cases e
      rename_i hz
      rw [Bool.and_eq_true] at hz
      have h1 := smI_log hz.1
      have h2 := smI_log hz.2
      exact ⟨i, j, hv.int, hw.int, (by show _ < _; omega), Ps.scal at_ (.int _) q⟩
    · cases e
  case fdiv.int.int i j =>
    split at e
    · cases e
      rename_i hz
      rw [Bool.and_eq_true] at hz
      exact ⟨i, j, hv.int, hw.int, ⟨of_decide_eq_true hz.1, Nat.lt_trans (smI_log hz.2) (by decide)⟩, Ps.scal at_ (.int _) q⟩
    · cases e
  case mod.int.int i j =>
    split at e
    · cases e
      rename_i hz
      exact ⟨i, j, hv.int, hw.int, hz, Ps.scal at_ (.int _) q⟩
    · cases e
  case pow.int.int i j =>
    split at e
    · cases e
      rename_i hz
      rw [Bool.and_eq_true, Bool.and_eq_true] at hz
      have h1 : j ≤ 1000 := of_decide_eq_true hz.1.2
      exact ⟨i, j, hv.int, hw.int, ⟨of_decide_eq_true hz.1.1, by omega, of_decide_eq_true hz.2⟩, Ps.scal at_ (.int _) q⟩
    · cases e
/-! ### comparisons -/
def cmP : Cm → CmpOp
  | .eq => .Eq | .ne => .NotEq | .lt => .Lt | .le => .LtE | .gt => .Gt | .ge => .GtE | .is => .Is | .isn => .IsNot
def rCmp (K : PySem.W.Frag) : Cm → R2
  | .eq => rEqD K
  | .ne => rNeD K
  | .lt => rI0 fun i j => .bl (decide (i < j))
  | .le => rI0 fun i j => .bl (decide (i ≤ j))
  | .gt => rI0 fun i j => .bl (decide (j < i))
  | .ge => rI0 fun i j => .bl (decide (j ≤ i))
  | .is => fun x y H Q => (y = .non ∧ Q (.bl (decide (x = .non))) H) ∨ rIsB x y H Q
  | .isn => fun x y H Q => (y = .non ∧ Q (.bl (!decide (x = .non))) H) ∨ rNotB x y H Q
theorem o_cmp {X : Cx} (hu : X.A.units + 64 < cLine) : ∀ o : Cm, OpR X (compareOp (cmP o)) (rCmp X.K o)
  | .eq => op_eqD hu
  | .ne => op_neD hu
  | .lt => op_lt
  | .le => op_le
  | .gt => op_gt
  | .ge => op_ge
  | .is => OpR.or op_isN op_isBl
  | .isn => OpR.or op_notN op_notBl
theorem non_iff (hv : Vw K cs G H v d) : decide (v = .non) = isNon d := by
  cases d with
  | non => rw [hv.non]; rfl
  | bl b => rw [hv.bl]; rfl
  | int i => rw [hv.int]; rfl
  | str x => rw [hv.str]; rfl
  | tup ds =>
    rcases hv with h | ⟨p, _, _, h⟩
    · obtain ⟨a, vs, rfl, _⟩ := h.tup_inv; rfl
    · exact h.elim
  | lst ds =>
    rcases hv with h | ⟨p, rfl, _, h⟩
    · obtain ⟨a, vs, rfl, _⟩ := h.lst_inv; rfl
    · rfl
  | dct ds =>
    rcases hv with h | ⟨p, rfl, _, h⟩
    · obtain ⟨a, vs, rfl, _⟩ := h.dct_inv; rfl
    · rfl
  | cel n => obtain ⟨a, rfl, _⟩ := hv.cel; rfl
theorem shaped_of {d : D} (h : pl 60 d = true) : SeqAt.shaped (toPy d) = true := by
  have := toPy_ok d 60 h
  unfold SeqAt.shaped
  rw [this.1, Bool.true_and]
  exact decide_eq_true (Nat.le_trans this.2 (by decide))
theorem cmp_ok (at_ : At K B cs G s σ H) (hv : Vw K cs G H v dx) (hw : Vw K cs G H w dy) {o : Cm} {t : Bool} (e : cmpD o dx dy = some t) (q : Q (.bl t) H) : rCmp K o v w H Q := by
  cases o
  case eq =>
    simp only [cmpD] at e
    split at e
    · cases e
      rename_i hz
      rw [Bool.and_eq_true] at hz
      refine ⟨toPy dx, toPy dy, hv.dp at_.wd.le hz.1, hw.dp at_.wd.le hz.2, shaped_of hz.1, shaped_of hz.2, ?_⟩
      rw [eqv_toPy dx dy 60 60 hz.1 hz.2]; exact q
    · cases e
  case ne =>
    simp only [cmpD] at e
    split at e
    · cases e
      rename_i hz
      rw [Bool.and_eq_true] at hz
      refine ⟨toPy dx, toPy dy, hv.dp at_.wd.le hz.1, hw.dp at_.wd.le hz.2, shaped_of hz.1, shaped_of hz.2, ?_⟩
      rw [eqv_toPy dx dy 60 60 hz.1 hz.2]; exact q
    · cases e
  case lt =>
    cases dx <;> cases dy <;> simp only [cmpD, reduceCtorEq] at e
    cases e
    exact ⟨_, _, hv.int, hw.int, q⟩
  case le =>
    cases dx <;> cases dy <;> simp only [cmpD, reduceCtorEq] at e
    cases e
    exact ⟨_, _, hv.int, hw.int, q⟩
  case gt =>
    cases dx <;> cases dy <;> simp only [cmpD, reduceCtorEq] at e
    cases e
    exact ⟨_, _, hv.int, hw.int, q⟩
  case ge =>
    cases dx <;> cases dy <;> simp only [cmpD, reduceCtorEq] at e
    cases e
    exact ⟨_, _, hv.int, hw.int, q⟩
  case is =>
    cases dy with
    | non =>
      refine .inl ⟨hw.non, ?_⟩
      rw [non_iff hv]
      cases dx <;> simp only [cmpD] at e <;> cases e <;> exact q
    | bl b =>
      cases dx <;> simp only [cmpD, reduceCtorEq] at e
      cases e
      rename_i a
      refine .inr ⟨a, b, hv.bl, hw.bl, ?_⟩
      rw [show decide (a = b) = (a == b) from rfl] at *; exact q
    | _ => cases dx <;> simp only [cmpD, reduceCtorEq] at e
  case isn =>
    cases dy with
    | non =>
      refine .inl ⟨hw.non, ?_⟩
      rw [non_iff hv]
      cases dx <;> simp only [cmpD] at e <;> cases e <;> exact q
    | bl b =>
      cases dx <;> simp only [cmpD, reduceCtorEq] at e
      cases e
      rename_i a
      exact .inr ⟨a, b, hv.bl, hw.bl, q⟩
    | _ => cases dx <;> simp only [cmpD, reduceCtorEq] at e
/-! ### truth -/
theorem isEmpty_len {α β : Type} {xs : List α} {ys : List β} (h : xs.length = ys.length) : xs.isEmpty = ys.isEmpty := by
  cases xs <;> cases ys <;> simp_all
theorem tru_okD (at_ : At K B cs G s σ H) (hv : Vw K cs G H v d) {t : Bool} (e : truthD d = some t) {Q : Bool → Hp → Prop} (q : Q t H) : rTru K v H Q := by
  cases d with
  | non => cases e; exact .inl ⟨false, by rw [hv.non]; rfl, q⟩
  | bl b => cases e; exact .inl ⟨_, by rw [hv.bl]; rfl, q⟩
  | int i => cases e; exact .inl ⟨_, by rw [hv.int]; rfl, q⟩
  | str x =>
    simp only [truthD] at e
    split at e
    · cases e
      rename_i hz
      exact .inl ⟨_, by rw [hv.str]; exact ⟨lim_le hz, rfl⟩, q⟩
    · cases e
  | tup ds =>
    cases e
    obtain ⟨a, vs, rfl, h, r⟩ := hv.tup at_.wd.le
    refine .inl ⟨_, .inr (.inl ⟨vs, h, ?_⟩), q⟩
    rw [isEmpty_len r.len]
  | lst ds =>
    cases e
    obtain ⟨a, vs, rfl, h, r⟩ := hv.lst at_.wd.le
    refine .inl ⟨_, .inl ⟨vs, h, ?_⟩, q⟩
    rw [isEmpty_len r.len]
  | dct ds =>
    cases e
    obtain ⟨a, vs, rfl, h, r⟩ := hv.dct at_.wd.le
    refine .inr ⟨a, vs, rfl, h, ?_⟩
    rw [isEmpty_len r.len]; exact q
  | cel n => cases e
/-! ### items -/
theorem ixN_eq (n : Nat) (i : Int) : ixN n i = L2.ixN n i := rfl
theorem atD_eq {α : Type} (xs : List α) (i : Int) : atD xs i = L2.atI xs i := by
  unfold atD L2.atI
  rw [ixN_eq]
  cases L2.ixN xs.length i <;> rfl
theorem Reps.at {vs : List V} {ds : List D} (r : Reps K cs G vs ds) {i : Int} (e : atD ds i = some d) : ∃ v, L2.atI vs i = some v ∧ Rep K cs G v d := by
  rw [atD_eq] at e
  unfold L2.atI at e ⊢
  rw [r.len]
  cases h : L2.ixN ds.length i with
  | none => rw [h] at e; cases e
  | some j =>
    rw [h] at e
    obtain ⟨v, a, b⟩ := r.get (show ds[j]? = some d from e)
    exact ⟨v, a, b⟩
theorem eqK_iff {a b : D} {k j : Key} (ha : keyD a = some k) (hb : keyD b = some j) : eqK a b = decide (k = j) := by
  cases a <;> simp only [keyD, reduceCtorEq] at ha <;> cases b <;> simp only [keyD, reduceCtorEq] at hb <;> cases ha <;> cases hb
  · rw [key_ll]; rfl
  · rw [key_lr]; rfl
  · rw [key_rl]; rfl
  · rw [key_rr]; rfl
theorem keyD_of {k : D} (h : isKey k = true) : ∃ j, keyD k = some j := by
  cases k <;> simp [isKey] at h <;> exact ⟨_, rfl⟩
theorem RepK.get {kvs : List (Key × V)} {ds : List (D × D)} {k : D} {j : Key} (hk : keyD k = some j) : RepK K cs G kvs ds → (∀ d, getD ds k = some d → ∃ v, valV kvs j = some v ∧ Rep K cs G v d) ∧ (getD ds k = none → valV kvs j = none)
  | .nil => ⟨fun d h => by simp [getD] at h, fun _ => rfl⟩
  | .cons (k := k1) (v := v) (r := r) (kd := kd) (d := d1) (rd := rd) h1 h2 h3 => by
    have ih := RepK.get hk h3
    have e := eqK_iff h1 hk
    by_cases x : k1 = j
    · have y : eqK kd k = true := by rw [e]; exact decide_eq_true x
      refine ⟨fun d h => ?_, fun h => ?_⟩
      · simp only [getD, y, if_true] at h; cases h
        exact ⟨v, valV_pos x, h2⟩
      · simp only [getD, y, if_true] at h; cases h
    · have y : eqK kd k = false := by rw [e]; exact decide_eq_false x
      have z : valV ((k1, v) :: r) j = valV r j := valV_neg x
      refine ⟨fun d h => ?_, fun h => ?_⟩
      · rw [show getD ((kd, d1) :: rd) k = getD rd k by simp [getD, y]] at h; rw [z]; exact ih.1 d h
      · rw [show getD ((kd, d1) :: rd) k = getD rd k by simp [getD, y]] at h; rw [z]; exact ih.2 h
theorem kV_rep {k : D} {j : Key} (hk : keyD k = some j) (hv : Vw K cs G H v k) : v = kV j := by
  cases k <;> simp only [keyD, reduceCtorEq] at hk <;> cases hk
  · exact hv.int
  · exact hv.str
theorem putK_cons {k j : Key} {v w : V} {r : List (Key × V)} : L2.putK ((k, v) :: r) j w = if k = j then (k, w) :: r.map (fun kv => if kv.1 = j then (kv.1, w) else kv) else (k, v) :: L2.putK r j w := by
  unfold L2.putK
  by_cases e : k = j
  · simp [e]
  · simp only [List.any_cons, decide_eq_false e, Bool.false_or, if_neg e, List.map_cons]
    split <;> simp [e]
end
end Q
end

section
set_option Elab.async false
set_option linter.all false
set_option maxRecDepth 100000
set_option maxHeartbeats 4000000
namespace Q
open PySem PySem.Spec PyProof.Rows L2
section
variable {K : PySem.W.Frag} {B : Bs} {cs cs' : List Addr} {G G' H H' : Hp} {s : S} {σ : L2.St} {v w : V} {d dx dy : D} {p : Addr} {Q : VK} {pk : Bool} {r : Row}
/-! ### arguments -/
def Ars (K : PySem.W.Frag) (cs : List Addr) (G : Hp) (r : Row) (σ : L2.St) : List Ex → List V → List D → Prop
  | [], [], [] => True
  | e :: es, v :: vs, d :: ds => (Rep K cs G v d ∨ ∃ i, e = .v i ∧ r[i]? = some (some (true, d)) ∧ σ[i]? = some (some v)) ∧ Ars K cs G r σ es vs ds
  | _, _, _ => False
def tA (X : Cx) (C : Cl) (es : List Ex) : TA := fun σ H Q => ∃ B cs G s, At X.K B cs G s σ H ∧ Rn (evA C es s) fun ds s' => ∀ vs cs' G' H', Stp cs G H cs' G' H' → At X.K B cs' G' s' σ H' → Ars X.K cs' G' s'.r σ es vs ds → Q vs H'
def tF (X : Cx) (C : Cl) (es : List Ex) : TA := fun σ H Q => ∃ B cs G s, At X.K B cs G s σ H ∧ Rn (evF C es s) fun ds s' => ∀ vs cs' G' H', Stp cs G H cs' G' H' → At X.K B cs' G' s' σ H' → Reps X.K cs' G' vs ds → Q vs H'
def nStar : Expr → Bool
  | .Starred .. => false
  | _ => true
theorem star_of {e : Expr} (h : nStar e = true) (es : List Expr) (env : Env) : starEach (e :: es) env = (false, eval e env) :: starEach es env := by
  cases e <;> first | rfl | (simp [nStar] at h)
def vArg : Ex → Option Nat
  | .v i => some i
  | _ => none
theorem isV_of {x : Ex} (h : isV x = true) : ∃ i, x = .v i := by
  cases x <;> simp [isV] at h; exact ⟨_, rfl⟩
theorem Paired.app {α β : Type} {F : α → β → Prop} : ∀ {a c : List α} {b d : List β}, Paired F a b → Paired F c d → Paired F (a ++ c) (b ++ d)
  | _, _, _, _, .nil, h => h
  | _, _, _, _, .cons x y, h => .cons x (Paired.app y h)
theorem pa_A {X : Cx} {C : Cl} : ∀ {es : List Expr} {xs : List Ex}, Paired (fun e x => PE X e (tE X C x) ∧ nStar e = true) es xs → PA X es (tA X C xs)
  | _, _, .nil => ⟨fun pos pins s σ H Q I h => pa_nil.run pos pins s σ H Q I (by
      obtain ⟨B, cs, G, s, at_, h⟩ := h
      exact h [] cs G H (Stp.refl _ _ _) at_ trivial)⟩
  | _, _, .cons (a := e) (b := x) (l₁ := es) (l₂ := xs) ⟨he, hst⟩ hr => ⟨fun pos pins s σ H Q I h => (pa_cons he (pa_A hr) (star_of hst es X.env)).run pos pins s σ H Q I (by
      obtain ⟨B, cs, G, s, at_, h⟩ := h
      obtain ⟨o, s1, e1, h⟩ := Rn.eq (Rn.b h)
      refine ⟨B, cs, G, s, at_, ?_⟩
      rw [e1]
      intro v cs1 G1 H1 st1 at1 res1
      split at h
      · exact h.elim
      rename_i hc
      obtain ⟨ds, s2, e2, h⟩ := Rn.eq (Rn.b h)
      have fin : ∀ G1', Le G1 G1' → At X.K B cs1 G1' s1 σ H1 → (∀ cs2 G2 H2, Stp cs1 G1' H1 cs2 G2 H2 → At X.K B cs2 G2 s2 σ H2 → Rep X.K cs2 G2 v o.2 ∨ ∃ i, x = .v i ∧ s2.r[i]? = some (some (true, o.2)) ∧ σ[i]? = some (some v)) → tA X C xs σ H1 fun vs H2 => Q (v :: vs) H2 := fun G1' le1 at1' k => by
        refine ⟨B, cs1, G1', s1, at1', ?_⟩
        rw [e2]
        intro vs cs2 G2 H2 st2 at2 ar2
        refine h (v :: vs) cs2 G2 H2 ((st1.trans (Stp.grow le1)).trans st2) at2 ⟨k cs2 G2 H2 st2 at2, ar2⟩
      by_cases ho : (o.1 && isPk x) = true
      · -- a name that owns
        rw [Bool.and_eq_true] at ho
        have hv : isV x = true := by
          cases g : isV x with
          | true => rfl
          | false => exact absurd (by simp [ho.1, ho.2, g]) hc
        obtain ⟨i, rfl⟩ := isV_of hv
        have h0 : s.r[i]? = some (some o) ∧ s1 = s := by
          simp only [ev] at e1
          split at e1
          · rename_i od q; cases e1; exact ⟨q, rfl⟩
          · cases e1
        obtain ⟨h0, rfl⟩ := h0
        obtain ⟨ob, od⟩ := o
        simp only at ho h0
        rw [ho.1] at h0
        refine fin G1 (Le.refl _) at1 fun cs2 G2 H2 st2 at2 => ?_
        have sv := res1.2.2 i rfl
        rcases (fol_evA xs _ _ _ e2).2 i (by simp) with q | ⟨d, q, q2⟩
        · exact .inr ⟨i, rfl, by rw [q]; exact h0, sv⟩
        · rw [h0] at q; cases q
          obtain ⟨v', y, z⟩ := at2.en.val i false od q2
          rw [sv] at y; cases y
          exact .inl z
      · obtain ⟨G1', le1, at1', rp⟩ := res1.freeze at1 (by simpa using ho)
        exact fin G1' le1 at1' fun cs2 G2 H2 st2 _ => .inl (rp.mono st2.pre st2.le))⟩
theorem pa_F {X : Cx} {C : Cl} : ∀ {es : List Expr} {xs : List Ex}, Paired (fun e x => PE X e (tE X C x) ∧ nStar e = true) es xs → PA X es (tF X C xs)
  | _, _, .nil => ⟨fun pos pins s σ H Q I h => pa_nil.run pos pins s σ H Q I (by
      obtain ⟨B, cs, G, s, at_, h⟩ := h
      exact h [] cs G H (Stp.refl _ _ _) at_ .nil)⟩
  | _, _, .cons (a := e) (b := x) (l₁ := es) (l₂ := xs) ⟨he, hst⟩ hr => ⟨fun pos pins s σ H Q I h => (pa_cons he (pa_F hr) (star_of hst es X.env)).run pos pins s σ H Q I (by
      obtain ⟨B, cs, G, s, at_, h⟩ := h
      obtain ⟨o, s1, e1, h⟩ := Rn.eq (Rn.b h)
      refine ⟨B, cs, G, s, at_, ?_⟩
      rw [e1]
      intro v cs1 G1 H1 st1 at1 res1
      split at h
      · exact h.elim
      rename_i hc
      obtain ⟨ds, s2, e2, h⟩ := Rn.eq (Rn.b h)
      obtain ⟨G1', le1, at1', rp⟩ := res1.freeze at1 (by simpa using hc)
      refine ⟨B, cs1, G1', s1, at1', ?_⟩
      rw [e2]
      intro vs cs2 G2 H2 st2 at2 ar2
      exact h (v :: vs) cs2 G2 H2 ((st1.trans (Stp.grow le1)).trans st2) at2 (.cons (rp.mono st2.pre st2.le) ar2))⟩
end
end Q
end

section
set_option Elab.async false
set_option linter.all false
set_option maxRecDepth 100000
set_option maxHeartbeats 4000000
namespace Q
open PySem PySem.Spec PyProof.Rows L2
/-! ### a call: what is lent -/
def pO : HO → Prop
  | .frz _ _ => False
  | _ => True
section
variable {K : PySem.W.Frag} {B : Bs} {cs cs' : List Addr} {G G' Gb H H' : Hp} {s : S} {σ : L2.St} {v w : V} {d dx dy : D} {p : Addr} {Q : VK} {pk : Bool} {r : Row} {P : Addr → Prop}
theorem Rd.one {X : Hp} {a : Addr} {u o : HO} (h : Rd X a u) (k : Rd X a o) (pu : pO u) : u = o ∨ ∃ od, o = .frz od u := by
  rcases h with h | ⟨od, h⟩ <;> rcases k with k | ⟨od', k⟩ <;> rw [h] at k <;> cases k
  · exact .inl rfl
  · exact pu.elim
  · exact .inr ⟨_, rfl⟩
  · exact .inl rfl
/-- back to a caller's frozen part -/
structure Bk (P : Addr → Prop) (G G' Gb : Hp) : Prop where
  le : Le G G'
  some' : ∀ a o, G a = some o → Gb a = some o
  none' : ∀ a, G a = none → ¬ P a → Gb a = G' a
theorem Bk.rd (b : Bk P G G' Gb) {a : Addr} {u : HO} (n : ¬ P a) (pu : pO u) (h : Rd G' a u) : Rd Gb a u := by
  cases g : G a with
  | none =>
    have e := b.none' a g n
    rcases h with h | ⟨od, h⟩
    · exact .inl (by rw [e]; exact h)
    · exact .inr ⟨od, by rw [e]; exact h⟩
  | some o =>
    have e := b.some' a o g
    rcases Rd.one h (b.le a o (.inl g)) pu with x | ⟨od, x⟩
    · subst x; exact .inl e
    · subst x; exact .inr ⟨od, e⟩
mutual
theorem Rep.bk (b : Bk P G G' Gb) (n : ∀ a, ¬ P a) : ∀ {v : V} {d : D}, Rep K cs G' v d → Rep K cs Gb v d
  | _, _, .non => .non
  | _, _, .bl _ => .bl _
  | _, _, .int _ => .int _
  | _, _, .str _ => .str _
  | _, _, .tup s r => .tup (s.imp (b.rd (n _) trivial) id) (Reps.bk b n r)
  | _, _, .lst s r => .lst (s.imp (b.rd (n _) trivial) id) (Reps.bk b n r)
  | _, _, .dct s r => .dct (b.rd (n _) trivial s) (RepK.bk b n r)
  | _, _, .cel e => .cel e
theorem Reps.bk (b : Bk P G G' Gb) (n : ∀ a, ¬ P a) : ∀ {v : List V} {d : List D}, Reps K cs G' v d → Reps K cs Gb v d
  | _, _, .nil => .nil
  | _, _, .cons x y => .cons (Rep.bk b n x) (Reps.bk b n y)
theorem RepK.bk (b : Bk P G G' Gb) (n : ∀ a, ¬ P a) : ∀ {v : List (Key × V)} {d : List (D × D)}, RepK K cs G' v d → RepK K cs Gb v d
  | _, _, .nil => .nil
  | _, _, .cons e x y => .cons e (Rep.bk b n x) (RepK.bk b n y)
end
mutual
theorem Rep.bkF (b : Bk P G G' Gb) (n : ∀ a vs, P a → ¬ Rd G' a (.tup vs)) : ∀ (d : D) (v : V), flat d = true → Rep K cs G' v d → Rep K cs Gb v d
  | .non, _, _, .non => .non
  | .bl _, _, _, .bl _ => .bl _
  | .int _, _, _, .int _ => .int _
  | .str _, _, _, .str _ => .str _
  | .tup ds, _, f, .tup s r => .tup (s.imp (fun h => b.rd (fun x => n _ _ x h) trivial h) id) (Reps.bkF b n ds _ (by simpa [flat] using f) r)
  | .lst _, _, f, _ => by simp [flat] at f
  | .dct _, _, f, _ => by simp [flat] at f
  | .cel _, _, _, .cel e => .cel e
theorem Reps.bkF (b : Bk P G G' Gb) (n : ∀ a vs, P a → ¬ Rd G' a (.tup vs)) : ∀ (d : List D) (v : List V), flats d = true → Reps K cs G' v d → Reps K cs Gb v d
  | [], _, _, .nil => .nil
  | d :: ds, _, f, .cons x y => by
    simp only [flats, Bool.and_eq_true] at f
    exact .cons (Rep.bkF b n d _ f.1 x) (Reps.bkF b n ds _ f.2 y)
end
theorem RepK.bkF (b : Bk P G G' Gb) (n : ∀ a vs, P a → ¬ Rd G' a (.tup vs)) : ∀ {v : List (Key × V)} {d : List (D × D)}, flats (d.map (·.2)) = true → RepK K cs G' v d → RepK K cs Gb v d
  | _, _, _, .nil => .nil
  | _, _, f, .cons e x y => by
    simp only [List.map_cons, flats, Bool.and_eq_true] at f
    exact .cons e (Rep.bkF b n _ _ f.1 x) (RepK.bkF b n f.2 y)
/-! what frzR does -/
theorem frzR_in : ∀ (es : List Ex) (r : Row) (i : Nat) (d : D), (frzR es r)[i]? = some (some (true, d)) → r[i]? = some (some (true, d)) ∧ Ex.v i ∉ es := by
  intro es
  induction es with
  | nil => intro r i d h; exact ⟨h, by simp⟩
  | cons e es ih =>
    intro r i d h
    by_cases hv : ∃ j, e = .v j
    · obtain ⟨j, rfl⟩ := hv
      unfold frzR at h
      split at h
      · rename_i d' hj
        have := ih _ i d h
        have ne : j ≠ i := fun x => by
          subst x
          have hl : j < r.length := (List.getElem?_eq_some_iff.mp hj).1
          have t := this.1
          rw [List.getElem?_set_self hl] at t
          cases t
        rw [List.getElem?_set_ne ne] at this
        refine ⟨this.1, ?_⟩
        simp only [List.mem_cons, not_or]
        exact ⟨fun x => by cases x; exact ne rfl, this.2⟩
      · rename_i hj
        have := ih _ i d h
        refine ⟨this.1, ?_⟩
        simp only [List.mem_cons, not_or]
        refine ⟨fun x => ?_, this.2⟩
        cases x
        exact hj d this.1
    · have e1 : frzR (e :: es) r = frzR es r := by
        cases e <;> first | rfl | exact absurd ⟨_, rfl⟩ hv
      rw [e1] at h
      have := ih _ i d h
      refine ⟨this.1, ?_⟩
      simp only [List.mem_cons, not_or]
      exact ⟨fun x => hv ⟨i, x.symm⟩, this.2⟩
theorem frzR_out (es : List Ex) (r : Row) (i : Nat) (d : D) (h : (frzR es r)[i]? = some (some (false, d))) : r[i]? = some (some (false, d)) ∨ (r[i]? = some (some (true, d)) ∧ Ex.v i ∈ es) := by
  rcases (fol_frzR es r).2 i (by simp) with x | ⟨e, x, y⟩
  · exact .inl (by rw [← x]; exact h)
  · rw [h] at y; cases y
    refine .inr ⟨x, ?_⟩
    apply Classical.byContradiction
    intro n
    have : ∀ (es : List Ex) (r : Row), Ex.v i ∉ es → (frzR es r)[i]? = r[i]? := by
      intro es
      induction es with
      | nil => intro r _; rfl
      | cons e es ih =>
        intro r n
        simp only [List.mem_cons, not_or] at n
        by_cases hv : ∃ j, e = .v j
        · obtain ⟨j, rfl⟩ := hv
          unfold frzR
          split
          · rw [ih _ n.2, List.getElem?_set_ne]
            intro x; subst x; exact n.1 rfl
          · exact ih _ n.2
        · have e1 : frzR (e :: es) r = frzR es r := by
            cases e <;> first | rfl | exact absurd ⟨_, rfl⟩ hv
          rw [e1]; exact ih _ n.2
    rw [this es r n, x] at h
    cases h
theorem anyO_no : ∀ (es : List Ex) (r : Row), anyO es r = false → ∀ i d, Ex.v i ∈ es → r[i]? ≠ some (some (true, d)) := by
  intro es
  induction es with
  | nil => intro r _ i d m; simp at m
  | cons e es ih =>
    intro r h i d m x
    by_cases hv : ∃ j, e = .v j
    · obtain ⟨j, rfl⟩ := hv
      unfold anyO at h
      split at h
      · cases h
      · rename_i hj
        rcases List.mem_cons.mp m with y | y
        · cases y; exact hj d x
        · exact ih r h i d y x
    · have e1 : anyO (e :: es) r = anyO es r := by
        cases e <;> first | rfl | exact absurd ⟨_, rfl⟩ hv
      rw [e1] at h
      rcases List.mem_cons.mp m with y | y
      · exact hv ⟨i, y.symm⟩
      · exact ih r h i d y x
/-- the lent addresses -/
def Lnt (es : List Ex) (r : Row) (σ : L2.St) (a : Addr) : Prop := ∃ i d, Ex.v i ∈ es ∧ r[i]? = some (some (true, d)) ∧ σ[i]? = some (some (.ref a))
open Classical in
noncomputable def lent (es : List Ex) (r : Row) (σ : L2.St) (G H : Hp) : Hp := fun a => if Lnt es r σ a ∨ (G a).isSome = true then H a else none
theorem lent_le {es : List Ex} (at_ : At K B cs G s σ H) : Le G (lent es s.r σ G H) := fun a u h => by
  have g : (G a).isSome = true := by
    rcases h with h | ⟨_, h⟩ <;> rw [h] <;> rfl
  have e : lent es s.r σ G H a = H a := by unfold lent; rw [if_pos (.inr g)]
  rcases at_.wd.le a u h with x | ⟨od, x⟩
  · exact .inl (by rw [e]; exact x)
  · exact .inr ⟨od, by rw [e]; exact x⟩
theorem lent_at {es : List Ex} {a : Addr} {o : HO} (h : lent es r σ G H a = some o) : H a = some o ∧ (Lnt es r σ a ∨ G a ≠ none) := by
  unfold lent at h
  split at h
  · rename_i c
    refine ⟨h, c.imp id fun x y => by rw [y] at x; cases x⟩
  · cases h
theorem Lnt.own {es : List Ex} {a : Addr} (at_ : At K B cs G s σ H) (h : Lnt es s.r σ a) : G a = none ∧ a ∉ cs ∧ B.h0 a = none ∧ ∃ d, Own K cs G H a d := by
  obtain ⟨i, d, m, x, y⟩ := h
  obtain ⟨v, z, q⟩ := at_.en.val i true d x
  rw [y] at z; cases z
  obtain ⟨p, e, g, n, z, o⟩ := q
  cases e
  exact ⟨g, n, z, d, o⟩
theorem lent_wd {es : List Ex} (at_ : At K B cs G s σ H) : Wd K ⟨H, lent es s.r σ G H, []⟩ cs (lent es s.r σ G H) s.c H where
  le := Le.of fun a o h => (lent_at h).1
  gl := Le.refl _
  gn := fun a o h => .inl (by simp [h])
  cg := fun a m => by
    cases h : lent es s.r σ G H a with
    | none => rfl
    | some o =>
      rcases (lent_at h).2 with x | x
      · exact absurd m (x.own at_).2.1
      · exact absurd (at_.wd.cg a m) x
  nd := at_.wd.nd
  len := at_.wd.len
  cel := fun n a ds e1 e2 => by
    obtain ⟨vs, x, y⟩ := at_.wd.cel n a ds e1 e2
    exact ⟨vs, x, y.mono (Pre.refl _) (lent_le at_)⟩
  lok := fun p m => by cases m
  fr := fun a o h _ => .inl h
theorem lent_reps {es0 : List Ex} (at_ : At K B cs G s σ H) : ∀ {es : List Ex} {vs : List V} {ds : List D}, (∀ e ∈ es, e ∈ es0) → Ars K cs G s.r σ es vs ds → Reps K cs (lent es0 s.r σ G H) vs ds
  | [], [], [], _, _ => .nil
  | e :: es, v :: vs, d :: ds, m, ⟨h, k⟩ => .cons (by
      rcases h with h | ⟨i, e1, x, y⟩
      · exact h.mono (Pre.refl _) (lent_le at_)
      · obtain ⟨v', z, q⟩ := at_.en.val i true d x
        rw [y] at z; cases z
        obtain ⟨p, e2, g, n, z, o⟩ := q
        subst e2
        have ln : Lnt es0 s.r σ p := ⟨i, d, by rw [← e1]; exact m e (by simp), x, y⟩
        have e3 : lent es0 s.r σ G H p = H p := by unfold lent; rw [if_pos (.inl ln)]
        cases d with
        | lst ds' =>
          obtain ⟨ws, e4, q⟩ := o
          exact .lst (.of (by rw [e3]; exact e4)) (q.mono (Pre.refl _) (lent_le at_))
        | dct ds' =>
          obtain ⟨ws, e4, q⟩ := o
          exact .dct (.inl (by rw [e3]; exact e4)) (q.mono (Pre.refl _) (lent_le at_))
        | _ => exact o.elim) (lent_reps at_ (fun e h => m e (by simp [h])) k)
/-- a def's promise, by the interpreter -/
def spI (K : PySem.W.Frag) (C : Cl) (f : Nat) : Sp := fun vs H Q _ => ∃ cs G c ds, Wd K ⟨H, G, []⟩ cs G c H ∧ Reps K cs G vs ds ∧ Rn (C f ds c) fun od c' =>
  ∀ v cs' G' H', Stp cs G H cs' G' H' → Wd K ⟨H, G, []⟩ cs' G' c' H' → ValR K ⟨H, G, []⟩ cs' G' H' od.1 v od.2 → Q v H'
open Classical in
theorem call_sp {C : Cl} {f : Nat} {es : List Ex} {vs vp : List V} {ds dp : List D} {E : XK} (at_ : At K B cs G s σ H) (hp : Reps K cs G vp dp) (ar : Ars K cs G s.r σ es vs ds)
    (h : Rn (callD C f es (dp ++ ds) s) (Ps K B cs G H σ pk none Q)) : spI K C f (vp ++ vs) H Q E := by
  obtain ⟨od, c1, e1, h⟩ := Rn.eq (Rn.b h)
  refine ⟨cs, lent es s.r σ G H, s.c, dp ++ ds, lent_wd at_, (hp.mono (Pre.refl _) (lent_le at_)).app (lent_reps at_ (fun _ h => h) ar), ?_⟩
  rw [e1]
  intro v cs1 G1 H1 st1 wd1 vr
  have hs0 := lent_le (es := es) at_
  -- the frozen part behind
  have main : ∀ (P : Addr → Prop) (Gb : Hp), Bk P G G1 Gb → (∀ a, P a → Gb a = none) → (∀ a, P a → Lnt es s.r σ a) →
      (∀ (i : Nat) (d : D) (p : Addr), (if (anyO es s.r && !(noAl od.1 od.2 && c1.all flats)) = true then frzR es s.r else s.r)[i]? = some (some (true, d)) → σ[i]? = some (some (V.ref p)) → s.r[i]? = some (some (true, d)) ∧ (P p ∨ ¬ Lnt es s.r σ p)) →
      (∀ (i : Nat) (d : D), (if (anyO es s.r && !(noAl od.1 od.2 && c1.all flats)) = true then frzR es s.r else s.r)[i]? = some (some (false, d)) → s.r[i]? = some (some (false, d)) ∨ (s.r[i]? = some (some (true, d)) ∧ Ex.v i ∈ es ∧ ∀ a, ¬ P a)) →
      ((∀ a, ¬ P a) ∨ (noAl od.1 od.2 = true ∧ c1.all flats = true)) → Q v H1 := by
    intro P Gb bk hP hL hE1 hE2 hA
    have leb : Le G Gb := Le.of bk.some'
    have hl1 : ∀ a, Lnt es s.r σ a → ∃ o, H1 a = some o ∧ (∀ vs, ¬ Rd G1 a (.tup vs)) := fun a ha => by
      obtain ⟨g, n, z, d, o⟩ := ha.own at_
      cases d with
      | lst ds' =>
        obtain ⟨ws, e4, q⟩ := o
        have e5 := st1.keep _ _ n e4
        refine ⟨_, e5, fun vs r => ?_⟩
        rcases wd1.le _ _ r with x | ⟨_, x⟩ <;> rw [e5] at x <;> cases x
      | dct ds' =>
        obtain ⟨ws, e4, q⟩ := o
        have e5 := st1.keep _ _ n e4
        refine ⟨_, e5, fun vs r => ?_⟩
        rcases wd1.le _ _ r with x | ⟨_, x⟩ <;> rw [e5] at x <;> cases x
      | _ => exact o.elim
    have hR : ∀ (v : V) (d : D), ((∀ a, ¬ P a) ∨ flat d = true) → Rep K cs1 G1 v d → Rep K cs1 Gb v d := fun v d c r => by
      rcases c with c | c
      · exact r.bk bk c
      · exact Rep.bkF bk (fun a vs x => by obtain ⟨_, _, z⟩ := hl1 a (hL a x); exact z vs) d v c r
    have hRs : ∀ (v : List V) (d : List D), ((∀ a, ¬ P a) ∨ flats d = true) → Reps K cs1 G1 v d → Reps K cs1 Gb v d := fun v d c r => by
      rcases c with c | c
      · exact r.bk bk c
      · exact Reps.bkF bk (fun a vs x => by obtain ⟨_, _, z⟩ := hl1 a (hL a x); exact z vs) d v c r
    have gfree : ∀ a, G a = none → ¬ Lnt es s.r σ a → H a ≠ none → G1 a = none := fun a g n hn => by
      cases x : G1 a with
      | none => rfl
      | some o =>
        rcases wd1.gn a o x with y | y
        · exfalso
          cases z : lent es s.r σ G H a with
          | none => exact y z
          | some o' =>
            rcases (lent_at z).2 with q | q
            · exact n q
            · exact q g
        · exact absurd y hn
    have wd2 : Wd K B cs1 Gb c1 H1 := by
      refine ⟨fun a u r => ?_, at_.wd.gl.trans leb, fun a o x => ?_, fun a m => ?_, wd1.nd, wd1.len, fun n a ds e1 e2 => ?_, fun p m => ?_, fun a o x n => ?_⟩
      · -- Le Gb H1
        cases g : G a with
        | some o =>
          have e := bk.some' a o g
          have r1 : Rd G a u := by
            rcases r with x | ⟨od, x⟩
            · exact .inl (by rw [g, ← e]; exact x)
            · exact .inr ⟨od, by rw [g, ← e]; exact x⟩
          exact wd1.le a u (st1.le a u (hs0 a u r1))
        | none =>
          by_cases hp : P a
          · have := hP a hp
            rcases r with x | ⟨od, x⟩ <;> rw [this] at x <;> cases x
          · have e := bk.none' a g hp
            refine wd1.le a u ?_
            rcases r with x | ⟨od, x⟩
            · exact .inl (by rw [← e]; exact x)
            · exact .inr ⟨od, by rw [← e]; exact x⟩
      · cases g : G a with
        | some o' => exact at_.wd.gn a o' g
        | none =>
          by_cases hp : P a
          · rw [hP a hp] at x; cases x
          · rw [bk.none' a g hp] at x
            rcases wd1.gn a o x with y | y
            · cases z : lent es s.r σ G H a with
              | none => exact absurd z y
              | some o' =>
                rcases (lent_at z).2 with q | q
                · exact .inr (q.own at_).2.2.1
                · exact absurd g q
            · exact .inr (at_.wd.fresh y).2.2
      · have g1 := wd1.cg a m
        cases g : G a with
        | some o =>
          obtain ⟨u, x⟩ := (bk.le).ex g
          rw [g1] at x; cases x
        | none =>
          by_cases hp : P a
          · exact hP a hp
          · rw [bk.none' a g hp]; exact g1
      · obtain ⟨vs', x, y⟩ := wd1.cel n a ds e1 e2
        refine ⟨vs', x, hRs _ _ ?_ y⟩
        rcases hA with c | c
        · exact .inl c
        · exact .inr (List.all_eq_true.mp c.2 ds (List.mem_of_getElem? e2))
      · obtain ⟨o, x, y⟩ := at_.wd.lok p m
        refine ⟨o, bk.some' _ _ x, st1.keep _ _ (fun z => ?_) y⟩
        rw [at_.wd.cg _ z] at x; cases x
      · have n0 : a ∉ cs := fun m => n (st1.pre.mem m)
        rcases at_.wd.fr a o x n0 with y | ⟨od, m, y⟩
        · exact .inl (st1.keep _ _ n0 y)
        · exact .inr ⟨od, m, st1.keep _ _ n0 y⟩
    have st2 : Stp cs G H cs1 Gb H1 := ⟨st1.pre, st1.new, leb, st1.keep⟩
    have own2 : ∀ (p : Addr) (d : D), p ∉ cs → Own K cs G H p d → Own K cs1 Gb H1 p d := fun p d n o => o.mono st2 n
    refine h v cs1 Gb H1 st2 ⟨wd2, ?_⟩ ⟨?_, ?_, fun _ h => nomatch h⟩
    · -- names
      refine ⟨?_, fun i o d hi => ?_, fun i j d e v ne hi hj si sj => ?_⟩
      · show σ.length = (if _ then _ else _ : Row).length
        rw [at_.en.len]
        split
        · exact (fol_frzR es s.r).1.symm
        · rfl
      · cases o with
        | true =>
          have q : s.r[i]? = some (some (true, d)) := by
            revert hi
            show (if _ then _ else _ : Row)[i]? = _ → _
            split
            · exact fun hi => (frzR_in es s.r i d hi).1
            · exact id
          obtain ⟨v', y, p, e, g, n, z, o⟩ := at_.en.val i true d q
          subst e
          refine ⟨_, y, p, rfl, ?_, ?_, z, own2 p d n o⟩
          · rcases (hE1 i d p hi y).2 with x | x
            · exact hP p x
            · obtain ⟨o', he⟩ := o.there
              have g1 : G1 p = none := gfree p g x (by rw [he]; simp)
              by_cases hp : P p
              · exact hP p hp
              · rw [bk.none' p g hp]; exact g1
          · obtain ⟨o', he⟩ := o.there
            exact st1.nin n he
        | false =>
          rcases hE2 i d hi with q | ⟨q, m, np⟩
          · obtain ⟨v', y, z⟩ := at_.en.val i false d q
            exact ⟨v', y, z.mono st1.pre leb⟩
          · obtain ⟨v', y, p, e, g, n, z, o⟩ := at_.en.val i true d q
            subst e
            refine ⟨_, y, ?_⟩
            have ln : Lnt es s.r σ p := ⟨i, d, m, q, y⟩
            have e3 : lent es s.r σ G H p = H p := by unfold lent; rw [if_pos (.inl ln)]
            refine hR _ _ (.inl np) ?_
            cases d with
            | lst ds' =>
              obtain ⟨ws, e4, q⟩ := o
              exact .lst (st1.le.seqL (.of (by rw [e3]; exact e4))) (q.mono st1.pre (hs0.trans st1.le))
            | dct ds' =>
              obtain ⟨ws, e4, q⟩ := o
              exact .dct (st1.le _ _ (.inl (by rw [e3]; exact e4))) (q.mono st1.pre (hs0.trans st1.le))
            | _ => exact o.elim
      · have q : ∀ (i : Nat) (d : D), (if (anyO es s.r && !(noAl od.1 od.2 && c1.all flats)) = true then frzR es s.r else s.r)[i]? = some (some (true, d)) → s.r[i]? = some (some (true, d)) := by
          intro i d
          split
          · exact fun hi => (frzR_in es s.r i d hi).1
          · exact id
        exact at_.en.dis i j d e v ne (q i d hi) (q j e hj) si sj
    · -- the value
      obtain ⟨ob, dd⟩ := od
      cases ob with
      | false =>
        refine hR v dd ?_ vr
        rcases hA with c | c
        · exact .inl c
        · exact .inr c.1
      | true =>
        obtain ⟨p, e, g, n, z, o⟩ := vr
        have hn : H p = none := z
        have gn := at_.wd.fresh hn
        refine ⟨p, e, ?_, n, gn.2.2, ?_⟩
        · by_cases hp : P p
          · exact hP p hp
          · rw [bk.none' p gn.1 hp]; exact g
        · cases dd with
          | lst ds' =>
            obtain ⟨ws, e4, q⟩ := o
            refine ⟨ws, e4, hRs _ _ ?_ q⟩
            rcases hA with c | c
            · exact .inl c
            · exact .inr c.1
          | dct ds' =>
            obtain ⟨ws, e4, q⟩ := o
            refine ⟨ws, e4, ?_⟩
            rcases hA with c | c
            · exact q.bk bk c
            · exact RepK.bkF bk (fun a vs x => by obtain ⟨_, _, z⟩ := hl1 a (hL a x); exact z vs) c.1 q
          | _ => exact o.elim
    · intro ho _ i e hi hx
      obtain ⟨ob, dd⟩ := od
      simp only at ho
      subst ho
      obtain ⟨p, e1, g, n, z, o⟩ := vr
      subst e1
      have q : s.r[i]? = some (some (true, e)) := (hE1 i e p hi hx).1
      obtain ⟨v', y, p', e', _, _, _, o'⟩ := at_.en.val i true e q
      rw [hx] at y; cases y
      cases e'
      obtain ⟨_, x⟩ := o'.there
      have hn : H p = none := z
      rw [hn] at x; cases x
  -- which case
  by_cases hc : (anyO es s.r && !(noAl od.1 od.2 && c1.all flats)) = true
  · refine main (fun _ => False) (fun a => match G a with | some o => some o | none => G1 a) ⟨hs0.trans st1.le, fun a o e => by simp [e], fun a e _ => by simp [e]⟩ (fun _ h => h.elim) (fun _ h => h.elim) (fun i d p hi hx => ?_) (fun i d hi => ?_) (.inl fun _ h => h)
    · rw [if_pos hc] at hi
      have q := frzR_in es s.r i d hi
      refine ⟨q.1, .inr fun ⟨j, d', m, x, y⟩ => ?_⟩
      by_cases e : i = j
      · subst e; exact q.2 m
      · exact at_.en.dis i j d d' _ e q.1 x hx y
    · rw [if_pos hc] at hi
      rcases frzR_out es s.r i d hi with x | ⟨x, y⟩
      · exact .inl x
      · exact .inr ⟨x, y, fun _ h => h⟩
  · by_cases ha : anyO es s.r = true
    · have hn : noAl od.1 od.2 = true ∧ c1.all flats = true := by
        rw [ha, Bool.true_and] at hc
        simpa using hc
      refine main (Lnt es s.r σ) (fun a => if Lnt es s.r σ a then none else match G a with | some o => some o | none => G1 a) ⟨hs0.trans st1.le, fun a o e => ?_, fun a e n => ?_⟩ (fun a h => if_pos h) (fun _ h => h) (fun i d p hi hx => ?_) (fun i d hi => ?_) (.inr hn)
      · have : ¬ Lnt es s.r σ a := fun x => by have := (x.own at_).1; rw [e] at this; cases this
        simp [this, e]
      · simp [n, e]
      · rw [if_neg hc] at hi
        refine ⟨hi, ?_⟩
        by_cases x : Lnt es s.r σ p
        · exact .inl x
        · exact .inr x
      · rw [if_neg hc] at hi
        exact .inl hi
    · have hno : ∀ a, ¬ Lnt es s.r σ a := fun a ⟨i, d, m, x, y⟩ => anyO_no es s.r (by simpa using ha) i d m x
      refine main (fun _ => False) (fun a => match G a with | some o => some o | none => G1 a) ⟨hs0.trans st1.le, fun a o e => by simp [e], fun a e _ => by simp [e]⟩ (fun _ h => h.elim) (fun _ h => h.elim) (fun i d p hi hx => ?_) (fun i d hi => ?_) (.inl fun _ h => h)
      · rw [if_neg hc] at hi
        exact ⟨hi, .inr (hno p)⟩
      · rw [if_neg hc] at hi
        exact .inl hi
end
end Q
end

section
set_option Elab.async false
set_option linter.all false
set_option maxRecDepth 100000
set_option maxHeartbeats 4000000
namespace Q
open PySem PySem.Spec PyProof.Rows L2
/-! ### expressions, one by one -/
section
variable {K : PySem.W.Frag} {B : Bs} {cs cs' cs1 : List Addr} {G G' G1 H H' H1 : Hp} {s s1 : S} {σ : L2.St} {v w : V} {d dx dy : D} {p : Addr} {Q : VK} {pk : Bool} {vi : Option Nat} {r : Row} {od : Bool × D}
theorem Ps.shift (q : Ps K B cs G H σ pk vi Q od s) (st : Stp cs G H cs1 G1 H1) : Ps K B cs1 G1 H1 σ pk vi Q od s := fun v cs' G' H' st2 at2 r => q v cs' G' H' (st.trans st2) at2 r
theorem Res.weak {pk' : Bool} (r : Res K B cs G H s σ pk' vi od v) (h : pk = false → pk' = false) : Res K B cs G H s σ pk none od v := ⟨r.1, fun a b => r.2.1 a (h b), fun _ h => nomatch h⟩
theorem Res.vw (r : Res K B cs G H s σ pk vi od v) : Vw K cs G H v od.2 := r.1.vw
theorem Rn.b2 {σ τ α β : Type} {r : R σ α} {f : α → σ → R τ β} {P : β → τ → Prop} (h : Rn (r.b f) P) : ∃ a s, r = .ok a s ∧ Rn (f a s) P := by
  obtain ⟨a, s, e, h⟩ := Rn.eq (Rn.b h)
  exact ⟨a, s, e, h⟩
variable {X : Cx} {C : Cl} {a b c e : Expr} {x y z : Ex} {pos : Pos}
/-- into an operand -/
theorem tE_in {Q0 : VK} (at_ : At X.K B cs G s σ H) (e1 : ev C x s = .ok od s1) (k : ∀ v cs1 G1 H1, Stp cs G H cs1 G1 H1 → At X.K B cs1 G1 s1 σ H1 → Res X.K B cs1 G1 H1 s1 σ (isPk x) (vOf x) od v → Q0 v H1) : tE X C x σ H Q0 :=
  ⟨B, cs, G, s, at_, by rw [e1]; exact k⟩
theorem r_non {k : Nat} : PE X (.Constant .none k pos) (tE X C (.c .non)) := peM pe_non fun σ H Q ⟨B, cs, G, s, at_, h⟩ => Ps.scal at_ .non h
theorem r_bl {k : Nat} {t : Bool} : PE X (.Constant (.bool t) k pos) (tE X C (.c (.bl t))) := peM pe_bl fun σ H Q ⟨B, cs, G, s, at_, h⟩ => Ps.scal at_ (.bl _) h
theorem r_int {k : Nat} {i : Int} : PE X (.Constant (.int i) k pos) (tE X C (.c (.int i))) := peM pe_int fun σ H Q ⟨B, cs, G, s, at_, h⟩ => Ps.scal at_ (.int _) h
theorem r_str {k : Nat} {i : Str} : PE X (.Constant (.str i) k pos) (tE X C (.c (.str i))) := peM pe_str fun σ H Q ⟨B, cs, G, s, at_, h⟩ => Ps.scal at_ (.str _) h
theorem r_glob {i : Int} {t : Tok} {n : Str} (hg : Gl X n) (hm : X.mg n = some (.int i t)) (hd : (n == ("__debug__" : Str)) = false) : PE X (.Name n pos) (tE X C (.c (.int i))) :=
  peM (pe_glob (v := .int i) hg hm ⟨t, rfl⟩ hd) fun σ H Q ⟨B, cs, G, s, at_, h⟩ => Ps.scal at_ (.int _) h
theorem r_v {i : Nat} {n : Str} (hN : X.N[i]? = some n) (hv : Vis X.env.scope n) (hd : (n == ("__debug__" : Str)) = false) (hcd : (n == ("__classdict__" : Str)) = false) : PE X (.Name n pos) (tE X C (.v i)) :=
  peM (pe_var (i := i) hN hv hd hcd) fun σ H Q ⟨B, cs, G, s, at_, h⟩ => by
    simp only [ev] at h
    split at h
    · rename_i od q
      obtain ⟨v, e, vr⟩ := at_.en.val i od.1 od.2 q
      exact ⟨v, e, h v cs G H (Stp.refl _ _ _) at_ ⟨vr, fun _ h => (nomatch h), fun j e' => by cases e'; exact e⟩⟩
    · exact h.elim
/-- a name that owned owns no more -/
theorem At.fz {i : Nat} {o : Bool} (at_ : At K B cs G s σ H) (q : s.r[i]? = some (some (o, d))) : ∃ v G', σ[i]? = some (some v) ∧ Le G G' ∧ At K B cs G' ⟨s.r.set i (some (false, d)), s.c⟩ σ H ∧ Rep K cs G' v d := by
  obtain ⟨v, e, vr⟩ := at_.en.val i o d q
  have hl : i < s.r.length := (List.getElem?_eq_some_iff.mp q).1
  -- names apart from i
  have key : ∀ G', Le G G' → (∀ (j : Nat) (d' : D) (p : Addr), j ≠ i → s.r[j]? = some (some (true, d')) → σ[j]? = some (some (.ref p)) → G' p = none) → Rep K cs G' v d → En K B cs G' H (s.r.set i (some (false, d))) σ := fun G' le no rp => by
    refine ⟨by rw [at_.en.len]; simp, fun j o' d' h => ?_, fun j k d' e' v' ne hj hk sj sk => ?_⟩
    · by_cases x : j = i
      · subst x
        rw [List.getElem?_set_self hl] at h
        cases h
        exact ⟨v, e, rp⟩
      · rw [List.getElem?_set_ne (fun y => x y.symm)] at h
        obtain ⟨w, f, vr'⟩ := at_.en.val j o' d' h
        refine ⟨w, f, ?_⟩
        cases o' with
        | false => exact vr'.mono (Pre.refl _) le
        | true =>
          obtain ⟨p, e1, _, n, z, ow⟩ := vr'
          subst e1
          exact ⟨p, rfl, no j d' p x h f, n, z, ow.mono (Stp.grow le) n⟩
    · have t : ∀ (m : Nat) (f : D), (s.r.set i (some (false, d)))[m]? = some (some (true, f)) → s.r[m]? = some (some (true, f)) := fun m f h => by
        by_cases x : m = i
        · subst x; rw [List.getElem?_set_self hl] at h; cases h
        · rw [List.getElem?_set_ne (fun y => x y.symm)] at h; exact h
      exact at_.en.dis j k d' e' v' ne (t j d' hj) (t k e' hk) sj sk
  cases o with
  | false =>
    refine ⟨v, G, e, Le.refl _, ⟨at_.wd, key G (Le.refl _) (fun j d' p _ hj sj => ?_) vr⟩, vr⟩
    obtain ⟨w, f, vr'⟩ := at_.en.val j true d' hj
    rw [sj] at f; cases f
    obtain ⟨p', e1, g, _⟩ := vr'
    cases e1; exact g
  | true =>
    obtain ⟨p, e1, g, n, z, ow⟩ := vr
    subst e1
    have fin : ∀ (o : HO), H p = some o → (Le G (upd G p o) → Rep K cs (upd G p o) (.ref p) d) → ∃ v G', σ[i]? = some (some v) ∧ Le G G' ∧ At K B cs G' ⟨s.r.set i (some (false, d)), s.c⟩ σ H ∧ Rep K cs G' v d := fun o ho hr => by
      have le : Le G (upd G p o) := Le.new g
      refine ⟨_, upd G p o, e, le, ⟨at_.wd.grow ho n g z, key _ le (fun j d' p' x hj sj => ?_) (hr le)⟩, hr le⟩
      obtain ⟨w, f, vr'⟩ := at_.en.val j true d' hj
      rw [sj] at f; cases f
      obtain ⟨p'', e1, g', _⟩ := vr'
      cases e1
      by_cases y : p' = p
      · subst y
        exact absurd e (at_.en.dis j i d' d _ x hj q sj)
      · rw [upd_ne y]; exact g'
    cases d with
    | lst ds =>
      obtain ⟨vs, e2, rp⟩ := ow
      exact fin _ e2 fun le => .lst (.of upd_same) (rp.mono (Pre.refl _) le)
    | dct ds =>
      obtain ⟨vs, e2, rp⟩ := ow
      exact fin _ e2 fun le => .dct (.inl upd_same) (rp.mono (Pre.refl _) le)
    | _ => exact ow.elim
theorem r_fz {i : Nat} {n : Str} (hN : X.N[i]? = some n) (hv : Vis X.env.scope n) (hd : (n == ("__debug__" : Str)) = false) (hcd : (n == ("__classdict__" : Str)) = false) : PE X (.Name n pos) (tE X C (.fz i)) :=
  peM (pe_var (i := i) hN hv hd hcd) fun σ H Q ⟨B, cs, G, s, at_, h⟩ => by
    simp only [ev] at h
    split at h
    · rename_i od q
      obtain ⟨v, G', e, le, at1, rp⟩ := at_.fz q
      exact ⟨v, e, h v cs G' H (Stp.grow le) at1 ⟨rp, fun h => (nomatch h), fun _ h => nomatch h⟩⟩
    · exact h.elim
theorem r_bin (o : Op) (ha : PE X a (tE X C x)) (hb : PE X b (tE X C y)) : PE X (.BinOp a (opP o) b pos) (tE X C (.bin o x y)) :=
  peM (pe_op (o_bin o) ha hb) fun σ H Q ⟨B, cs, G, s, at_, h⟩ => by
    obtain ⟨dx, s1, e1, h⟩ := Rn.b2 h
    obtain ⟨dy, s2, e2, h⟩ := Rn.b2 h
    obtain ⟨od, e3, h⟩ := Rn.of h
    refine tE_in at_ e1 fun v cs1 G1 H1 st1 at1 r1 => tE_in at1 e2 fun w cs2 G2 H2 st2 at2 r2 => ?_
    exact bin_ok at2 (r1.vw.mono st2) r2.vw e3 (Ps.shift (Ps.shift h st1) st2)
theorem r_neg (ha : PE X a (tE X C x)) : PE X (.UnaryOp .USub a pos) (tE X C (.neg x)) :=
  peM (pe_un un_neg ha) fun σ H Q ⟨B, cs, G, s, at_, h⟩ => by
    obtain ⟨dx, s1, e1, h⟩ := Rn.b2 h
    obtain ⟨ob, dd⟩ := dx
    refine tE_in at_ e1 fun v cs1 G1 H1 st1 at1 r1 => ?_
    cases dd <;> simp only at h <;> first | exact h.elim | skip
    exact ⟨_, r1.vw.int, Ps.scal at1 (.int _) (Ps.shift h st1)⟩
theorem nbm (o : Cm) (b : Expr) : behindInMarks (cmP o) b = false := nobehind b (by cases o <;> simp [cmP]) (by cases o <;> simp [cmP])
theorem r_cmp (hu : X.A.units + 64 < cLine) (o : Cm) (ha : PE X a (tE X C x)) (hb : PE X b (tE X C y)) : PE X (.Compare a [cmP o] [b] pos) (tE X C (.cmp o x y)) :=
  peM (pe_cmpR (o_cmp hu o) ha hb (nbm o b)) fun σ H Q ⟨B, cs, G, s, at_, h⟩ => by
    obtain ⟨dx, s1, e1, h⟩ := Rn.b2 h
    obtain ⟨dy, s2, e2, h⟩ := Rn.b2 h
    obtain ⟨t, s3, e3', h⟩ := Rn.b2 h
    obtain ⟨e3, rfl⟩ := R.of_eq e3'
    refine tE_in at_ e1 fun v cs1 G1 H1 st1 at1 r1 => tE_in at1 e2 fun w cs2 G2 H2 st2 at2 r2 => ?_
    exact cmp_ok at2 (r1.vw.mono st2) r2.vw e3 (Ps.scal at2 (.bl _) (Ps.shift (Ps.shift h st1) st2))
theorem r_cmpT (hu : X.A.units + 64 < cLine) (o : Cm) (ha : PE X a (tE X C x)) (hb : PE X b (tE X C y)) : PT X (.Compare a [cmP o] [b] pos) (tT X C (.cmp o x y)) :=
  ptM (pt_cmpR (o_cmp hu o) ha hb (nbm o b)) fun σ H Q ⟨B, cs, G, s, at_, h⟩ => by
    obtain ⟨z, s4, e4, h⟩ := Rn.b2 h
    obtain ⟨dx, s1, e1, e4⟩ := R.b_eq e4
    obtain ⟨dy, s2, e2, e4⟩ := R.b_eq e4
    obtain ⟨t, s3, e3', e4⟩ := R.b_eq e4
    obtain ⟨e3, rfl⟩ := R.of_eq e3'
    cases e4
    obtain ⟨u, e5, h⟩ := Rn.of h
    cases e5
    refine tE_in at_ e1 fun v cs1 G1 H1 st1 at1 r1 => tE_in at1 e2 fun w cs2 G2 H2 st2 at2 r2 => ?_
    exact cmp_ok at2 (r1.vw.mono st2) r2.vw e3 ⟨_, rfl, h cs2 G2 H2 (st1.trans st2) at2⟩
theorem r_chn (hu : X.A.units + 64 < cLine) (o p : Cm) (ha : PE X a (tE X C x)) (hb : PE X b (tE X C y)) (hc : PE X c (tE X C z)) : PE X (.Compare a [cmP o, cmP p] [b, c] pos) (tE X C (.chn o p x y z)) :=
  peM (pe_chain (o_cmp hu o) (o_cmp hu p) ha hb hc (nbm p c)) fun σ H Q ⟨B, cs, G, s, at_, h⟩ => by
    obtain ⟨dx, s1, e1, h⟩ := Rn.b2 h
    obtain ⟨dy, s2, e2, h⟩ := Rn.b2 h
    obtain ⟨t, s3, e3', h⟩ := Rn.b2 h
    obtain ⟨e3, rfl⟩ := R.of_eq e3'
    refine tE_in at_ e1 fun v cs1 G1 H1 st1 at1 r1 => tE_in at1 e2 fun w cs2 G2 H2 st2 at2 r2 => ?_
    refine cmp_ok at2 (r1.vw.mono st2) r2.vw e3 ⟨_, rfl, ?_⟩
    cases t with
    | false => exact Ps.scal at2 (.bl _) (Ps.shift (Ps.shift h st1) st2)
    | true =>
      obtain ⟨dz, s4, e4, h⟩ := Rn.b2 h
      obtain ⟨t, s5, e5', h⟩ := Rn.b2 h
      obtain ⟨e5, rfl⟩ := R.of_eq e5'
      refine tE_in at2 e4 fun u cs3 G3 H3 st3 at3 r3 => ?_
      exact cmp_ok at3 (r2.vw.mono st3) r3.vw e5 (Ps.scal at3 (.bl _) (Ps.shift (Ps.shift (Ps.shift h st1) st2) st3))
theorem r_chnT (hu : X.A.units + 64 < cLine) (o p : Cm) (ha : PE X a (tE X C x)) (hb : PE X b (tE X C y)) (hc : PE X c (tE X C z)) : PT X (.Compare a [cmP o, cmP p] [b, c] pos) (tT X C (.chn o p x y z)) :=
  ptM (pt_chain (o_cmp hu o) (o_cmp hu p) ha hb hc (nbm p c)) fun σ H Q ⟨B, cs, G, s, at_, h⟩ => by
    obtain ⟨q, s4, e4, h⟩ := Rn.b2 h
    obtain ⟨dx, s1, e1, e4⟩ := R.b_eq e4
    obtain ⟨dy, s2, e2, e4⟩ := R.b_eq e4
    obtain ⟨t, s3, e3', e4⟩ := R.b_eq e4
    obtain ⟨e3, rfl⟩ := R.of_eq e3'
    refine tE_in at_ e1 fun v cs1 G1 H1 st1 at1 r1 => tE_in at1 e2 fun w cs2 G2 H2 st2 at2 r2 => ?_
    cases t with
    | false =>
      cases e4
      obtain ⟨u, e5, h⟩ := Rn.of h
      cases e5
      exact cmp_ok at2 (r1.vw.mono st2) r2.vw e3 ⟨_, rfl, _, rfl, h cs2 G2 H2 (st1.trans st2) at2⟩
    | true =>
      obtain ⟨dz, s5, e5, e4⟩ := R.b_eq e4
      obtain ⟨t, s6, e6', e4⟩ := R.b_eq e4
      obtain ⟨e6, rfl⟩ := R.of_eq e6'
      cases e4
      obtain ⟨u, e7, h⟩ := Rn.of h
      cases e7
      refine cmp_ok at2 (r1.vw.mono st2) r2.vw e3 ⟨_, rfl, ?_⟩
      refine tE_in at2 e5 fun u cs3 G3 H3 st3 at3 r3 => ?_
      exact cmp_ok at3 (r2.vw.mono st3) r3.vw e6 ⟨_, rfl, h cs3 G3 H3 ((st1.trans st2).trans st3) at3⟩
/-! truth -/
theorem r_tru (ha : PE X a (tE X C x)) (he : ∀ whole, isTrue a X.env whole = (do let v ← whole; standAt a.pos; holding [v] (truthy v))) : PT X a (tT X C x) :=
  ⟨fun pins s0 σ H Q I ⟨B, cs, G, s, at_, h⟩ => by
    obtain ⟨dx, s1, e1, h⟩ := Rn.b2 h
    obtain ⟨t, e2, h⟩ := Rn.of h
    have q : tE X C x σ H fun v H1 => rTru X.K v H1 Q := tE_in at_ e1 fun v cs1 G1 H1 st1 at1 r1 => tru_okD at1 r1.vw e2 (h cs1 G1 H1 st1 at1)
    exact isTrue_plain (thn (ha.run pins s0 σ H _ I q) fun v s2 ⟨y, H2, I2, r2, q2⟩ => o_tru pins s2 σ H2 y v Q I2 r2 q2) (he _)⟩
theorem r_notT (ha : PT X a (tT X C x)) : PT X (.UnaryOp .Not a pos) (tT X C (.not x)) :=
  ptM (pt_not ha) fun σ H Q ⟨B, cs, G, s, at_, h⟩ => by
    obtain ⟨q, s4, e4, h⟩ := Rn.b2 h
    obtain ⟨dx, s1, e1, e4⟩ := R.b_eq e4
    obtain ⟨t, s2, e2, e4⟩ := R.b_eq e4
    cases e4
    obtain ⟨u, e5, h⟩ := Rn.of h
    cases e5
    refine ⟨B, cs, G, s, at_, ?_⟩
    rw [show (ev C x s).b tru = .ok t s4 by rw [e1]; exact e2]
    exact h
theorem r_not (ha : PE X a (tE X C x)) : PE X (.UnaryOp .Not a pos) (tE X C (.not x)) :=
  ⟨fun pins s0 σ H Q I ⟨B, cs, G, s, at_, h⟩ => by
    obtain ⟨dx, s1, e1, h⟩ := Rn.b2 h
    obtain ⟨t, s2, e2', h⟩ := Rn.b2 h
    obtain ⟨e2, rfl⟩ := tru_eq e2'
    have q : tE X C x σ H fun v H1 => rTru X.K v H1 fun k H2 => Q (.bl (!k)) H2 := tE_in at_ e1 fun v cs1 G1 H1 st1 at1 r1 => tru_okD at1 r1.vw e2 (Ps.scal at1 (.bl _) (Ps.shift h st1))
    exact UnaryOp_ (thn (ha.run pins s0 σ H _ I q) fun u s3 ⟨v, H1, I1, r1, q1⟩ => PyProof.Rows.not_of (thn (o_tru pins s3 σ H1 v u _ I1 r1 q1) fun k s4 ⟨H2, I2, q2⟩ => ⟨.bl (!k), H2, I2, rfl, q2⟩))⟩
/-! and, or: over the list of their parts -/
theorem r_and {rest : List Expr} (ha : PE X a (tE X C x)) (hb : PE X (.BoolOp .And (b :: rest) pos) (tE X C y)) : PE X (.BoolOp .And (a :: b :: rest) pos) (tE X C (.and x y)) :=
  ⟨fun pins s0 σ H Q I ⟨B, cs, G, s, at_, h⟩ => by
    obtain ⟨dx, s1, e1, h⟩ := Rn.b2 h
    obtain ⟨t, s2, e2', h⟩ := Rn.b2 h
    obtain ⟨e2, rfl⟩ := tru_eq e2'
    have q : tE X C x σ H fun v H1 => rTru X.K v H1 (fun k H2 => k = t ∧ H2 = H1) ∧ if t = true then tE X C y σ H1 Q else Q v H1 := tE_in at_ e1 fun v cs1 G1 H1 st1 at1 r1 => by
      refine ⟨tru_okD at1 r1.vw e2 ⟨rfl, rfl⟩, ?_⟩
      cases t with
      | true =>
        rw [if_pos rfl] at h ⊢
        exact ⟨B, cs1, G1, s1, at1, Rn.mono h fun od s' q v' cs' G' H' st2 at2 r2 => q v' cs' G' H' (st1.trans st2) at2 (r2.weak fun hp => by simp only [isPk, Bool.or_eq_false_iff] at hp; exact hp.2)⟩
      | false =>
        rw [if_neg (by simp)] at h ⊢
        exact h v cs1 G1 H1 st1 at1 (r1.weak fun hp => by simp only [isPk, Bool.or_eq_false_iff] at hp; exact hp.1)
    refine BoolOp_and (thn (ha.run pins s0 σ H _ I q) fun u s3 ⟨v, H1, I1, r1, t1, q1⟩ => thn (o_tru pins s3 σ H1 v u _ I1 r1 t1) fun k s4 ⟨H2, I2, k1, k2⟩ => ?_)
    subst k1; subst k2
    cases k with
    | true => rw [if_pos rfl] at q1; exact hb.run pins s4 σ _ Q I2 q1
    | false => exact ⟨v, _, I2, r1, by simpa using q1⟩⟩
theorem r_or {rest : List Expr} (ha : PE X a (tE X C x)) (hb : PE X (.BoolOp .Or (b :: rest) pos) (tE X C y)) : PE X (.BoolOp .Or (a :: b :: rest) pos) (tE X C (.or x y)) :=
  ⟨fun pins s0 σ H Q I ⟨B, cs, G, s, at_, h⟩ => by
    obtain ⟨dx, s1, e1, h⟩ := Rn.b2 h
    obtain ⟨t, s2, e2', h⟩ := Rn.b2 h
    obtain ⟨e2, rfl⟩ := tru_eq e2'
    have q : tE X C x σ H fun v H1 => rTru X.K v H1 (fun k H2 => k = t ∧ H2 = H1) ∧ if t = true then Q v H1 else tE X C y σ H1 Q := tE_in at_ e1 fun v cs1 G1 H1 st1 at1 r1 => by
      refine ⟨tru_okD at1 r1.vw e2 ⟨rfl, rfl⟩, ?_⟩
      cases t with
      | true =>
        rw [if_pos rfl] at h ⊢
        exact h v cs1 G1 H1 st1 at1 (r1.weak fun hp => by simp only [isPk, Bool.or_eq_false_iff] at hp; exact hp.1)
      | false =>
        rw [if_neg (by simp)] at h ⊢
        exact ⟨B, cs1, G1, s1, at1, Rn.mono h fun od s' q v' cs' G' H' st2 at2 r2 => q v' cs' G' H' (st1.trans st2) at2 (r2.weak fun hp => by simp only [isPk, Bool.or_eq_false_iff] at hp; exact hp.2)⟩
    refine BoolOp_or (thn (ha.run pins s0 σ H _ I q) fun u s3 ⟨v, H1, I1, r1, t1, q1⟩ => thn (o_tru pins s3 σ H1 v u _ I1 r1 t1) fun k s4 ⟨H2, I2, k1, k2⟩ => ?_)
    subst k1; subst k2
    cases k with
    | true => exact ⟨v, _, I2, r1, by simpa using q1⟩
    | false => exact hb.run pins s4 σ _ Q I2 (by simpa using q1)⟩
theorem r_one {op : BoolOp} (ha : PE X a (tE X C x)) : PE X (.BoolOp op [a] pos) (tE X C x) := pe_one ha
theorem r_oneT (ha : PT X a (tT X C x)) : PW X (.BoolOp .And [a] pos) (tT X C x) ∧ PW X (.BoolOp .Or [a] pos) (tT X C x) := ⟨pw_and1 ha, pw_or1 ha⟩
theorem r_andT {rest : List Expr} (ha : PT X a (tT X C x)) (hb : PW X (.BoolOp .And (b :: rest) pos) (tT X C y)) : PW X (.BoolOp .And (a :: b :: rest) pos) (tT X C (.and x y)) :=
  pwM (pw_and ha hb) fun σ H Q ⟨B, cs, G, s, at_, h⟩ => by
    obtain ⟨dz, s4, e4, h⟩ := Rn.b2 h
    obtain ⟨dx, s1, e1, e4⟩ := R.b_eq e4
    obtain ⟨t, s2, e2', e4⟩ := R.b_eq e4
    obtain ⟨e2, rfl⟩ := tru_eq e2'
    refine ⟨B, cs, G, s, at_, ?_⟩
    rw [show (ev C x s).b tru = .ok t s1 by rw [e1]; exact e2']
    intro cs1 G1 H1 st1 at1
    cases t with
    | true =>
      refine ⟨B, cs1, G1, s1, at1, ?_⟩
      rw [if_pos rfl] at e4
      rw [e4]
      exact Rn.mono h fun b s' q cs' G' H' st2 at2 => q cs' G' H' (st1.trans st2) at2
    | false =>
      rw [if_neg (by simp)] at e4
      cases e4
      obtain ⟨u, e5, h⟩ := Rn.of h
      rw [e2] at e5; cases e5
      exact h cs1 G1 H1 st1 at1
theorem r_orT {rest : List Expr} (ha : PT X a (tT X C x)) (hb : PW X (.BoolOp .Or (b :: rest) pos) (tT X C y)) : PW X (.BoolOp .Or (a :: b :: rest) pos) (tT X C (.or x y)) :=
  pwM (pw_or ha hb) fun σ H Q ⟨B, cs, G, s, at_, h⟩ => by
    obtain ⟨dz, s4, e4, h⟩ := Rn.b2 h
    obtain ⟨dx, s1, e1, e4⟩ := R.b_eq e4
    obtain ⟨t, s2, e2', e4⟩ := R.b_eq e4
    obtain ⟨e2, rfl⟩ := tru_eq e2'
    refine ⟨B, cs, G, s, at_, ?_⟩
    rw [show (ev C x s).b tru = .ok t s1 by rw [e1]; exact e2']
    intro cs1 G1 H1 st1 at1
    cases t with
    | true =>
      rw [if_pos rfl] at e4
      cases e4
      obtain ⟨u, e5, h⟩ := Rn.of h
      rw [e2] at e5; cases e5
      exact h cs1 G1 H1 st1 at1
    | false =>
      refine ⟨B, cs1, G1, s1, at1, ?_⟩
      rw [if_neg (by simp)] at e4
      rw [e4]
      exact Rn.mono h fun b s' q cs' G' H' st2 at2 => q cs' G' H' (st1.trans st2) at2
theorem r_ite (hc : PT X c (tT X C z)) (ha : PE X a (tE X C x)) (hb : PE X b (tE X C y)) : PE X (.IfExp c a b pos) (tE X C (.ite z x y)) :=
  peM (pe_ifExp hc ha hb) fun σ H Q ⟨B, cs, G, s, at_, h⟩ => by
    obtain ⟨dz, s1, e1, h⟩ := Rn.b2 h
    obtain ⟨t, s2, e2', h⟩ := Rn.b2 h
    obtain ⟨e2, rfl⟩ := tru_eq e2'
    refine ⟨B, cs, G, s, at_, ?_⟩
    rw [show (ev C z s).b tru = .ok t s1 by rw [e1]; exact e2']
    intro cs1 G1 H1 st1 at1
    cases t with
    | true =>
      rw [if_pos rfl] at h ⊢
      exact ⟨B, cs1, G1, s1, at1, Rn.mono h fun od s' q v' cs' G' H' st2 at2 r2 => q v' cs' G' H' (st1.trans st2) at2 (r2.weak fun hp => by simp only [isPk, Bool.or_eq_false_iff] at hp; exact hp.1)⟩
    | false =>
      rw [if_neg (by simp)] at h ⊢
      exact ⟨B, cs1, G1, s1, at1, Rn.mono h fun od s' q v' cs' G' H' st2 at2 r2 => q v' cs' G' H' (st1.trans st2) at2 (r2.weak fun hp => by simp only [isPk, Bool.or_eq_false_iff] at hp; exact hp.2)⟩
end
end Q
end

section
set_option Elab.async false
set_option linter.all false
set_option maxRecDepth 100000
set_option maxHeartbeats 4000000
namespace Q
open PySem PySem.Spec PyProof.Rows L2
section
variable {K : PySem.W.Frag} {B : Bs} {cs cs' cs1 : List Addr} {G G' G1 H H' H1 : Hp} {s s1 : S} {σ : L2.St} {v w : V} {d dx dy : D} {p : Addr} {Q : VK} {pk : Bool} {vi : Option Nat} {r : Row} {od : Bool × D}
variable {X : Cx} {C : Cl} {a b c e : Expr} {x y z : Ex} {pos : Pos} {es : List Expr} {xs : List Ex}
/-- parts with their parts of the interpreter -/
abbrev Prs (X : Cx) (C : Cl) (es : List Expr) (xs : List Ex) : Prop := Paired (fun e x => PE X e (tE X C x) ∧ nStar e = true) es xs
theorem evF_len : ∀ {xs : List Ex} {s : S} {ds : List D} {s1 : S}, evF C xs s = .ok ds s1 → ds.length = xs.length
  | [], s, ds, s1, h => by cases h; rfl
  | x :: xs, s, ds, s1, h => by
    obtain ⟨o, s2, h1, h⟩ := R.b_eq h
    split at h
    · cases h
    · obtain ⟨o2, s3, h2, h⟩ := R.b_eq h
      cases h
      simp [evF_len h2]
theorem tF_in {Q0 : List V → Hp → Prop} {ds : List D} (at_ : At X.K B cs G s σ H) (e1 : evF C xs s = .ok ds s1) (k : ∀ vs cs1 G1 H1, Stp cs G H cs1 G1 H1 → At X.K B cs1 G1 s1 σ H1 → Reps X.K cs1 G1 vs ds → Q0 vs H1) : tF X C xs σ H Q0 :=
  ⟨B, cs, G, s, at_, by rw [e1]; exact k⟩
theorem tA_in {Q0 : List V → Hp → Prop} {ds : List D} (at_ : At X.K B cs G s σ H) (e1 : evA C xs s = .ok ds s1) (k : ∀ vs cs1 G1 H1, Stp cs G H cs1 G1 H1 → At X.K B cs1 G1 s1 σ H1 → Ars X.K cs1 G1 s1.r σ xs vs ds → Q0 vs H1) : tA X C xs σ H Q0 :=
  ⟨B, cs, G, s, at_, by rw [e1]; exact k⟩
theorem r_tup {k : Nat} (hl : xs.length ≤ lim) (h : Prs X C es xs) : PE X (.Tuple es k pos) (tE X C (.tup xs)) :=
  peM (pe_tup (pa_F h)) fun σ H Q ⟨B, cs, G, s, at_, h⟩ => by
    obtain ⟨ds, s1, e1, h⟩ := Rn.b2 h
    refine tF_in at_ e1 fun vs cs1 G1 H1 st1 at1 rp => ⟨?_, fun p hp => Ps.tup at1 rp hp (Ps.shift h st1)⟩
    rw [rp.len, evF_len e1]; exact lim_le hl
theorem r_lst (hl : xs.length ≤ lim) (h : Prs X C es xs) : PE X (.List es pos) (tE X C (.lst xs)) :=
  peM (pe_lst (pa_F h)) fun σ H Q ⟨B, cs, G, s, at_, h⟩ => by
    obtain ⟨ds, s1, e1, h⟩ := Rn.b2 h
    refine tF_in at_ e1 fun vs cs1 G1 H1 st1 at1 rp => ⟨?_, fun p hp => Ps.lst at1 rp hp (Ps.shift h st1)⟩
    rw [rp.len, evF_len e1]; exact lim_le hl
/-! items -/
def nSl : Expr → Bool
  | .Slice .. => false
  | _ => true
theorem nSl_ix (h : nSl b = true) : PlainIx b := fun o i => by cases b <;> first | rfl | (simp [nSl] at h)
theorem r_ix (hu : X.A.units + 1 < cLine) (hb' : nSl b = true) (ha : PE X a (tE X C x)) (hb : PE X b (tE X C y)) : PE X (.Subscript a b pos) (tE X C (.ix x y)) :=
  peM (peOr (pe_ix ix_seq ha hb (nSl_ix hb')) (pe_dget hu ha hb (nSl_ix hb'))) fun σ H Q ⟨B, cs, G, s, at_, h⟩ => by
    obtain ⟨⟨o1, dx⟩, s1, e1, ha1⟩ := Rn.b2 h
    obtain ⟨⟨o2, dy⟩, s2, e2, ha2⟩ := Rn.b2 ha1
    obtain ⟨d, s3, e3', hq⟩ := Rn.b2 ha2
    obtain ⟨e3, rfl⟩ := R.of_eq e3'
    clear h ha1 ha2 e3'
    -- a list, a tuple | a dict
    cases dx with
    | lst ds =>
      cases dy <;> simp only [ixD, reduceCtorEq] at e3
      refine .inl (tE_in at_ e1 fun v cs1 G1 H1 st1 at1 r1 => tE_in at1 e2 fun w cs2 G2 H2 st2 at2 r2 => ?_)
      obtain ⟨a', vs, rfl, hs, rp⟩ := (r1.vw.mono st2).lst at2.wd.le
      obtain ⟨u, hu', ru⟩ := rp.at e3
      exact .inl ⟨a', vs, _, u, rfl, r2.vw.int, hs, hu', Ps.scal at2 ru (Ps.shift (Ps.shift hq st1) st2)⟩
    | tup ds =>
      cases dy <;> simp only [ixD, reduceCtorEq] at e3
      refine .inl (tE_in at_ e1 fun v cs1 G1 H1 st1 at1 r1 => tE_in at1 e2 fun w cs2 G2 H2 st2 at2 r2 => ?_)
      obtain ⟨a', vs, rfl, hs, rp⟩ := (r1.vw.mono st2).tup at2.wd.le
      obtain ⟨u, hu', ru⟩ := rp.at e3
      exact .inr (.inl ⟨a', vs, _, u, rfl, r2.vw.int, hs, hu', Ps.scal at2 ru (Ps.shift (Ps.shift hq st1) st2)⟩)
    | dct ds =>
      simp only [ixD] at e3
      split at e3
      · rename_i hk
        obtain ⟨j, hj⟩ := keyD_of hk
        refine .inr (tE_in at_ e1 fun v cs1 G1 H1 st1 at1 r1 => tE_in at1 e2 fun w cs2 G2 H2 st2 at2 r2 => ?_)
        obtain ⟨a', vs, rfl, hs, rp⟩ := (r1.vw.mono st2).dct at2.wd.le
        obtain ⟨u, hu', ru⟩ := (RepK.get hj rp).1 d e3
        exact ⟨a', u, rfl, .inl ⟨vs, j, hs, kV_rep hj r2.vw, hu'.symm⟩, Ps.scal at2 ru (Ps.shift (Ps.shift hq st1) st2)⟩
      · cases e3
    | _ => simp only [ixD, reduceCtorEq] at e3
/-! a call -/
theorem nst_all {es : List Expr} {xs : List Ex} (h : Prs X C es xs) (env : PySem.Env) (pos : Pos) : (backTo pos (starEach es env)).any (·.1) = false := by
  induction h with
  | nil => rfl
  | cons h _ ih =>
    rw [star_of h.2]
    simpa [backTo] using ih
theorem r_call {f : Addr} {fd : FuncData} {ps : List Str} {n : Str} {i k : Nat} {p : Pos} (F : FnOk X.prog X.w X.K X.mg X.base CX0 k f fd ps (spI X.K C i)) (hr : Room k X.A) (hg : Gl X n) (hm : X.mg n = some (.ref f)) (hk : PySem.W.keepIn X.K (.ref f) = true) (hb : Binds X.K fd ps [])
    (hd : (n == ("__debug__" : Str)) = false) (ha : Prs X C es xs) : PE X (.Call (.Name n p) es [] pos) (tE X C (.call i xs)) := by
  have go : ∀ (σ : L2.St) (H : Hp) (Q : VK), tE X C (.call i xs) σ H Q → tA X C xs σ H fun vs H1 => spI X.K C i vs H1 Q E0 := fun σ H Q ⟨B, cs, G, s, at_, h⟩ => by
    obtain ⟨ds, s1, e1, h⟩ := Rn.b2 h
    exact tA_in at_ e1 fun vs cs1 G1 H1 st1 at1 ar => call_sp (vp := []) (dp := []) at1 .nil ar (Rn.mono h fun od s' q => Ps.shift q st1)
  cases ha with
  | nil =>
    refine peM (pe_call0 F hr hg hm hk hb .nil pass0 hd) fun σ H Q h => ?_
    obtain ⟨B, cs, G, s, at_, h⟩ := go σ H Q h
    exact h [] cs G H (Stp.refl _ _ _) at_ trivial
  | cons h1 h2 =>
    refine peM (pe_call F hr hg hm hk hb .nil pass0 (pa_A (.cons h1 h2)) hd (star_of h1.2 _ _) (nst_all h2 _ _)) fun σ H Q h => ?_
    obtain ⟨B, cs, G, s, at_, h⟩ := go σ H Q h
    refine ⟨B, cs, G, s, at_, Rn.mono h fun ds s' q vs cs' G' H' st at' ar => ?_⟩
    show spI X.K C i (vs ++ []) H' Q E0
    rw [List.append_nil]
    exact q vs cs' G' H' st at' ar
/-! built-ins -/
theorem Ars.vw {es : List Ex} : ∀ {xs : List Ex} {vs : List V} {ds : List D}, At K B cs G s σ H → Ars K cs G s.r σ xs vs ds → Paired (Vw K cs G H) vs ds
  | [], [], [], _, _ => .nil
  | x :: xs, v :: vs, d :: ds, at_, ⟨h, k⟩ => .cons (by
      rcases h with h | ⟨i, _, x, y⟩
      · exact .inl h
      · obtain ⟨v', z, q⟩ := at_.en.val i true d x
        rw [y] at z; cases z
        obtain ⟨p, e2, g, n, z, o⟩ := q
        exact .inr ⟨p, e2, n, o⟩) (Ars.vw (es := es) at_ k)
def biP : Bi → Str × Value
  | .len => ("len", .builtin "len") | .abs => ("abs", .builtin "abs") | .max => ("max", .builtin "max") | .min => ("min", .builtin "min")
  | .sum => ("sum", .builtin "sum") | .int => ("int", .type "int") | .all => ("all", .builtin "all") | .list => ("list", .type "list")
def rBi (K : PySem.W.Frag) : Bi → List V → Hp → VK → Prop
  | .len => rLen K
  | .abs => fun xs H Q => ∃ i, xs = [.int i] ∧ Q (.int (if i < 0 then -i else i)) H
  | .max => fun xs H Q => ∃ i j, xs = [.int i, .int j] ∧ Q (.int (if j > i then j else i)) H
  | .min => fun xs H Q => ∃ i j, xs = [.int i, .int j] ∧ Q (.int (if j < i then j else i)) H
  | .sum => rSum K
  | .int => fun xs H Q => (∃ i, xs = [.int i] ∧ Q (.int i) H) ∨ ∃ k, xs = [.bl k] ∧ Q (.int (if k then 1 else 0)) H
  | .all => rAll K
  | .list => fun xs H Q => ∃ p ys, xs = [.ref p] ∧ (SqL K H p ys ∨ SqT K H p ys) ∧ ∀ l, H l = none → Q (.ref l) (upd H l (.lst ys))
theorem o_bi (hc : X.calm = true) : ∀ b : Bi, CallR X (biP b).2 (rBi X.K b)
  | .len => o_len
  | .abs => call_abs
  | .max => call_max2 hc
  | .min => call_min2 hc
  | .sum => cr_sum hc
  | .int => call_int1
  | .all => cr_all hc
  | .list => call_list_of
theorem boot_bi : ∀ b : Bi, bootBuiltins (biP b).1 = some (biP b).2
  | .len => PySem.boot_len
  | .abs => PyProof.Rows.boot_abs
  | .max => PyProof.Rows.boot_max
  | .min => PyProof.Rows.boot_min
  | .sum => PyProof.Rows.boot_sum
  | .int => boot_int
  | .all => PyProof.Rows.boot_all
  | .list => boot_list
theorem intsD_rep : ∀ {ds : List D} {is : List Int} {vs : List V}, intsD ds = some is → Reps K cs G vs ds → vs = is.map V.int
  | [], _, _, e, .nil => by cases e; rfl
  | d :: ds, _, _, e, .cons r rs => by
    cases d <;> simp only [intsD, reduceCtorEq] at e
    obtain ⟨js, e1, e2⟩ := Option.map_eq_some_iff.mp e
    subst e2
    rw [r.int_inv, intsD_rep e1 rs]; rfl
theorem blsD_rep : ∀ {ds : List D} {is : List Bool} {vs : List V}, blsD ds = some is → Reps K cs G vs ds → vs = is.map V.bl
  | [], _, _, e, .nil => by cases e; rfl
  | d :: ds, _, _, e, .cons r rs => by
    cases d <;> simp only [blsD, reduceCtorEq] at e
    obtain ⟨js, e1, e2⟩ := Option.map_eq_some_iff.mp e
    subst e2
    rw [r.bl_inv, blsD_rep e1 rs]; rfl
theorem bi_ok (at_ : At K B cs G s σ H) {b : Bi} {vs : List V} {ds : List D} (vw : Paired (Vw K cs G H) vs ds) (e : biD b ds s.c = some od) (q : Ps K B cs G H σ pk none Q od s) : rBi K b vs H Q := by
  cases vw with
  | nil => cases b <;> simp only [biD, reduceCtorEq] at e
  | cons h1 h2 =>
    rename_i v1 d1 vr dr
    cases h2 with
    | nil =>
      cases b <;> cases d1 <;> simp only [biD, reduceCtorEq] at e
      case len.tup ds =>
        cases e
        obtain ⟨a, vs, rfl, hs, rp⟩ := h1.tup at_.wd.le
        refine .inl ⟨a, vs, rfl, .inr hs, ?_⟩
        rw [rp.len]
        exact Ps.scal at_ (.int _) q
      case len.lst ds =>
        cases e
        obtain ⟨a, vs, rfl, hs, rp⟩ := h1.lst at_.wd.le
        refine .inl ⟨a, vs, rfl, .inl hs, ?_⟩
        rw [rp.len]
        exact Ps.scal at_ (.int _) q
      case len.dct ds =>
        cases e
        obtain ⟨a, vs, rfl, hs, rp⟩ := h1.dct at_.wd.le
        refine .inr ⟨a, vs, rfl, hs, ?_⟩
        rw [rp.len]
        exact Ps.scal at_ (.int _) q
      case len.cel n =>
        obtain ⟨xs, e1, e2⟩ := Option.map_eq_some_iff.mp e
        subst e2
        obtain ⟨a, rfl, ha⟩ := h1.cel
        obtain ⟨vs, e3, rp⟩ := at_.wd.cel n a xs ha e1
        refine .inl ⟨a, vs, rfl, .inl (.of e3), ?_⟩
        rw [rp.len]
        exact Ps.scal at_ (.int _) q
      case abs.int i => cases e; exact ⟨i, by rw [h1.int], Ps.scal at_ (.int _) q⟩
      case sum.lst ds =>
        obtain ⟨is, e1, e2⟩ := Option.map_eq_some_iff.mp e
        subst e2
        obtain ⟨a, vs, rfl, hs, rp⟩ := h1.lst at_.wd.le
        refine ⟨a, is, rfl, ?_, Ps.scal at_ (.int _) q⟩
        rw [← intsD_rep e1 rp]; exact hs
      case int.bl t => cases e; exact .inr ⟨t, by rw [h1.bl], Ps.scal at_ (.int _) q⟩
      case int.int i => cases e; exact .inl ⟨i, by rw [h1.int], Ps.scal at_ (.int _) q⟩
      case all.lst ds =>
        obtain ⟨is, e1, e2⟩ := Option.map_eq_some_iff.mp e
        subst e2
        obtain ⟨a, vs, rfl, hs, rp⟩ := h1.lst at_.wd.le
        refine ⟨a, is, rfl, ?_, Ps.scal at_ (.bl _) q⟩
        rw [← blsD_rep e1 rp]; exact hs
      case list.tup ds =>
        cases e
        obtain ⟨a, vs, rfl, hs, rp⟩ := h1.tup at_.wd.le
        exact ⟨a, vs, rfl, .inr hs, fun l hl => Ps.lst at_ rp hl q⟩
      case list.lst ds =>
        cases e
        obtain ⟨a, vs, rfl, hs, rp⟩ := h1.lst at_.wd.le
        exact ⟨a, vs, rfl, .inl hs, fun l hl => Ps.lst at_ rp hl q⟩
    | cons h2 h3 =>
      rename_i v2 d2 vr dr
      cases h3 with
      | nil =>
        cases b <;> cases d1 <;> simp only [biD, reduceCtorEq] at e <;> cases d2 <;> simp only [biD, reduceCtorEq] at e
        · cases e; exact ⟨_, _, by rw [h1.int, h2.int], Ps.scal at_ (.int _) q⟩
        · cases e; exact ⟨_, _, by rw [h1.int, h2.int], Ps.scal at_ (.int _) q⟩
      | cons _ _ => cases b <;> cases d1 <;> simp only [biD, reduceCtorEq] at e
theorem r_bi (hc : X.calm = true) (b : Bi) {p : Pos} (hg : Gl X (biP b).1) (hm : X.mg (biP b).1 = none) (hne : xs ≠ []) (ha : Prs X C es xs) : PE X (.Call (.Name (biP b).1 p) es [] pos) (tE X C (.bi b xs)) := by
  have go : ∀ (σ : L2.St) (H : Hp) (Q : VK), tE X C (.bi b xs) σ H Q → tA X C xs σ H fun vs H1 => rBi X.K b vs H1 Q := fun σ H Q ⟨B, cs, G, s, at_, h⟩ => by
    obtain ⟨ds, s1, e1, h⟩ := Rn.b2 h
    obtain ⟨od, e2, h⟩ := Rn.of h
    exact tA_in at_ e1 fun vs cs1 G1 H1 st1 at1 ar => bi_ok at1 (Ars.vw (es := []) at1 ar) e2 (Ps.shift h st1)
  cases ha with
  | nil => exact absurd rfl hne
  | cons h1 h2 =>
    have hdb : ((biP b).1 == ("__debug__" : Str)) = false := by cases b <;> decide +kernel
    have hn : (biP b).1 ≠ "__name__" := by cases b <;> decide +kernel
    have hb : ∀ id, (biP b).2 = .builtin id → PE X (.Call (.Name (biP b).1 p) _ [] pos) (tCB (rBi X.K b) (tA X C _)) := fun id e =>
      pe_callB (id := id) (e ▸ o_bi hc b) hg hm (e ▸ boot_bi b) (pa_A (.cons h1 h2)) hn hdb (star_of h1.2 _ _) (nst_all h2 _ _)
    have ht : ∀ id, (biP b).2 = .type id → PE X (.Call (.Name (biP b).1 p) _ [] pos) (tCB (rBi X.K b) (tA X C _)) := fun id e =>
      pe_callTy (T := id) (e ▸ o_bi hc b) hg hm (e ▸ boot_bi b) (pa_A (.cons h1 h2)) hn hdb (star_of h1.2 _ _) (nst_all h2 _ _)
    refine peM ?_ go
    cases b
    all_goals first | exact hb _ rfl | exact ht _ rfl
/-! f(*x, a, ..) -/
theorem evalArgs_two {M : Model} {A : Around} {E : Value → Shared → Prop} {s : Shared} {f : Value} {t u : Bool × Sem Value} {rest : List (Bool × Sem Value)} {Q : Args → Shared → Prop}
    (h : wpAny M A (spliced (t :: u :: rest)) (fun vs s' => Q ⟨vs, []⟩ s') E s) : wpAny M A (evalArgs f true (t :: u :: rest) []) Q E s := by
  obtain ⟨tb, tx⟩ := t
  cases tb with
  | false => exact Calls.evalArgs_plain h
  | true =>
  unfold evalArgs
  show wpAny M A (spliced ((true, tx) :: u :: rest) >>= _) Q E s
  refine wpAny_bind (wpAny_mono h (fun vs s' h' => ?_) fun _ _ x => x)
  refine wpAny_holding ?_
  exact wpAny_bind (wpAny_pure (wpAny_bind (wpAny_pure (wpAny_pure h'))))
theorem r_callS {f : Addr} {fd : FuncData} {ps : List Str} {n : Str} {i k : Nat} {p q : Pos} (F : FnOk X.prog X.w X.K X.mg X.base CX0 k f fd ps (spI X.K C i)) (hr : Room k X.A) (hg : Gl X n) (hm : X.mg n = some (.ref f)) (hk : PySem.W.keepIn X.K (.ref f) = true) (hb : Binds X.K fd ps [])
    (hd : (n == ("__debug__" : Str)) = false) (ha : PE X a (tE X C x)) (hne : xs ≠ []) (hes : Prs X C es xs) : PE X (.Call (.Name n p) (.Starred a q :: es) [] pos) (tE X C (.callS i x xs)) := by
  have hpa : PA X (.Starred a q :: es) (StX.tStar X.K (tE X C x) (tA X C xs)) := StX.pa_star ha (pa_A hes) rfl
  refine ⟨fun pins s0 σ H Q I ⟨B, cs, G, s, at_, h⟩ => ?_⟩
  obtain ⟨⟨o1, dx⟩, s1, e1, h1⟩ := Rn.b2 h
  obtain ⟨ds, s2, e2, h2⟩ := Rn.b2 h1
  cases dx <;> first | exact h2.elim | skip
  rename_i dp
  have t : StX.tStar X.K (tE X C x) (tA X C xs) σ H fun vs H1 => spI X.K C i vs H1 Q E0 := by
    refine tE_in at_ e1 fun v cs1 G1 H1 st1 at1 r1 => ?_
    obtain ⟨a', vs, rfl, hs, rp⟩ := r1.vw.tup at1.wd.le
    refine ⟨a', vs, rfl, .inl hs, tA_in at1 e2 fun ws cs2 G2 H2 st2 at2 ar => ?_⟩
    exact call_sp at2 (rp.mono st2.pre st2.le) ar (Rn.mono h2 fun od s' q => Ps.shift (Ps.shift q st1) st2)
  cases hes with
  | nil => exact absurd rfl hne
  | @cons b1 y1 es1 xs1 hb1 hb2 =>
    have he : starEach (.Starred a q :: b1 :: es1) X.env = (true, eval a X.env) :: (false, eval b1 X.env) :: starEach es1 X.env := by
      show (true, eval a X.env) :: starEach (b1 :: es1) X.env = _
      rw [star_of hb1.2]
    refine wpAny_Call_Name_kw (ld_glob I hg hm ?_ hd)
    refine PySem.W.ks_call (P := fun h => X.K.In h) (by rw [he]; rfl) (PySem.W.keeps_K hk) ?_
    have z := hpa.run pos pins s0 σ H _ I t
    rw [he] at z ⊢
    exact evalArgs_two (thn z fun us s1 ⟨vs, H1, I1, r, q1⟩ => ⟨I1.kIn, run_fn F hr hb .nil pass0 I1 r (by rw [List.append_nil]; exact q1)⟩)
/-! isinstance -/
def tyP : Ty → String
  | .int => "int" | .bool => "bool" | .str => "str" | .tup => "tuple" | .lst => "list" | .dct => "dict"
def tyN : D → String
  | .non => "NoneType" | .bl _ => "bool" | .int _ => "int" | .str _ => "str" | .tup _ => "tuple" | .lst _ => "list" | .dct _ => "dict" | .cel _ => "list"
theorem kit_all (d : D) (t : Ty) (b : Bool) (h : isD d t = some b) : kitB (tyN d) (tyP t) = some b := by
  cases d <;> cases t <;> simp only [isD, reduceCtorEq] at h <;> cases h <;> (simp only [tyN, tyP]; decide +kernel)
theorem Vw.ty (le : Le G H) (h : Vw K cs G H v d) (hc : ∀ n, d ≠ .cel n) : TyX K H v (.type (tyN d)) := by
  cases d with
  | non => rw [h.non]; exact .base .non
  | bl b => rw [h.bl]; exact .base (.bl _)
  | int i => rw [h.int]; exact .base (.int _)
  | str x => rw [h.str]; exact .base (.str _)
  | tup ds =>
    obtain ⟨a, vs, rfl, hs, _⟩ := h.tup le
    rcases hs with (e | ⟨o, e⟩) | ⟨o, its, n, hk, hc, _⟩
    · exact .base (.tup e)
    · exact .fTuple e
    · exact .kTuple hk hc
  | lst ds =>
    obtain ⟨a, vs, rfl, hs, _⟩ := h.lst le
    rcases hs with (e | ⟨o, e⟩) | ⟨o, its, n, hk, hc, _⟩
    · exact .base (.lst e)
    · exact .base (.frz e)
    · exact .kList hk hc
  | dct ds =>
    obtain ⟨a, vs, rfl, hs, _⟩ := h.dct le
    rcases hs with e | ⟨o, e⟩
    · exact .base (.dK e)
    · exact .fDict e
  | cel n => exact absurd rfl (hc n)
theorem boot_ty : ∀ t : Ty, bootBuiltins (Str.ofString (tyP t)) = some (.type (tyP t))
  | .int => boot_int
  | .bool => boot_bool
  | .str => boot_str
  | .tup => boot_tuple
  | .lst => boot_list
  | .dct => boot_dict
theorem r_isi (t : Ty) {p p2 : Pos} (hg : Gl X "isinstance") (hm : X.mg "isinstance" = none) (hg2 : Gl X (Str.ofString (tyP t))) (hm2 : X.mg (Str.ofString (tyP t)) = none) (hst : nStar a = true) (ha : PE X a (tE X C x)) :
    PE X (.Call (.Name "isinstance" p) [a, .Name (Str.ofString (tyP t)) p2] [] pos) (tE X C (.isi x t)) := by
  have hT : PE X (.Name (Str.ofString (tyP t)) p2) (tC (.ty (tyP t))) := pe_bltn hg2 hm2 (boot_ty t) rfl (by cases t <;> decide +kernel) (by cases t <;> decide +kernel)
  refine peM (pe_callB call_isi hg hm boot_isinstance (pa_cons ha (pa_cons hT pa_nil rfl) (star_of hst _ _)) (by decide +kernel) (by decide +kernel) (star_of hst _ _) rfl) fun σ H Q ⟨B, cs, G, s, at_, h⟩ => ?_
  obtain ⟨⟨o1, dx⟩, s1, e1, h1⟩ := Rn.b2 h
  obtain ⟨t1, s2, e2', h2⟩ := Rn.b2 h1
  obtain ⟨e2, rfl⟩ := R.of_eq e2'
  refine tE_in at_ e1 fun v cs1 G1 H1 st1 at1 r1 => ?_
  refine ⟨v, .ty (tyP t), .type (tyN dx), .type (tyP t), t1, rfl, .ty _, r1.vw.ty at1.wd.le (fun n e => ?_), kit_ty (kit_all dx t t1 e2), Ps.scal at1 (.bl _) (Ps.shift h2 st1)⟩
  rw [show dx = .cel n from e] at e2
  cases e2
/-! d.get(k, x) -/
def nCall : Expr → Bool
  | .Call .. => false
  | _ => true
theorem base_of {o : Expr} (h : nCall o = true) (m : Str) (env : PySem.Env) : attributeBase o m env (eval o env) = eval o env := by
  cases o <;> first | rfl | (simp [nCall] at h)
theorem r_get {apos : Pos} (hu : X.A.units + 1 < cLine) (hc : nCall a = true) (hb' : nStar b = true) (hc' : nStar c = true) (hl : (apos.endLine == pos.line) = true) (ha : PE X a (tE X C x)) (hb : PE X b (tE X C y)) (hcc : PE X c (tE X C z)) :
    PE X (.Call (.Attribute a "get" apos) [b, c] [] pos) (tE X C (.get x y z)) := by
  have e1 : starEach [b, c] X.env = [(false, eval b X.env), (false, eval c X.env)] := by rw [star_of hb', star_of hc']; rfl
  refine peM (pe_dget2 hu ha hb hcc ⟨base_of hc _ _, by rw [e1]; rfl, hl, by rw [e1]; rfl⟩) fun σ H Q ⟨B, cs, G, s, at_, h⟩ => ?_
  obtain ⟨⟨o1, dx⟩, s1, e1, h1⟩ := Rn.b2 h
  obtain ⟨⟨o2, dy⟩, s2, e2, h2⟩ := Rn.b2 h1
  obtain ⟨⟨o3, dz⟩, s3, e3, h3⟩ := Rn.b2 h2
  clear h h1 h2
  cases dx <;> first | exact h3.elim | skip
  rename_i ks
  simp only at h3
  split at h3
  · rename_i hk
    rw [Bool.and_eq_true] at hk
    obtain ⟨j, hj⟩ := keyD_of hk.1
    refine tE_in at_ e1 fun v cs1 G1 H1 st1 at1 r1 => ?_
    obtain ⟨a', vs1, rfl, hs1, _⟩ := r1.vw.dct at1.wd.le
    refine ⟨a', rfl, .inl ⟨_, hs1⟩, tE_in at1 e2 fun w cs2 G2 H2 st2 at2 r2 => tE_in at2 e3 fun u cs3 G3 H3 st3 at3 r3 => ?_⟩
    obtain ⟨a'', vs, ea, hs, rp⟩ := ((r1.vw.mono st2).mono st3).dct at3.wd.le
    cases ea
    have kv := kV_rep hj (r2.vw.mono st3)
    have g := RepK.get hj rp
    have sh := Ps.shift (Ps.shift (Ps.shift h3 st1) st2) st3
    refine ⟨valV vs j, .inl ⟨vs, j, hs, kv, rfl⟩, ?_⟩
    cases gd : getD ks dy with
    | some dd =>
      obtain ⟨u', e5, ru⟩ := g.1 dd gd
      rw [e5]
      rw [gd] at sh
      exact Ps.scal at3 ru sh
    | none =>
      rw [g.2 gd]
      rw [gd] at sh
      obtain ⟨G4, le4, at4, rp4⟩ := r3.freeze at3 (by have t := hk.2; revert t; show (!(o3 && isPk z)) = true → (o3 && isPk z) = false; cases (o3 && isPk z) <;> simp)
      exact Ps.scal at4 rp4 (Ps.shift sh (Stp.grow le4))
  · exact h3.elim
theorem r_lrev {p p2 pos2 : Pos} (hc : X.calm = true) (hg : Gl X "list") (hm : X.mg "list" = none) (hg2 : Gl X "reversed") (hm2 : X.mg "reversed" = none) (hst : nStar a = true) (ha : PE X a (tE X C x)) :
    PE X (.Call (.Name "list" p) [.Call (.Name "reversed" p2) [a] [] pos2] [] pos) (tE X C (.lrev x)) :=
  peM (pe_lrev hc hg hm hg2 hm2 ha (star_of hst _ _)) fun σ H Q ⟨B, cs, G, s, at_, h⟩ => by
    obtain ⟨⟨o1, dx⟩, s1, e1, h1⟩ := Rn.b2 h
    cases dx <;> first | exact h1.elim | skip
    refine tE_in at_ e1 fun v cs1 G1 H1 st1 at1 r1 => ?_
    obtain ⟨a', vs, rfl, hs, rp⟩ := r1.vw.lst at1.wd.le
    exact ⟨a', vs, rfl, hs, fun q hq => Ps.lst at1 rp.rev hq (Ps.shift h1 st1)⟩
/-! a cell's last item taken -/
theorem r_pop {i : Nat} {n : Str} {apos p : Pos} (hN : X.N[i]? = some n) (hv : Vis X.env.scope n) (hd : (n == ("__debug__" : Str)) = false) (hcd : (n == ("__classdict__" : Str)) = false) (hl : (apos.endLine == pos.line) = true) :
    PE X (.Call (.Attribute (.Name n p) "pop" apos) [] [] pos) (tE X C (.pop i)) :=
  peM (pe_bm0 PySem.F.plainAttrs_list PySem.F.slot_list_pop PySem.F.type_list_pop mt_pop (pe_var (i := i) hN hv hd hcd) rfl hl) fun σ H Q ⟨B, cs, G, s, at_, h⟩ => by
    simp only [ev] at h
    split at h
    · rename_i o m q
      split at h
      · rename_i xs e1
        split at h
        · rename_i dl e2
          obtain ⟨v, e3, vr⟩ := at_.en.val i o _ q
          have hv' := vr.vw
          obtain ⟨a', rfl, ha⟩ := hv'.cel
          obtain ⟨vs, e4, rp⟩ := at_.wd.cel m a' xs ha e1
          have hx : xs[xs.length - 1]? = some dl := by rw [List.getLast?_eq_getElem?] at e2; exact e2
          obtain ⟨u, hu', ru⟩ := rp.get hx
          refine ⟨.ref a', e3, .inl ⟨rfl, _, .of e4⟩, a', vs, u, rfl, rfl, e4, by rw [rp.len]; exact hu', ?_⟩
          have ma : a' ∈ cs := List.mem_of_getElem? ha
          have hm : m < cs.length := (List.getElem?_eq_some_iff.mp ha).1
          -- the cell changed
          have st : Stp cs G H cs G (upd H a' (.lst vs.dropLast)) := ⟨Pre.refl _, fun _ h => .inl h, Le.refl _, fun x o n h => by rw [upd_ne (fun y => n (by rw [y]; exact ma))]; exact h⟩
          have ga : G a' = none := at_.wd.cg a' ma
          have wd : Wd X.K B cs G (s.c.set m xs.dropLast) (upd H a' (.lst vs.dropLast)) := by
            refine ⟨fun x w r => ?_, at_.wd.gl, at_.wd.gn, at_.wd.cg, at_.wd.nd, by rw [List.length_set]; exact at_.wd.len, fun k x ds h1 h2 => ?_, fun q mq => ?_, fun x w h1 n => ?_⟩
            · have ne : x ≠ a' := fun y => by
                rw [y] at r
                rcases r with z | ⟨_, z⟩ <;> rw [ga] at z <;> cases z
              rcases at_.wd.le x w r with z | ⟨od, z⟩
              · exact .inl (by rw [upd_ne ne]; exact z)
              · exact .inr ⟨od, by rw [upd_ne ne]; exact z⟩
            · by_cases y : k = m
              · subst y
                rw [List.getElem?_set_self (by rw [at_.wd.len]; exact hm)] at h2
                cases h2
                rw [ha] at h1; cases h1
                exact ⟨_, upd_same, rp.dropLast⟩
              · rw [List.getElem?_set_ne (fun z => y z.symm)] at h2
                obtain ⟨ws, h3, h4⟩ := at_.wd.cel k x ds h1 h2
                refine ⟨ws, ?_, h4⟩
                rw [upd_ne]; exact h3
                intro z; subst z
                exact y (nd_ix at_.wd.nd h1 ha)
            · obtain ⟨o, h1, h2⟩ := at_.wd.lok q mq
              refine ⟨o, h1, ?_⟩
              rw [upd_ne]; exact h2
              intro z; rw [z, ga] at h1; cases h1
            · have ne : x ≠ a' := fun y => n (by rw [y]; exact ma)
              rw [upd_ne ne]; exact at_.wd.fr x w h1 n
          refine h _ cs G _ st ⟨wd, at_.en.mono st fun j dd p' hj sj => ?_⟩ ⟨ru, fun h => (nomatch h), fun _ h => nomatch h⟩
          obtain ⟨v', y, q', e', g, _⟩ := at_.en.val j true dd hj
          rw [sj] at y; cases y
          cases e'; exact g
        · exact h.elim
      · exact h.elim
    · exact h.elim
end
end Q
end

section
set_option Elab.async false
set_option linter.all false
set_option maxRecDepth 100000
set_option maxHeartbeats 4000000
namespace Q
open PySem PySem.Spec PyProof.Rows L2
/-! ### what is under way: pinned; what is walked: locked -/
def Bs.pin (B : Bs) (D : Addr) (o : HO) : Bs := ⟨upd B.h0 D o, B.g0, B.lk⟩
def Bs.lock (B : Bs) (d : Addr) (od : Obj) : Bs := ⟨B.h0, B.g0, (d, od) :: B.lk⟩
section
variable {K : PySem.W.Frag} {B : Bs} {cs cs' cs1 : List Addr} {G G' G1 H H' H1 : Hp} {s s1 : S} {σ σ' : L2.St} {v w : V} {d dx dy : D} {p a : Addr} {Q : VK} {o o' u : HO} {r : Row}
theorem upd_none {X : Hp} {b : Addr} (h : upd X a o b = none) : b ≠ a ∧ X b = none := by
  by_cases e : b = a
  · subst e; rw [upd_same] at h; cases h
  · rw [upd_ne e] at h; exact ⟨e, h⟩
theorem At.own_none {i : Nat} (at_ : At K B cs G s σ H) (hi : s.r[i]? = some (some (true, d))) (hs : σ[i]? = some (some (.ref p))) : G p = none ∧ p ∉ cs ∧ B.h0 p = none ∧ Own K cs G H p d := by
  obtain ⟨v', y, q', e', g, n, z, ow⟩ := at_.en.val i true d hi
  rw [hs] at y; cases y
  cases e'
  exact ⟨g, n, z, ow⟩
theorem At.rebase {B' : Bs} (at_ : At K B cs G s σ H) (hg : B'.g0 = B.g0) (hl : B'.lk = B.lk) (h1 : ∀ a o, G a = some o → B.h0 a = none → B'.h0 a = none) (h2 : ∀ a o, B'.h0 a = some o → a ∉ cs → B.h0 a = some o ∨ H a = some o)
    (h3 : ∀ (i : Nat) (d : D) (p : Addr), s.r[i]? = some (some (true, d)) → σ[i]? = some (some (.ref p)) → B.h0 p = none → B'.h0 p = none) : At K B' cs G s σ H := by
  refine ⟨⟨at_.wd.le, by rw [hg]; exact at_.wd.gl, fun a o x => ?_, at_.wd.cg, at_.wd.nd, at_.wd.len, at_.wd.cel, by rw [hl]; exact at_.wd.lok, fun a o x n => ?_⟩, ⟨at_.en.len, fun i ob d h => ?_, at_.en.dis⟩⟩
  · rw [hg]; exact (at_.wd.gn a o x).imp id (h1 a o x)
  · rw [hl]
    rcases h2 a o x n with y | y
    · exact at_.wd.fr a o y n
    · exact .inl y
  · obtain ⟨v, e, vr⟩ := at_.en.val i ob d h
    refine ⟨v, e, ?_⟩
    cases ob with
    | false => exact vr
    | true =>
      obtain ⟨p, e1, g, n, z, ow⟩ := vr
      subst e1
      exact ⟨p, rfl, g, n, h3 i d p h e z, ow⟩
theorem At.pin {Da : Addr} (at_ : At K B cs G s σ H) (hD : H Da = some o) (n : Da ∉ cs) (g : G Da = none) (no : ∀ (i : Nat) (e : D), s.r[i]? = some (some (true, e)) → σ[i]? ≠ some (some (.ref Da))) : At K (B.pin Da o) cs G s σ H :=
  at_.rebase rfl rfl (fun a u x y => by
    show upd B.h0 Da o a = none
    rw [upd_ne (fun z => by rw [z, g] at x; cases x)]; exact y) (fun a u x m => by
    by_cases z : a = Da
    · subst z
      rw [show (B.pin a o).h0 a = some o from upd_same] at x
      cases x; exact .inr hD
    · rw [show (B.pin Da o).h0 a = B.h0 a from upd_ne z] at x
      exact .inl x) (fun i d p hi hs z => by
    show upd B.h0 Da o p = none
    rw [upd_ne (fun y => no i d hi (by rw [← y]; exact hs))]; exact z)
theorem At.unpin {Da : Addr} (at_ : At K (B.pin Da o) cs G s σ H) (z : B.h0 Da = none) : At K B cs G s σ H :=
  at_.rebase rfl rfl (fun a u x y => (upd_none y).2) (fun a u x m => .inl (by
    show upd B.h0 Da o a = some u
    rw [upd_ne (fun y => by rw [y, z] at x; cases x)]; exact x)) (fun i d p hi hs y => (upd_none y).2)
theorem At.pinned {Da : Addr} (at_ : At K (B.pin Da o) cs G s σ H) (g0 : B.g0 Da = none) (n : Da ∉ cs) : G Da = none ∧ H Da = some o := by
  have g : G Da = none := by
    cases x : G Da with
    | none => rfl
    | some w =>
      rcases at_.wd.gn Da w x with y | y
      · exact absurd g0 y
      · rw [show (B.pin Da o).h0 Da = some o from upd_same] at y; cases y
  refine ⟨g, ?_⟩
  rcases at_.wd.fr Da o upd_same n with x | ⟨od, m, _⟩
  · exact x
  · obtain ⟨w, y, _⟩ := at_.wd.lok (Da, od) m
    rw [g] at y; cases y
theorem upd_le {Da : Addr} (le : Le G H) (g : G Da = none) : Le G (upd H Da o) := fun a u r => by
  have ne : a ≠ Da := fun y => by
    rw [y] at r
    rcases r with z | ⟨_, z⟩ <;> rw [g] at z <;> cases z
  rcases le a u r with z | ⟨od, z⟩
  · exact .inl (by rw [upd_ne ne]; exact z)
  · exact .inr ⟨od, by rw [upd_ne ne]; exact z⟩
theorem At.repin {Da : Addr} (at_ : At K (B.pin Da o) cs G s σ H) (g0 : B.g0 Da = none) (n : Da ∉ cs) : At K (B.pin Da o') cs G s σ (upd H Da o') := by
  obtain ⟨g, hD⟩ := at_.pinned g0 n
  have h0e : ∀ a, a ≠ Da → (B.pin Da o').h0 a = (B.pin Da o).h0 a := fun a y => by
    show upd B.h0 Da o' a = upd B.h0 Da o a
    rw [upd_ne y, upd_ne y]
  refine ⟨⟨upd_le at_.wd.le g, at_.wd.gl, fun a w x => ?_, at_.wd.cg, at_.wd.nd, at_.wd.len, fun k a ds h1 h2 => ?_, fun q m => ?_, fun a w x m => ?_⟩, ⟨at_.en.len, fun i ob d h => ?_, at_.en.dis⟩⟩
  · rw [h0e a (fun y => by rw [y, g] at x; cases x)]; exact at_.wd.gn a w x
  · obtain ⟨vs, h3, h4⟩ := at_.wd.cel k a ds h1 h2
    refine ⟨vs, ?_, h4⟩
    rw [upd_ne]; exact h3
    intro y; subst y; exact n (List.mem_of_getElem? h1)
  · obtain ⟨w, h1, h2⟩ := at_.wd.lok q m
    refine ⟨w, h1, ?_⟩
    rw [upd_ne]; exact h2
    intro y; rw [y, g] at h1; cases h1
  · by_cases y : a = Da
    · subst y
      rw [show (B.pin a o').h0 a = some o' from upd_same] at x
      cases x; exact .inl upd_same
    · rw [h0e a y] at x
      rcases at_.wd.fr a w x m with z | ⟨od, z, z2⟩
      · exact .inl (by rw [upd_ne y]; exact z)
      · exact .inr ⟨od, z, by rw [upd_ne y]; exact z2⟩
  · obtain ⟨v, e, vr⟩ := at_.en.val i ob d h
    refine ⟨v, e, ?_⟩
    cases ob with
    | false => exact vr
    | true =>
      obtain ⟨p, e1, g1, n1, z, ow⟩ := vr
      subst e1
      have ne : p ≠ Da := fun y => by
        rw [y, show (B.pin Da o).h0 Da = some o from upd_same] at z; cases z
      refine ⟨p, rfl, g1, n1, by rw [h0e p ne]; exact z, ?_⟩
      cases d with
      | lst ds => obtain ⟨vs, x, y⟩ := ow; exact ⟨vs, by rw [upd_ne ne]; exact x, y⟩
      | dct ds => obtain ⟨vs, x, y⟩ := ow; exact ⟨vs, by rw [upd_ne ne]; exact x, y⟩
      | _ => exact ow.elim
/-! locks -/
theorem At.lockd {kvs : List (Key × V)} (at_ : At K B cs G s σ H) (hG : Rd G a (.dK kvs)) (hH : H a = some (.dK kvs)) : G a = some (.dK kvs) ∧ (∀ q ∈ B.lk, q.1 ≠ a) ∧ (∀ x y, B.h0 a ≠ some (.frz x y)) := by
  refine ⟨?_, fun q m e => ?_, fun x y h => ?_⟩
  · rcases hG with h | ⟨od, h⟩
    · exact h
    · rcases at_.wd.le a (.frz od (.dK kvs)) (.inl h) with x | ⟨_, x⟩ <;> rw [hH] at x <;> cases x
  · obtain ⟨w, _, h⟩ := at_.wd.lok q m
    rw [e, hH] at h; cases h
  · have n : a ∉ cs := fun m => by
      have := at_.wd.cg a m
      rcases hG with h | ⟨od, h⟩ <;> rw [this] at h <;> cases h
    rcases at_.wd.fr a _ h n with z | ⟨_, _, z⟩ <;> rw [hH] at z <;> cases z
theorem At.lock {kvs : List (Key × V)} {od : Obj} (at_ : At K B cs G s σ H) (hG : G a = some (.dK kvs)) (hH : H a = some (.dK kvs)) : At K (B.lock a od) cs G s σ (upd H a (.frz od (.dK kvs))) := by
  have ncs : a ∉ cs := fun m => by rw [at_.wd.cg a m] at hG; cases hG
  refine ⟨⟨fun b u r => ?_, at_.wd.gl, at_.wd.gn, at_.wd.cg, at_.wd.nd, at_.wd.len, fun k b ds h1 h2 => ?_, fun q m => ?_, fun b w x n => ?_⟩, ⟨at_.en.len, fun i ob d h => ?_, at_.en.dis⟩⟩
  · by_cases y : b = a
    · subst y
      rcases r with z | ⟨_, z⟩ <;> rw [hG] at z <;> cases z
      exact .inr ⟨od, upd_same⟩
    · rcases at_.wd.le b u r with z | ⟨e, z⟩
      · exact .inl (by rw [upd_ne y]; exact z)
      · exact .inr ⟨e, by rw [upd_ne y]; exact z⟩
  · obtain ⟨vs, h3, h4⟩ := at_.wd.cel k b ds h1 h2
    refine ⟨vs, ?_, h4⟩
    rw [upd_ne]; exact h3
    intro y; subst y; exact ncs (List.mem_of_getElem? h1)
  · rcases List.mem_cons.mp m with e | m
    · subst e; exact ⟨_, hG, upd_same⟩
    · obtain ⟨w, h1, h2⟩ := at_.wd.lok q m
      refine ⟨w, h1, ?_⟩
      rw [upd_ne]; exact h2
      intro y; rw [y, hH] at h2; cases h2
  · by_cases y : b = a
    · subst y
      rcases at_.wd.fr b w x n with z | ⟨_, _, z⟩ <;> rw [hH] at z <;> cases z
      exact .inr ⟨od, List.mem_cons_self, upd_same⟩
    · rcases at_.wd.fr b w x n with z | ⟨e, z, z2⟩
      · exact .inl (by rw [upd_ne y]; exact z)
      · exact .inr ⟨e, List.mem_cons_of_mem _ z, by rw [upd_ne y]; exact z2⟩
  · obtain ⟨v, e, vr⟩ := at_.en.val i ob d h
    refine ⟨v, e, ?_⟩
    cases ob with
    | false => exact vr
    | true =>
      obtain ⟨p, e1, g1, n1, z, ow⟩ := vr
      subst e1
      have ne : p ≠ a := fun y => by rw [y, hG] at g1; cases g1
      refine ⟨p, rfl, g1, n1, z, ?_⟩
      cases d with
      | lst ds => obtain ⟨vs, x, y⟩ := ow; exact ⟨vs, by rw [upd_ne ne]; exact x, y⟩
      | dct ds => obtain ⟨vs, x, y⟩ := ow; exact ⟨vs, by rw [upd_ne ne]; exact x, y⟩
      | _ => exact ow.elim
theorem At.unlock {od : Obj} (at_ : At K (B.lock a od) cs G s σ H) (nl : ∀ q ∈ B.lk, q.1 ≠ a) (nf : ∀ x y, B.h0 a ≠ some (.frz x y)) : ∃ u, G a = some u ∧ H a = some (.frz od u) ∧ At K B cs G s σ (upd H a u) := by
  obtain ⟨u, hG, hH⟩ := at_.wd.lok (a, od) List.mem_cons_self
  have ncs : a ∉ cs := fun m => by rw [at_.wd.cg a m] at hG; cases hG
  refine ⟨.dK u, hG, hH, ⟨⟨fun b w r => ?_, at_.wd.gl, at_.wd.gn, at_.wd.cg, at_.wd.nd, at_.wd.len, fun k b ds h1 h2 => ?_, fun q m => ?_, fun b w x n => ?_⟩, ⟨at_.en.len, fun i ob d h => ?_, at_.en.dis⟩⟩⟩
  · by_cases y : b = a
    · subst y
      rcases r with z | ⟨e, z⟩ <;> rw [hG] at z <;> cases z
      exact .inl upd_same
    · rcases at_.wd.le b w r with z | ⟨e, z⟩
      · exact .inl (by rw [upd_ne y]; exact z)
      · exact .inr ⟨e, by rw [upd_ne y]; exact z⟩
  · obtain ⟨vs, h3, h4⟩ := at_.wd.cel k b ds h1 h2
    refine ⟨vs, ?_, h4⟩
    rw [upd_ne]; exact h3
    intro y; subst y; exact ncs (List.mem_of_getElem? h1)
  · obtain ⟨w, h1, h2⟩ := at_.wd.lok q (List.mem_cons_of_mem _ m)
    exact ⟨w, h1, by rw [upd_ne (nl q m)]; exact h2⟩
  · by_cases y : b = a
    · subst y
      rcases at_.wd.fr b w x n with z | ⟨e, _, z⟩ <;> rw [hH] at z <;> cases z
      · exact absurd x (nf _ _)
      · exact .inl upd_same
    · rcases at_.wd.fr b w x n with z | ⟨e, z, z2⟩
      · exact .inl (by rw [upd_ne y]; exact z)
      · rcases List.mem_cons.mp z with q | q
        · cases q; exact absurd rfl y
        · exact .inr ⟨e, q, by rw [upd_ne y]; exact z2⟩
  · obtain ⟨v, e, vr⟩ := at_.en.val i ob d h
    refine ⟨v, e, ?_⟩
    cases ob with
    | false => exact vr
    | true =>
      obtain ⟨p, e1, g1, n1, z, ow⟩ := vr
      subst e1
      have ne : p ≠ a := fun y => by rw [y, hG] at g1; cases g1
      refine ⟨p, rfl, g1, n1, z, ?_⟩
      cases d with
      | lst ds => obtain ⟨vs, x, y⟩ := ow; exact ⟨vs, by rw [upd_ne ne]; exact x, y⟩
      | dct ds => obtain ⟨vs, x, y⟩ := ow; exact ⟨vs, by rw [upd_ne ne]; exact x, y⟩
      | _ => exact ow.elim
/-! names stored -/
theorem At.set {i : Nat} (at_ : At K B cs G s σ H) (rp : Rep K cs G v d) : At K B cs G ⟨s.r.set i (some (false, d)), s.c⟩ (σ.set i (some v)) H := by
  refine ⟨at_.wd, ⟨by simp [at_.en.len], fun j ob d' h => ?_, fun j k d' e' v' ne hj hk sj sk => ?_⟩⟩
  · by_cases x : j = i
    · subst x
      have hl : j < s.r.length := by
        have := (List.getElem?_eq_some_iff.mp h).1
        simpa using this
      rw [List.getElem?_set_self hl] at h
      cases h
      exact ⟨v, by rw [List.getElem?_set_self (by rw [at_.en.len]; exact hl)], rp⟩
    · rw [List.getElem?_set_ne (fun y => x y.symm)] at h
      obtain ⟨w, e, vr⟩ := at_.en.val j ob d' h
      exact ⟨w, by rw [List.getElem?_set_ne (fun y => x y.symm)]; exact e, vr⟩
  · have t : ∀ (m : Nat) (f : D), (s.r.set i (some (false, d)))[m]? = some (some (true, f)) → m ≠ i ∧ s.r[m]? = some (some (true, f)) := fun m f h => by
      by_cases x : m = i
      · subst x
        have hl : m < s.r.length := by simpa using (List.getElem?_eq_some_iff.mp h).1
        rw [List.getElem?_set_self hl] at h; cases h
      · rw [List.getElem?_set_ne (fun y => x y.symm)] at h; exact ⟨x, h⟩
    obtain ⟨a1, b1⟩ := t j d' hj
    obtain ⟨a2, b2⟩ := t k e' hk
    rw [List.getElem?_set_ne (fun y => a1 y.symm)] at sj
    rw [List.getElem?_set_ne (fun y => a2 y.symm)] at sk
    exact at_.en.dis j k d' e' v' ne b1 b2 sj sk
/-- an owned one -/
theorem At.setO {i : Nat} {b : Bool} (at_ : At K B cs G s σ H) (vr : ValR K B cs G H b v d) (no : b = true → ∀ (i : Nat) (e : D), s.r[i]? = some (some (true, e)) → σ[i]? ≠ some (some v)) : At K B cs G ⟨s.r.set i (some (b, d)), s.c⟩ (σ.set i (some v)) H := by
  cases b with
  | false => exact at_.set vr
  | true =>
    refine ⟨at_.wd, ⟨by simp [at_.en.len], fun j ob d' h => ?_, fun j k d' e' v' ne hj hk sj sk => ?_⟩⟩
    · by_cases x : j = i
      · subst x
        have hl : j < s.r.length := by
          have := (List.getElem?_eq_some_iff.mp h).1
          simpa using this
        rw [List.getElem?_set_self hl] at h
        cases h
        exact ⟨v, by rw [List.getElem?_set_self (by rw [at_.en.len]; exact hl)], vr⟩
      · rw [List.getElem?_set_ne (fun y => x y.symm)] at h
        obtain ⟨w, e, vr⟩ := at_.en.val j ob d' h
        exact ⟨w, by rw [List.getElem?_set_ne (fun y => x y.symm)]; exact e, vr⟩
    · have hlj : j < s.r.length := by simpa using (List.getElem?_eq_some_iff.mp hj).1
      have hlk : k < s.r.length := by simpa using (List.getElem?_eq_some_iff.mp hk).1
      by_cases x : j = i
      · subst x
        rw [List.getElem?_set_self (by rw [at_.en.len]; exact hlj)] at sj
        cases sj
        rw [List.getElem?_set_ne ne] at hk sk
        exact no rfl k e' hk sk
      · rw [List.getElem?_set_ne (fun y => x y.symm)] at hj sj
        by_cases y : k = i
        · subst y
          rw [List.getElem?_set_self (by rw [at_.en.len]; exact hlk)] at sk
          cases sk
          exact no rfl j d' hj sj
        · rw [List.getElem?_set_ne (fun z => y z.symm)] at hk sk
          exact at_.en.dis j k d' e' v' ne hj hk sj sk
theorem wipe_len' (σ : L2.St) : ∀ vs : List Nat, (wipe σ vs).length = σ.length := wipe_length σ
theorem wipe_get {σ : L2.St} : ∀ {vs : List Nat} {i : Nat}, i ∉ vs → (wipe σ vs)[i]? = σ[i]? := wipe_out
theorem At.wipe {own : List Nat} (at_ : At K B cs G s σ H) : At K B cs G ⟨wipeR s.r own, s.c⟩ (L2.wipe σ own) H := by
  refine ⟨at_.wd, ⟨by rw [wipe_len', wipe_len, at_.en.len], fun j ob d' h => ?_, fun j k d' e' v' ne hj hk sj sk => ?_⟩⟩
  · obtain ⟨n, h⟩ := wipe_in _ _ _ _ h
    obtain ⟨w, e, vr⟩ := at_.en.val j ob d' h
    exact ⟨w, by rw [wipe_get n]; exact e, vr⟩
  · obtain ⟨n, hj⟩ := wipe_in _ _ _ _ hj
    obtain ⟨m, hk⟩ := wipe_in _ _ _ _ hk
    rw [wipe_get n] at sj
    rw [wipe_get m] at sk
    exact at_.en.dis j k d' e' v' ne hj hk sj sk
theorem wipe_set {σ : L2.St} : ∀ {vs : List Nat} {i : Nat} {x : Option V}, i ∈ vs → wipe (σ.set i x) vs = wipe σ vs := by
  intro vs
  induction vs with
  | nil => intro i x h; simp at h
  | cons v vs ih =>
    intro i x h
    show (wipe (σ.set i x) vs).set v none = (wipe σ vs).set v none
    by_cases e : i ∈ vs
    · rw [ih e]
    · have e' : i = v := by simpa [e] using h
      subst e'
      apply List.ext_getElem?
      intro j
      by_cases y : i = j
      · subst y
        rw [List.getElem?_set_self', List.getElem?_set_self', wipe_get e, wipe_get e]
        by_cases z : i < σ.length
        · rw [List.getElem?_set_self z, List.getElem?_eq_getElem z]; rfl
        · rw [List.getElem?_eq_none (by simpa using Nat.le_of_not_lt z), List.getElem?_eq_none (Nat.le_of_not_lt z)]
      · rw [List.getElem?_set_ne y, List.getElem?_set_ne y]
        have : ∀ (us : List Nat), (wipe (σ.set i x) us)[j]? = (wipe σ us)[j]? := by
          intro us
          induction us with
          | nil => exact List.getElem?_set_ne y
          | cons u us ih2 =>
            show ((wipe (σ.set i x) us).set u none)[j]? = ((wipe σ us).set u none)[j]?
            by_cases q : u = j
            · subst q
              rw [List.getElem?_set_self', List.getElem?_set_self', ih2]
            · rw [List.getElem?_set_ne q, List.getElem?_set_ne q, ih2]
        exact this vs
theorem wipe_idem {σ : L2.St} : ∀ {vs : List Nat}, wipe (wipe σ vs) vs = wipe σ vs := by
  intro vs
  have : ∀ us : List Nat, (∀ u ∈ us, u ∈ vs) → wipe (wipe σ vs) us = wipe σ vs := by
    intro us
    induction us with
    | nil => intro _; rfl
    | cons u us ih =>
      intro h
      show (wipe (wipe σ vs) us).set u none = _
      rw [ih (fun x hx => h x (by simp [hx]))]
      have hu := h u (by simp)
      clear ih h
      induction vs with
      | nil => simp at hu
      | cons v vs ih =>
        show ((wipe σ vs).set v none).set u none = (wipe σ vs).set v none
        by_cases e : u = v
        · subst e; simp
        · have hu' : u ∈ vs := by simpa [e] using hu
          have e2 : ((wipe σ vs).set v none).set u none = ((wipe σ vs).set u none).set v none := List.set_comm _ _ (fun z => e z.symm)
          rw [e2, ih hu']
  exact this vs fun _ h => h
/-! targets -/
mutual
def gT (K : PySem.W.Frag) : Tg → TG
  | .n i => gName i
  | .t ts => fun v σ H Q => gTup K ts.length (gTs K ts) v σ H Q ∨ gLst K ts.length (gTs K ts) v σ H Q
def gTs (K : PySem.W.Frag) : List Tg → TGs
  | [] => gNil
  | t :: ts => gCons (gT K t) (gTs K ts)
end
theorem asgs_len : ∀ (ts : List Tg) (ds : List D) (r r1 : Row), asgs ts ds r = some r1 → ts.length = ds.length
  | [], ds, r, r1, h => by cases ds <;> simp [asgs] at h ⊢
  | t :: ts, [], r, r1, h => by simp [asgs] at h
  | t :: ts, d :: ds, r, r1, h => by
    simp only [asgs] at h
    split at h
    · simp [asgs_len ts ds _ _ h]
    · cases h
mutual
theorem asg_ok : ∀ (t : Tg) (s : S) (d : D) (r1 : Row) (v : V) (σ : L2.St) (Q : L2.St → Hp → Prop), At K B cs G s σ H → Rep K cs G v d → asg t d s.r = some r1 →
    (∀ σ', At K B cs G ⟨r1, s.c⟩ σ' H → (∀ own, tgIn own t = true → L2.wipe σ' own = L2.wipe σ own) → Q σ' H) → gT K t v σ H Q
  | .n i, s, d, r1, v, σ, Q, at_, rp, e, k => by
    cases e
    exact k _ (at_.set rp) fun own h => wipe_set (by simpa [tgIn] using h)
  | .t ts, s, d, r1, v, σ, Q, at_, rp, e, k => by
    cases d <;> simp only [asg, reduceCtorEq] at e
    case lst =>
      obtain ⟨a, vs, rfl, hs, rs⟩ := rp.lst_inv
      refine .inr ⟨a, vs, rfl, at_.wd.le.seqL hs, by rw [rs.len, asgs_len _ _ _ _ e], ?_⟩
      exact asgs_ok ts s _ r1 vs σ Q at_ rs e fun σ' at' w => k σ' at' fun own h => w own (by simpa [tgIn] using h)
    obtain ⟨a, vs, rfl, hs, rs⟩ := rp.tup_inv
    refine .inl ⟨a, vs, rfl, at_.wd.le.seqT hs, by rw [rs.len, asgs_len _ _ _ _ e], ?_⟩
    exact asgs_ok ts s _ r1 vs σ Q at_ rs e fun σ' at' w => k σ' at' fun own h => w own (by simpa [tgIn] using h)
theorem asgs_ok : ∀ (t : List Tg) (s : S) (d : List D) (r1 : Row) (v : List V) (σ : L2.St) (Q : L2.St → Hp → Prop), At K B cs G s σ H → Reps K cs G v d → asgs t d s.r = some r1 →
    (∀ σ', At K B cs G ⟨r1, s.c⟩ σ' H → (∀ own, tgsIn own t = true → L2.wipe σ' own = L2.wipe σ own) → Q σ' H) → gTs K t v σ H Q
  | [], s, d, r1, v, σ, Q, at_, rp, e, k => by
    cases rp with
    | nil => cases e; exact ⟨rfl, k σ at_ fun _ _ => rfl⟩
    | cons _ _ => cases e
  | t :: ts, s, d, r1, v, σ, Q, at_, rp, e, k => by
    cases rp with
    | nil => cases e
    | @cons v1 vr d1 dr h1 h2 =>
      simp only [asgs] at e
      split at e
      · rename_i r2 e2
        refine ⟨v1, vr, rfl, asg_ok t s d1 r2 v1 σ _ at_ h1 e2 fun σ' at' w => ?_⟩
        exact asgs_ok ts ⟨r2, s.c⟩ dr r1 vr σ' Q at' h2 e fun σ'' at'' w2 => k σ'' at'' fun own h => by
          simp only [tgsIn, Bool.and_eq_true] at h
          rw [w2 own h.2, w own h.1]
      · cases e
end
end
end Q
end

section
set_option Elab.async false
set_option linter.all false
set_option maxRecDepth 100000
set_option maxHeartbeats 4000000
namespace Q
open PySem PySem.Spec PyProof.Rows L2
/-! ### locks in the judgements -/
def NF (X : Cx) (d : Addr) : Prop := ∀ o' u', X.H_0 d ≠ some (.frz o' u')
theorem pe_lockV {X : Cx} {e : Expr} {t : TE} (h : PE X e t) : PE X e (fun σ H Q => t σ H fun v H' => Q v H' ∨ ∃ d u, v = .ref d ∧ H' d = some u ∧ Mut (some u) ∧ ∀ od, NF X d → Q v (upd H' d (.frz od u))) :=
  ⟨fun pins s σ H Q I q => thn (h.run pins s σ H _ I q) fun u s1 ⟨v, H1, I1, r1, q1⟩ => by
    rcases q1 with q1 | ⟨d, u', e1, hd, mu, q1⟩
    · exact ⟨v, H1, I1, r1, q1⟩
    · obtain ⟨od, I2⟩ := I1.lock hd mu
      exact ⟨v, _, I2, r1, q1 od (I1.nofrz hd mu)⟩⟩
def Unl (X : Cx) (P : Hp → Prop) (H : Hp) : Prop := P H ∨ ∃ d od u, NF X d ∧ H d = some (.frz od u) ∧ P (upd H d u)
theorem pe_unl {X : Cx} {e : Expr} {t : TE} (h : PE X e t) : PE X e (fun σ H Q => t σ H fun v H' => Unl X (Q v) H') :=
  ⟨fun pins s σ H Q I q => thn (h.run pins s σ H _ I q) fun u s1 ⟨v, H1, I1, r1, q1⟩ => by
    rcases q1 with q1 | ⟨d, od, u', nf, hd, q1⟩
    · exact ⟨v, H1, I1, r1, q1⟩
    · exact ⟨v, _, I1.unlock hd nf, r1, q1⟩⟩
def unlD (X : Cx) (D : Ends) : Ends := ⟨fun σ H => Unl X (D.nx σ) H, fun v H => Unl X (D.rt v) H, fun σ H => Unl X (D.bk σ) H, fun σ H => Unl X (D.ct σ) H⟩
theorem ps_unl {X : Cx} {st : Stmt} {t : TS} (h : PS X st t) : PS X st (fun D σ H => t (unlD X D) σ H) :=
  ⟨fun pins s σ H D I q => thn (h.run pins s σ H _ I q) fun f s1 q1 => by
    cases f with
    | next =>
      obtain ⟨σ', H', I', q1⟩ := q1
      rcases q1 with q1 | ⟨d, od, u', nf, hd, q1⟩
      · exact ⟨σ', H', I', q1⟩
      · exact ⟨σ', _, I'.unlock hd nf, q1⟩
    | brk =>
      obtain ⟨σ', H', I', q1⟩ := q1
      rcases q1 with q1 | ⟨d, od, u', nf, hd, q1⟩
      · exact ⟨σ', H', I', q1⟩
      · exact ⟨σ', _, I'.unlock hd nf, q1⟩
    | cont =>
      obtain ⟨σ', H', I', q1⟩ := q1
      rcases q1 with q1 | ⟨d, od, u', nf, hd, q1⟩
      · exact ⟨σ', H', I', q1⟩
      · exact ⟨σ', _, I'.unlock hd nf, q1⟩
    | ret u =>
      obtain ⟨v, σ', H', I', r, q1⟩ := q1
      rcases q1 with q1 | ⟨d, od, u', nf, hd, q1⟩
      · exact ⟨v, σ', H', I', r, q1⟩
      · exact ⟨v, σ', _, I'.unlock hd nf, r, q1⟩⟩
/-! ### what is walked -/
/-- what a turn yields -/
def Yi (K : PySem.W.Frag) (cs : List Addr) (G : Hp) (xs : List D) (i : Nat) (H : Hp) (x : V) (H2 : Hp) : Prop :=
  ∃ d, xs[i]? = some d ∧ ((H2 = H ∧ Rep K cs G x d) ∨ ∃ T vs ds, x = .ref T ∧ H T = none ∧ H2 = upd H T (.tup vs) ∧ d = .tup ds ∧ Reps K cs G vs ds)
/-- how a walk starts: maybe a dict is locked -/
inductive Lks (X : Cx) (B : Bs) (G H : Hp) : Bs → Hp → Prop
  | no : Lks X B G H B H
  | yes {d : Addr} {od : Obj} {kvs : List (Key × V)} (hG : G d = some (.dK kvs)) (hH : H d = some (.dK kvs)) (nf : NF X d) : Lks X B G H (B.lock d od) (upd H d (.frz od (.dK kvs)))
/-- while it is so, the walk goes on -/
def Wh (B : Bs) (cs : List Addr) (G H0 H : Hp) : Prop := Le G H ∧ (∀ p ∈ B.lk, ∃ o, G p.1 = some o ∧ H p.1 = some (.frz p.2 o))
section
variable {K : PySem.W.Frag} {B B' : Bs} {cs cs' cs1 : List Addr} {G G' G1 H H' H1 : Hp} {s s1 : S} {σ σ' : L2.St} {v w : V} {d dx dy : D} {p a : Addr} {Q : VK} {o o' u : HO} {r : Row} {X : Cx} {xs : List D}
theorem RepK.keys : ∀ {kvs : List (Key × V)} {ds : List (D × D)}, RepK K cs G kvs ds → ∀ {i : Nat} {k : Key} {v : V}, kvs[i]? = some (k, v) → ∃ kd d, ds[i]? = some (kd, d) ∧ keyD kd = some k ∧ Rep K cs G v d
  | _, _, .nil, i, k, v, h => by simp at h
  | _, _, .cons e a r, 0, k, v, h => by simp at h; obtain ⟨rfl, rfl⟩ := h; exact ⟨_, _, rfl, e, a⟩
  | _, _, .cons e a r, i + 1, k, v, h => by simpa using r.keys (i := i) (by simpa using h)
theorem key_rep {kd : D} {k : Key} (h : keyD kd = some k) : Rep K cs G (kV k) kd := by
  cases kd <;> simp only [keyD, reduceCtorEq] at h <;> cases h
  · exact .int _
  · exact .str _
theorem w_list {vs : List V} (s : SqL K G a vs) (r : Reps K cs G vs xs) : Walk (Itl K a) xs.length (fun H => Le G H) (Yi K cs G xs) := by
  have := r.len
  rw [← this]
  exact walk_list.mono (fun H le => le.seqL s) fun i H x H' hi le y => by
    obtain ⟨rfl, e⟩ := y
    obtain ⟨d, e2, rp⟩ := r.get' e
    exact ⟨d, e2, .inl ⟨rfl, rp⟩⟩
theorem w_tup {vs : List V} (s : SqT K G a vs) (r : Reps K cs G vs xs) : Walk (Itt K a) xs.length (fun H => Le G H) (Yi K cs G xs) := by
  have := r.len
  rw [← this]
  exact walk_tup.mono (fun H le => le.seqT s) fun i H x H' hi le y => by
    obtain ⟨rfl, e⟩ := y
    obtain ⟨d, e2, rp⟩ := r.get' e
    exact ⟨d, e2, .inl ⟨rfl, rp⟩⟩
theorem w_listH {vs : List V} {P : Hp → Prop} (s : ∀ H, P H → SqL K H a vs) (r : Reps K cs G vs xs) : Walk (Itl K a) xs.length P (Yi K cs G xs) := by
  have := r.len
  rw [← this]
  exact walk_list.mono (fun H le => s H le) fun i H x H' hi le y => by
    obtain ⟨rfl, e⟩ := y
    obtain ⟨d, e2, rp⟩ := r.get' e
    exact ⟨d, e2, .inl ⟨rfl, rp⟩⟩
theorem w_tupH {vs : List V} {P : Hp → Prop} (s : ∀ H, P H → SqT K H a vs) (r : Reps K cs G vs xs) : Walk (Itt K a) xs.length P (Yi K cs G xs) := by
  have := r.len
  rw [← this]
  exact walk_tup.mono (fun H le => s H le) fun i H x H' hi le y => by
    obtain ⟨rfl, e⟩ := y
    obtain ⟨d, e2, rp⟩ := r.get' e
    exact ⟨d, e2, .inl ⟨rfl, rp⟩⟩
theorem w_rng {lo : Int} {n : Nat} {P : Hp → Prop} : Walk (Itr lo n) (rngD lo n).length P (Yi K cs G (rngD lo n)) := by
  have : (rngD lo n).length = n := by simp [rngD]
  rw [this]
  exact walk_range.mono (fun H le => trivial) fun i H x H' hi le y => by
    obtain ⟨rfl, e⟩ := y
    subst e
    exact ⟨.int (lo + (i : Nat)), by simp [rngD, hi], .inl ⟨rfl, .int _⟩⟩
theorem enuD_get : ∀ (n : Nat) (ds : List D) (i : Nat), (enuD n ds)[i]? = (ds[i]?).map fun d => .tup [.int ((n + i : Nat) : Int), d]
  | n, [], i => by simp [enuD]
  | n, d :: ds, 0 => by simp [enuD]
  | n, d :: ds, i + 1 => by
    simp only [enuD, List.getElem?_cons_succ]
    rw [enuD_get (n + 1) ds i]
    have : n + 1 + i = n + (i + 1) := by omega
    rw [this]
theorem enuD_len : ∀ (n : Nat) (ds : List D), (enuD n ds).length = ds.length
  | n, [] => rfl
  | n, d :: ds => by simp [enuD, enuD_len]
theorem w_enu {vs : List V} {P : Hp → Prop} (s : ∀ H, P H → SqL K H a vs) (r : Reps K cs G vs xs) : Walk (Ite K a) (enuD 0 xs).length P (Yi K cs G (enuD 0 xs)) := by
  have := r.len
  rw [enuD_len, ← this]
  exact walk_enum.mono (fun H le => s H le) fun i H x H' hi le y => by
    obtain ⟨T, x1, y1, e1, e2, e3, e4, e5⟩ := y
    cases e4
    obtain ⟨d, e6, rp⟩ := r.get' e5
    refine ⟨.tup [.int (i : Nat), d], by rw [enuD_get, e6]; simp, .inr ⟨T, _, _, e1, e2, e3, rfl, .cons (.int _) (.cons rp .nil)⟩⟩
theorem w_rev {vs : List V} {P : Hp → Prop} (s : ∀ H, P H → SqL K H a vs) (r : Reps K cs G vs xs) : Walk (Itv K a vs.length) xs.reverse.length P (Yi K cs G xs.reverse) := by
  have := r.len
  rw [List.length_reverse, ← this]
  exact walk_rev.mono (fun H le => s H le) fun i H x H' hi le y => by
    obtain ⟨rfl, e⟩ := y
    obtain ⟨d, e2, rp⟩ := r.get' e
    exact ⟨d, by rw [List.getElem?_reverse (by omega), ← this]; exact e2, .inl ⟨rfl, rp⟩⟩
theorem w_keys {kvs : List (Key × V)} {ds : List (D × D)} {od : Obj} {P : Hp → Prop} (s : ∀ H, P H → H a = some (.frz od (.dK kvs))) (r : RepK K cs G kvs ds) : Walk (Itk a od kvs) (ds.map (·.1)).length P (Yi K cs G (ds.map (·.1))) := by
  have := r.len
  rw [List.length_map, ← this]
  exact walk_keys.mono (fun H le => s H le) fun i H x H' hi le y => by
    obtain ⟨rfl, k, v, e, rfl⟩ := y
    obtain ⟨kd, d, e2, hk, rp⟩ := r.keys e
    exact ⟨kd, by simp [e2], .inl ⟨rfl, key_rep hk⟩⟩
theorem w_vals {kvs : List (Key × V)} {ds : List (D × D)} {od : Obj} {P : Hp → Prop} (s : ∀ H, P H → H a = some (.frz od (.dK kvs))) (r : RepK K cs G kvs ds) : Walk (Itd a od kvs) (ds.map (·.2)).length P (Yi K cs G (ds.map (·.2))) := by
  have := r.len
  rw [List.length_map, ← this]
  exact walk_values.mono (fun H le => s H le) fun i H x H' hi le y => by
    obtain ⟨rfl, k, e⟩ := y
    obtain ⟨kd, d, e2, hk, rp⟩ := r.keys e
    exact ⟨d, by simp [e2], .inl ⟨rfl, rp⟩⟩
/-- names that are walked are owned no more, if they are dicts -/
theorem At.fzD : ∀ {es : List Ex} {G : Hp} {r : Row} {c : Cells}, At K B cs G ⟨r, c⟩ σ H → ∃ G', Le G G' ∧ At K B cs G' ⟨_root_.Q.fzD es r, c⟩ σ H ∧ ∀ (i : Nat) (k : List (D × D)) (v : V), Ex.v i ∈ es → r[i]? = some (some (true, .dct k)) → σ[i]? = some (some v) → Rep K cs G' v (.dct k) := by
  intro es
  induction es with
  | nil => intro G r c at_; exact ⟨G, Le.refl _, at_, fun i k v h => by simp at h⟩
  | cons e es ih =>
    intro G r c at_
    by_cases hv : ∃ j, e = .v j
    · obtain ⟨j, rfl⟩ := hv
      show ∃ G', Le G G' ∧ At K B cs G' ⟨(match r[j]? with | some (some (true, .dct k)) => Q.fzD es (r.set j (some (false, .dct k))) | _ => Q.fzD es r), c⟩ σ H ∧ _
      split
      · rename_i k hj
        obtain ⟨v, G1, e1, le1, at1, rp⟩ := At.fz (s := ⟨r, c⟩) at_ hj
        obtain ⟨G2, le2, at2, h2⟩ := ih at1
        refine ⟨G2, le1.trans le2, at2, fun i k' v' m hi hs => ?_⟩
        by_cases x : i = j
        · subst x
          rw [hj] at hi; cases hi
          rw [e1] at hs; cases hs
          exact rp.mono (Pre.refl _) le2
        · refine h2 i k' v' ?_ ?_ hs
          · rcases List.mem_cons.mp m with y | y
            · cases y; exact absurd rfl x
            · exact y
          · show (r.set j _)[i]? = _
            rw [List.getElem?_set_ne (fun y => x y.symm)]; exact hi
      · rename_i hj
        obtain ⟨G2, le2, at2, h2⟩ := ih at_
        refine ⟨G2, le2, at2, fun i k' v' m hi hs => h2 i k' v' ?_ hi hs⟩
        rcases List.mem_cons.mp m with y | y
        · cases y; exact absurd hi (hj k')
        · exact y
    · have e1 : Q.fzD (e :: es) r = Q.fzD es r := by cases e <;> first | rfl | exact absurd ⟨_, rfl⟩ hv
      rw [e1]
      obtain ⟨G2, le2, at2, h2⟩ := ih at_
      refine ⟨G2, le2, at2, fun i k' v' m hi hs => h2 i k' v' ?_ hi hs⟩
      rcases List.mem_cons.mp m with y | y
      · exact absurd ⟨i, y.symm⟩ hv
      · exact y
end
end Q
end

section
set_option Elab.async false
set_option linter.all false
set_option maxRecDepth 100000
set_option maxHeartbeats 4000000
namespace Q
open PySem PySem.Spec PyProof.Rows L2
/-! ### walks begin -/
def Kp (cs : List Addr) (H2 H : Hp) : Prop := ∀ a o, a ∉ cs → H2 a = some o → H a = some o
/-- an iterator made, for a comprehension: the source may be owned -/
def tIc (X : Cx) (C : Cl) (k : Ik) (its : List Ex) : TI := fun σ H R0 => ∃ B cs G s, At X.K B cs G s σ H ∧ Rn ((evA C its s).b fun ds s' => R.of (itD k ds) ⟨fzD its s'.r, s'.c⟩) fun xs s' =>
  ∀ J cs' G' H' B' H2, Stp cs G H cs' G' H' → At X.K B cs' G' s' σ H' → Lks X B G' H' B' H2 → Walk J xs.length (Kp cs' H2) (Yi X.K cs' G' xs) → R0 J H2
/-- what is frozen stays as it is -/
def Kg (G H2 H : Hp) : Prop := ∀ a u o, G a = some u → H2 a = some o → H a = some o
/-- an iterator made, for a for: the source is frozen -/
def tIf (X : Cx) (C : Cl) (k : Ik) (its : List Ex) : TI := fun σ H R0 => ∃ B cs G s, At X.K B cs G s σ H ∧ Rn ((evF C its s).b fun ds s' => R.of (itD k ds) s') fun xs s' =>
  ∀ J cs' G' H' B' H2, Stp cs G H cs' G' H' → At X.K B cs' G' s' σ H' → Lks X B G' H' B' H2 → Walk J xs.length (Kg G' H2) (Yi X.K cs' G' xs) → R0 J H2
theorem pi_or {X : Cx} {tg e : Expr} {t t' : TI} (h : PI X tg e t) (h' : PI X tg e t') : PI X tg e (fun σ H R => t σ H R ∨ t' σ H R) := ⟨fun pins s σ H R I q => q.elim (h.run pins s σ H R I) (h'.run pins s σ H R I)⟩
theorem piM {X : Cx} {tg e : Expr} {t t' : TI} (h : PI X tg e t) (m : ∀ σ H R, t' σ H R → t σ H R) : PI X tg e t' := ⟨fun pins s σ H R I q => h.run pins s σ H R I (m σ H R q)⟩
section
variable {K : PySem.W.Frag} {B B' : Bs} {cs cs' cs1 : List Addr} {G G' G1 H H' H1 : Hp} {s s1 : S} {σ σ' : L2.St} {v w : V} {d dx dy : D} {p a : Addr} {o o' u : HO} {r : Row} {X : Cx} {C : Cl} {x y : Ex} {xs : List Ex} {e tg e2 : Expr} {od : Bool × D} {ds : List D}
theorem evA_one (h : evA C [x] s = .ok ds s1) : ∃ od, ev C x s = .ok od s1 ∧ ds = [od.2] ∧ (od.1 && isPk x && !isV x) = false := by
  obtain ⟨o, s2, h1, h⟩ := R.b_eq h
  split at h
  · cases h
  · rename_i hg
    obtain ⟨o2, s3, h2, h⟩ := R.b_eq h
    cases h2; cases h
    exact ⟨o, h1, rfl, by simpa using hg⟩
theorem evF_one (h : evF C [x] s = .ok ds s1) : ∃ od, ev C x s = .ok od s1 ∧ ds = [od.2] ∧ (od.1 && isPk x) = false := by
  obtain ⟨o, s2, h1, h⟩ := R.b_eq h
  split at h
  · cases h
  · rename_i hg
    obtain ⟨o2, s3, h2, h⟩ := R.b_eq h
    cases h2; cases h
    exact ⟨o, h1, rfl, by simpa using hg⟩
theorem Vw.lstK (wd : Wd K B cs G s.c H) (h : Vw K cs G H v (.lst ds)) : ∃ a vs, v = .ref a ∧ Reps K cs G vs ds ∧ ∀ H2, Kp cs H H2 → SqL K H2 a vs := by
  rcases h with h | ⟨p, e, n, h⟩
  · obtain ⟨a, vs, e, s', r⟩ := h.lst_inv
    refine ⟨a, vs, e, r, fun H2 kp => ?_⟩
    rcases s' with s' | s'
    · have nc : a ∉ cs := fun m => by
        have := wd.cg a m
        rcases s' with z | ⟨_, z⟩ <;> rw [this] at z <;> cases z
      rcases wd.le _ _ s' with z | ⟨od, z⟩
      · exact .inl (.inl (kp _ _ nc z))
      · exact .inl (.inr ⟨od, kp _ _ nc z⟩)
    · exact .inr s'
  · obtain ⟨vs, x, r⟩ := h
    exact ⟨p, vs, e, r, fun H2 kp => .of (kp _ _ n x)⟩
theorem Vw.tupK (wd : Wd K B cs G s.c H) (h : Vw K cs G H v (.tup ds)) : ∃ a vs, v = .ref a ∧ Reps K cs G vs ds ∧ ∀ H2, Kp cs H H2 → SqT K H2 a vs := by
  rcases h with h | ⟨p, e, n, h⟩
  · obtain ⟨a, vs, e, s', r⟩ := h.tup_inv
    refine ⟨a, vs, e, r, fun H2 kp => ?_⟩
    rcases s' with s' | s'
    · have nc : a ∉ cs := fun m => by
        have := wd.cg a m
        rcases s' with z | ⟨_, z⟩ <;> rw [this] at z <;> cases z
      rcases wd.le _ _ s' with z | ⟨od, z⟩
      · exact .inl (.inl (kp _ _ nc z))
      · exact .inl (.inr ⟨od, kp _ _ nc z⟩)
    · exact .inr s'
  · exact h.elim
theorem Kp.refl : Kp cs H H := fun _ _ _ h => h
/-- a dict that is walked is frozen -/
theorem At.dctIn {k : List (D × D)} (at_ : At K B cs G s σ H) (r1 : Res K B cs G H s σ (isPk x) (vOf x) od v) {s0 : S} (hx : ev C x s0 = .ok od s) (hd : od.2 = .dct k) (hg : (od.1 && isPk x && !isV x) = false) :
    ∃ G2, Le G G2 ∧ At K B cs G2 ⟨_root_.Q.fzD [x] s.r, s.c⟩ σ H ∧ Rep K cs G2 v (.dct k) := by
  by_cases hv : ∃ j, x = .v j
  · obtain ⟨j, rfl⟩ := hv
    obtain ⟨G2, le2, at2, h2⟩ := At.fzD (es := [.v j]) (r := s.r) (c := s.c) at_
    refine ⟨G2, le2, at2, ?_⟩
    have hs := r1.2.2 j rfl
    simp only [ev] at hx
    split at hx
    · rename_i od' hj
      cases hx
      obtain ⟨o, d⟩ := od
      cases hd
      cases o with
      | false => exact (show Rep K cs G v (.dct k) from r1.1).mono (Pre.refl _) le2
      | true => exact h2 j k v (by simp) hj hs
    · cases hx
  · have e1 : _root_.Q.fzD [x] s.r = s.r := by cases x <;> first | rfl | exact absurd ⟨_, rfl⟩ hv
    have e2 : isV x = false := by cases x <;> first | rfl | exact absurd ⟨_, rfl⟩ hv
    rw [e1]
    obtain ⟨G2, le2, at2, rp⟩ := r1.freeze at_ (by simpa [e2] using hg)
    rw [hd] at rp
    exact ⟨G2, le2, at2, rp⟩
/-- the dict is locked, or was -/
theorem dct_lock {k : List (D × D)} {kvs : List (Key × V)} {Q0 : V → Hp → Prop} (at_ : At X.K B cs G s σ H) (hr : Rd G a (.dK kvs))
    (q : ∀ od B' H2, Lks X B G H B' H2 → H2 a = some (.frz od (.dK kvs)) → Q0 (.ref a) H2) :
    Q0 (.ref a) H ∨ ∃ d u, V.ref a = .ref d ∧ H d = some u ∧ Mut (some u) ∧ ∀ od, NF X d → Q0 (.ref a) (upd H d (.frz od u)) := by
  rcases at_.wd.le _ _ hr with z | ⟨od, z⟩
  · have hl := at_.lockd hr z
    exact .inr ⟨a, _, rfl, z, trivial, fun od nf => q od (B.lock a od) _ (.yes hl.1 z nf) upd_same⟩
  · exact .inl (q od B H .no z)
theorem Rd.ex {H : Hp} {o : HO} (h : Rd H a o) : ∃ u, H a = some u := by
  rcases h with z | ⟨_, z⟩ <;> exact ⟨_, z⟩
theorem cs_not (at_ : At K B cs G s σ H) {kvs : List (Key × V)} (hr : Rd G a (.dK kvs)) : a ∉ cs := fun m => by
  have := at_.wd.cg a m
  obtain ⟨u, z⟩ := Rd.ex hr
  rw [this] at z; cases z
theorem Lks.keep (l : Lks X B G H B' H1) {o : HO} (nl : ∀ kvs, o ≠ .dK kvs) (h : H a = some o) : H1 a = some o := by
  cases l with
  | no => exact h
  | yes hG hH nf =>
    rw [upd_ne]; exact h
    intro e; subst e; rw [hH] at h; cases h; exact nl _ rfl
theorem Lks.kp (l : Lks X B G H B' H1) (q : Kp cs H1 H') {o : HO} (nl : ∀ kvs, o ≠ .dK kvs) : a ∉ cs → H a = some o → H' a = some o := fun n h => q a o n (l.keep nl h)
/-! comprehensions -/
theorem pc_seq (h : PE X e (tE X C x)) : PI X tg e (tIc X C .seq [x]) :=
  piM (pi_or (pi_or (pi_list h) (pi_tup h)) (pi_keys (pe_lockV h))) fun σ H R0 ⟨B, cs, G, s, at_, h⟩ => by
    obtain ⟨ds, s1, e1, h⟩ := Rn.b2 h
    obtain ⟨od, hx, rfl, hg⟩ := evA_one e1
    obtain ⟨xs, e2, h⟩ := Rn.of h
    obtain ⟨o, d⟩ := od
    cases d <;> simp only [itD, reduceCtorEq] at e2 <;> cases e2
    · refine .inl (.inr (tE_in at_ hx fun v cs1 G1 H1 st1 at1 r1 => ?_))
      obtain ⟨G2, le2, at2, _⟩ := At.fzD (es := [x]) (r := s1.r) (c := s1.c) at1
      obtain ⟨a, vs, rfl, rp, kp⟩ := Vw.tupK at1.wd r1.vw
      exact ⟨a, rfl, ⟨vs, kp H1 Kp.refl⟩, h (Itt X.K a) cs1 G2 H1 B H1 (st1.trans (Stp.grow le2)) at2 .no (w_tupH kp (rp.mono (Pre.refl _) le2))⟩
    · refine .inl (.inl (tE_in at_ hx fun v cs1 G1 H1 st1 at1 r1 => ?_))
      obtain ⟨G2, le2, at2, _⟩ := At.fzD (es := [x]) (r := s1.r) (c := s1.c) at1
      obtain ⟨a, vs, rfl, rp, kp⟩ := Vw.lstK at1.wd r1.vw
      exact ⟨a, rfl, ⟨vs, kp H1 Kp.refl⟩, h (Itl X.K a) cs1 G2 H1 B H1 (st1.trans (Stp.grow le2)) at2 .no (w_listH kp (rp.mono (Pre.refl _) le2))⟩
    · refine .inr (tE_in at_ hx fun v cs1 G1 H1 st1 at1 r1 => ?_)
      obtain ⟨G2, le2, at2, rp⟩ := At.dctIn at1 r1 hx rfl hg
      obtain ⟨a, kvs, rfl, hr, rk⟩ := rp.dct_inv
      exact dct_lock (k := []) (Q0 := fun x H1 => ∃ d o, x = V.ref d ∧ ((∃ kvs, H1 d = some (HO.frz o (HO.dK kvs)) ∧ R0 (Itk d o kvs) H1) ∨ ∃ kvs, H1 d = some (HO.frz o (HO.dT kvs)) ∧ R0 (Itkt d o kvs) H1)) at2 hr fun od B' H2 l hz => ⟨a, od, rfl, .inl ⟨kvs, hz, h _ cs1 G2 H1 B' H2 (st1.trans (Stp.grow le2)) at2 l (w_keys (fun H3 kp => kp a _ (cs_not at2 hr) hz) rk)⟩⟩
theorem pc_vals {apos cpos : Pos} (h : PE X e (tE X C x)) (hbase : attributeBase e "values" X.env (eval e X.env) = eval e X.env) (hline : (apos.endLine == cpos.line) = true) : PI X tg (.Call (.Attribute e "values" apos) [] [] cpos) (tIc X C .vals [x]) :=
  piM (pi_values (pe_lockV h) hbase hline) fun σ H R0 ⟨B, cs, G, s, at_, h⟩ => by
    obtain ⟨ds, s1, e1, h⟩ := Rn.b2 h
    obtain ⟨od, hx, rfl, hg⟩ := evA_one e1
    obtain ⟨xs, e2, h⟩ := Rn.of h
    obtain ⟨o, d⟩ := od
    cases d <;> simp only [itD, reduceCtorEq] at e2 <;> cases e2
    refine (tE_in at_ hx fun v cs1 G1 H1 st1 at1 r1 => ?_)
    obtain ⟨G2, le2, at2, rp⟩ := At.dctIn at1 r1 hx rfl hg
    obtain ⟨a, kvs, rfl, hr, rk⟩ := rp.dct_inv
    exact dct_lock (k := []) (Q0 := fun x H1 => ∃ d o kvs, x = V.ref d ∧ H1 d = some (HO.frz o (HO.dK kvs)) ∧ R0 (Itd d o kvs) H1) at2 hr fun od B' H2 l hz => ⟨a, od, kvs, rfl, hz, h _ cs1 G2 H1 B' H2 (st1.trans (Stp.grow le2)) at2 l (w_vals (fun H3 kp => kp a _ (cs_not at2 hr) hz) rk)⟩
theorem isRng_ok {i : Int} (h : isRng i = true) : -(2 ^ 62) ≤ i ∧ i < 2 ^ 62 := by
  simp only [isRng, Bool.and_eq_true, decide_eq_true_eq] at h
  omega
theorem pc_rng1 {p pos : Pos} (hg : Gl X "range") (hm : X.mg "range" = none) (h : PE X e (tE X C x)) (hs : nStar e = true) : PI X tg (.Call (.Name "range" p) [e] [] pos) (tIc X C .rng [x]) :=
  piM (pi_range1 hg hm (pa_A (.cons ⟨h, hs⟩ .nil)) (star_of hs [] X.env)) fun σ H R0 ⟨B, cs, G, s, at_, h⟩ => by
    obtain ⟨ds, s1, e1, h⟩ := Rn.b2 h
    obtain ⟨od, hx, rfl, hg⟩ := evA_one e1
    obtain ⟨xs, e2, h⟩ := Rn.of h
    refine tA_in at_ e1 fun vs cs1 G1 H1 st1 at1 ar => ?_
    obtain ⟨o, d⟩ := od
    cases d <;> simp only [itD, reduceCtorEq] at e2
    rename_i j
    split at e2
    · rename_i hj
      cases e2
      obtain ⟨G2, le2, at2, _⟩ := At.fzD (es := [x]) (r := s1.r) (c := s1.c) at1
      cases (Ars.vw (es := []) at1 ar) with
      | cons h1 h2 =>
        cases h2
        exact ⟨j, by rw [h1.int], (isRng_ok hj).1, (isRng_ok hj).2, h _ cs1 G2 H1 B H1 (st1.trans (Stp.grow le2)) at2 .no w_rng⟩
    · cases e2
theorem pc_rng2 {p pos : Pos} (hg : Gl X "range") (hm : X.mg "range" = none) (h : PE X e (tE X C x)) (hs : nStar e = true) (h2 : PE X e2 (tE X C y)) (hs2 : nStar e2 = true) : PI X tg (.Call (.Name "range" p) [e, e2] [] pos) (tIc X C .rng [x, y]) :=
  piM (pi_range2 hg hm (pa_A (.cons ⟨h, hs⟩ (.cons ⟨h2, hs2⟩ .nil))) (by rw [star_of hs, star_of hs2]; rfl) (star_of hs2 [] X.env)) fun σ H R0 ⟨B, cs, G, s, at_, h⟩ => by
    obtain ⟨ds, s1, e1, h⟩ := Rn.b2 h
    obtain ⟨xs, e2, h⟩ := Rn.of h
    refine tA_in at_ e1 fun vs cs1 G1 H1 st1 at1 ar => ?_
    obtain ⟨G2, le2, at2, _⟩ := At.fzD (es := [x, y]) (r := s1.r) (c := s1.c) at1
    have pv := (Ars.vw (es := []) at1 ar)
    cases pv with
    | nil => exact False.elim ar
    | @cons v1 d1 _ _ h1 h2 =>
      cases h2 with
      | nil => exact False.elim ar.2
      | @cons v2 d2 _ _ h2 h3 =>
        cases h3 with
        | cons => exact False.elim ar.2.2
        | nil =>
          cases d1 <;> simp only [itD, reduceCtorEq] at e2
          cases d2 <;> simp only [itD, reduceCtorEq] at e2
          rename_i i j
          split at e2
          · rename_i hj
            cases e2
            rw [Bool.and_eq_true] at hj
            exact ⟨i, j, by rw [h1.int, h2.int], ⟨(isRng_ok hj.1).1, (isRng_ok hj.1).2, (isRng_ok hj.2).1, (isRng_ok hj.2).2⟩, h _ cs1 G2 H1 B H1 (st1.trans (Stp.grow le2)) at2 .no w_rng⟩
          · cases e2
theorem pc_enu {p pos tpos : Pos} {elts : List Expr} {kk : Nat} (hg : Gl X "enumerate") (hm : X.mg "enumerate" = none) (h : PE X e (tE X C x)) (hs : nStar e = true) : PI X (.Tuple elts kk tpos) (.Call (.Name "enumerate" p) [e] [] pos) (tIc X C .enu [x]) :=
  piM (pi_enum hg hm (pa_A (.cons ⟨h, hs⟩ .nil)) (star_of hs [] X.env)) fun σ H R0 ⟨B, cs, G, s, at_, h⟩ => by
    obtain ⟨ds, s1, e1, h⟩ := Rn.b2 h
    obtain ⟨od, hx, rfl, hg⟩ := evA_one e1
    obtain ⟨xs, e2, h⟩ := Rn.of h
    refine tA_in at_ e1 fun vs cs1 G1 H1 st1 at1 ar => ?_
    obtain ⟨o, d⟩ := od
    cases d <;> simp only [itD, reduceCtorEq] at e2 <;> cases e2
    obtain ⟨G2, le2, at2, _⟩ := At.fzD (es := [x]) (r := s1.r) (c := s1.c) at1
    cases (Ars.vw (es := []) at1 ar) with
    | cons h1 h2 =>
      cases h2
      obtain ⟨a, vs, rfl, rp, kp⟩ := Vw.lstK at1.wd h1
      exact ⟨a, vs, rfl, kp H1 Kp.refl, h _ cs1 G2 H1 B H1 (st1.trans (Stp.grow le2)) at2 .no (w_enu kp (rp.mono (Pre.refl _) le2))⟩
theorem pc_rev {p pos : Pos} (hg : Gl X "reversed") (hm : X.mg "reversed" = none) (h : PE X e (tE X C x)) (hs : nStar e = true) : PI X tg (.Call (.Name "reversed" p) [e] [] pos) (tIc X C .rev [x]) :=
  piM (pi_reversed hg hm (pa_A (.cons ⟨h, hs⟩ .nil)) (star_of hs [] X.env)) fun σ H R0 ⟨B, cs, G, s, at_, h⟩ => by
    obtain ⟨ds, s1, e1, h⟩ := Rn.b2 h
    obtain ⟨od, hx, rfl, hg⟩ := evA_one e1
    obtain ⟨xs, e2, h⟩ := Rn.of h
    refine tA_in at_ e1 fun vs cs1 G1 H1 st1 at1 ar => ?_
    obtain ⟨o, d⟩ := od
    cases d <;> simp only [itD, reduceCtorEq] at e2 <;> cases e2
    obtain ⟨G2, le2, at2, _⟩ := At.fzD (es := [x]) (r := s1.r) (c := s1.c) at1
    cases (Ars.vw (es := []) at1 ar) with
    | cons h1 h2 =>
      cases h2
      obtain ⟨a, vs, rfl, rp, kp⟩ := Vw.lstK at1.wd h1
      exact ⟨a, vs, rfl, kp H1 Kp.refl, h _ cs1 G2 H1 B H1 (st1.trans (Stp.grow le2)) at2 .no (w_rev kp (rp.mono (Pre.refl _) le2))⟩
/-! fors -/
theorem Kg.seqL (le : Le G H) {vs : List V} (h : SqL K G a vs) (kg : Kg G H H1) : SqL K H1 a vs := by
  rcases h with h | h
  · rcases le _ _ h with z | ⟨od, z⟩
    · obtain ⟨u, y⟩ := Rd.ex h
      exact .inl (.inl (kg _ _ _ y z))
    · obtain ⟨u, y⟩ := Rd.ex h
      exact .inl (.inr ⟨od, kg _ _ _ y z⟩)
  · exact .inr h
theorem Kg.seqT (le : Le G H) {vs : List V} (h : SqT K G a vs) (kg : Kg G H H1) : SqT K H1 a vs := by
  rcases h with h | h
  · rcases le _ _ h with z | ⟨od, z⟩
    · obtain ⟨u, y⟩ := Rd.ex h
      exact .inl (.inl (kg _ _ _ y z))
    · obtain ⟨u, y⟩ := Rd.ex h
      exact .inl (.inr ⟨od, kg _ _ _ y z⟩)
  · exact .inr h
theorem Kg.refl : Kg G H H := fun _ _ _ _ h => h
theorem pf_seq (h : PE X e (tE X C x)) : PI X tg e (tIf X C .seq [x]) :=
  piM (pi_or (pi_or (pi_list h) (pi_tup h)) (pi_keys (pe_lockV h))) fun σ H R0 ⟨B, cs, G, s, at_, h⟩ => by
    obtain ⟨ds, s1, e1, h⟩ := Rn.b2 h
    obtain ⟨od, hx, rfl, hg⟩ := evF_one e1
    obtain ⟨xs, e2, h⟩ := Rn.of h
    obtain ⟨o, d⟩ := od
    cases d <;> simp only [itD, reduceCtorEq] at e2 <;> cases e2
    · refine .inl (.inr (tE_in at_ hx fun v cs1 G1 H1 st1 at1 r1 => ?_))
      obtain ⟨G2, le2, at2, rp⟩ := r1.freeze at1 hg
      obtain ⟨a, vs, rfl, hs, rs⟩ := rp.tup_inv
      exact ⟨a, rfl, ⟨vs, at2.wd.le.seqT hs⟩, h (Itt X.K a) cs1 G2 H1 B H1 (st1.trans (Stp.grow le2)) at2 .no (w_tupH (fun H3 kg => Kg.seqT at2.wd.le hs kg) rs)⟩
    · refine .inl (.inl (tE_in at_ hx fun v cs1 G1 H1 st1 at1 r1 => ?_))
      obtain ⟨G2, le2, at2, rp⟩ := r1.freeze at1 hg
      obtain ⟨a, vs, rfl, hs, rs⟩ := rp.lst_inv
      exact ⟨a, rfl, ⟨vs, at2.wd.le.seqL hs⟩, h (Itl X.K a) cs1 G2 H1 B H1 (st1.trans (Stp.grow le2)) at2 .no (w_listH (fun H3 kg => Kg.seqL at2.wd.le hs kg) rs)⟩
    · refine .inr (tE_in at_ hx fun v cs1 G1 H1 st1 at1 r1 => ?_)
      obtain ⟨G2, le2, at2, rp⟩ := r1.freeze at1 hg
      obtain ⟨a, kvs, rfl, hr, rk⟩ := rp.dct_inv
      obtain ⟨u, y⟩ := Rd.ex hr
      exact dct_lock (k := []) (Q0 := fun x H1 => ∃ d o, x = V.ref d ∧ ((∃ kvs, H1 d = some (HO.frz o (HO.dK kvs)) ∧ R0 (Itk d o kvs) H1) ∨ ∃ kvs, H1 d = some (HO.frz o (HO.dT kvs)) ∧ R0 (Itkt d o kvs) H1)) at2 hr fun od B' H2 l hz => ⟨a, od, rfl, .inl ⟨kvs, hz, h _ cs1 G2 H1 B' H2 (st1.trans (Stp.grow le2)) at2 l (w_keys (fun H3 kg => kg a _ _ y hz) rk)⟩⟩
theorem pf_vals {apos cpos : Pos} (h : PE X e (tE X C x)) (hbase : attributeBase e "values" X.env (eval e X.env) = eval e X.env) (hline : (apos.endLine == cpos.line) = true) : PI X tg (.Call (.Attribute e "values" apos) [] [] cpos) (tIf X C .vals [x]) :=
  piM (pi_values (pe_lockV h) hbase hline) fun σ H R0 ⟨B, cs, G, s, at_, h⟩ => by
    obtain ⟨ds, s1, e1, h⟩ := Rn.b2 h
    obtain ⟨od, hx, rfl, hg⟩ := evF_one e1
    obtain ⟨xs, e2, h⟩ := Rn.of h
    obtain ⟨o, d⟩ := od
    cases d <;> simp only [itD, reduceCtorEq] at e2 <;> cases e2
    refine (tE_in at_ hx fun v cs1 G1 H1 st1 at1 r1 => ?_)
    obtain ⟨G2, le2, at2, rp⟩ := r1.freeze at1 hg
    obtain ⟨a, kvs, rfl, hr, rk⟩ := rp.dct_inv
    obtain ⟨u, y⟩ := Rd.ex hr
    exact dct_lock (k := []) (Q0 := fun x H1 => ∃ d o kvs, x = V.ref d ∧ H1 d = some (HO.frz o (HO.dK kvs)) ∧ R0 (Itd d o kvs) H1) at2 hr fun od B' H2 l hz => ⟨a, od, kvs, rfl, hz, h _ cs1 G2 H1 B' H2 (st1.trans (Stp.grow le2)) at2 l (w_vals (fun H3 kg => kg a _ _ y hz) rk)⟩
theorem pf_rng1 {p pos : Pos} (hg : Gl X "range") (hm : X.mg "range" = none) (h : PE X e (tE X C x)) (hs : nStar e = true) : PI X tg (.Call (.Name "range" p) [e] [] pos) (tIf X C .rng [x]) :=
  piM (pi_range1 hg hm (pa_F (.cons ⟨h, hs⟩ .nil)) (star_of hs [] X.env)) fun σ H R0 ⟨B, cs, G, s, at_, h⟩ => by
    obtain ⟨ds, s1, e1, h⟩ := Rn.b2 h
    obtain ⟨od, hx, rfl, hg⟩ := evF_one e1
    obtain ⟨xs, e2, h⟩ := Rn.of h
    refine tF_in at_ e1 fun vs cs1 G1 H1 st1 at1 ar => ?_
    obtain ⟨o, d⟩ := od
    cases d <;> simp only [itD, reduceCtorEq] at e2
    rename_i j
    split at e2
    · rename_i hj
      cases e2
      cases ar with
      | cons h1 h2 =>
        cases h2
        exact ⟨j, by rw [h1.int_inv], (isRng_ok hj).1, (isRng_ok hj).2, h _ cs1 G1 H1 B H1 st1 at1 .no w_rng⟩
    · cases e2
theorem pf_rng2 {p pos : Pos} (hg : Gl X "range") (hm : X.mg "range" = none) (h : PE X e (tE X C x)) (hs : nStar e = true) (h2 : PE X e2 (tE X C y)) (hs2 : nStar e2 = true) : PI X tg (.Call (.Name "range" p) [e, e2] [] pos) (tIf X C .rng [x, y]) :=
  piM (pi_range2 hg hm (pa_F (.cons ⟨h, hs⟩ (.cons ⟨h2, hs2⟩ .nil))) (by rw [star_of hs, star_of hs2]; rfl) (star_of hs2 [] X.env)) fun σ H R0 ⟨B, cs, G, s, at_, h⟩ => by
    obtain ⟨ds, s1, e1, h⟩ := Rn.b2 h
    obtain ⟨xs, e2, h⟩ := Rn.of h
    refine tF_in at_ e1 fun vs cs1 G1 H1 st1 at1 ar => ?_
    have hl := evF_len e1
    cases ar with
    | nil => simp at hl
    | @cons v1 _ d1 _ h1 h2 =>
      cases h2 with
      | nil => simp at hl
      | @cons v2 _ d2 _ h2 h3 =>
        cases h3 with
        | cons => simp at hl
        | nil =>
          cases d1 <;> simp only [itD, reduceCtorEq] at e2
          cases d2 <;> simp only [itD, reduceCtorEq] at e2
          rename_i i j
          split at e2
          · rename_i hj
            cases e2
            rw [Bool.and_eq_true] at hj
            exact ⟨i, j, by rw [h1.int_inv, h2.int_inv], ⟨(isRng_ok hj.1).1, (isRng_ok hj.1).2, (isRng_ok hj.2).1, (isRng_ok hj.2).2⟩, h _ cs1 G1 H1 B H1 st1 at1 .no w_rng⟩
          · cases e2
theorem pf_enu {p pos tpos : Pos} {elts : List Expr} {kk : Nat} (hg : Gl X "enumerate") (hm : X.mg "enumerate" = none) (h : PE X e (tE X C x)) (hs : nStar e = true) : PI X (.Tuple elts kk tpos) (.Call (.Name "enumerate" p) [e] [] pos) (tIf X C .enu [x]) :=
  piM (pi_enum hg hm (pa_F (.cons ⟨h, hs⟩ .nil)) (star_of hs [] X.env)) fun σ H R0 ⟨B, cs, G, s, at_, h⟩ => by
    obtain ⟨ds, s1, e1, h⟩ := Rn.b2 h
    obtain ⟨od, hx, rfl, hg⟩ := evF_one e1
    obtain ⟨xs, e2, h⟩ := Rn.of h
    refine tF_in at_ e1 fun vs cs1 G1 H1 st1 at1 ar => ?_
    obtain ⟨o, d⟩ := od
    cases d <;> simp only [itD, reduceCtorEq] at e2 <;> cases e2
    cases ar with
    | cons h1 h2 =>
      cases h2
      obtain ⟨a, vs, rfl, hs, rp⟩ := h1.lst_inv
      exact ⟨a, vs, rfl, at1.wd.le.seqL hs, h _ cs1 G1 H1 B H1 st1 at1 .no (w_enu (fun H3 kg => Kg.seqL at1.wd.le hs kg) rp)⟩
theorem pf_rev {p pos : Pos} (hg : Gl X "reversed") (hm : X.mg "reversed" = none) (h : PE X e (tE X C x)) (hs : nStar e = true) : PI X tg (.Call (.Name "reversed" p) [e] [] pos) (tIf X C .rev [x]) :=
  piM (pi_reversed hg hm (pa_F (.cons ⟨h, hs⟩ .nil)) (star_of hs [] X.env)) fun σ H R0 ⟨B, cs, G, s, at_, h⟩ => by
    obtain ⟨ds, s1, e1, h⟩ := Rn.b2 h
    obtain ⟨od, hx, rfl, hg⟩ := evF_one e1
    obtain ⟨xs, e2, h⟩ := Rn.of h
    refine tF_in at_ e1 fun vs cs1 G1 H1 st1 at1 ar => ?_
    obtain ⟨o, d⟩ := od
    cases d <;> simp only [itD, reduceCtorEq] at e2 <;> cases e2
    cases ar with
    | cons h1 h2 =>
      cases h2
      obtain ⟨a, vs, rfl, hs, rp⟩ := h1.lst_inv
      exact ⟨a, vs, rfl, at1.wd.le.seqL hs, h _ cs1 G1 H1 B H1 st1 at1 .no (w_rev (fun H3 kg => Kg.seqL at1.wd.le hs kg) rp)⟩
end
end Q
end

section
set_option Elab.async false
set_option linter.all false
set_option maxRecDepth 100000
set_option maxHeartbeats 4000000
namespace Q
open PySem PySem.Spec PyProof.Rows L2
/-! ### list comprehensions -/
def lcF (C : Cl) (e : Ex) (t : Tg) (cond : Option Ex) (own : List Nat) : D → S → R S (Option D) := fun x s => (R.of (asg t x (wipeR s.r own)) s).b fun r s => (evT C cond ⟨r, s.c⟩).b fun b s =>
  if b then (ev C e s).b fun y s => if y.1 && isPk e then .bad else .ok (some y.2) s else .ok none s
def tC (X : Cx) (C : Cl) : Option Ex → TT
  | none => tYes
  | some c => tT X C c
theorem notOwn_at {r : Row} : ∀ {is : List Nat} {i : Nat} {d : D}, notOwn is r = true → i ∈ is → r[i]? ≠ some (some (true, d))
  | [], i, d, _, m => by simp at m
  | j :: is, i, d, h, m => fun e => by
    simp only [notOwn] at h
    split at h
    · cases h
    · rename_i hj
      rcases List.mem_cons.mp m with x | x
      · subst x; exact hj d e
      · exact notOwn_at h x e
theorem notOwn_of {r : Row} : ∀ {is : List Nat}, (∀ i d, i ∈ is → r[i]? ≠ some (some (true, d))) → notOwn is r = true
  | [], h => rfl
  | j :: is, h => by
    simp only [notOwn]
    split
    · rename_i d hj; exact absurd hj (h j d (by simp))
    · exact notOwn_of fun i d m => h i d (by simp [m])
theorem notOwn_fol {r r1 : Row} {is : List Nat} (h : notOwn is r = true) (f : Fol r r1) : notOwn is r1 = true := notOwn_of fun i d m e => by
  rcases f.2 i (by simp) with x | ⟨d', x, y⟩
  · rw [x] at e; exact notOwn_at h m e
  · exact notOwn_at h m x
section
variable {K : PySem.W.Frag} {B B' B2 : Bs} {cs cs' cs1 cs2 : List Addr} {G G' G1 G2 H H' H1 H2 : Hp} {s s0 s1 : S} {σ σ' : L2.St} {v w : V} {d dx dy : D} {p a : Addr} {o o' u : HO} {r : Row} {X : Cx} {C : Cl} {x y : Ex} {xs : List D} {own : List Nat}
theorem At.back {c : Cells} (at0 : At K B cs1 G1 s0 σ H1) (hn : notOwn own s0.r = true) (at_ : At K B2 cs2 G2 ⟨wipeR r own, c⟩ (L2.wipe σ own) H) (p : Pre cs1 cs2) (le : Le G1 G2) : At K B2 cs2 G2 ⟨backR s0.r r own, c⟩ σ H := by
  have hl : r.length = s0.r.length := by
    have h1 := at_.en.len
    rw [wipe_len', wipe_len] at h1
    rw [← h1, at0.en.len]
  have hin : ∀ (i : Nat) (d : D), (backR s0.r r own)[i]? = some (some (true, d)) → i ∉ own ∧ (wipeR r own)[i]? = some (some (true, d)) ∧ (L2.wipe σ own)[i]? = σ[i]? := fun i d h => by
    by_cases m : i ∈ own
    · rw [back_in _ _ _ _ hl m] at h
      exact absurd h (notOwn_at hn m)
    · rw [back_out _ _ _ _ m] at h
      exact ⟨m, by rw [wipe_out' _ _ _ m]; exact h, wipe_get m⟩
  refine ⟨at_.wd, ⟨by rw [back_len, hl, at0.en.len], fun i ob d h => ?_, fun i j d e v ne hi hj si sj => ?_⟩⟩
  · by_cases m : i ∈ own
    · rw [back_in _ _ _ _ hl m] at h
      obtain ⟨v, e, vr⟩ := at0.en.val i ob d h
      cases ob with
      | true => exact absurd h (notOwn_at hn m)
      | false => exact ⟨v, e, (show Rep K cs1 G1 v d from vr).mono p le⟩
    · rw [back_out _ _ _ _ m] at h
      obtain ⟨v, e, vr⟩ := at_.en.val i ob d (by show (wipeR r own)[i]? = _; rw [wipe_out' _ _ _ m]; exact h)
      exact ⟨v, by rw [← wipe_get m]; exact e, vr⟩
  · obtain ⟨m, h1, e1⟩ := hin i d hi
    obtain ⟨m2, h2, e2⟩ := hin j e hj
    rw [← e1] at si
    rw [← e2] at sj
    exact at_.en.dis i j d e v ne h1 h2 si sj
theorem drop_of {α : Type} {xs : List α} {i : Nat} {d : α} (h : xs[i]? = some d) : xs.drop i = d :: xs.drop (i + 1) := by
  obtain ⟨hi, e⟩ := List.getElem?_eq_some_iff.mp h
  rw [List.drop_eq_getElem_cons hi, e]
theorem tC_in {cond : Option Ex} {b : Bool} {Q0 : Bool → Hp → Prop} (at_ : At X.K B cs G s σ H) (e1 : evT C cond s = .ok b s1) (k : ∀ cs1 G1 H1, Stp cs G H cs1 G1 H1 → At X.K B cs1 G1 s1 σ H1 → Q0 b H1) : tC X C cond σ H Q0 := by
  cases cond with
  | none =>
    cases e1
    exact k cs G H (Stp.refl _ _ _) at_
  | some c =>
    refine ⟨B, cs, G, s, at_, ?_⟩
    have : (ev C c s).b tru = .ok b s1 := e1
    rw [this]
    exact k
theorem Lks.at_ (l : Lks X B G H B' H1) (at_ : At X.K B cs G s σ H) : At X.K B' cs G s σ H1 := by
  cases l with
  | no => exact at_
  | yes hG hH nf => exact at_.lock hG hH
theorem Lks.g0 (l : Lks X B G H B' H1) : B'.g0 = B.g0 := by cases l <;> rfl
theorem Lks.h0 (l : Lks X B G H B' H1) : B'.h0 = B.h0 := by cases l <;> rfl
theorem Lks.nov (l : Lks X B G H B' H1) (h : H1 a = none) : H a = none := by
  cases l with
  | no => exact h
  | @yes d0 od kvs hG hH nf =>
    by_cases e : a = d0
    · rw [e, upd_same] at h; cases h
    · rw [upd_ne e] at h; exact h
/-- the walk is over: what was locked is so no more -/
theorem Lks.done (l : Lks X B G H B' H1) (at0 : At X.K B cs G s σ H) (at1 : At X.K B' cs1 G1 s1 σ' H2) (kp : ∀ a kvs od, G a = some (.dK kvs) → H1 a = some (.frz od (.dK kvs)) → H2 a = some (.frz od (.dK kvs))) {P : Hp → Prop}
    (q : ∀ H3, At X.K B cs1 G1 s1 σ' H3 → (∀ a o, H a = some o → H1 a = some o → H2 a = some o → H3 a = some o) → (∀ a kvs, H a = some (.dK kvs) → H1 a ≠ H a → H3 a = some (.dK kvs)) → (∀ a, G a = none → H3 a = H2 a) → P H3) : Unl X P H2 := by
  cases l with
  | no => exact .inl (q H2 at1 (fun a o _ _ h => h) (fun a kvs _ n => absurd rfl n) fun _ _ => rfl)
  | @yes d od kvs hG hH nf =>
    have hl := at0.lockd (.inl hG) hH
    have h2 := kp d kvs od hG upd_same
    obtain ⟨u, e1, e2, at2⟩ := at1.unlock hl.2.1 hl.2.2
    rw [h2] at e2; cases e2
    refine .inr ⟨d, od, _, nf, h2, q _ at2 (fun a o h1 h2' h3 => ?_) (fun a k h n => ?_) fun a g => ?_⟩
    · by_cases y : a = d
      · subst y; rw [upd_same] at h2'; rw [hH] at h1; cases h1; cases h2'
      · rw [upd_ne y]; exact h3
    · by_cases y : a = d
      · subst y; rw [hH] at h; cases h; exact upd_same
      · rw [upd_ne y] at n; exact absurd rfl n
    · by_cases y : a = d
      · subst y; rw [hG] at g; cases g
      · exact upd_ne y
theorem lc_ok {e : Ex} {t : Tg} {k : Ik} {its : List Ex} {cond : Option Ex} {Q0 : VK} (h : tE X C (.lc e t k its cond own) σ H Q0) : tLc (tIc X C k its) (gT X.K t) (tC X C cond) (tE X C e) own σ H (fun v H' => Unl X (Q0 v) H') := by
  obtain ⟨B, cs, G, s, at_, h⟩ := h
  have h : Rn (if !(tgIn own t && notOwn own s.r) then .bad else (evA C its s).b fun ds s => (R.of (itD k ds) ⟨_root_.Q.fzD its s.r, s.c⟩).b fun xs s0 =>
      (lcL (lcF C e t cond own) xs s0 []).b fun acc s => .ok (true, .lst acc) ⟨backR s0.r s.r own, s.c⟩) (Ps X.K B cs G H σ false none Q0) := h
  split at h
  · exact h.elim
  rename_i hg
  simp only [Bool.not_eq_true', Bool.not_eq_false, Bool.and_eq_true] at hg
  obtain ⟨ds, s1, e1, h⟩ := Rn.b2 h
  obtain ⟨xs, s0, e2', h⟩ := Rn.b2 h
  obtain ⟨e2, rfl⟩ := R.of_eq e2'
  have h := Rn.b h
  refine ⟨B, cs, G, s, at_, ?_⟩
  rw [e1]
  show Rn (R.of (itD k ds) _) _
  rw [e2]
  intro J cs1 G1 H1 B' H2 st1 at1 lks W Da hD
  have hno : notOwn own (_root_.Q.fzD its s1.r) = true := notOwn_fol (notOwn_fol hg.2 (fol_evA _ _ _ _ e1)) (fol_fzD _ _)
  have at1' := lks.at_ at1
  have hD1 := lks.nov hD
  obtain ⟨gD, nD1, zD⟩ := at1.wd.fresh hD1
  have g0 : B'.g0 Da = none := by rw [lks.g0]; exact at1.wd.gl.nov gD
  refine lc_it W (fun i Hc => ∃ cs2 G2 s2 vs ds, At X.K (B'.pin Da (.lst vs)) cs2 G2 ⟨wipeR s2.r own, s2.c⟩ (wipe σ own) Hc ∧ Stp cs1 G1 H2 cs2 G2 Hc ∧ Da ∉ cs2 ∧ Reps X.K cs2 G2 vs ds ∧
    Rn (lcL (lcF C e t cond own) (xs.drop i) s2 ds) fun acc s => Rn (.ok (true, .lst acc) ⟨backR (_root_.Q.fzD its s1.r) s.r own, s.c⟩) (Ps X.K B cs G H σ false none Q0)) ?_ ?_ ?_ ?_
  · exact ⟨cs1, G1, _, [], [], ((at1'.alloc hD).pin upd_same nD1 gD (at1'.nown hD)).wipe, Stp.alloc at1'.wd hD, nD1, .nil, h⟩
  · rintro i H3 hi ⟨cs2, G2, s2, vs, ds, at2, st2, nD, rs, hr⟩
    exact st2.keep
  · rintro i x H3 H4 hi ⟨cs2, G2, s2, vs, ds, at2, st2, nD, rs, hr⟩ ⟨d, hd, y⟩
    rw [drop_of hd] at hr
    obtain ⟨o, s3, f1, hr⟩ := Rn.b2 hr
    obtain ⟨r1, s2', f2, f1⟩ := R.b_eq f1
    obtain ⟨f4, e3⟩ := R.of_eq f2
    subst e3
    obtain ⟨b, s4, f3, f1⟩ := R.b_eq f1
    have : ∃ G3, At X.K (B'.pin Da (.lst vs)) cs2 G3 ⟨wipeR s2.r own, s2.c⟩ (wipe σ own) H4 ∧ Stp cs1 G1 H2 cs2 G3 H4 ∧ Rep X.K cs2 G3 x d ∧ Reps X.K cs2 G3 vs ds := by
      rcases y with ⟨rfl, rp⟩ | ⟨T, ws, es, rfl, hT, rfl, rfl, rp⟩
      · exact ⟨G2, at2, st2, rp.mono st2.pre st2.le, rs⟩
      · obtain ⟨gT, nT, zT⟩ := at2.wd.fresh hT
        have a1 := at2.alloc (o := .tup ws) hT
        exact ⟨_, a1.grow upd_same nT gT zT (at2.nown hT), (st2.trans (Stp.alloc at2.wd hT)).trans (Stp.grow (Le.new gT)), .tup (.of upd_same) (rp.mono st2.pre (st2.le.trans (Le.new gT))), rs.mono (Pre.refl _) (Le.new gT)⟩
    obtain ⟨G3, at3, st3, rx, rs3⟩ := this
    refine asg_ok t ⟨wipeR s2.r own, s2.c⟩ d r1 x (wipe σ own) _ at3 rx f4 fun σ' at4 hw => ⟨by rw [hw own hg.1, wipe_idem], ?_⟩
    have hw' : wipe σ' own = wipe σ own := by rw [hw own hg.1, wipe_idem]
    refine tC_in at4 f3 fun cs5 G5 H5 st5 at5 => ?_
    have nD5 : Da ∉ cs5 := st5.nin nD (at3.pinned g0 nD).2
    cases b with
    | false =>
      cases f1
      refine ⟨cs5, G5, _, vs, ds, ?_, st3.trans st5, nD5, rs3.mono st5.pre st5.le, hr⟩
      have := at5.wipe (own := own)
      rw [hw'] at this
      exact this
    | true =>
      obtain ⟨y5, s5, f5, f1⟩ := R.b_eq f1
      split at f1
      · cases f1
      rename_i hpk
      cases f1
      refine tE_in at5 f5 fun yv cs6 G6 H6 st6 at6 r6 => ?_
      have hr : Rn (if ds.length < lim then lcL (lcF C e t cond own) (xs.drop (i + 1)) s3 (ds ++ [y5.2]) else .bad) _ := hr
      split at hr
      case isFalse => exact hr.elim
      rename_i hlim
      have nD6 : Da ∉ cs6 := st6.nin nD5 (at5.pinned g0 nD5).2
      have rs6 := (rs3.mono st5.pre st5.le).mono st6.pre st6.le
      refine ⟨vs, (at6.pinned g0 nD6).2, by rw [rs.len]; exact lim_lt hlim, ?_⟩
      obtain ⟨G7, le7, at7, r7⟩ := r6.freeze at6 (by simpa using hpk)
      have at8 := at7.wipe (own := own)
      rw [hw'] at at8
      have st7 := ((st3.trans st5).trans st6).trans (Stp.grow le7)
      exact ⟨cs6, G7, s3, vs ++ [yv], ds ++ [y5.2], at8.repin g0 nD6, ⟨st7.pre, st7.new, st7.le, fun a o n h => by rw [upd_ne (ne_of_none h hD)]; exact st7.keep a o n h⟩, nD6, (rs6.mono (Pre.refl _) le7).app (.cons r7 .nil), hr⟩
  · rintro H3 ⟨cs2, G2, s2, vs, ds, at2, st2, nD, rs, hr⟩
    rw [List.drop_length] at hr
    have hr : Ps X.K B cs G H σ false none Q0 (true, .lst ds) ⟨backR (_root_.Q.fzD its s1.r) s2.r own, s2.c⟩ := hr
    have atb := At.back at1 hno at2 st2.pre st2.le
    have hpin := atb.pinned g0 nD
    have z' : B'.h0 Da = none := by rw [lks.h0]; exact zD
    have no : ∀ (i : Nat) (f : D), (backR (_root_.Q.fzD its s1.r) s2.r own)[i]? = some (some (true, f)) → σ[i]? ≠ some (some (.ref Da)) := fun i f hi hs => by
      have := (atb.own_none hi hs).2.2.1
      rw [show (B'.pin Da (.lst vs)).h0 Da = some (.lst vs) from upd_same] at this
      cases this
    refine lks.done at1 (atb.unpin z') (fun a kvs od hG hH => ?_) fun H4 at4 k1 k2 k3 => ?_
    · exact st2.keep _ _ (fun m => by rw [at1.wd.cg a m] at hG; cases hG) hH
    · refine hr (.ref Da) cs2 G2 H4 (st1.trans ⟨st2.pre, fun a m => ?_, st2.le, fun a o n h => ?_⟩) at4 ⟨⟨Da, rfl, hpin.1, nD, zD, vs, ?_, rs⟩, fun _ _ => no, fun _ h => nomatch h⟩
      · exact (st2.new a m).imp id lks.nov
      · by_cases e : H2 a = H1 a
        · exact k1 a o h (e.trans h) (st2.keep a o n (e.trans h))
        · cases lks with
          | no => exact absurd rfl e
          | @yes d' od kvs hG hH nf =>
            by_cases y : a = d'
            · subst y; rw [hH] at h; cases h; exact k2 a _ hH e
            · rw [upd_ne y] at e; exact absurd rfl e
      · rw [k3 Da gD]; exact hpin.2
end
end Q
end

section
set_option Elab.async false
set_option linter.all false
set_option maxRecDepth 100000
set_option maxHeartbeats 4000000
namespace Q
open PySem PySem.Spec PyProof.Rows L2
/-! ### statements -/
structure Ssp (B : Bs) (cs : List Addr) (G H : Hp) (cs' : List Addr) (G' H' : Hp) : Prop where
  pre : Pre cs cs'
  new : ∀ a ∈ cs', a ∈ cs ∨ B.h0 a = none
  le : Le G G'
  kg : Kg G H H'
def Es (K : PySem.W.Frag) (B : Bs) (cs : List Addr) (G H : Hp) (E : Ends) (fl : Fl) (s' : S) : Prop := match fl with
  | .nx => ∀ σ' cs' G' H', Ssp B cs G H cs' G' H' → At K B cs' G' s' σ' H' → E.nx σ' H'
  | .bk => ∀ σ' cs' G' H', Ssp B cs G H cs' G' H' → At K B cs' G' s' σ' H' → E.bk σ' H'
  | .ct => ∀ σ' cs' G' H', Ssp B cs G H cs' G' H' → At K B cs' G' s' σ' H' → E.ct σ' H'
  | .ret o d => ∀ v σ' cs' G' H', Ssp B cs G H cs' G' H' → At K B cs' G' s' σ' H' → ValR K B cs' G' H' o v d → E.rt v H'
def tS (X : Cx) (C : Cl) (x : Sx) : TS := fun D σ H => ∃ B cs G s, At X.K B cs G s σ H ∧ Rn (xe C x s) (Es X.K B cs G H D)
def tSs (X : Cx) (C : Cl) (xs : List Sx) : TS := fun D σ H => ∃ B cs G s, At X.K B cs G s σ H ∧ Rn (xes C xs s) (Es X.K B cs G H D)
theorem psM {X : Cx} {st : Stmt} {t t' : TS} (h : PS X st t) (m : ∀ D σ H, t' D σ H → t D σ H) : PS X st t' := ⟨fun pins s σ H D I q => h.run pins s σ H D I (m D σ H q)⟩
theorem pssM {X : Cx} {st : List Stmt} {t t' : TS} (h : PSs X st t) (m : ∀ D σ H, t' D σ H → t D σ H) : PSs X st t' := ⟨fun pins s σ H D I q => h.run pins s σ H D I (m D σ H q)⟩
section
variable {K : PySem.W.Frag} {B B' : Bs} {cs cs' cs1 cs2 : List Addr} {G G' G1 G2 H H' H1 H2 : Hp} {s s0 s1 : S} {σ σ' : L2.St} {v w : V} {d dx dy : D} {p a : Addr} {o o' u : HO} {r : Row} {X : Cx} {C : Cl} {x y z : Ex} {xs ys : List Sx} {E E' : Ends} {fl : Fl}
theorem Ssp.refl : Ssp B cs G H cs G H := ⟨Pre.refl _, fun _ h => .inl h, Le.refl _, Kg.refl⟩
theorem Ssp.trans (a : Ssp B cs G H cs1 G1 H1) (b : Ssp B cs1 G1 H1 cs2 G2 H2) : Ssp B cs G H cs2 G2 H2 := ⟨a.pre.trans b.pre, fun x m => (b.new x m).elim (a.new x) .inr, a.le.trans b.le, fun x u o g h => by
  have h1 := a.kg x u o g h
  rcases a.le x u (.inl g) with z | ⟨od, z⟩
  · exact b.kg x _ o z h1
  · exact b.kg x _ o z h1⟩
theorem Stp.ssp (w : Wd K B cs G s.c H) (st : Stp cs G H cs1 G1 H1) : Ssp B cs G H cs1 G1 H1 := ⟨st.pre, fun x m => (st.new x m).imp id fun h => (w.fresh h).2.2, st.le, fun x u o g h => st.keep x o (fun m => by rw [w.cg x m] at g; cases g) h⟩
theorem Es.shift (h : Es K B cs G H E fl s1) (st : Ssp B cs G H cs1 G1 H1) : Es K B cs1 G1 H1 E fl s1 := by
  cases fl with
  | nx => exact fun σ' cs' G' H' st' => h σ' cs' G' H' (st.trans st')
  | bk => exact fun σ' cs' G' H' st' => h σ' cs' G' H' (st.trans st')
  | ct => exact fun σ' cs' G' H' st' => h σ' cs' G' H' (st.trans st')
  | ret o d => exact fun v σ' cs' G' H' st' => h v σ' cs' G' H' (st.trans st')
theorem r_nil : PSs X [] (tSs X C []) := pssM pss_nil fun D σ H ⟨B, cs, G, s, at_, h⟩ => h σ cs G H Ssp.refl at_
theorem r_cons {st : Stmt} {rest : List Stmt} {x : Sx} (h1 : PS X st (tS X C x)) (h2 : PSs X rest (tSs X C xs)) : PSs X (st :: rest) (tSs X C (x :: xs)) :=
  pssM (pss_cons h1 h2) fun D σ H ⟨B, cs, G, s, at_, h⟩ => by
    obtain ⟨fl, s1, e1, h⟩ := Rn.b2 h
    refine ⟨B, cs, G, s, at_, ?_⟩
    rw [e1]
    cases fl with
    | nx => exact fun σ' cs' G' H' st' at' => ⟨B, cs', G', s1, at', h.mono fun fl s' q => q.shift st'⟩
    | bk => exact h
    | ct => exact h
    | ret o d => exact h
theorem r_pass {pos : Pos} : PS X (.Pass pos) (tS X C .pass) := psM ps_pass fun D σ H ⟨B, cs, G, s, at_, h⟩ => h σ cs G H Ssp.refl at_
theorem r_brk {pos : Pos} : PS X (.Break pos) (tS X C .brk) := psM ps_break fun D σ H ⟨B, cs, G, s, at_, h⟩ => h σ cs G H Ssp.refl at_
theorem r_cnt {pos : Pos} : PS X (.Continue pos) (tS X C .cnt) := psM ps_continue fun D σ H ⟨B, cs, G, s, at_, h⟩ => h σ cs G H Ssp.refl at_
theorem r_doc {t : Str} {j : Nat} {pos pos' : Pos} : PS X (.Expr (.Constant (.str t) j pos) pos') (tS X C .pass) := psM ps_doc fun D σ H ⟨B, cs, G, s, at_, h⟩ => h σ cs G H Ssp.refl at_
theorem r_raise {st : Stmt} {n : Nat} : PS X st (tS X C (.raise n)) := psM ps_never fun D σ H ⟨B, cs, G, s, at_, h⟩ => h.elim
theorem r_retN {pos : Pos} : PS X (.Return none pos) (tS X C .retN) := psM ps_retN fun D σ H ⟨B, cs, G, s, at_, h⟩ => h .non σ cs G H Ssp.refl at_ .non
theorem r_ret {e : Expr} {pos : Pos} (he : PE X e (tE X C x)) : PS X (.Return (some e) pos) (tS X C (.ret x)) :=
  psM (ps_ret he) fun D σ H ⟨B, cs, G, s, at_, h⟩ => by
    obtain ⟨od, s1, e1, h⟩ := Rn.b2 h
    exact tE_in at_ e1 fun v cs1 G1 H1 st1 at1 r1 => h v σ cs1 G1 H1 (st1.ssp at_.wd) at1 r1.1
/-- what drops nothing, what swaps nothing -/
def noComp : Expr → Bool
  | .ListComp .. => false
  | .SetComp .. => false
  | .DictComp .. => false
  | _ => true
theorem sw_no {e : Expr} (h : noComp e = true) (t : Option Expr) (l : Nat) (env : Env) : swapsWith e t l env = pure false := by
  cases e <;> first | rfl | (simp [noComp] at h)
theorem r_expr {e : Expr} {pos : Pos} (hn : noComp e = true) (he : PE X e (tE X C x)) : PS X (.Expr e pos) (tS X C (.expr x)) :=
  psM (ps_expr he (sw_no hn _ _ _)) fun D σ H ⟨B, cs, G, s, at_, h⟩ => by
    obtain ⟨od, s1, e1, h⟩ := Rn.b2 h
    exact tE_in at_ e1 fun v cs1 G1 H1 st1 at1 r1 => h σ cs1 G1 H1 (st1.ssp at_.wd) at1
theorem r_if {c : Expr} {a b : List Stmt} {pos : Pos} (hc : PT X c (tT X C x)) (ha : PSs X a (tSs X C xs)) (hb : PSs X b (tSs X C ys)) : PS X (.If c a b pos) (tS X C (.ite x xs ys)) :=
  psM (ps_if hc ha hb) fun D σ H ⟨B, cs, G, s, at_, h⟩ => by
    obtain ⟨od, s1, e1, h⟩ := Rn.b2 h
    obtain ⟨t, s2, e2, h⟩ := Rn.b2 h
    refine ⟨B, cs, G, s, at_, ?_⟩
    rw [e1, R.b_ok, e2]
    intro cs1 G1 H1 st1 at1
    cases t with
    | true => exact ⟨B, cs1, G1, s2, at1, h.mono fun fl s' q => q.shift (st1.ssp at_.wd)⟩
    | false => exact ⟨B, cs1, G1, s2, at1, h.mono fun fl s' q => q.shift (st1.ssp at_.wd)⟩
/-! names -/
theorem r_set {i : Nat} {n : Str} {e : Expr} {pos' pos : Pos} (hN : X.N.Nodup) (hi : X.N[i]? = some n) (hx : Loc X.env.scope n) (hf : X.fn n = true ∨ X.env.scope.names.lookup n = some .local) (hs : swapsWith e (some (.Name n pos')) pos.line X.env = pure false) (he : PE X e (tE X C x)) :
    PS X (.Assign [.Name n pos'] e pos) (tS X C (.set i x)) :=
  psM (ps_set hN hi hx he hs hf) fun D σ H ⟨B, cs, G, s, at_, h⟩ => by
    obtain ⟨od, s1, e1, h⟩ := Rn.b2 h
    split at h
    · exact h.elim
    rename_i hg
    refine tE_in at_ e1 fun v cs1 G1 H1 st1 at1 r1 => ?_
    obtain ⟨G2, le2, at2, rp⟩ := r1.freeze at1 (by simpa using hg)
    exact h _ cs1 G2 H1 ((st1.trans (Stp.grow le2)).ssp at_.wd) (at2.set rp)
theorem own_of {i : Nat} (at_ : At K B cs G s σ H) (r1 : Res K B cs G H s σ (isPk x) (vOf x) od v) (hg : (od.1 && isPk x) = false) : At K B cs G ⟨s.r.set i (some od), s.c⟩ (σ.set i (some v)) H :=
  at_.setO (b := od.1) (d := od.2) r1.1 fun h => r1.2.1 h (by simpa [h] using hg)
theorem r_own {i : Nat} {n : Str} {e : Expr} {pos' pos : Pos} (hN : X.N.Nodup) (hi : X.N[i]? = some n) (hx : Loc X.env.scope n) (hf : X.fn n = true ∨ X.env.scope.names.lookup n = some .local) (hs : swapsWith e (some (.Name n pos')) pos.line X.env = pure false) (he : PE X e (tE X C x)) :
    PS X (.Assign [.Name n pos'] e pos) (tS X C (.own i x)) :=
  psM (ps_set hN hi hx he hs hf) fun D σ H ⟨B, cs, G, s, at_, h⟩ => by
    obtain ⟨od, s1, e1, h⟩ := Rn.b2 h
    split at h
    · exact h.elim
    rename_i hg
    refine tE_in at_ e1 fun v cs1 G1 H1 st1 at1 r1 => ?_
    exact h _ cs1 G1 H1 (st1.ssp at_.wd) (own_of at1 r1 (by simpa using hg))
/-- a cell is made -/
theorem At.mkc {i : Nat} {ds : List D} (at_ : At K B cs G s σ H) (g : G p = none) (n : p ∉ cs) (z : B.h0 p = none) (ow : Own K cs G H p (.lst ds)) (no : ∀ (i : Nat) (e : D), s.r[i]? = some (some (true, e)) → σ[i]? ≠ some (some (.ref p))) :
    At K B (cs ++ [p]) G ⟨s.r.set i (some (false, .cel s.c.length)), s.c ++ [ds]⟩ (σ.set i (some (.ref p))) H := by
  obtain ⟨vs, hp, rs⟩ := ow
  have pre : Pre cs (cs ++ [p]) := fun k a h => by
    rw [List.getElem?_append_left (List.getElem?_eq_some_iff.mp h).1]; exact h
  have a1 : At K B (cs ++ [p]) G ⟨s.r, s.c ++ [ds]⟩ σ H := by
    refine ⟨⟨at_.wd.le, at_.wd.gl, at_.wd.gn, fun a m => ?_, ?_, by simp [at_.wd.len], fun k a es h1 h2 => ?_, at_.wd.lok, fun a o h m => at_.wd.fr a o h fun q => m (by simp [q])⟩, ⟨at_.en.len, fun i ob d h => ?_, at_.en.dis⟩⟩
    · rcases List.mem_append.mp m with q | q
      · exact at_.wd.cg a q
      · simp at q; subst q; exact g
    · rw [List.nodup_append]
      exact ⟨at_.wd.nd, by simp, fun a m b m2 => by simp at m2; subst m2; exact fun e => n (e ▸ m)⟩
    · by_cases hk : k < cs.length
      · rw [List.getElem?_append_left hk] at h1
        rw [List.getElem?_append_left (by rw [at_.wd.len]; exact hk)] at h2
        obtain ⟨ws, h3, h4⟩ := at_.wd.cel k a es h1 h2
        exact ⟨ws, h3, h4.mono pre (Le.refl _)⟩
      · have hk' : k = cs.length := by
          have := (List.getElem?_eq_some_iff.mp h1).1
          simp at this; omega
        subst hk'
        rw [List.getElem?_append_right (Nat.le_refl _)] at h1
        rw [List.getElem?_append_right (by rw [at_.wd.len]; exact Nat.le_refl _), at_.wd.len] at h2
        simp at h1 h2
        subst h1 h2
        exact ⟨vs, hp, rs.mono pre (Le.refl _)⟩
    · obtain ⟨v, e, vr⟩ := at_.en.val i ob d h
      refine ⟨v, e, ?_⟩
      cases ob with
      | false => exact Rep.mono pre (Le.refl _) vr
      | true =>
        obtain ⟨q, e1, g1, n1, z1, w⟩ := vr
        subst e1
        refine ⟨q, rfl, g1, fun m => ?_, z1, ?_⟩
        · rcases List.mem_append.mp m with m | m
          · exact n1 m
          · simp at m; subst m; exact no i d h e
        · cases d with
          | lst _ => obtain ⟨vs, x, y⟩ := w; exact ⟨vs, x, y.mono pre (Le.refl _)⟩
          | dct _ => obtain ⟨vs, x, y⟩ := w; exact ⟨vs, x, y.mono pre (Le.refl _)⟩
          | _ => exact w.elim
  exact a1.set (.cel (by rw [← at_.wd.len.symm, List.getElem?_append_right (Nat.le_refl _)]; simp))
theorem r_mkc {i : Nat} {n : Str} {e : Expr} {pos' pos : Pos} (hN : X.N.Nodup) (hi : X.N[i]? = some n) (hx : Loc X.env.scope n) (hf : X.fn n = true ∨ X.env.scope.names.lookup n = some .local) (hs : swapsWith e (some (.Name n pos')) pos.line X.env = pure false) (he : PE X e (tE X C x)) :
    PS X (.Assign [.Name n pos'] e pos) (tS X C (.mkc i x)) :=
  psM (ps_set hN hi hx he hs hf) fun D σ H ⟨B, cs, G, s, at_, h⟩ => by
    obtain ⟨od, s1, e1, h⟩ := Rn.b2 h
    split at h
    · rename_i ds
      split at h
      · exact h.elim
      rename_i hg
      refine tE_in at_ e1 fun v cs1 G1 H1 st1 at1 r1 => ?_
      obtain ⟨⟨p, rfl, g, n, z, ow⟩, no, _⟩ := r1
      have st := (st1.ssp at_.wd)
      refine h _ (cs1 ++ [p]) G1 H1 ⟨st.pre.trans fun k a h => ?_, fun a m => ?_, st.le, st.kg⟩ (at1.mkc g n z ow (no rfl (by simpa using hg)))
      · rw [List.getElem?_append_left (List.getElem?_eq_some_iff.mp h).1]; exact h
      · rcases List.mem_append.mp m with q | q
        · exact st.new a q
        · simp at q; subst q; exact .inr z
    · exact h.elim
theorem r_unp {t : Tg} {e tg : Expr} {pos : Pos} (hg : PG X tg (gT X.K t)) (hs : swapsWithSole [tg] e pos.line X.env = pure false) (hw : swappedStores [tg] e X.env = pure none) (h1 : (assignEach [tg] X.env).map (·.2) = [assign tg X.env]) (he : PE X e (tE X C x)) :
    PS X (.Assign [tg] e pos) (tS X C (.unp t x)) :=
  psM (ps_asg he hg hs hw h1) fun D σ H ⟨B, cs, G, s, at_, h⟩ => by
    obtain ⟨od, s1, e1, h⟩ := Rn.b2 h
    split at h
    · exact h.elim
    rename_i hg
    obtain ⟨r1, s2, e2, h⟩ := Rn.b2 h
    obtain ⟨e4, e3⟩ := R.of_eq e2
    subst e3
    refine tE_in at_ e1 fun v cs1 G1 H1 st1 at1 rs => ?_
    obtain ⟨G2, le2, at2, rp⟩ := rs.freeze at1 (by simpa using hg)
    exact asg_ok t s1 _ r1 v σ _ at2 rp e4 fun σ' at' _ => h σ' cs1 G2 H1 ((st1.trans (Stp.grow le2)).ssp at_.wd) at'
theorem r_aug {i : Nat} {n : Str} {e : Expr} {op : Op} {pos' pos : Pos} {oo : Operator} (ho : (op = .add ∧ oo = .Add) ∨ (op = .sub ∧ oo = .Sub)) (hN : X.N.Nodup) (hi : X.N[i]? = some n) (hx : Loc X.env.scope n) (hf : X.fn n = true ∨ X.env.scope.names.lookup n = some .local) (he : PE X e (tE X C x)) :
    PS X (.AugAssign (.Name n pos') oo e pos) (tS X C (.aug i op x)) := by
  have main : ∀ (f : Int → Int → Int) (D : Ends) (σ : L2.St) (H : Hp), (∃ B cs G s, At X.K B cs G s σ H ∧ ∃ k : Int, ∃ o, s.r[i]? = some (some (o, .int k)) ∧ Rn (ev C x s) fun y s' => ∃ m, y.2 = .int m ∧ Es X.K B cs G H D .nx ⟨s'.r.set i (some (false, .int (f k m))), s'.c⟩) → tAug i (tE X C x) (ipI f) D σ H := by
    rintro f D σ H ⟨B, cs, G, s, at_, k, o, hk, h⟩
    obtain ⟨v, e, vr⟩ := at_.en.val i o _ hk
    have e2 := vr.vw.int
    subst e2
    refine ⟨_, e, B, cs, G, s, at_, h.mono fun od s' q => ?_⟩
    obtain ⟨m, e3, q⟩ := q
    intro w cs1 G1 H1 st1 at1 r1
    have hw : Vw X.K cs1 G1 H1 w (.int m) := e3 ▸ r1.vw
    exact ⟨k, m, rfl, hw.int, q _ cs1 G1 H1 (st1.ssp at_.wd) (at1.set (.int _))⟩
  rcases ho with ⟨rfl, rfl⟩ | ⟨rfl, rfl⟩
  · refine psM (ps_aug hN hi hx he ip_add hf) fun D σ H ⟨B, cs, G, s, at_, h⟩ => main _ D σ H ⟨B, cs, G, s, at_, ?_⟩
    simp only [xe] at h
    split at h
    · rename_i o k hk
      refine ⟨k, o, hk, (Rn.b h).mono fun y s' q => ?_⟩
      obtain ⟨yo, yd⟩ := y
      cases yd with
      | int m => exact ⟨m, rfl, q⟩
      | _ => exact q.elim
    · exact h.elim
  · refine psM (ps_aug hN hi hx he ip_sub hf) fun D σ H ⟨B, cs, G, s, at_, h⟩ => main _ D σ H ⟨B, cs, G, s, at_, ?_⟩
    simp only [xe] at h
    split at h
    · rename_i o k hk
      refine ⟨k, o, hk, (Rn.b h).mono fun y s' q => ?_⟩
      obtain ⟨yo, yd⟩ := y
      cases yd with
      | int m => exact ⟨m, rfl, q⟩
      | _ => exact q.elim
    · exact h.elim
/-! what is owned changes -/
theorem At.ownset {i : Nat} {d' : D} (at_ : At K B cs G s σ H) (hi : s.r[i]? = some (some (true, d))) (hs : σ[i]? = some (some (.ref p))) (ow : Own K cs G (upd H p o) p d') : At K B cs G ⟨s.r.set i (some (true, d')), s.c⟩ σ (upd H p o) ∧ Kg G H (upd H p o) := by
  obtain ⟨g, n, z, _⟩ := at_.own_none hi hs
  have hl : i < s.r.length := (List.getElem?_eq_some_iff.mp hi).1
  have other : ∀ (j : Nat) (e : D), j ≠ i → s.r[j]? = some (some (true, e)) → σ[j]? ≠ some (some (.ref p)) := fun j e ne hj hs' => at_.en.dis i j d e _ (fun x => ne x.symm) hi hj hs hs'
  refine ⟨⟨⟨upd_le at_.wd.le g, at_.wd.gl, at_.wd.gn, at_.wd.cg, at_.wd.nd, at_.wd.len, fun k a es h1 h2 => ?_, fun q m => ?_, fun a w h m => ?_⟩, ⟨by simp [at_.en.len], fun j ob e h => ?_, fun j k e f v ne hj hk sj sk => ?_⟩⟩, fun a u w h h2 => ?_⟩
  · obtain ⟨vs, h3, h4⟩ := at_.wd.cel k a es h1 h2
    exact ⟨vs, by rw [upd_ne (fun y => n (by rw [← y]; exact List.mem_of_getElem? h1))]; exact h3, h4⟩
  · obtain ⟨w, h1, h2⟩ := at_.wd.lok q m
    exact ⟨w, h1, by rw [upd_ne (fun y => by rw [y, g] at h1; cases h1)]; exact h2⟩
  · have ne : a ≠ p := fun y => by rw [y, z] at h; cases h
    rcases at_.wd.fr a w h m with x | ⟨od, x, y⟩
    · exact .inl (by rw [upd_ne ne]; exact x)
    · exact .inr ⟨od, x, by rw [upd_ne ne]; exact y⟩
  · by_cases y : j = i
    · subst y
      rw [List.getElem?_set_self hl] at h
      cases h
      exact ⟨_, hs, p, rfl, g, n, z, ow⟩
    · rw [List.getElem?_set_ne (fun q => y q.symm)] at h
      obtain ⟨v, e1, vr⟩ := at_.en.val j ob e h
      refine ⟨v, e1, ?_⟩
      cases ob with
      | false => exact vr
      | true =>
        obtain ⟨q, e2, g1, n1, z1, w⟩ := vr
        subst e2
        have ne : q ≠ p := fun x => other j e y h (by rw [← x]; exact e1)
        refine ⟨q, rfl, g1, n1, z1, ?_⟩
        cases e with
        | lst _ => obtain ⟨vs, x, y⟩ := w; exact ⟨vs, by rw [upd_ne ne]; exact x, y⟩
        | dct _ => obtain ⟨vs, x, y⟩ := w; exact ⟨vs, by rw [upd_ne ne]; exact x, y⟩
        | _ => exact w.elim
  · have t : ∀ (m : Nat) (f : D), (s.r.set i (some (true, d')))[m]? = some (some (true, f)) → ∃ f', s.r[m]? = some (some (true, f')) := fun m f h => by
      by_cases x : m = i
      · subst x; exact ⟨d, hi⟩
      · rw [List.getElem?_set_ne (fun y => x y.symm)] at h; exact ⟨f, h⟩
    obtain ⟨e', a1⟩ := t j e hj
    obtain ⟨f', a2⟩ := t k f hk
    exact at_.en.dis j k e' f' v ne a1 a2 sj sk
  · rw [upd_ne (fun y => by rw [y, g] at h; cases h)]; exact h2
theorem r_app {i : Nat} {n : Str} {e : Expr} {apos p cpos pos : Pos} (hN : X.N[i]? = some n) (hv : Vis X.env.scope n) (hd : (n == ("__debug__" : Str)) = false) (hcd : (n == ("__classdict__" : Str)) = false) (hst : nStar e = true)
    (hfew : ((backTo cpos (starEach [e] X.env)).all (fun x => !x.1) && (backToKw cpos (keywordEach [] X.env)).all (fun x => x.1.isSome) && decide ([e].length + ([] : List Keyword).length + (if ([] : List Keyword).isEmpty then 0 else 1) < 30)) = true)
    (hline : (apos.endLine == cpos.line) = true) (he : PE X e (tE X C x)) : PS X (.Expr (.Call (.Attribute (.Name n p) "append" apos) [e] [] cpos) pos) (tS X C (.app i x)) :=
  psM (ps_expr (pe_bm PySem.F.plainAttrs_list PySem.F.slot_list_append PySem.F.type_list_append mt_append (pe_var (i := i) hN hv hd hcd) (pa_F (.cons ⟨he, hst⟩ .nil)) rfl hfew hline (star_of hst [] X.env) rfl) (sw_no rfl _ _ _)) fun D σ H ⟨B, cs, G, s, at_, h⟩ => by
    obtain ⟨od, s1, e1, h⟩ := Rn.b2 h
    split at h
    · exact h.elim
    rename_i hg
    split at h
    · rename_i ds hi
      split at h
      · rename_i hl
        have hi0 : s.r[i]? = some (some (true, .lst ds)) := by
          rcases (fol_ev _ _ _ _ e1).2 i (by simp) with q | ⟨d, q, q2⟩
          · rw [← q]; exact hi
          · rw [hi] at q2; cases q2
        obtain ⟨v, e2, p, e3, g, n, z, ow⟩ := at_.en.val i true _ hi0
        subst e3
        obtain ⟨vs, hp, rs⟩ := ow
        have e1' : evF C [x] s = .ok [od.2] s1 := by
          show (ev C x s).b _ = _
          rw [e1]
          show (if (od.1 && isPk x) = true then _ else _) = _
          rw [if_neg hg]; rfl
        refine ⟨_, e2, .inl ⟨rfl, vs, .of hp⟩, tF_in at_ e1' fun ws cs1 G1 H1 st1 at1 ar => ?_⟩
        cases ar with
        | cons r1 r2 =>
          cases r2
          obtain ⟨v', e4, p', e5, g1, n1, z1, ow1⟩ := at1.en.val i true _ hi
          rw [e2] at e4; cases e4; cases e5
          obtain ⟨vs1, hp1, rs1⟩ := ow1
          obtain ⟨at2, kg⟩ := at1.ownset (o := .lst (vs1 ++ [_])) (d' := .lst (ds ++ [od.2])) hi e2 ⟨_, upd_same, rs1.app (.cons r1 .nil)⟩
          exact ⟨p, vs1, _, rfl, rfl, hp1, by rw [rs1.len]; exact lim_lt hl, h σ cs1 G1 _ ((st1.ssp at_.wd).trans ⟨Pre.refl _, fun _ m => .inl m, Le.refl _, kg⟩) at2⟩
      · exact h.elim
    · exact h.elim
theorem RepK.any {k : D} {j : Key} (hk : keyD k = some j) : ∀ {kvs : List (Key × V)} {ds : List (D × D)}, RepK K cs G kvs ds → (kvs.any fun kv => decide (kv.1 = j)) = ds.any fun p => eqK p.1 k
  | _, _, .nil => rfl
  | _, _, .cons h1 h2 h3 => by
    rw [List.any_cons, List.any_cons, h3.any hk, eqK_iff h1 hk]
theorem RepK.put {k : D} {j : Key} (hk : keyD k = some j) (hv : Rep K cs G v d) {kvs : List (Key × V)} {ds : List (D × D)} (h : RepK K cs G kvs ds) : RepK K cs G (L2.putK kvs j v) (putD ds k d) := by
  unfold L2.putK putD
  rw [h.any hk]
  split
  · have : ∀ {kvs : List (Key × V)} {ds : List (D × D)}, RepK K cs G kvs ds → RepK K cs G (kvs.map (fun kv => if kv.1 = j then (kv.1, v) else kv)) (ds.map (fun p => if eqK p.1 k then (p.1, d) else p)) := by
      intro kvs ds h
      induction kvs generalizing ds with
      | nil => cases h; exact .nil
      | cons q r ih =>
        obtain ⟨qk, qv⟩ := q
        cases h with
        | cons h1 h2 h3 =>
          simp only [List.map_cons]
          rw [eqK_iff h1 hk]
          by_cases y : qk = j
          · rw [if_pos y, decide_eq_true y, if_pos rfl]
            exact .cons h1 hv (ih h3)
          · rw [if_neg y, decide_eq_false y, if_neg (by decide)]
            exact .cons h1 h2 (ih h3)
    exact this h
  · have : ∀ {kvs : List (Key × V)} {ds : List (D × D)}, RepK K cs G kvs ds → RepK K cs G (kvs ++ [(j, v)]) (ds ++ [(k, d)]) := by
      intro kvs ds h
      induction kvs generalizing ds with
      | nil => cases h; exact .cons hk hv .nil
      | cons q r ih =>
        cases h with
        | cons h1 h2 h3 => exact .cons h1 h2 (ih h3)
    exact this h
theorem r_put {i : Nat} {n : Str} {ke e : Expr} {p pos' pos : Pos} (hu : X.A.units + 1 < cLine) (hN : X.N[i]? = some n) (hv : Vis X.env.scope n) (hd : (n == ("__debug__" : Str)) = false) (hcd : (n == ("__classdict__" : Str)) = false)
    (hs : swapsWith e (some (.Subscript (.Name n p) ke pos')) pos.line X.env = pure false) (hk : PE X ke (tE X C y)) (he : PE X e (tE X C x)) : PS X (.Assign [.Subscript (.Name n p) ke pos'] e pos) (tS X C (.put i y x)) :=
  psM (ps_dput hu (pe_var (i := i) hN hv hd hcd) hk he hs) fun D σ H ⟨B, cs, G, s, at_, h⟩ => by
    obtain ⟨od, s1, e1, h⟩ := Rn.b2 h
    split at h
    · exact h.elim
    rename_i hg
    obtain ⟨kd, s2, e2, h⟩ := Rn.b2 h
    split at h
    · rename_i kvs hi
      split at h
      · rename_i hl
        rw [Bool.and_eq_true, decide_eq_true_eq] at hl
        obtain ⟨j, hj⟩ := keyD_of hl.1
        have hi1 : s1.r[i]? = some (some (true, .dct kvs)) := by
          rcases (fol_ev _ _ _ _ e2).2 i (by simp) with q | ⟨d, q, q2⟩
          · rw [← q]; exact hi
          · rw [hi] at q2; cases q2
        refine tE_in at_ e1 fun v cs1 G1 H1 st1 at1 r1 => ?_
        obtain ⟨G1', le1, at1', rv⟩ := r1.freeze at1 (by simpa using hg)
        obtain ⟨pv, e3, p, e4, _⟩ := at1'.en.val i true _ hi1
        subst e4
        refine ⟨_, e3, tE_in at1' e2 fun kv cs2 G2 H2 st2 at2 r2 => ?_⟩
        obtain ⟨v', e5, p', e6, g1, n1, z1, ow⟩ := at2.en.val i true _ hi
        rw [e3] at e5; cases e5; cases e6
        obtain ⟨ks, hp, rk⟩ := ow
        have ek := kV_rep hj r2.vw
        subst ek
        obtain ⟨at3, kg⟩ := at2.ownset (o := .dK (L2.putK ks j v)) (d' := .dct (putD kvs kd.2 od.2)) hi e3 ⟨_, upd_same, rk.put hj (rv.mono st2.pre st2.le)⟩
        exact ⟨p, _, rfl, DPut.k hp (by rw [rk.len]; exact lim_lt hl.2), h σ cs2 G2 _ ((((st1.trans (Stp.grow le1)).trans st2).ssp at_.wd).trans ⟨Pre.refl _, fun _ m => .inl m, Le.refl _, kg⟩) at3⟩
      · exact h.elim
    · exact h.elim
end
end Q
end

section
set_option Elab.async false
set_option linter.all false
set_option maxRecDepth 100000
set_option maxHeartbeats 4000000
namespace Q
open PySem PySem.Spec PyProof.Rows L2
/-! ### loops -/
section
variable {K : PySem.W.Frag} {B B' : Bs} {cs cs' cs1 cs2 : List Addr} {G G' G1 G2 H H' H1 H2 H3 : Hp} {s s0 s1 s2 : S} {σ σ' : L2.St} {v w : V} {d dx dy : D} {p a : Addr} {o o' u : HO} {r : Row} {X : Cx} {C : Cl} {x y z : Ex} {xs ys : List Sx} {E E' : Ends} {fl : Fl}
theorem r_while {c : Expr} {body : List Stmt} {pos : Pos} (hp : PassesOwn (model X.prog X.w) X.A X.env X.xe) (hc : PT X c (tT X C x)) (hb : PSs X body (tSs X C xs)) : PS X (.While c body [] pos) (tS X C (.whl x xs)) :=
  psM (ps_while hp hc hb) fun D σ H ⟨B, cs, G, s, at_, h⟩ => by
    refine ⟨fun m σ1 H1 => ∃ cs1 G1 s1, At X.K B cs1 G1 s1 σ1 H1 ∧ Ssp B cs G H cs1 G1 H1 ∧ Rn (whlL (fun s => (ev C x s).b fun x s => tru x s) (fun s => xes C xs s) m s1) (Es X.K B cs G H D), ⟨turns, cs, G, s, at_, Ssp.refl, h⟩, ?_⟩
    rintro m σ1 H1 ⟨cs1, G1, s1, at1, sp1, h⟩
    cases m with
    | zero => exact h.elim
    | succ m =>
      obtain ⟨b, s2, e2, h⟩ := Rn.b2 h
      refine ⟨B, cs1, G1, s1, at1, ?_⟩
      have e2 : (ev C x s1).b tru = .ok b s2 := e2
      rw [e2]
      intro cs2 G2 H2 st2 at2
      have sp2 := sp1.trans (st2.ssp at1.wd)
      cases b with
      | false =>
        rw [if_neg (by decide)]
        exact h σ1 cs2 G2 H2 sp2 at2
      | true =>
        rw [if_pos rfl]
        rw [if_pos rfl] at h
        refine ⟨_, fun σ' H' n => ⟨m, Nat.lt_succ_self _, n⟩, B, cs2, G2, s2, at2, (Rn.b h).mono fun fl s3 q => ?_⟩
        cases fl with
        | nx => exact fun σ' cs' G' H' sp at' => ⟨cs', G', s3, at', sp2.trans sp, q⟩
        | ct => exact fun σ' cs' G' H' sp at' => ⟨cs', G', s3, at', sp2.trans sp, q⟩
        | bk => exact fun σ' cs' G' H' sp at' => q σ' cs' G' H' (sp2.trans sp) at'
        | ret o d => exact fun v σ' cs' G' H' sp at' vr => q v σ' cs' G' H' (sp2.trans sp) at' vr
theorem Lks.fin {P : Hp → Prop} (l : Lks X B G1 H1 B' H2) (at1 : At X.K B cs1 G1 s1 σ H1) (st1 : Ssp B cs G H cs1 G1 H1) (at3 : At X.K B' cs2 G2 s2 σ' H3) (sp : Ssp B' cs1 G1 H2 cs2 G2 H3)
    (q : ∀ H4, At X.K B cs2 G2 s2 σ' H4 → Ssp B cs G H cs2 G2 H4 → (∀ o v d, ValR X.K B' cs2 G2 H3 o v d → ValR X.K B cs2 G2 H4 o v d) → P H4) : Unl X P H3 := by
  refine l.done at1 at3 (fun a kvs od hG hH => sp.kg a _ _ hG hH) fun H4 at4 k1 k2 k3 => q H4 at4 (st1.trans ⟨sp.pre, fun a m => by rw [← l.h0]; exact sp.new a m, sp.le, fun a u o hG h => ?_⟩) fun ob v d vr => ?_
  · by_cases e : H2 a = H1 a
    · exact k1 a o h (e.trans h) (sp.kg a u o hG (e.trans h))
    · cases l with
      | no => exact absurd rfl e
      | @yes d' od kvs hG' hH nf =>
        by_cases y : a = d'
        · subst y; rw [hH] at h; cases h; exact k2 a _ hH e
        · rw [upd_ne y] at e; exact absurd rfl e
  · cases ob with
    | false => exact vr
    | true =>
      obtain ⟨p, e1, g, n, z, ow⟩ := vr
      refine ⟨p, e1, g, n, by rw [← l.h0]; exact z, ?_⟩
      have e2 := k3 p (sp.le.nov g)
      cases d with
      | lst _ => obtain ⟨vs, x, y⟩ := ow; exact ⟨vs, by rw [e2]; exact x, y⟩
      | dct _ => obtain ⟨vs, x, y⟩ := ow; exact ⟨vs, by rw [e2]; exact x, y⟩
      | _ => exact ow.elim
theorem r_for {tg iter : Expr} {body : List Stmt} {pos : Pos} {t : Tg} {k : Ik} {its : List Ex} (hp : PassesOwn (model X.prog X.w) X.A X.env X.xe) (hc : X.calm = true) (hi : PI X tg iter (tIf X C k its)) (hg : PG X tg (gT X.K t)) (hb : PSs X body (tSs X C xs))
    (hs : ∀ x, foldedSetIterable iter X.env x = pure x) : PS X (.For tg iter body [] pos) (tS X C (.for_ t k its xs)) :=
  psM (ps_unl (ps_for hp hc hi hg hb hs)) fun E σ H ⟨B, cs, G, s, at_, h⟩ => by
    obtain ⟨ds, s1, e1, h⟩ := Rn.b2 h
    obtain ⟨ys, s2, e2', h⟩ := Rn.b2 h
    obtain ⟨e2, e3⟩ := R.of_eq e2'
    subst e3
    refine ⟨B, cs, G, s, at_, ?_⟩
    rw [e1]
    show Rn (R.of (itD k ds) _) _
    rw [e2]
    intro J cs1 G1 H1 B' H2 st1 at1 lks W
    have ssp1 := st1.ssp at_.wd
    have at1' := lks.at_ at1
    refine for_it W (fun i σ' H' => ∃ cs2 G2 s2, At X.K B' cs2 G2 s2 σ' H' ∧ Ssp B' cs1 G1 H2 cs2 G2 H' ∧ Rn (forL (fun x s => (R.of (asg t x s.r) s).b fun r s => xes C xs ⟨r, s.c⟩) (ys.drop i) s2) (Es X.K B cs G H E)) ?_ ?_ ?_ ?_
    · exact ⟨cs1, G1, s1, at1', Ssp.refl, h⟩
    · rintro i σ' H' hi ⟨cs2, G2, s2, at2, sp2, hr⟩
      exact sp2.kg
    · rintro i x σ' H3 H4 hi ⟨cs2, G2, s2, at2, sp2, hr⟩ ⟨d, hd, y⟩
      rw [drop_of hd] at hr
      obtain ⟨fl, s3, f1, hr⟩ := Rn.b2 hr
      obtain ⟨r1, s2', f2, f1⟩ := R.b_eq f1
      obtain ⟨f4, e3⟩ := R.of_eq f2
      subst e3
      have : ∃ G3, At X.K B' cs2 G3 s2 σ' H4 ∧ Ssp B' cs1 G1 H2 cs2 G3 H4 ∧ Rep X.K cs2 G3 x d := by
        rcases y with ⟨rfl, rp⟩ | ⟨T, ws, es, rfl, hT, rfl, rfl, rp⟩
        · exact ⟨G2, at2, sp2, rp.mono sp2.pre sp2.le⟩
        · obtain ⟨gT, nT, zT⟩ := at2.wd.fresh hT
          have a1 := at2.alloc (o := .tup ws) hT
          exact ⟨_, a1.grow upd_same nT gT zT (at2.nown hT), sp2.trans (((Stp.alloc at2.wd hT).trans (Stp.grow (Le.new gT))).ssp at2.wd), .tup (.of upd_same) (rp.mono sp2.pre (sp2.le.trans (Le.new gT)))⟩
      obtain ⟨G3, at3, sp3, rx⟩ := this
      refine asg_ok t s2 d r1 x σ' _ at3 rx f4 fun σ2 at4 _ => ⟨B', cs2, G3, _, at4, ?_⟩
      rw [f1]
      cases fl with
      | nx => exact fun σ' cs' G' H' sp at' => ⟨cs', G', s3, at', sp3.trans sp, hr⟩
      | ct => exact fun σ' cs' G' H' sp at' => ⟨cs', G', s3, at', sp3.trans sp, hr⟩
      | bk => exact fun σ' cs' G' H' sp at' => lks.fin at1 ssp1 at' (sp3.trans sp) fun H4 at4 sp4 _ => hr σ' cs' G' H4 sp4 at4
      | ret o d => exact fun v σ' cs' G' H' sp at' vr => lks.fin at1 ssp1 at' (sp3.trans sp) fun H4 at4 sp4 q => hr v σ' cs' G' H4 sp4 at4 (q _ _ _ vr)
    · rintro σ' H3 ⟨cs2, G2, s2, at2, sp2, hr⟩
      rw [List.drop_length] at hr
      exact lks.fin at1 ssp1 at2 sp2 fun H4 at4 sp4 _ => hr σ' cs2 G2 H4 sp4 at4
/-! ### list comprehensions -/
theorem r_lc {elt tg iter : Expr} {ifs : List Expr} {scope : Scope} {own : List (Str × Nat)} {pos : Pos} {t : Tg} {k : Ik} {its : List Ex} {cond : Option Ex} (hc : X.calm = true) (hN : X.N.Nodup) (hi : PI X tg iter (tIc X C k its)) (ok : BlkOk X.N X.env.scope scope own)
    (hg : ∀ (s : Shared) (H : Hp) (C : Addr) (cl : List (Str × Addr)) (fp : List Addr), PG (X.blk s H scope (compEnvC scope cl C X.env) fp) tg (gT X.K t)) (ht : ∀ (s : Shared) (H : Hp) (C' : Addr) (cl : List (Str × Addr)) (fp : List Addr), PTs (X.blk s H scope (compEnvC scope cl C' X.env) fp) ifs (tC X C cond))
    (he : ∀ (s : Shared) (H : Hp) (C' : Addr) (cl : List (Str × Addr)) (fp : List Addr), PE (X.blk s H scope (compEnvC scope cl C' X.env) fp) elt (tE X C x)) (hs : ∀ x, foldedSetIterable iter X.env x = pure x) :
    PE X (.ListComp elt [⟨tg, iter, ifs, 0⟩] scope pos) (tE X C (.lc x t k its cond (own.map (·.2)))) :=
  peM (pe_unl (pe_lc hc hN hi ok hg ht he hs)) fun σ H Q h => lc_ok h
/-! ### a, b = x, y -/
def PR (K : PySem.W.Frag) (B : Bs) (cs : List Addr) (G H : Hp) (r : Row) (σ : L2.St) : List V → List (Bool × D) → Prop
  | [], [] => True
  | v :: vs, od :: ods => (ValR K B cs G H od.1 v od.2 ∧ (od.1 = true → (∀ (i : Nat) (e : D), r[i]? = some (some (true, e)) → σ[i]? ≠ some (some v)) ∧ ∀ (k : Nat) (d : D), ods[k]? = some (true, d) → vs[k]? ≠ some v)) ∧ PR K B cs G H r σ vs ods
  | _, _ => False
def tP (X : Cx) (C : Cl) (es : List Ex) : TA := fun σ H Q => ∃ B cs G s, At X.K B cs G s σ H ∧ Rn (evP C es s) fun ds s' => ∀ vs cs' G' H', Stp cs G H cs' G' H' → At X.K B cs' G' s' σ H' → PR X.K B cs' G' H' s'.r σ vs ds → Q vs H'
theorem PR.unpin {Da : Addr} : ∀ {vs : List V} {ods : List (Bool × D)}, PR K (B.pin Da o) cs G H r σ vs ods → PR K B cs G H r σ vs ods
  | [], [], h => h
  | v :: vs, (b, d) :: ods, h => ⟨⟨by
      have := h.1.1
      cases b with
      | false => exact this
      | true =>
        obtain ⟨p, e, g, n, z, ow⟩ := this
        exact ⟨p, e, g, n, (upd_none z).2, ow⟩, h.1.2⟩, h.2.unpin⟩
  | [], _ :: _, h => h.elim
  | _ :: _, [], h => h.elim
theorem PR.ne {Da : Addr} : ∀ {vs : List V} {ods : List (Bool × D)}, PR K (B.pin Da o) cs G H r σ vs ods → ∀ (k : Nat) (d : D), ods[k]? = some (true, d) → vs[k]? ≠ some (.ref Da)
  | [], [], h, k, d, e => by simp at e
  | v :: vs, od :: ods, h, 0, d, e => fun e2 => by
      simp at e e2
      subst e e2
      obtain ⟨p, e3, g, n, z, ow⟩ := h.1.1
      cases e3
      exact (upd_none z).1 rfl
  | v :: vs, od :: ods, h, k + 1, d, e => by simpa using h.2.ne k d (by simpa using e)
  | [], _ :: _, h, _, _, _ => h.elim
  | _ :: _, [], h, _, _, _ => h.elim
theorem pa_P : ∀ {es : List Expr} {xs : List Ex}, Prs X C es xs → PA X es (tP X C xs)
  | _, _, .nil => ⟨fun pos pins s σ H Q I h => pa_nil.run pos pins s σ H Q I (by
      obtain ⟨B, cs, G, s, at_, h⟩ := h
      exact h [] cs G H (Stp.refl _ _ _) at_ trivial)⟩
  | _, _, .cons (a := e) (b := x) (l₁ := es) (l₂ := xs) ⟨he, hst⟩ hr => ⟨fun pos pins s σ H Q I h => (pa_cons he (pa_P hr) (star_of hst es X.env)).run pos pins s σ H Q I (by
      obtain ⟨B, cs, G, s, at_, h⟩ := h
      obtain ⟨od, s1, e1, h⟩ := Rn.b2 h
      split at h
      · exact h.elim
      rename_i hg
      refine tE_in at_ e1 fun v cs1 G1 H1 st1 at1 r1 => ?_
      obtain ⟨b, d⟩ := od
      cases b with
      | false =>
        refine ⟨B, cs1, G1, s1, at1, (Rn.b h).mono fun ds s' q => ?_⟩
        intro vs cs2 G2 H2 st2 at2 pr
        exact q (v :: vs) cs2 G2 H2 (st1.trans st2) at2 ⟨⟨Rep.mono st2.pre st2.le r1.1, fun h => nomatch h⟩, pr⟩
      | true =>
        obtain ⟨⟨p, rfl, g, n, z, ow⟩, no, _⟩ := r1
        obtain ⟨o, ho⟩ := ow.there
        have no := no rfl (by simpa using hg)
        have g0 : B.g0 p = none := at1.wd.gl.nov g
        refine ⟨B.pin p o, cs1, G1, s1, at1.pin ho n g no, (Rn.b h).mono fun ds s' q => ?_⟩
        intro vs cs2 G2 H2 st2 at2 pr
        have n2 := st2.nin n ho
        refine q (.ref p :: vs) cs2 G2 H2 (st1.trans st2) (at2.unpin z) ⟨⟨⟨p, rfl, (at2.pinned g0 n2).1, n2, z, ow.mono st2 n⟩, fun _ => ⟨fun i e hi hs => ?_, fun k d hk => pr.ne k d hk⟩⟩, pr.unpin⟩
        have := (at2.own_none hi hs).2.2.1
        rw [show (B.pin p o).h0 p = some o from upd_same] at this
        cases this)⟩
/-- names stored one after another -/
def stS : List (Nat × Bool) → List V → L2.St → L2.St
  | (i, _) :: is, v :: vs, σ => stS is vs (σ.set i (some v))
  | _, _, σ => σ
theorem PR.step {i : Nat} {b : Bool} : ∀ {vs : List V} {ods : List (Bool × D)}, PR K B cs G H r σ vs ods → Le G G' → (∀ (k : Nat) (d : D) (p : Addr), ods[k]? = some (true, d) → vs[k]? = some (.ref p) → G' p = none) →
    (b = true → ∀ (k : Nat) (d : D), ods[k]? = some (true, d) → vs[k]? ≠ some w) → PR K B cs G' H (r.set i (some (b, d))) (σ.set i (some w)) vs ods
  | [], [], h, _, _, _ => h
  | v :: vs, (o, d') :: ods, h, le, hg, hw => by
    refine ⟨⟨?_, fun ho => ⟨fun j e hj hs => ?_, (h.1.2 ho).2⟩⟩, h.2.step le (fun k d p e1 e2 => hg (k + 1) d p (by simpa using e1) (by simpa using e2)) fun hb k d e => by simpa using hw hb (k + 1) d (by simpa using e)⟩
    · have := h.1.1
      cases o with
      | false => exact Rep.mono (Pre.refl _) le this
      | true =>
        obtain ⟨p, e, g, n, z, ow⟩ := this
        subst e
        refine ⟨p, rfl, hg 0 d' p rfl rfl, n, z, ?_⟩
        cases d' with
        | lst _ => obtain ⟨vs, x, y⟩ := ow; exact ⟨vs, x, y.mono (Pre.refl _) le⟩
        | dct _ => obtain ⟨vs, x, y⟩ := ow; exact ⟨vs, x, y.mono (Pre.refl _) le⟩
        | _ => exact ow.elim
    · have ho : o = true := ho
      subst ho
      by_cases x : j = i
      · subst x
        have hl : j < r.length := by simpa using (List.getElem?_eq_some_iff.mp hj).1
        rw [List.getElem?_set_self hl] at hj
        cases hj
        have hl2 : j < σ.length := by simpa using (List.getElem?_eq_some_iff.mp hs).1
        rw [List.getElem?_set_self hl2] at hs
        cases hs
        exact hw rfl 0 d' rfl rfl
      · rw [List.getElem?_set_ne (fun y => x y.symm)] at hj hs
        exact (h.1.2 rfl).1 j e hj hs
  | [], _ :: _, h, _, _, _ => h.elim
  | _ :: _, [], h, _, _, _ => h.elim
theorem PR.own : ∀ {vs : List V} {ods : List (Bool × D)}, PR K B cs G H r σ vs ods → ∀ (k : Nat) (d : D) (p : Addr), ods[k]? = some (true, d) → vs[k]? = some (.ref p) → G p = none
  | [], [], h, k, d, p, e, _ => by simp at e
  | v :: vs, od :: ods, h, 0, d, p, e, e2 => by
      simp at e e2
      subst e e2
      obtain ⟨p, e3, g, n, z, ow⟩ := h.1.1
      cases e3
      exact g
  | v :: vs, od :: ods, h, k + 1, d, p, e, e2 => h.2.own k d p (by simpa using e) (by simpa using e2)
  | [], _ :: _, h, _, _, _, _, _ => h.elim
  | _ :: _, [], h, _, _, _, _, _ => h.elim
theorem parR_ok : ∀ (is : List (Nat × Bool)) (vs : List V) (ods : List (Bool × D)) (r : Row) (c : Cells) (σ : L2.St) (G : Hp) (r1 : Row), At K B cs G ⟨r, c⟩ σ H → PR K B cs G H r σ vs ods → parR is ods r = some r1 → ∃ G', Le G G' ∧ At K B cs G' ⟨r1, c⟩ (stS is vs σ) H
  | [], [], [], r, c, σ, G, r1, at_, pr, e => by cases e; exact ⟨G, Le.refl _, at_⟩
  | [], _ :: _, [], r, c, σ, G, r1, at_, pr, e => by exact pr.elim
  | [], _, _ :: _, r, c, σ, G, r1, at_, pr, e => by simp [parR] at e
  | (i, o) :: is, [], [], r, c, σ, G, r1, at_, pr, e => by simp [parR] at e
  | (i, o) :: is, [], _ :: _, r, c, σ, G, r1, at_, pr, e => by exact pr.elim
  | (i, o) :: is, _ :: _, [], r, c, σ, G, r1, at_, pr, e => by exact pr.elim
  | (i, o) :: is, v :: vs, (b, d) :: ods, r, c, σ, G, r1, at_, pr, e => by
    obtain ⟨⟨vr, no⟩, pr2⟩ := pr
    cases b with
    | false =>
      have e : parR is ods (r.set i (some (o && false, d))) = some r1 := e
      rw [Bool.and_false] at e
      exact parR_ok is vs ods _ c _ G r1 (at_.set (s := ⟨r, c⟩) vr) (pr2.step (Le.refl _) pr2.own fun h => nomatch h) e
    | true =>
      obtain ⟨no1, no2⟩ := no rfl
      cases o with
      | true => exact parR_ok is vs ods _ c _ G r1 (at_.setO (s := ⟨r, c⟩) (b := true) vr fun _ => no1) (pr2.step (Le.refl _) pr2.own fun _ => no2) e
      | false =>
        have res : Res K B cs G H ⟨r, c⟩ σ false none (true, d) v := ⟨vr, fun _ _ => no1, fun _ h => nomatch h⟩
        obtain ⟨p, rfl, g, n, z, ow⟩ := vr
        have : ∃ o, H p = some o ∧ Rep K cs (upd G p o) (.ref p) d := by
          cases d with
          | lst ds => obtain ⟨vs, x, y⟩ := ow; exact ⟨_, x, .lst (.of upd_same) (y.mono (Pre.refl _) (Le.new g))⟩
          | dct ds => obtain ⟨vs, x, y⟩ := ow; exact ⟨_, x, .dct (.inl upd_same) (y.mono (Pre.refl _) (Le.new g))⟩
          | _ => exact ow.elim
        obtain ⟨ob, hp, rp⟩ := this
        have at2 := at_.grow hp n g z no1
        obtain ⟨G', le', at'⟩ := parR_ok is vs ods _ c _ _ r1 (at2.set (s := ⟨r, c⟩) rp) (pr2.step (Le.new g) (fun k d q e1 e2 => by
          rw [upd_ne (fun x => no2 k d e1 (by rw [← x]; exact e2))]; exact pr2.own k d q e1 e2) fun h => nomatch h) e
        exact ⟨G', (Le.new g).trans le', at'⟩
theorem PR.len : ∀ {vs : List V} {ods : List (Bool × D)}, PR K B cs G H r σ vs ods → vs.length = ods.length
  | [], [], h => rfl
  | v :: vs, od :: ods, h => by simp [h.2.len]
  | [], _ :: _, h => h.elim
  | _ :: _, [], h => h.elim
theorem evP_len : ∀ {xs : List Ex} {s : S} {ds : List (Bool × D)} {s1 : S}, evP C xs s = .ok ds s1 → ds.length = xs.length
  | [], s, ds, s1, h => by cases h; rfl
  | x :: xs, s, ds, s1, h => by
    obtain ⟨o, s2, h1, h⟩ := R.b_eq h
    split at h
    · cases h
    · obtain ⟨o2, s3, h2, h⟩ := R.b_eq h
      cases h
      simp [evP_len h2]
theorem tP_ok {is : List (Nat × Bool)} {es : List Ex} {D : Ends} (h : tS X C (.par is es) D σ H) : tP X C es σ H fun vs H1 => D.nx (stS is vs σ) H1 := by
  obtain ⟨B, cs, G, s, at_, h⟩ := h
  refine ⟨B, cs, G, s, at_, (Rn.b h).mono fun ods s1 q => ?_⟩
  obtain ⟨r1, s2, e2, q⟩ := Rn.b2 q
  obtain ⟨e2, e3⟩ := R.of_eq e2
  subst e3
  intro vs cs1 G1 H1 st1 at1 pr
  obtain ⟨G2, le2, at2⟩ := parR_ok is vs ods s1.r s1.c σ G1 r1 at1 pr (by assumption)
  exact q _ cs1 G2 H1 ((st1.trans (Stp.grow le2)).ssp at_.wd) at2
theorem r_par2 {i j : Nat} {bi bj : Bool} {n m : Str} {a b : Expr} {px py pt pos : Pos} {kt k2 pt2} (hc : X.calm = true) (hN : X.N.Nodup) (hi : X.N[i]? = some n) (hj : X.N[j]? = some m) (hij : i ≠ j)
    (hx : X.env.scope.names.lookup n = some .local) (hy : X.env.scope.names.lookup m = some .local) (ha : Prs X C [a, b] [x, y])
    (hw : swappedStores [.Tuple [.Name n px, .Name m py] kt pt] (.Tuple [a, b] k2 pt2) X.env = pure (some [n, m])) :
    PS X (.Assign [.Tuple [.Name n px, .Name m py] kt pt] (.Tuple [a, b] k2 pt2) pos) (tS X C (.par [(i, bi), (j, bj)] [x, y])) :=
  psM (ps_par hc hN hi hj hij hx hy (pa_P ha) hw rfl) fun D σ H h => by
    have h1 := tP_ok h
    obtain ⟨B, cs, G, s, at_, h1⟩ := h1
    refine ⟨B, cs, G, s, at_, ?_⟩
    obtain ⟨ods, s1, e1, h1⟩ := Rn.eq h1
    rw [e1]
    intro vs cs1 G1 H1 st1 at1 pr
    have hl := pr.len
    rw [evP_len e1] at hl
    match vs, hl with
    | [v, w], _ => exact ⟨v, w, rfl, h1 [v, w] cs1 G1 H1 st1 at1 pr⟩
theorem r_par3 {i j l : Nat} {bi bj bl : Bool} {n m q : Str} {a b c : Expr} {px py pz pt pos : Pos} {kt k2 pt2} (hc : X.calm = true) (hN : X.N.Nodup) (hi : X.N[i]? = some n) (hj : X.N[j]? = some m) (hl : X.N[l]? = some q) (hij : i ≠ j) (hil : i ≠ l) (hjl : j ≠ l)
    (hx : X.env.scope.names.lookup n = some .local) (hy : X.env.scope.names.lookup m = some .local) (hz : X.env.scope.names.lookup q = some .local) (ha : Prs X C [a, b, c] [x, y, z])
    (hw : swappedStores [.Tuple [.Name n px, .Name m py, .Name q pz] kt pt] (.Tuple [a, b, c] k2 pt2) X.env = pure (some [n, m, q])) :
    PS X (.Assign [.Tuple [.Name n px, .Name m py, .Name q pz] kt pt] (.Tuple [a, b, c] k2 pt2) pos) (tS X C (.par [(i, bi), (j, bj), (l, bl)] [x, y, z])) :=
  psM (ps_par3 hc hN hi hj hl hij hil hjl hx hy hz (pa_P ha) hw rfl) fun D σ H h => by
    have h1 := tP_ok h
    obtain ⟨B, cs, G, s, at_, h1⟩ := h1
    refine ⟨B, cs, G, s, at_, ?_⟩
    obtain ⟨ods, s1, e1, h1⟩ := Rn.eq h1
    rw [e1]
    intro vs cs1 G1 H1 st1 at1 pr
    have hl := pr.len
    rw [evP_len e1] at hl
    match vs, hl with
    | [u, v, w], _ => exact ⟨u, v, w, rfl, h1 [u, v, w] cs1 G1 H1 st1 at1 pr⟩
end
end Q
end

section
set_option Elab.async false
set_option linter.all false
set_option maxRecDepth 100000
set_option maxHeartbeats 4000000
namespace Q
open PySem PySem.Spec PyProof.Rows L2
section
variable {K : PySem.W.Frag} {B B' : Bs} {cs cs' cs1 cs2 : List Addr} {G G' G1 G2 H H' H1 H2 H3 : Hp} {s s0 s1 s2 : S} {σ σ' : L2.St} {v w : V} {d dx dy : D} {p a : Addr} {o o' u : HO} {r : Row} {X : Cx} {C : Cl} {x y z : Ex} {E E' : Ends} {fl : Fl}
/-! name = [..] on one line -/
theorem r_setLc {i : Nat} {n : Str} {py : Pos} {elt tg iter : Expr} {ifs : List Expr} {scope : Scope} {own : List (Str × Nat)} {pos spos : Pos} {t : Tg} {k : Ik} {its : List Ex} {cond : Option Ex} (hc : X.calm = true) (hN : X.N.Nodup) (hy : X.N[i]? = some n) (hyl : X.env.scope.names.lookup n = some .local)
    (hsw : swapsWith (.ListComp elt [⟨tg, iter, ifs, 0⟩] scope pos) (some (.Name n py)) spos.line X.env = pure true) (hi : PI X tg iter (tIc X C k its)) (ok : BlkOk X.N X.env.scope scope own)
    (hg : ∀ (s : Shared) (H : Hp) (C : Addr) (cl : List (Str × Addr)) (fp : List Addr), PG (X.blk s H scope (compEnvC scope cl C X.env) fp) tg (gT X.K t)) (ht : ∀ (s : Shared) (H : Hp) (C' : Addr) (cl : List (Str × Addr)) (fp : List Addr), PTs (X.blk s H scope (compEnvC scope cl C' X.env) fp) ifs (tC X C cond))
    (he : ∀ (s : Shared) (H : Hp) (C' : Addr) (cl : List (Str × Addr)) (fp : List Addr), PE (X.blk s H scope (compEnvC scope cl C' X.env) fp) elt (tE X C x)) (hs : ∀ x, foldedSetIterable iter X.env x = pure x) :
    PS X (.Assign [.Name n py] (.ListComp elt [⟨tg, iter, ifs, 0⟩] scope pos) spos) (fun D σ H => tE X C (.lc x t k its cond (own.map (·.2))) σ H fun v H1 => D.nx (σ.set i (some v)) H1) :=
  psM (ps_unl (ps_setLc hc hN hy hyl hsw hi ok hg ht he hs)) fun D σ H h => lc_ok h
theorem set_of {st : Stmt} {i : Nat} (h : PS X st (fun D σ H => tE X C x σ H fun v H1 => D.nx (σ.set i (some v)) H1)) : PS X st (tS X C (.set i x)) :=
  psM h fun D σ H ⟨B, cs, G, s, at_, h⟩ => by
    obtain ⟨od, s1, e1, h⟩ := Rn.b2 h
    split at h
    · exact h.elim
    rename_i hg
    refine tE_in at_ e1 fun v cs1 G1 H1 st1 at1 r1 => ?_
    obtain ⟨G2, le2, at2, rp⟩ := r1.freeze at1 (by simpa using hg)
    exact h _ cs1 G2 H1 ((st1.trans (Stp.grow le2)).ssp at_.wd) (at2.set rp)
theorem own_of' {st : Stmt} {i : Nat} (h : PS X st (fun D σ H => tE X C x σ H fun v H1 => D.nx (σ.set i (some v)) H1)) : PS X st (tS X C (.own i x)) :=
  psM h fun D σ H ⟨B, cs, G, s, at_, h⟩ => by
    obtain ⟨od, s1, e1, h⟩ := Rn.b2 h
    split at h
    · exact h.elim
    rename_i hg
    refine tE_in at_ e1 fun v cs1 G1 H1 st1 at1 r1 => ?_
    exact h _ cs1 G1 H1 (st1.ssp at_.wd) (own_of at1 r1 (by simpa using hg))
/-! displays of dicts -/
def flK : List (Ex × Ex) → List Ex
  | [] => []
  | (a, b) :: r => a :: b :: flK r
def PsR (K : PySem.W.Frag) (cs : List Addr) (G : Hp) : List (V × V) → List D → Prop
  | [], [] => True
  | (a, b) :: ps, x :: y :: ds => Rep K cs G a x ∧ Rep K cs G b y ∧ PsR K cs G ps ds
  | _, _ => False
theorem tPairs_in : ∀ {kx : List (Ex × Ex)} {s : S} {ds : List D} {s1 : S} {cs : List Addr} {G H : Hp} {Q0 : List (V × V) → Hp → Prop}, At X.K B cs G s σ H → evF C (flK kx) s = .ok ds s1 →
    (∀ ps cs1 G1 H1, Stp cs G H cs1 G1 H1 → At X.K B cs1 G1 s1 σ H1 → PsR X.K cs1 G1 ps ds → ps.length = kx.length → Q0 ps H1) → tPairs (kx.map fun p => (tE X C p.1, tE X C p.2)) σ H Q0
  | [], s, ds, s1, cs, G, H, Q0, at_, e, k => by cases e; exact k [] cs G H (Stp.refl _ _ _) at_ trivial rfl
  | (a, b) :: kx, s, ds, s1, cs, G, H, Q0, at_, e, k => by
    obtain ⟨oa, s2, e1, e⟩ := R.b_eq e
    split at e
    · cases e
    rename_i ha
    obtain ⟨da, s3, e2, e⟩ := R.b_eq e
    cases e
    obtain ⟨ob, s4, e3, e2⟩ := R.b_eq e2
    split at e2
    · cases e2
    rename_i hb
    obtain ⟨db, s5, e4, e2⟩ := R.b_eq e2
    cases e2
    refine tE_in at_ e1 fun v cs1 G1 H1 st1 at1 r1 => ?_
    obtain ⟨G1', le1, at1', rv⟩ := r1.freeze at1 (by simpa using ha)
    refine tE_in at1' e3 fun w cs2 G2 H2 st2 at2 r2 => ?_
    obtain ⟨G2', le2, at2', rw'⟩ := r2.freeze at2 (by simpa using hb)
    refine tPairs_in at2' e4 fun ps cs3 G3 H3 st3 at3 rs hl => ?_
    have st12 := st2.trans (Stp.grow (H := H2) (cs := cs2) le2)
    refine k _ cs3 G3 H3 (((st1.trans (Stp.grow le1)).trans st12).trans st3) at3 ⟨(rv.mono st12.pre st12.le).mono st3.pre st3.le, rw'.mono st3.pre st3.le, rs⟩ (by simp [hl])
theorem mkD_rep : ∀ {ps : List (V × V)} {ds : List D} {ka : List (Key × V)} {acc out : List (D × D)}, PsR K cs G ps ds → mkD ds acc = some out → RepK K cs G ka acc →
    ∃ kvs : List (Key × V), ps = kvs.map (fun kv => (kV kv.1, kv.2)) ∧ RepK K cs G (mergeK ka kvs) out
  | [], [], ka, acc, out, _, e, h => by cases e; exact ⟨[], rfl, h⟩
  | (a, b) :: ps, x :: y :: ds, ka, acc, out, ⟨h1, h2, h3⟩, e, h => by
    simp only [mkD] at e
    split at e
    · rename_i hk
      obtain ⟨j, hj⟩ := keyD_of hk
      have ea := kV_rep (H := G) hj (.inl h1)
      subst ea
      obtain ⟨kvs, e1, e2⟩ := mkD_rep h3 e (h.put hj h2)
      exact ⟨(j, b) :: kvs, by rw [e1]; rfl, e2⟩
    · cases e
  | [], _ :: _, _, _, _, h, _, _ => h.elim
  | _ :: _, [], _, _, _, h, _, _ => h.elim
  | _ :: _, [_], _, _, _, h, _, _ => h.elim
theorem r_dct0 {pos : Pos} : PE X (.Dict [] [] pos) (tE X C (.dct [])) := peM pe_dnewK fun σ H Q ⟨B, cs, G, s, at_, h⟩ p hp => Ps.dct at_ .nil hp h
theorem pps_of {pos : Pos} : ∀ {ks : List (Option Expr)} {vs : List Expr} {kx : List (Ex × Ex)}, Paired (fun (e : Option Expr) (x : Ex × Ex) => ∃ k, e = some k ∧ PE X k (tE X C x.1)) ks kx → Paired (fun e (x : Ex × Ex) => PE X e (tE X C x.2)) vs kx → PPs X pos ks vs (kx.map fun p => (tE X C p.1, tE X C p.2))
  | _, _, _, .nil, .nil => pps_nil
  | _, _, _, .cons ⟨k, e, h⟩ r, .cons h2 r2 => by subst e; exact pps_cons h h2 (pps_of r r2)
theorem Paired.len {α β : Type} {F : α → β → Prop} : ∀ {l : List α} {m : List β}, Paired F l m → l.length = m.length
  | _, _, .nil => rfl
  | _, _, .cons _ r => by simp [Paired.len r]
theorem r_dct {pos : Pos} {ks : List (Option Expr)} {vs : List Expr} {kx : List (Ex × Ex)} (hk : Paired (fun (e : Option Expr) (x : Ex × Ex) => ∃ k, e = some k ∧ PE X k (tE X C x.1)) ks kx) (hv : Paired (fun e (x : Ex × Ex) => PE X e (tE X C x.2)) vs kx) (h0 : ks ≠ []) (h15 : ks.length ≤ 15) :
    PE X (.Dict ks vs pos) (tE X C (.dct (flK kx))) := by
  have hall : ks.all (·.isSome) = true := by
    clear hv h0 h15
    induction hk with
    | nil => rfl
    | cons h r ih => obtain ⟨k, rfl, _⟩ := h; simpa using ih
  refine peM (pe_disp (pps_of hk hv) hall (by rw [Paired.len hk, Paired.len hv]) h0 h15) fun σ H Q ⟨B, cs, G, s, at_, h⟩ p hp => ?_
  obtain ⟨ds, s1, e1, h⟩ := Rn.b2 h
  obtain ⟨out, s2, e2', h⟩ := Rn.b2 h
  obtain ⟨e2, e3⟩ := R.of_eq e2'
  subst e3
  obtain ⟨g, n, z⟩ := at_.wd.fresh hp
  have g0 : B.g0 p = none := at_.wd.gl.nov g
  refine tPairs_in ((at_.alloc hp).pin (o := .dK []) upd_same n g (at_.nown hp)) e1 fun ps cs1 G1 H1 st1 at1 rs hl => ?_
  have n1 : p ∉ cs1 := st1.nin n upd_same
  obtain ⟨g1, hp1⟩ := at1.pinned g0 n1
  obtain ⟨kvs, e4, rk⟩ := mkD_rep rs e2 (.nil (K := X.K) (cs := cs1) (G := G1))
  refine ⟨hp1, kvs, e4, ?_, ?_⟩
  · have : kvs.length = ps.length := by rw [e4]; simp
    rw [this, hl, ← Paired.len hk]; exact h15
  · have at2 := (at1.repin (o' := .dK (mergeK [] kvs)) g0 n1)
    have no : ∀ (i : Nat) (f : D), s1.r[i]? = some (some (true, f)) → σ[i]? ≠ some (some (.ref p)) := fun i f hi hs => by
      have := (at2.own_none hi hs).2.2.1
      rw [show (B.pin p (.dK (mergeK [] kvs))).h0 p = some (.dK (mergeK [] kvs)) from upd_same] at this
      cases this
    refine h (.ref p) cs1 G1 _ ⟨st1.pre, fun a m => ?_, st1.le, fun a o n' h' => ?_⟩ (at2.unpin z) ⟨⟨p, rfl, g1, n1, z, _, upd_same, rk⟩, fun _ _ => no, fun _ h => nomatch h⟩
    · rcases st1.new a m with q | q
      · exact .inl q
      · exact .inr (upd_none q).2
    · have ne := ne_of_none h' hp
      rw [upd_ne ne]
      exact st1.keep a o n' (by rw [upd_ne ne]; exact h')
end
end Q
end

section
set_option Elab.async false
set_option linter.all false
set_option maxRecDepth 100000
set_option maxHeartbeats 4000000
namespace Q
open PySem PySem.Spec PyProof.Rows L2
/-! ### from Python to Q -/
structure Sc where
  N : List Str
  names : List (Str × NameKind)
  tn : List (Str × NameKind)
  defs : List (Str × Nat)
  gi : List (Str × Int)
  ow : List Str
  cl : List Str
def ixS : List Str → Str → Nat → Option Nat
  | [], _, _ => none
  | y :: ys, x, n => if y = x then some n else ixS ys x (n + 1)
theorem ixS_ok : ∀ {ys : List Str} {x : Str} {n i : Nat}, ixS ys x n = some i → ∃ j, i = n + j ∧ ys[j]? = some x
  | [], x, n, i, h => by cases h
  | y :: ys, x, n, i, h => by
    unfold ixS at h
    split at h
    · rename_i e; cases h; exact ⟨0, rfl, by rw [e]; rfl⟩
    · obtain ⟨j, e1, e2⟩ := ixS_ok h
      exact ⟨j + 1, by omega, by simpa using e2⟩
def badN (x : Str) : Bool := x == ("__debug__" : Str) || x == ("__classdict__" : Str)
def visB (ns : List (Str × NameKind)) (x : Str) : Bool := match ns.lookup x with
  | some .local => true
  | some .cell => true
  | some .free => true
  | _ => false
def locB (ns : List (Str × NameKind)) (x : Str) : Bool := match ns.lookup x with
  | some .local => true
  | some .cell => true
  | _ => false
def glB (ns : List (Str × NameKind)) (x : Str) : Bool := match ns.lookup x with
  | some .globalImplicit => !(x == ("__debug__" : Str))
  | _ => false
def opOf : Operator → Option Op
  | .Add => some .add | .Sub => some .sub | .Mult => some .mul | .FloorDiv => some .fdiv | .Mod => some .mod | .Pow => some .pow
  | _ => none
theorem opOf_ok {o : Operator} {p : Op} (h : opOf o = some p) : o = opP p := by cases o <;> cases h <;> rfl
def cmOf : CmpOp → Option Cm
  | .Eq => some .eq | .NotEq => some .ne | .Lt => some .lt | .LtE => some .le | .Gt => some .gt | .GtE => some .ge | .Is => some .is | .IsNot => some .isn
  | _ => none
theorem cmOf_ok {o : CmpOp} {p : Cm} (h : cmOf o = some p) : o = cmP p := by cases o <;> cases h <;> rfl
def bis : List Bi := [.len, .abs, .max, .min, .sum, .int, .all, .list]
def biOf (x : Str) : Option Bi := bis.find? fun b => decide (x = (biP b).1)
theorem biOf_ok {x : Str} {b : Bi} (h : biOf x = some b) : x = (biP b).1 := by
  have := List.find?_some h
  simpa using this
def tys : List Ty := [.int, .bool, .str, .tup, .lst, .dct]
def tyOf (x : Str) : Option Ty := tys.find? fun t => decide (x = Str.ofString (tyP t))
theorem tyOf_ok {x : Str} {b : Ty} (h : tyOf x = some b) : x = Str.ofString (tyP b) := by
  have := List.find?_some h
  simpa using this
def relN (ns out : List (Str × NameKind)) : List (Str × NameKind) := ns.map fun (n, k) => if (k == .free && (ScopeKind.function == .function) && out.lookup n == some .cell) then (n, .cell) else (n, k)
def ownOf (N : List Str) (ns : List (Str × NameKind)) : List (Str × Nat) := ns.filterMap fun (n, k) => if k == .local || k == .cell then (ixS N n 0).map fun i => (n, i) else none
def noSet : Expr → Bool
  | .Set .. => false
  | _ => true
theorem noSet_ok {e : Expr} (h : noSet e = true) (env : Env) (x : Value) : foldedSetIterable e env x = pure x := by
  cases e <;> first | rfl | (simp [noSet] at h)
def isName : Expr → Bool
  | .Name .. => true
  | _ => false
def isTup : Expr → Bool
  | .Tuple .. => true
  | _ => false
/-- what isTrue looks at as a value -/
def plainT : Expr → Bool
  | .Name .. => true
  | .Call .. => true
  | .Subscript .. => true
  | .Constant .. => true
  | .BinOp .. => true
  | .List .. => true
  | .Tuple .. => true
  | .ListComp .. => true
  | _ => false
theorem plainT_ok {e : Expr} (h : plainT e = true) (env : Env) (whole : Sem Value) : isTrue e env whole = (do let v ← whole; standAt e.pos; holding [v] (truthy v)) := by
  cases e <;> first | rfl | (simp [plainT] at h)
def mapO {α β : Type} (f : α → Option β) : List α → Option (List β)
  | [] => some []
  | a :: r => match f a with
    | some b => (mapO f r).map (b :: ·)
    | none => none
theorem mapO_ok {α β : Type} {f : α → Option β} {F : α → β → Prop} (hf : ∀ a b, f a = some b → F a b) : ∀ {l : List α} {m : List β}, mapO f l = some m → Paired F l m
  | [], m, h => by cases h; exact .nil
  | a :: r, m, h => by
    unfold mapO at h
    split at h
    · rename_i b hb
      cases hr : mapO f r with
      | none => rw [hr] at h; cases h
      | some l => rw [hr] at h; cases h; exact .cons (hf _ _ hb) (mapO_ok hf hr)
    · cases h
mutual
def cE : Nat → Sc → Bool → Expr → Option Ex
  | 0, _, _, _ => none
  | n + 1, z, kp, e => match e with
    | .Constant c _ _ => match c with
      | .none => some (.c .non)
      | .bool b => some (.c (.bl b))
      | .int i => some (.c (.int i))
      | .str x => some (.c (.str x))
      | _ => none
    | .Name x _ => if badN x then none else match ixS z.N x 0 with
      | some i => if visB z.names x then some (if kp && decide (x ∈ z.ow) then .fz i else .v i) else none
      | none => if glB z.names x then (z.gi.lookup x).map fun i => .c (.int i) else none
    | .BinOp a o b _ => match opOf o, cE n z false a, cE n z false b with
      | some o, some a, some b => some (.bin o a b)
      | _, _, _ => none
    | .UnaryOp .USub a _ => (cE n z false a).map .neg
    | .UnaryOp .Not a _ => (cE n z false a).map .not
    | .Compare a [o] [b] _ => match cmOf o, cE n z false a, cE n z false b with
      | some o, some a, some b => some (.cmp o a b)
      | _, _, _ => none
    | .Compare a [o, p] [b, c] _ => match cmOf o, cmOf p, cE n z false a, cE n z false b, cE n z false c with
      | some o, some p, some a, some b, some c => some (.chn o p a b c)
      | _, _, _, _, _ => none
    | .BoolOp op (a :: rest) pos => match rest with
      | [] => cE n z kp a
      | b :: r => match cE n z kp a, cE n z kp (.BoolOp op (b :: r) pos) with
        | some a, some b => some (match op with | .And => .and a b | .Or => .or a b)
        | _, _ => none
    | .IfExp c a b _ => match cT n z c, cE n z kp a, cE n z kp b with
      | some c, some a, some b => some (.ite c a b)
      | _, _, _ => none
    | .Tuple es _ _ => if es.length ≤ 1000 && es.all nStar then (mapO (cE n z true) es).map .tup else none
    | .List es _ => if es.length ≤ 1000 && es.all nStar then (mapO (cE n z true) es).map .lst else none
    | .Dict ks vs _ => match ks with
      | [] => match vs with
        | [] => some (.dct [])
        | _ :: _ => none
      | k :: kr => if (k :: kr).length ≤ 15 && decide ((k :: kr).length = vs.length) then (match mapO (fun o => match o with | some k => cE n z true k | none => none) (k :: kr), mapO (cE n z true) vs with
        | some kx, some vx => some (.dct (flK (kx.zip vx)))
        | _, _ => none) else none
    | .Subscript a b _ => if nSl b then (match cE n z false a, cE n z false b with
      | some a, some b => some (.ix a b)
      | _, _ => none) else none
    | .ListComp elt [g] scope _ => match g with
      | ⟨tg, it, ifs, async⟩ => if decide (async = 0) && noSet it && blkC z.N { scope with names := z.names } scope (ownOf z.N scope.names) then (match cI n z false tg it, cG n { z with names := relN scope.names z.names, tn := scope.names } tg, cE n { z with names := relN scope.names z.names, tn := scope.names } true elt with
        | some (k, its), some t, some x => match ifs with
          | [] => some (.lc x t k its none ((ownOf z.N scope.names).map (·.2)))
          | [c] => (cT n { z with names := relN scope.names z.names, tn := scope.names } c).map fun c => .lc x t k its (some c) ((ownOf z.N scope.names).map (·.2))
          | _ => none
        | _, _, _ => none) else none
    | .Call f args [] pos => match f with
      | .Name f _ => if glB z.names f then (match args with
        | .Starred a _ :: b :: es => match z.defs.lookup f with
          | some i => if (b :: es).all nStar then (match cE n z false a, mapO (fun e => cE n z (!isName e) e) (b :: es) with
            | some a, some xs => some (.callS i a xs)
            | _, _ => none) else none
          | none => none
        | _ => if !args.all nStar then none else match z.defs.lookup f with
          | some i => (mapO (fun e => cE n z (!isName e) e) args).map fun xs => .call i xs
          | none => if decide (f = ("isinstance" : Str)) then (match args with
              | [a, .Name t _] => if glB z.names t then (match tyOf t, cE n z false a with
                | some t, some a => some (.isi a t)
                | _, _ => none) else none
              | _ => none)
            else match args with
              | [] => none
              | a :: r => match biOf f with
                | some b => match b, r, a with
                  | .list, [], .Call (.Name g _) [a2] [] _ => if decide (g = ("reversed" : Str)) && glB z.names g && nStar a2 then (cE n z false a2).map .lrev else (mapO (fun e => cE n z (!isName e) e) (a :: r)).map fun xs => .bi b xs
                  | _, _, _ => (mapO (fun e => cE n z (!isName e) e) (a :: r)).map fun xs => .bi b xs
                | none => none) else none
      | .Attribute a m ap => if !(ap.endLine == pos.line) then none else match args with
        | [k, d] => if decide (m = ("get" : Str)) && nCall a && nStar k && nStar d then (match cE n z false a, cE n z false k, cE n z true d with
          | some a, some k, some d => some (.get a k d)
          | _, _, _ => none) else none
        | [] => if decide (m = ("pop" : Str)) then (match a with
          | .Name x _ => if badN x || !visB z.names x then none else (ixS z.N x 0).map .pop
          | _ => none) else none
        | _ => none
      | _ => none
    | _ => none
def cT : Nat → Sc → Expr → Option Ex
  | 0, _, _ => none
  | n + 1, z, e => match e with
    | .UnaryOp .Not a _ => (cT n z a).map .not
    | .Compare a [o] [b] _ => match cmOf o, cE n z false a, cE n z false b with
      | some o, some a, some b => some (.cmp o a b)
      | _, _, _ => none
    | .Compare a [o, p] [b, c] _ => match cmOf o, cmOf p, cE n z false a, cE n z false b, cE n z false c with
      | some o, some p, some a, some b, some c => some (.chn o p a b c)
      | _, _, _, _, _ => none
    | .BoolOp op (a :: rest) pos => match rest with
      | [] => cT n z a
      | b :: r => match cT n z a, cT n z (.BoolOp op (b :: r) pos) with
        | some a, some b => some (match op with | .And => .and a b | .Or => .or a b)
        | _, _ => none
    | e => if plainT e then cE n z false e else none
def cI : Nat → Sc → Bool → Expr → Expr → Option (Ik × List Ex)
  | 0, _, _, _, _ => none
  | n + 1, z, kp, tg, e => match e with
    | .Call (.Name f _) [a] [] _ => if !nStar a then none else if decide (f = ("range" : Str)) && glB z.names f then (cE n z (kp || !isName a) a).map fun x => (.rng, [x])
      else if decide (f = ("enumerate" : Str)) && glB z.names f && isTup tg then (cE n z (kp || !isName a) a).map fun x => (.enu, [x])
      else if decide (f = ("reversed" : Str)) && glB z.names f then (cE n z (kp || !isName a) a).map fun x => (.rev, [x])
      else (cE n z (kp || !isName e) e).map fun x => (.seq, [x])
    | .Call (.Name f _) [a, b] [] _ => if decide (f = ("range" : Str)) && glB z.names f && nStar a && nStar b then (match cE n z (kp || !isName a) a, cE n z (kp || !isName b) b with
        | some x, some y => some (.rng, [x, y])
        | _, _ => none)
      else (cE n z (kp || !isName e) e).map fun x => (.seq, [x])
    | .Call (.Attribute a m ap) [] [] pos => if decide (m = ("values" : Str)) && nCall a && (ap.endLine == pos.line) then (cE n z (kp || !isName a) a).map fun x => (.vals, [x]) else none
    | e => (cE n z (kp || !isName e) e).map fun x => (.seq, [x])
def cG : Nat → Sc → Expr → Option Tg
  | 0, _, _ => none
  | n + 1, z, e => match e with
    | .Name x _ => if locB z.tn x then (ixS z.N x 0).map .n else none
    | .Tuple es _ _ => if es.all nStar then (mapO (cG n z) es).map .t else none
    | _ => none
end
structure Cg (X : Cx) (C : Cl) (z : Sc) : Prop where
  calm : X.calm = true
  nd : X.N.Nodup
  N : X.N = z.N
  names : X.env.scope.names = z.names
  kind : X.env.scope.kind = .function
  un : X.A.units + 64 < cLine
  tn : ∀ x, locB z.tn x = true → L2.Loc X.env.scope x ∧ (X.fn x = true ∨ X.env.scope.names.lookup x = some .local)
  defs : ∀ x i, z.defs.lookup x = some i → ∃ k f fd ps, FnOk X.prog X.w X.K X.mg X.base CX0 k f fd ps (spI X.K C i) ∧ Room k X.A ∧ X.mg x = some (.ref f) ∧ PySem.W.keepIn X.K (.ref f) = true ∧ Binds X.K fd ps []
  gi : ∀ x i, z.gi.lookup x = some i → ∃ t, X.mg x = some (.int i t)
  bi : ∀ b, X.mg (biP b).1 = none
  ty : ∀ t, X.mg (Str.ofString (tyP t)) = none
  oth : X.mg ("isinstance" : Str) = none ∧ X.mg ("range" : Str) = none ∧ X.mg ("enumerate" : Str) = none ∧ X.mg ("reversed" : Str) = none ∧ X.mg ("list" : Str) = none
section
variable {X : Cx} {C : Cl} {z : Sc}
theorem Cg.vis (g : Cg X C z) {x : Str} (h : visB z.names x = true) : Vis X.env.scope x := by
  unfold Vis
  rw [g.names]
  unfold visB at h
  split at h <;> first | exact .inl (by assumption) | exact .inr (.inl (by assumption)) | exact .inr (.inr (by assumption)) | cases h
theorem Cg.gl (g : Cg X C z) {x : Str} (h : glB z.names x = true) : Gl X x ∧ (x == ("__debug__" : Str)) = false := by
  unfold Gl Env.kindOf
  rw [g.names]
  unfold glB at h
  split at h
  · rename_i e; exact ⟨e, by simpa using h⟩
  · cases h
theorem Cg.ix (g : Cg X C z) {x : Str} {i : Nat} (h : ixS z.N x 0 = some i) : X.N[i]? = some x := by
  obtain ⟨j, e1, e2⟩ := ixS_ok h
  rw [g.N, e1, Nat.zero_add]; exact e2
theorem bad_ok {x : Str} (h : badN x = false) : (x == ("__debug__" : Str)) = false ∧ (x == ("__classdict__" : Str)) = false := by
  unfold badN at h
  simpa using h
theorem Cg.blk (g : Cg X C z) (scope : Scope) (s : Shared) (H : Hp) (D : Addr) (cl : List (Str × Addr)) (fp : List Addr) (hk : scope.kind = .function) : Cg (X.blk s H scope (compEnvC scope cl D X.env) fp) C { z with names := relN scope.names z.names, tn := scope.names } where
  calm := g.calm
  nd := g.nd
  N := g.N
  names := by
    show (relabel scope X.env).names = _
    unfold relabel relN
    simp only [Env.kindOf, g.names, g.kind]
  kind := hk
  un := g.un
  tn := fun x h => by
    have e : (compEnvC scope cl D X.env).scope.names = scope.names.map fun (n, k) => if (k == NameKind.free && X.env.scope.kind == .function && X.env.scope.names.lookup n == some .cell) then (n, NameKind.cell) else (n, k) := rfl
    unfold L2.Loc
    rw [show (X.blk s H scope (compEnvC scope cl D X.env) fp).env = compEnvC scope cl D X.env from rfl, e]
    unfold locB at h
    split at h
    · rename_i q
      have := lookup_relS_keep (sc := X.env.scope) (by decide) q
      exact ⟨.inl this, .inr this⟩
    · rename_i q
      have := lookup_relS_keep (sc := X.env.scope) (by decide) q
      refine ⟨.inr this, .inl ?_⟩
      show (scope.names.lookup x == some .cell) = true
      rw [q]; rfl
    · cases h
  defs := g.defs
  gi := g.gi
  bi := g.bi
  ty := g.ty
  oth := g.oth
end
end Q
end

section
set_option Elab.async false
set_option linter.all false
set_option maxRecDepth 100000
set_option maxHeartbeats 4000000
namespace Q
open PySem PySem.Spec PyProof.Rows L2
/-! ### the translation is sound -/
structure Snd (n : Nat) : Prop where
  e : ∀ (X : Cx) (C : Cl) (z : Sc), Cg X C z → ∀ (kp : Bool) (e : Expr) (x : Ex), cE n z kp e = some x → PE X e (tE X C x)
  t : ∀ (X : Cx) (C : Cl) (z : Sc), Cg X C z → ∀ (e : Expr) (x : Ex), cT n z e = some x → PT X e (tT X C x) ∧ ∀ op vs pos, e = .BoolOp op vs pos → PW X e (tT X C x)
  i : ∀ (X : Cx) (C : Cl) (z : Sc), Cg X C z → ∀ (kp : Bool) (tg e : Expr) (k : Ik) (its : List Ex), cI n z kp tg e = some (k, its) → PI X tg e (tIc X C k its) ∧ PI X tg e (tIf X C k its)
  g : ∀ (X : Cx) (C : Cl) (z : Sc), Cg X C z → ∀ (e : Expr) (t : Tg), cG n z e = some t → PG X e (gT X.K t)
theorem blkC_names {N : List Str} {sc sc' scope : Scope} {own : List (Str × Nat)} (h : sc.names = sc'.names) : blkC N sc scope own = blkC N sc' scope own := by
  unfold blkC
  rw [h]
theorem blkC_kind {N : List Str} {sc scope : Scope} {own : List (Str × Nat)} (h : blkC N sc scope own = true) : scope.kind = .function := (blkOk_by h).kind
theorem Paired.both {α β : Type} {F : α → β → Prop} {P : α → Bool} : ∀ {l : List α} {m : List β}, Paired F l m → l.all P = true → Paired (fun a b => F a b ∧ P a = true) l m
  | _, _, .nil, _ => .nil
  | _, _, .cons x r, h => by
    rw [List.all_cons, Bool.and_eq_true] at h
    exact .cons ⟨x, h.1⟩ (Paired.both r h.2)
theorem Paired.nempty {α β : Type} {F : α → β → Prop} {a : α} {l : List α} {m : List β} (h : Paired F (a :: l) m) : m ≠ [] := by cases h; simp
section
variable {n : Nat} {X : Cx} {C : Cl} {z : Sc}
theorem snd_prs (S : Snd n) (g : Cg X C z) {kf : Expr → Bool} {es : List Expr} {xs : List Ex} (h : mapO (fun e => cE n z (kf e) e) es = some xs) (hs : es.all nStar = true) : Prs X C es xs :=
  Paired.both (mapO_ok (F := fun e x => PE X e (tE X C x)) (fun e x hx => S.e X C z g _ e x hx) h) hs
/-! targets -/
theorem asgE_tup {X : Cx} : ∀ {es : List Expr}, es.all nStar = true → (assignEach es X.env).length = es.length ∧ (assignEach es X.env).findIdx? (·.1) = none ∧ (assignEach es X.env).map (·.2) = es.map fun e => assign e X.env
  | [], _ => ⟨rfl, rfl, rfl⟩
  | e :: es, h => by
    rw [List.all_cons, Bool.and_eq_true] at h
    obtain ⟨h1, h2, h3⟩ := asgE_tup (X := X) h.2
    have : assignEach (e :: es) X.env = (false, assign e X.env) :: assignEach es X.env := by
      cases e <;> first | rfl | (simp [nStar] at h)
    rw [this]
    refine ⟨by simp [h1], ?_, by simp [h3]⟩
    rw [List.findIdx?_cons]
    simp [h2]
theorem pgs_of : ∀ {es : List Expr} {ts : List Tg}, Paired (fun e t => PG X e (gT X.K t)) es ts → es.all nStar = true → PGs X es (gTs X.K ts)
  | _, _, .nil, _ => pgs_nil
  | e :: es, _, .cons h r, hs => by
    have hs' := hs
    rw [List.all_cons, Bool.and_eq_true] at hs
    have h3 := (asgE_tup (X := X) hs').2.2
    have h4 := (asgE_tup (X := X) hs.2).2.2
    exact pgs_cons h (pgs_of r hs.2) (by rw [h3, h4]; rfl)
theorem pg_or {tg : Expr} {t t' : TG} (h : PG X tg t) (h' : PG X tg t') : PG X tg (fun v σ H Q => t v σ H Q ∨ t' v σ H Q) := ⟨fun pins s σ H v u Q I r q => q.elim (h.run pins s σ H v u Q I r) (h'.run pins s σ H v u Q I r)⟩
theorem snd_g (S : Snd n) (g : Cg X C z) {e : Expr} {t : Tg} (h : cG (n + 1) z e = some t) : PG X e (gT X.K t) := by
  unfold cG at h
  split at h
  · split at h
    · rename_i hl
      cases hi : ixS z.N _ 0 with
      | none => rw [hi] at h; cases h
      | some i =>
        rw [hi] at h; cases h
        obtain ⟨l1, l2⟩ := g.tn _ hl
        exact pg_name g.nd (g.ix hi) l1 l2
    · cases h
  · split at h
    · rename_i es kk pos hs
      cases hm : mapO (cG n z) es with
      | none => rw [hm] at h; cases h
      | some ts =>
        rw [hm] at h; cases h
        have hp := mapO_ok (F := fun e t => PG X e (gT X.K t)) (fun e t he => S.g X C z g e t he) hm
        have hgs := pgs_of hp hs
        have hl : (assignEach es X.env).length = ts.length := by rw [(asgE_tup hs).1]; exact Paired.len hp
        exact pg_or (pg_tup g.calm hgs hl (asgE_tup hs).2.1) (pg_lst g.calm hgs hl (asgE_tup hs).2.1)
    · cases h
  · cases h
/-! what is walked -/
theorem snd_i (S : Snd n) (g : Cg X C z) {kp : Bool} {tg e : Expr} {k : Ik} {its : List Ex} (h : cI (n + 1) z kp tg e = some (k, its)) : PI X tg e (tIc X C k its) ∧ PI X tg e (tIf X C k its) := by
  have seq : ∀ {b : Bool} {e : Expr}, (cE n z b e).map (fun x => (Ik.seq, [x])) = some (k, its) → PI X tg e (tIc X C k its) ∧ PI X tg e (tIf X C k its) := fun {b e} h => by
    cases hx : cE n z b e with
    | none => rw [hx] at h; cases h
    | some x => rw [hx] at h; cases h; exact ⟨pc_seq (S.e X C z g _ _ _ hx), pf_seq (S.e X C z g _ _ _ hx)⟩
  unfold cI at h
  split at h
  · rename_i f fp a pos
    split at h
    · cases h
    rename_i hs
    have hs : nStar a = true := by simpa using hs
    split at h
    · rename_i hf
      rw [Bool.and_eq_true, decide_eq_true_eq] at hf
      obtain ⟨hf, hg⟩ := hf
      subst hf
      cases hx : cE n z (kp || !isName a) a with
      | none => rw [hx] at h; cases h
      | some x => rw [hx] at h; cases h; exact ⟨pc_rng1 (g.gl hg).1 g.oth.2.1 (S.e X C z g _ _ _ hx) hs, pf_rng1 (g.gl hg).1 g.oth.2.1 (S.e X C z g _ _ _ hx) hs⟩
    · split at h
      · rename_i hf
        simp only [Bool.and_eq_true, decide_eq_true_eq] at hf
        obtain ⟨⟨hf, hg⟩, ht⟩ := hf
        subst hf
        cases tg <;> simp only [isTup, Bool.false_eq_true] at ht
        cases hx : cE n z (kp || !isName a) a with
        | none => rw [hx] at h; cases h
        | some x => rw [hx] at h; cases h; exact ⟨pc_enu (g.gl hg).1 g.oth.2.2.1 (S.e X C z g _ _ _ hx) hs, pf_enu (g.gl hg).1 g.oth.2.2.1 (S.e X C z g _ _ _ hx) hs⟩
      · split at h
        · rename_i hf
          rw [Bool.and_eq_true, decide_eq_true_eq] at hf
          obtain ⟨hf, hg⟩ := hf
          subst hf
          cases hx : cE n z (kp || !isName a) a with
          | none => rw [hx] at h; cases h
          | some x => rw [hx] at h; cases h; exact ⟨pc_rev (g.gl hg).1 g.oth.2.2.2.1 (S.e X C z g _ _ _ hx) hs, pf_rev (g.gl hg).1 g.oth.2.2.2.1 (S.e X C z g _ _ _ hx) hs⟩
        · exact seq h
  · rename_i f fp a b pos
    split at h
    · rename_i hf
      simp only [Bool.and_eq_true, decide_eq_true_eq] at hf
      obtain ⟨⟨⟨hf, hg⟩, ha⟩, hb⟩ := hf
      subst hf
      split at h
      · rename_i x y hx hy
        cases h
        exact ⟨pc_rng2 (g.gl hg).1 g.oth.2.1 (S.e X C z g _ _ _ hx) ha (S.e X C z g _ _ _ hy) hb, pf_rng2 (g.gl hg).1 g.oth.2.1 (S.e X C z g _ _ _ hx) ha (S.e X C z g _ _ _ hy) hb⟩
      · cases h
    · exact seq h
  · rename_i a m ap pos
    split at h
    · rename_i hf
      simp only [Bool.and_eq_true, decide_eq_true_eq] at hf
      obtain ⟨⟨hf, hc⟩, hl⟩ := hf
      subst hf
      cases hx : cE n z (kp || !isName a) a with
      | none => rw [hx] at h; cases h
      | some x => rw [hx] at h; cases h; exact ⟨pc_vals (S.e X C z g _ _ _ hx) (base_of hc _ _) hl, pf_vals (S.e X C z g _ _ _ hx) (base_of hc _ _) hl⟩
    · cases h
  · exact seq h
/-! tests -/
theorem snd_t (S : Snd n) (g : Cg X C z) {e : Expr} {x : Ex} (h : cT (n + 1) z e = some x) : PT X e (tT X C x) ∧ ∀ op vs pos, e = .BoolOp op vs pos → PW X e (tT X C x) := by
  unfold cT at h
  split at h
  · rename_i a pos
    cases hx : cT n z a with
    | none => rw [hx] at h; cases h
    | some x => rw [hx] at h; cases h; exact ⟨r_notT (S.t X C z g _ _ hx).1, fun _ _ _ e => nomatch e⟩
  · rename_i a o b pos
    split at h
    · rename_i o' x y ho hx hy
      cases h
      rw [cmOf_ok ho]
      exact ⟨r_cmpT g.un _ (S.e X C z g _ _ _ hx) (S.e X C z g _ _ _ hy), fun _ _ _ e => nomatch e⟩
    · cases h
  · rename_i a o p b c pos
    split at h
    · rename_i o' p' x y w ho hp hx hy hw
      cases h
      rw [cmOf_ok ho, cmOf_ok hp]
      exact ⟨r_chnT g.un _ _ (S.e X C z g _ _ _ hx) (S.e X C z g _ _ _ hy) (S.e X C z g _ _ _ hw), fun _ _ _ e => nomatch e⟩
    · cases h
  · rename_i op a rest pos
    have key : PW X (.BoolOp op (a :: rest) pos) (tT X C x) := by
      split at h
      · have := r_oneT (pos := pos) (S.t X C z g _ _ h).1
        cases op
        · exact this.1
        · exact this.2
      · rename_i b r
        split at h
        · rename_i xa xb ha hb
          cases h
          cases op
          · exact r_andT (S.t X C z g _ _ ha).1 ((S.t X C z g _ _ hb).2 _ _ _ rfl)
          · exact r_orT (S.t X C z g _ _ ha).1 ((S.t X C z g _ _ hb).2 _ _ _ rfl)
        · cases h
    exact ⟨key.pt, fun _ _ _ e => key⟩
  · split at h
    · rename_i hp
      refine ⟨r_tru (S.e X C z g _ _ _ h) (plainT_ok hp _), fun _ _ _ e => ?_⟩
      subst e
      simp [plainT] at hp
    · cases h
end
end Q
end

section
set_option Elab.async false
set_option linter.all false
set_option maxRecDepth 100000
set_option maxHeartbeats 4000000
namespace Q
open PySem PySem.Spec PyProof.Rows L2
section
variable {n : Nat} {X : Cx} {C : Cl} {z : Sc}
theorem lim_th {k : Nat} (h : k ≤ 1000) : k ≤ lim := by unfold lim; omega
theorem opt_map {α β : Type} {f : α → β} {o : Option α} {b : β} (h : o.map f = some b) : ∃ a, o = some a ∧ f a = b := by
  cases o with
  | none => cases h
  | some a => cases h; exact ⟨a, rfl, rfl⟩
theorem zip_pairs {es : List (Option Expr)} {vs : List Expr} : ∀ {kx vx : List Ex}, Paired (fun (e : Option Expr) (x : Ex) => ∃ k, e = some k ∧ PE X k (tE X C x)) es kx → Paired (fun e x => PE X e (tE X C x)) vs vx → kx.length = vx.length →
    Paired (fun (e : Option Expr) (x : Ex × Ex) => ∃ k, e = some k ∧ PE X k (tE X C x.1)) es (kx.zip vx) ∧ Paired (fun e (x : Ex × Ex) => PE X e (tE X C x.2)) vs (kx.zip vx) := by
  intro kx
  induction kx generalizing es vs with
  | nil => intro vx h1 h2 hl; cases vx with
    | nil => cases h1; cases h2; exact ⟨.nil, .nil⟩
    | cons _ _ => simp at hl
  | cons k kx ih => intro vx h1 h2 hl; cases vx with
    | nil => simp at hl
    | cons v vx =>
      cases h1 with
      | cons a b =>
        cases h2 with
        | cons c d =>
          obtain ⟨p, q⟩ := ih b d (by simpa using hl)
          exact ⟨.cons a p, .cons c q⟩
theorem snd_e (S : Snd n) (g : Cg X C z) {kp : Bool} {e : Expr} {x : Ex} (h : cE (n + 1) z kp e = some x) : PE X e (tE X C x) := by
  have un1 : X.A.units + 1 < cLine := Nat.lt_of_le_of_lt (by omega) g.un
  unfold cE at h
  split at h
  · -- constants
    split at h <;> cases h
    · exact r_non
    · exact r_bl
    · exact r_int
    · exact r_str
  · -- names
    split at h
    · cases h
    rename_i hb
    obtain ⟨b1, b2⟩ := bad_ok (by simpa using hb)
    split at h
    · rename_i i hi
      split at h
      · rename_i hv
        cases h
        split
        · exact r_fz (g.ix hi) (g.vis hv) b1 b2
        · exact r_v (g.ix hi) (g.vis hv) b1 b2
      · cases h
    · split at h
      · rename_i hg
        obtain ⟨i, hi, rfl⟩ := opt_map h
        obtain ⟨t, ht⟩ := g.gi _ _ hi
        exact r_glob (g.gl hg).1 ht b1
      · cases h
  · split at h
    · rename_i o a b ho ha hb
      cases h
      rw [opOf_ok ho]
      exact r_bin _ (S.e X C z g _ _ _ ha) (S.e X C z g _ _ _ hb)
    · cases h
  · obtain ⟨a, ha, rfl⟩ := opt_map h
    exact r_neg (S.e X C z g _ _ _ ha)
  · obtain ⟨a, ha, rfl⟩ := opt_map h
    exact r_not (S.e X C z g _ _ _ ha)
  · split at h
    · rename_i o a b ho ha hb
      cases h
      rw [cmOf_ok ho]
      exact r_cmp g.un _ (S.e X C z g _ _ _ ha) (S.e X C z g _ _ _ hb)
    · cases h
  · split at h
    · rename_i o p a b c ho hp ha hb hc
      cases h
      rw [cmOf_ok ho, cmOf_ok hp]
      exact r_chn g.un _ _ (S.e X C z g _ _ _ ha) (S.e X C z g _ _ _ hb) (S.e X C z g _ _ _ hc)
    · cases h
  · -- and, or
    rename_i op a rest pos
    split at h
    · exact r_one (S.e X C z g _ _ _ h)
    · rename_i b r
      split at h
      · rename_i xa xb ha hb
        cases h
        cases op
        · exact r_and (S.e X C z g _ _ _ ha) (S.e X C z g _ _ _ hb)
        · exact r_or (S.e X C z g _ _ _ ha) (S.e X C z g _ _ _ hb)
      · cases h
  · split at h
    · rename_i c a b hc ha hb
      cases h
      exact r_ite (S.t X C z g _ _ hc).1 (S.e X C z g _ _ _ ha) (S.e X C z g _ _ _ hb)
    · cases h
  · split at h
    · rename_i hs
      rw [Bool.and_eq_true, decide_eq_true_eq] at hs
      obtain ⟨xs, hx, rfl⟩ := opt_map h
      have hp := snd_prs (kf := fun _ => true) S g hx hs.2
      exact r_tup (lim_th (by rw [← Paired.len hp]; exact hs.1)) hp
    · cases h
  · split at h
    · rename_i hs
      rw [Bool.and_eq_true, decide_eq_true_eq] at hs
      obtain ⟨xs, hx, rfl⟩ := opt_map h
      have hp := snd_prs (kf := fun _ => true) S g hx hs.2
      exact r_lst (lim_th (by rw [← Paired.len hp]; exact hs.1)) hp
    · cases h
  · -- dicts
    split at h
    · split at h
      · cases h; exact r_dct0
      · cases h
    · rename_i k kr
      split at h
      · rename_i hl
        rw [Bool.and_eq_true, decide_eq_true_eq, decide_eq_true_eq] at hl
        split at h
        · rename_i kx vx hk hv
          cases h
          have p1 := mapO_ok (F := fun (e : Option Expr) (x : Ex) => ∃ k, e = some k ∧ PE X k (tE X C x)) (fun o x ho => by
            cases o with
            | none => cases ho
            | some k => exact ⟨k, rfl, S.e X C z g _ _ _ ho⟩) hk
          have p2 := mapO_ok (F := fun e x => PE X e (tE X C x)) (fun e x he => S.e X C z g _ _ _ he) hv
          obtain ⟨q1, q2⟩ := zip_pairs p1 p2 (by rw [← Paired.len p1, ← Paired.len p2]; exact hl.2)
          exact r_dct q1 q2 (by simp) hl.1
        · cases h
      · cases h
  · split at h
    · rename_i hs
      split at h
      · rename_i xa xb ha hb
        cases h
        exact r_ix un1 hs (S.e X C z g _ _ _ ha) (S.e X C z g _ _ _ hb)
      · cases h
    · cases h
  · -- comprehensions
    rename_i elt gn scope pos
    obtain ⟨tg, it, ifs, async⟩ := gn
    simp only at h
    split at h
    · rename_i hc
      simp only [Bool.and_eq_true, decide_eq_true_eq] at hc
      obtain ⟨⟨ha, hset⟩, hblk⟩ := hc
      subst ha
      rw [blkC_names (sc' := X.env.scope) g.names.symm, ← g.N] at hblk
      have ok := blkOk_by hblk
      have gb := fun s H D cl fp => g.blk scope s H D cl fp ok.kind
      rw [g.N] at ok
      split at h
      · rename_i k its t x hi ht hx
        have hio : PI X tg it (tIc X C k its) := (S.i X C z g _ _ _ _ _ hi).1
        split at h
        · cases h
          refine r_lc g.calm g.nd hio (by rw [g.N]; exact ok) (fun s H D cl fp => S.g _ C _ (gb s H D cl fp) _ _ ht) (fun s H D cl fp => pts_nil) (fun s H D cl fp => S.e _ C _ (gb s H D cl fp) _ _ _ hx) (noSet_ok hset X.env)
        · obtain ⟨c, hc, rfl⟩ := opt_map h
          refine r_lc g.calm g.nd hio (by rw [g.N]; exact ok) (fun s H D cl fp => S.g _ C _ (gb s H D cl fp) _ _ ht) (fun s H D cl fp => pts_one (S.t _ C _ (gb s H D cl fp) _ _ hc).1) (fun s H D cl fp => S.e _ C _ (gb s H D cl fp) _ _ _ hx) (noSet_ok hset X.env)
        · cases h
      · cases h
    · cases h
  · -- calls
    split at h
    · rename_i f p
      split at h
      · rename_i hgl
        obtain ⟨hG, hd⟩ := g.gl hgl
        split at h
        · -- *a, ..
          rename_i a q b es
          split at h
          · rename_i i hi
            split at h
            · rename_i hst
              split at h
              · rename_i xa xs ha hxs
                cases h
                obtain ⟨k, fa, fd, ps, F, hr, hm, hk, hb⟩ := g.defs _ _ hi
                have hp := snd_prs (kf := fun e => !isName e) S g hxs hst
                exact r_callS F hr hG hm hk hb hd (S.e X C z g _ _ _ ha) (Paired.nempty hp) hp
              · cases h
            · cases h
          · cases h
        · split at h
          · cases h
          rename_i hst
          have hst := by simpa using hst
          split at h
          · rename_i i hi
            obtain ⟨xs, hx, rfl⟩ := opt_map h
            obtain ⟨k, fa, fd, ps, F, hr, hm, hk, hb⟩ := g.defs _ _ hi
            exact r_call F hr hG hm hk hb hd (snd_prs (kf := fun e => !isName e) S g hx (by simpa using hst))
          · split at h
            · rename_i hf
              rw [decide_eq_true_eq] at hf
              subst hf
              split at h
              · rename_i a t tp
                split at h
                · rename_i hg2
                  split at h
                  · rename_i ty xa hty ha
                    cases h
                    have e := tyOf_ok hty
                    subst e
                    exact r_isi _ hG g.oth.1 (g.gl hg2).1 (g.ty _) (by simp at hst; exact hst.1) (S.e X C z g _ _ _ ha)
                  · cases h
                · cases h
              · cases h
            · split at h
              · cases h
              · rename_i a r _ _
                split at h
                · rename_i b hbi
                  have e := biOf_ok hbi
                  have gen : ∀ {h' : List Ex} {pos : Pos}, mapO (fun e => cE n z (!isName e) e) (a :: r) = some h' → PE X (.Call (.Name f p) (a :: r) [] pos) (tE X C (.bi b h')) := fun {h' pos} hx => by
                    have hp := snd_prs (kf := fun e => !isName e) S g hx (by simpa using hst)
                    subst e
                    exact r_bi g.calm b hG (g.bi b) (Paired.nempty hp) hp
                  split at h
                  · rename_i gg gp a2 pos2
                    split at h
                    · rename_i hh
                      simp only [Bool.and_eq_true, decide_eq_true_eq] at hh
                      obtain ⟨⟨h1, h2⟩, h3⟩ := hh
                      obtain ⟨xa, ha, rfl⟩ := opt_map h
                      subst h1
                      subst e
                      exact r_lrev g.calm hG g.oth.2.2.2.2 (g.gl h2).1 g.oth.2.2.2.1 h3 (S.e X C z g _ _ _ ha)
                    · obtain ⟨xs, hx, rfl⟩ := opt_map h
                      exact gen hx
                  · obtain ⟨xs, hx, rfl⟩ := opt_map h
                    exact gen hx
                · cases h
      · cases h
    · -- methods
      rename_i a m ap
      split at h
      · cases h
      rename_i hl
      rw [Bool.not_eq_true, Bool.not_eq_false'] at hl
      split at h
      · rename_i k d
        split at h
        · rename_i hh
          simp only [Bool.and_eq_true, decide_eq_true_eq] at hh
          obtain ⟨⟨⟨h1, h2⟩, h3⟩, h4⟩ := hh
          subst h1
          split at h
          · rename_i xa xk xd ha hk hd
            cases h
            exact r_get un1 h2 h3 h4 hl (S.e X C z g _ _ _ ha) (S.e X C z g _ _ _ hk) (S.e X C z g _ _ _ hd)
          · cases h
        · cases h
      · split at h
        · rename_i h1
          rw [decide_eq_true_eq] at h1
          subst h1
          split at h
          · rename_i x xp
            split at h
            · cases h
            · rename_i hb
              simp only [Bool.or_eq_true, Bool.not_eq_true', not_or, Bool.not_eq_true, Bool.not_eq_false] at hb
              obtain ⟨i, hi, rfl⟩ := opt_map h
              obtain ⟨b1, b2⟩ := bad_ok hb.1
              exact r_pop (g.ix hi) (g.vis hb.2) b1 b2 hl
          · cases h
        · cases h
      · cases h
    · cases h
  · cases h
end
theorem snd_all : ∀ n, Snd n
  | 0 => ⟨fun _ _ _ _ _ _ _ h => (by cases h), fun _ _ _ _ _ _ h => (by cases h), fun _ _ _ _ _ _ _ _ _ h => (by cases h), fun _ _ _ _ _ _ h => (by cases h)⟩
  | n + 1 => ⟨fun X C z g _ _ _ h => snd_e (snd_all n) g h, fun X C z g _ _ h => snd_t (snd_all n) g h, fun X C z g _ _ _ _ _ h => snd_i (snd_all n) g h, fun X C z g _ _ h => snd_g (snd_all n) g h⟩
end Q
end

section
set_option Elab.async false
set_option linter.all false
set_option maxRecDepth 100000
set_option maxHeartbeats 4000000
namespace Q
open PySem PySem.Spec PyProof.Rows L2
/-! ### statements from Python to Q -/
def swpD (kind : Str → Option NameKind) (ts vs : List Expr) : Option (Option (List Str)) :=
  if (!(ts.length == 2 || ts.length == 3) || vs.length != ts.length) = true then some none else
  if (vs.any fun | .Starred .. => true | _ => false) = true then some none else
  if ((ts.filterMap fun
    | .Name id pos => if (kind id == some .local && pos.line == (ts.head?.map (·.pos.line)).getD 0) = true then some id else none
    | _ => none).length != ts.length || (ts.filterMap fun
    | .Name id pos => if (kind id == some .local && pos.line == (ts.head?.map (·.pos.line)).getD 0) = true then some id else none
    | _ => none).eraseDups.length != (ts.filterMap fun
    | .Name id pos => if (kind id == some .local && pos.line == (ts.head?.map (·.pos.line)).getD 0) = true then some id else none
    | _ => none).length) = true then some none else
  if vs.all (foldedForSure 8) = true then some none else
  if vs.all (constantsAlone 8) = true then none else
  some (some (ts.filterMap fun
    | .Name id pos => if (kind id == some .local && pos.line == (ts.head?.map (·.pos.line)).getD 0) = true then some id else none
    | _ => none))
theorem swp_ok {env : Env} {ts vs : List Expr} {k k2 : Nat} {p p2 : Pos} {r : Option (List Str)} (hb : env.scope.kind = .function) (h : swpD env.kindOf ts vs = some r) : swappedStores [.Tuple ts k p] (.Tuple vs k2 p2) env = pure r := by
  have hbk : env.blockKind = .function := by unfold Env.blockKind; rw [hb]; rfl
  unfold swpD at h
  unfold swappedStores
  simp only [hbk]
  split at h
  · rename_i h1
    cases h
    have : ((!(ts.length == 2 || ts.length == 3) || vs.length != ts.length || ScopeKind.function != ScopeKind.function) = true) := by simpa using h1
    rw [if_pos this]
  rename_i h1
  have : ¬ ((!(ts.length == 2 || ts.length == 3) || vs.length != ts.length || ScopeKind.function != ScopeKind.function) = true) := by simpa using h1
  rw [if_neg this]
  split at h
  · rename_i h2
    cases h
    refine Eq.trans (if_pos ?_) rfl
    exact h2
  rename_i h2
  refine Eq.trans (if_neg ?_) ?_
  · exact h2
  split at h
  · rename_i h3
    cases h
    refine Eq.trans (if_pos ?_) rfl
    exact h3
  rename_i h3
  refine Eq.trans (if_neg ?_) ?_
  · exact h3
  split at h
  · rename_i h4
    cases h
    refine Eq.trans (if_pos ?_) rfl
    exact h4
  rename_i h4
  refine Eq.trans (if_neg ?_) ?_
  · exact h4
  split at h
  · cases h
  rename_i h5
  refine Eq.trans (if_neg ?_) ?_
  · exact h5
  cases h
  rfl
def swB (ns : List (Str × NameKind)) (scope : Scope) (y : Str) (py pos : Pos) : Bool := ScopeKind.function == .function && ns.lookup y == some .local && py.line == pos.line && !(scope.names.any fun (n, k) => n == y && (k == .local || k == .cell))
theorem sw_lc {env : Env} {elt : Expr} {gs : List Comprehension} {scope : Scope} {pos py : Pos} {y : Str} {l : Nat} (hk : env.scope.kind = .function) : swapsWith (.ListComp elt gs scope pos) (some (.Name y py)) l env = pure (swB env.scope.names scope y py pos) := by
  have hb : env.blockKind = .function := by unfold Env.blockKind; rw [hk]; rfl
  unfold swapsWith swB
  simp only [hb]
  rfl
theorem sw_tup {e : Expr} {ts : List Expr} {k : Nat} {p : Pos} {l : Nat} {env : Env} : swapsWith e (some (.Tuple ts k p)) l env = pure false := by cases e <;> rfl
theorem sw_sub {e : Expr} {a b : Expr} {p : Pos} {l : Nat} {env : Env} : swapsWith e (some (.Subscript a b p)) l env = pure false := by cases e <;> rfl
theorem ss_no {e : Expr} {t : Expr} {env : Env} (h : isTup e = false) : swappedStores [t] e env = pure none := by
  cases e <;> first | (cases t <;> rfl) | (simp [isTup] at h)
def setOf (z : Sc) (x : Str) (i : Nat) (v : Ex) : Sx := if decide (x ∈ z.ow) then .own i v else .set i v
def isLc : Expr → Bool
  | .ListComp _ [_] _ _ => true
  | _ => false
def cS : Nat → Nat → Sc → Stmt → Option Sx
  | 0, _, _, _ => none
  | n + 1, m, z, st => match st with
    | .Pass _ => some .pass
    | .Break _ => some .brk
    | .Continue _ => some .cnt
    | .Return none _ => some .retN
    | .Return (some e) _ => (cE m z false e).map .ret
    | .Expr e _ => match e with
      | .Constant (.str _) _ _ => some .pass
      | .Call (.Attribute (.Name x _) a ap) [arg] [] cpos => if decide (a = ("append" : Str)) && nStar arg && (ap.endLine == cpos.line) && !badN x && visB z.names x then (match ixS z.N x 0, cE m z true arg with
        | some i, some v => some (.app i v)
        | _, _ => none) else none
      | e => if noComp e then (cE m z false e).map .expr else none
    | .If c a b _ => (cT m z c).map fun c => .ite c (a.map fun s => (cS n m z s).getD (.raise 0)) (b.map fun s => (cS n m z s).getD (.raise 0))
    | .While c b [] _ => (cT m z c).map fun c => .whl c (b.map fun s => (cS n m z s).getD (.raise 0))
    | .For tg it b [] _ => if noSet it then (match cI m z true tg it, cG m z tg with
      | some (k, its), some t => some (.for_ t k its (b.map fun s => (cS n m z s).getD (.raise 0)))
      | _, _ => none) else none
    | .AugAssign (.Name x _) o e _ => if locB z.tn x then (match ixS z.N x 0, o, cE m z false e with
      | some i, .Add, some v => some (.aug i .add v)
      | some i, .Sub, some v => some (.aug i .sub v)
      | _, _, _ => none) else none
    | .Assign [tg] e pos => match tg with
      | .Name x px => if locB z.tn x then (match ixS z.N x 0 with
        | none => none
        | some i => if noComp e then (cE m z true e).map fun v => if decide (x ∈ z.cl) then .mkc i v else setOf z x i v
          else match e with
            | .ListComp elt [g] scope cpos => (cE m z true (.ListComp elt [g] scope cpos)).map (setOf z x i)
            | _ => none) else none
      | .Subscript (.Name x _) ke _ => if badN x || !visB z.names x then none else (match ixS z.N x 0, cE m z false ke, cE m z true e with
        | some i, some k, some v => some (.put i k v)
        | _, _, _ => none)
      | .Tuple ts k p => if !(ts.all nStar) then none else match e with
        | .Tuple vs _ _ => match swpD (fun y => z.names.lookup y) ts vs with
          | some none => (match cG m z (.Tuple ts k p), cE m z true e with
            | some t, some v => some (.unp t v)
            | _, _ => none)
          | some (some ns) => if !(vs.all nStar) then none else (match ts, vs with
            | [.Name a _, .Name b _], [u, v] => if decide (ns = [a, b]) && decide (z.names.lookup a = some .local) && decide (z.names.lookup b = some .local) then (match ixS z.N a 0, ixS z.N b 0, cE m z true u, cE m z true v with
              | some i, some j, some u, some v => if decide (i = j) then none else some (.par [(i, decide (a ∈ z.ow)), (j, decide (b ∈ z.ow))] [u, v])
              | _, _, _, _ => none) else none
            | [.Name a _, .Name b _, .Name c _], [u, v, w] => if decide (ns = [a, b, c]) && decide (z.names.lookup a = some .local) && decide (z.names.lookup b = some .local) && decide (z.names.lookup c = some .local) then (match ixS z.N a 0, ixS z.N b 0, ixS z.N c 0, cE m z true u, cE m z true v, cE m z true w with
              | some i, some j, some l, some u, some v, some w => if decide (i = j) || decide (i = l) || decide (j = l) then none else some (.par [(i, decide (a ∈ z.ow)), (j, decide (b ∈ z.ow)), (l, decide (c ∈ z.ow))] [u, v, w])
              | _, _, _, _, _, _ => none) else none
            | _, _ => none)
          | none => none
        | e => if isTup e then none else (match cG m z (.Tuple ts k p), cE m z true e with
            | some t, some v => some (.unp t v)
            | _, _ => none)
      | _ => none
    | .Raise _ _ _ => some (.raise 0)
    | _ => none
def cSs (n m : Nat) (z : Sc) (sts : List Stmt) : List Sx := sts.map fun s => (cS n m z s).getD (.raise 0)
section
variable {n m : Nat} {X : Cx} {C : Cl} {z : Sc}
theorem snd_lc (g : Cg X C z) {kp : Bool} {elt : Expr} {gn : Comprehension} {scope : Scope} {pos py spos : Pos} {x : Ex} {y : Str} {i : Nat} (h : cE (n + 1) z kp (.ListComp elt [gn] scope pos) = some x) (hy : X.N[i]? = some y) (hyl : X.env.scope.names.lookup y = some .local)
    (hsw : swapsWith (.ListComp elt [gn] scope pos) (some (.Name y py)) spos.line X.env = pure true) : PS X (.Assign [.Name y py] (.ListComp elt [gn] scope pos) spos) (fun D σ H => tE X C x σ H fun v H1 => D.nx (σ.set i (some v)) H1) := by
  have S := snd_all n
  unfold cE at h
  obtain ⟨tg, it, ifs, async⟩ := gn
  simp only at h
  split at h
  · rename_i hc
    simp only [Bool.and_eq_true, decide_eq_true_eq] at hc
    obtain ⟨⟨ha, hset⟩, hblk⟩ := hc
    subst ha
    rw [blkC_names (sc' := X.env.scope) g.names.symm, ← g.N] at hblk
    have ok := blkOk_by hblk
    have gb := fun s H D cl fp => g.blk scope s H D cl fp ok.kind
    rw [g.N] at ok
    split at h
    · rename_i k its t x hi ht hx
      have hio : PI X tg it (tIc X C k its) := (S.i X C z g _ _ _ _ _ hi).1
      split at h
      · cases h
        refine r_setLc g.calm g.nd hy hyl hsw hio (by rw [g.N]; exact ok) (fun s H D cl fp => S.g _ C _ (gb s H D cl fp) _ _ ht) (fun s H D cl fp => pts_nil) (fun s H D cl fp => S.e _ C _ (gb s H D cl fp) _ _ _ hx) (noSet_ok hset X.env)
      · obtain ⟨c, hc, rfl⟩ := opt_map h
        refine r_setLc g.calm g.nd hy hyl hsw hio (by rw [g.N]; exact ok) (fun s H D cl fp => S.g _ C _ (gb s H D cl fp) _ _ ht) (fun s H D cl fp => pts_one (S.t _ C _ (gb s H D cl fp) _ _ hc).1) (fun s H D cl fp => S.e _ C _ (gb s H D cl fp) _ _ _ hx) (noSet_ok hset X.env)
      · cases h
    · cases h
  · cases h
theorem psl_of (hS : ∀ st x, cS n m z st = some x → PS X st (tS X C x)) : ∀ sts : List Stmt, PSs X sts (tSs X C (sts.map fun s => (cS n m z s).getD (.raise 0)))
  | [] => r_nil
  | st :: sts => r_cons (by
      show PS X st (tS X C ((cS n m z st).getD (.raise 0)))
      cases h : cS n m z st with
      | none => exact r_raise
      | some x => exact hS st x h) (psl_of hS sts)
theorem snd_s (g : Cg X C z) (hp : PassesOwn (model X.prog X.w) X.A X.env X.xe) : ∀ {n : Nat} {st : Stmt} {x : Sx}, cS n m z st = some x → PS X st (tS X C x) := by
  have S := snd_all m
  have un1 : X.A.units + 1 < cLine := Nat.lt_of_le_of_lt (by omega) g.un
  intro n
  induction n with
  | zero => intro st x h; cases h
  | succ n ih =>
    have body := psl_of (X := X) (C := C) (n := n) (m := m) (z := z) fun st x h => ih h
    intro st x h
    unfold cS at h
    split at h
    · cases h; exact r_pass
    · cases h; exact r_brk
    · cases h; exact r_cnt
    · cases h; exact r_retN
    · obtain ⟨a, ha, rfl⟩ := opt_map h
      exact r_ret (S.e X C z g _ _ _ ha)
    · split at h
      · cases h; exact r_doc
      · rename_i x0 xp a ap arg cpos
        split at h
        · rename_i hh
          simp only [Bool.and_eq_true, decide_eq_true_eq, Bool.not_eq_true'] at hh
          obtain ⟨⟨⟨⟨h1, h2⟩, h3⟩, h4⟩, h5⟩ := hh
          subst h1
          split at h
          · rename_i i v hi hv
            cases h
            obtain ⟨b1, b2⟩ := bad_ok h4
            exact r_app (g.ix hi) (g.vis h5) b1 b2 h2 (by rw [star_of h2]; rfl) h3 (S.e X C z g _ _ _ hv)
          · cases h
        · cases h
      · split at h
        · rename_i hn
          obtain ⟨a, ha, rfl⟩ := opt_map h
          exact r_expr hn (S.e X C z g _ _ _ ha)
        · cases h
    · obtain ⟨a, ha, rfl⟩ := opt_map h
      exact r_if (S.t X C z g _ _ ha).1 (body _) (body _)
    · obtain ⟨a, ha, rfl⟩ := opt_map h
      exact r_while hp (S.t X C z g _ _ ha).1 (body _)
    · split at h
      · rename_i hset
        split at h
        · rename_i k its t hi ht
          cases h
          exact r_for hp g.calm (S.i X C z g _ _ _ _ _ hi).2 (S.g X C z g _ _ ht) (body _) (noSet_ok hset X.env)
        · cases h
      · cases h
    · split at h
      · rename_i hl
        obtain ⟨l1, l2⟩ := g.tn _ hl
        split at h
        · rename_i i v hi hv
          cases h
          exact r_aug (.inl ⟨rfl, rfl⟩) g.nd (g.ix hi) l1 l2 (S.e X C z g _ _ _ hv)
        · rename_i i v hi hv
          cases h
          exact r_aug (.inr ⟨rfl, rfl⟩) g.nd (g.ix hi) l1 l2 (S.e X C z g _ _ _ hv)
        · cases h
      · cases h
    · -- assignments
      rename_i tg e pos
      split at h
      · rename_i x0 px
        split at h
        · rename_i hl
          obtain ⟨l1, l2⟩ := g.tn _ hl
          split at h
          · cases h
          · rename_i i hi
            split at h
            · rename_i hn
              obtain ⟨v, hv, rfl⟩ := opt_map h
              split
              · exact r_mkc g.nd (g.ix hi) l1 l2 (sw_no hn _ _ _) (S.e X C z g _ _ _ hv)
              · unfold setOf
                split
                · exact r_own g.nd (g.ix hi) l1 l2 (sw_no hn _ _ _) (S.e X C z g _ _ _ hv)
                · exact r_set g.nd (g.ix hi) l1 l2 (sw_no hn _ _ _) (S.e X C z g _ _ _ hv)
            · split at h
              · rename_i elt gn scope cpos _
                obtain ⟨v, hv, rfl⟩ := opt_map h
                cases hs : swB X.env.scope.names scope x0 px cpos with
                | false =>
                  have sw : ∀ l, swapsWith (.ListComp elt [gn] scope cpos) (some (.Name x0 px)) l X.env = pure false := fun l => by rw [sw_lc g.kind, hs]
                  unfold setOf
                  split
                  · exact r_own g.nd (g.ix hi) l1 l2 (sw _) (S.e X C z g _ _ _ hv)
                  · exact r_set g.nd (g.ix hi) l1 l2 (sw _) (S.e X C z g _ _ _ hv)
                | true =>
                  have sw : ∀ l, swapsWith (.ListComp elt [gn] scope cpos) (some (.Name x0 px)) l X.env = pure true := fun l => by rw [sw_lc g.kind, hs]
                  have hloc : X.env.scope.names.lookup x0 = some .local := by
                    unfold swB at hs
                    simp only [Bool.and_eq_true, beq_iff_eq] at hs
                    exact hs.1.1.2
                  cases m with
                  | zero => cases hv
                  | succ m =>
                    have key := snd_lc (py := px) (spos := pos) g hv (g.ix hi) hloc (sw _)
                    unfold setOf
                    split
                    · exact own_of' key
                    · exact set_of key
              · cases h
        · cases h
      · -- d[k] = v
        split at h
        · cases h
        · rename_i hb
          simp only [Bool.or_eq_true, Bool.not_eq_true', not_or, Bool.not_eq_true, Bool.not_eq_false] at hb
          obtain ⟨b1, b2⟩ := bad_ok hb.1
          split at h
          · rename_i i k v hi hk hv
            cases h
            exact r_put un1 (g.ix hi) (g.vis hb.2) b1 b2 sw_sub (S.e X C z g _ _ _ hk) (S.e X C z g _ _ _ hv)
          · cases h
      · -- a, b = ..
        rename_i ts k p
        split at h
        · cases h
        rename_i hts
        rw [Bool.not_eq_true, Bool.not_eq_false'] at hts
        have swt : ∀ (e : Expr) (l : Nat), swapsWithSole [Expr.Tuple ts k p] e l X.env = pure false := fun e l => (show swapsWith e (some (Expr.Tuple ts k p)) l X.env = pure false from sw_tup)
        have one : (assignEach [Expr.Tuple ts k p] X.env).map (·.2) = [assign (Expr.Tuple ts k p) X.env] := rfl
        have hkind : X.env.kindOf = fun y => z.names.lookup y := by funext q; unfold Env.kindOf; rw [g.names]
        split at h
        · rename_i vs k2 p2
          split at h
          · rename_i hsw
            split at h
            · rename_i t v ht hv
              cases h
              exact r_unp (S.g X C z g _ _ ht) (swt _ _) (swp_ok g.kind (by rw [hkind]; exact hsw)) one (S.e X C z g _ _ _ hv)
            · cases h
          · rename_i ns hsw
            split at h
            · cases h
            rename_i hvs
            rw [Bool.not_eq_true, Bool.not_eq_false'] at hvs
            split at h
            · rename_i a pa b pb u v
              split at h
              · rename_i hh
                simp only [Bool.and_eq_true, decide_eq_true_eq] at hh
                obtain ⟨⟨h1, h2⟩, h3⟩ := hh
                subst h1
                split at h
                · rename_i i j u' v' hi hj hu hv
                  split at h
                  · cases h
                  rename_i hij
                  cases h
                  simp only [List.all_cons, Bool.and_eq_true] at hvs
                  exact r_par2 g.calm g.nd (g.ix hi) (g.ix hj) (by simpa using hij) (by rw [g.names]; exact h2) (by rw [g.names]; exact h3) (.cons ⟨S.e X C z g _ _ _ hu, hvs.1⟩ (.cons ⟨S.e X C z g _ _ _ hv, hvs.2.1⟩ .nil)) (swp_ok g.kind (by rw [hkind]; exact hsw))
                · cases h
              · cases h
            · rename_i a pa b pb c pc u v w
              split at h
              · rename_i hh
                simp only [Bool.and_eq_true, decide_eq_true_eq] at hh
                obtain ⟨⟨⟨h1, h2⟩, h3⟩, h4⟩ := hh
                subst h1
                split at h
                · rename_i i j l u' v' w' hi hj hl hu hv hw
                  split at h
                  · cases h
                  rename_i hij
                  cases h
                  simp only [Bool.or_eq_true, decide_eq_true_eq, not_or] at hij
                  simp only [List.all_cons, Bool.and_eq_true] at hvs
                  exact r_par3 g.calm g.nd (g.ix hi) (g.ix hj) (g.ix hl) hij.1.1 hij.1.2 hij.2 (by rw [g.names]; exact h2) (by rw [g.names]; exact h3) (by rw [g.names]; exact h4) (.cons ⟨S.e X C z g _ _ _ hu, hvs.1⟩ (.cons ⟨S.e X C z g _ _ _ hv, hvs.2.1⟩ (.cons ⟨S.e X C z g _ _ _ hw, hvs.2.2.1⟩ .nil))) (swp_ok g.kind (by rw [hkind]; exact hsw))
                · cases h
              · cases h
            · cases h
          · cases h
        · split at h
          · cases h
          rename_i htup
          split at h
          · rename_i t v ht hv
            cases h
            exact r_unp (S.g X C z g _ _ ht) (swt _ _) (ss_no (by simpa using htup)) one (S.e X C z g _ _ _ hv)
          · cases h
      · cases h
    · cases h; exact r_raise
    · cases h
theorem snd_ss (g : Cg X C z) (hp : PassesOwn (model X.prog X.w) X.A X.env X.xe) (sts : List Stmt) : PSs X sts (tSs X C (cSs n m z sts)) := psl_of (fun _ _ h => snd_s g hp h) sts
end
end Q
end

section
set_option Elab.async false
set_option linter.all false
set_option maxRecDepth 100000
set_option maxHeartbeats 4000000
namespace Q
open PySem PySem.Spec PyProof.Rows L2
/-! ### a program -/
structure Gl0 (mg : Str → Option Value) (gi : List (Str × Int)) : Prop where
  gi : ∀ x i, gi.lookup x = some i → ∃ t, mg x = some (.int i t)
  bi : ∀ b, mg (biP b).1 = none
  ty : ∀ t, mg (Str.ofString (tyP t)) = none
  oth : mg ("isinstance" : Str) = none ∧ mg ("range" : Str) = none ∧ mg ("enumerate" : Str) = none ∧ mg ("reversed" : Str) = none ∧ mg ("list" : Str) = none
/-- a def as it stands, and as it is in Q -/
structure Gd (K : PySem.W.Frag) (mg : Str → Option Value) (ds : List (Str × Nat)) (gi : List (Str × Int)) (T : List Fd) (nm : Str) (i : Nat) (f : Addr) (fd : FuncData) (ps : List Str) : Prop where
  ex : ∃ x qual params body scope, FunD K x qual params body scope [] [] f fd ∧ ∃ z : Sc, FnScope z.N ps scope ∧ z.names = scope.names ∧ z.tn = scope.names ∧ z.defs = ds ∧ z.gi = gi ∧ T[i]? = some ⟨ps.length, z.N.length, cSs 60 100 z body⟩
  mg : mg nm = some (.ref f)
  bd : Binds K fd ps []
theorem locB_ok {ns : List (Str × NameKind)} {x : Str} (h : locB ns x = true) : ns.lookup x = some .local ∨ ns.lookup x = some .cell := by
  unfold locB at h
  split at h
  · exact .inl (by assumption)
  · exact .inr (by assumption)
  · cases h
section
variable {P : Program} {w : World} {K : PySem.W.Frag} {mg : Str → Option Value} {base : Heap} {ds : List (Str × Nat)} {gi : List (Str × Int)} {T : List Fd}
theorem Gd.kp {nm : Str} {i : Nat} {f : Addr} {fd : FuncData} {ps : List Str} (g : Gd K mg ds gi T nm i f fd ps) : PySem.W.keepIn K (.ref f) = true := by
  obtain ⟨x, qual, params, body, scope, F, _⟩ := g.ex
  exact F.kp
theorem fn_zero {f : Addr} {fd : FuncData} {ps : List Str} {i : Nat} : FnOk P w K mg base CX0 0 f fd ps (spI K (call T 0) i) :=
  ⟨fun vs H Q E h => (by obtain ⟨cs, G, c, ds, _, _, h⟩ := h; exact h.elim), fun A outer s H args us vs Q E _ _ _ _ h => (by obtain ⟨cs, G, c, ds, _, _, h⟩ := h; exact h.elim)⟩
theorem start_at {cs : List Addr} {G H : Hp} {c : Cells} {vs : List V} {xs : List D} {fd : Fd} {N : List Str} (wd : Wd K ⟨H, G, []⟩ cs G c H) (rs : Reps K cs G vs xs) (hp : xs.length = fd.np) (hn : fd.nn = N.length) : At K ⟨H, G, []⟩ cs G ⟨frame fd xs, c⟩ (start N vs) H := by
  have hl := rs.len
  refine ⟨wd, ⟨by simp [frame, L2.start, hl, hp, hn], fun i o d h => ?_, fun i j d e v ne hi => ?_⟩⟩
  · unfold frame at h
    by_cases hi : i < (xs.map fun d => some (false, d)).length
    · rw [List.getElem?_append_left hi, List.getElem?_map] at h
      cases hx : xs[i]? with
      | none => rw [hx] at h; cases h
      | some d' =>
        rw [hx] at h
        cases h
        obtain ⟨v, e, r⟩ := rs.get hx
        refine ⟨v, ?_, r⟩
        unfold L2.start
        rw [List.getElem?_append_left (by simp at hi ⊢; omega), List.getElem?_map, e]
        rfl
    · rw [List.getElem?_append_right (Nat.le_of_not_lt hi)] at h
      rw [List.getElem?_replicate] at h
      split at h <;> cases h
  · unfold frame at hi
    by_cases h : i < (xs.map fun d => some (false, d)).length
    · rw [List.getElem?_append_left h, List.getElem?_map] at hi
      cases hx : xs[i]? with
      | none => rw [hx] at hi; cases hi
      | some d' => rw [hx] at hi; cases hi
    · rw [List.getElem?_append_right (Nat.le_of_not_lt h), List.getElem?_replicate] at hi
      split at hi <;> cases hi
/-- what a body's end is worth to the caller -/
theorem end_ok {cs : List Addr} {G H : Hp} {Q : VK} {o : Bool} {d : D} {s' : S} (q : ∀ v cs' G' H', Stp cs G H cs' G' H' → Wd K ⟨H, G, []⟩ cs' G' s'.c H' → ValR K ⟨H, G, []⟩ cs' G' H' o v d → Q v H')
    (v : V) (σ' : L2.St) (cs' : List Addr) (G' H' : Hp) (sp : Ssp ⟨H, G, []⟩ cs G H cs' G' H') (at' : At K ⟨H, G, []⟩ cs' G' s' σ' H') (vr : ValR K ⟨H, G, []⟩ cs' G' H' o v d) : Q v H' := by
  refine q v cs' G' H' ⟨sp.pre, sp.new, sp.le, fun a u n h => ?_⟩ at'.wd vr
  rcases at'.wd.fr a u h (fun m => by
    rcases sp.new a m with y | y
    · exact n y
    · rw [show (⟨H, G, []⟩ : Bs).h0 a = H a from rfl, h] at y; cases y) with x | ⟨od, x, _⟩
  · exact x
  · cases x
theorem prog (hall : ∀ nm i, ds.lookup nm = some i → ∃ f fd ps, Gd K mg ds gi T nm i f fd ps) (g0 : Gl0 mg gi) : ∀ (k : Nat) (nm : Str) (i : Nat) (f : Addr) (fd : FuncData) (ps : List Str), ds.lookup nm = some i → Gd K mg ds gi T nm i f fd ps → FnOk P w K mg base CX0 k f fd ps (spI K (call T k) i) := by
  intro k
  induction k with
  | zero => intro nm i f fd ps _ _; exact fn_zero
  | succ k ih =>
    intro nm i f fd ps hnm gd
    obtain ⟨x, qual, params, body, scope, F, z, S, e1, e2, e3, e4, hT⟩ := gd.ex
    refine F.ok S (fun vs H Q E h => ?_) (fun cdv A outer s H vs Q E hr h => ⟨tSs (cxOf CX0 P w K mg base z.N qual scope f cdv A outer s H E) (call T k) (cSs 60 100 z body), PSs.nox ?_, ?_⟩)
    · obtain ⟨cs, G, c, xs, wd, rs, h⟩ := h
      have h : Rn (match T[i]? with | none => .bad | some fd => if xs.length = fd.np then (xes (call T k) fd.body ⟨frame fd xs, c⟩).b fun fl s => match fl with
        | .nx => .ok (false, .non) s.c
        | .ret o d => .ok (o, d) s.c
        | _ => .bad else .bad) _ := h
      rw [hT] at h
      simp only at h
      split at h
      · rename_i hl
        rw [rs.len]; exact hl
      · exact h.elim
    · refine snd_ss (X := (cxOf CX0 P w K mg base z.N qual scope f cdv A outer s H E).nox) ⟨rfl, S.nd, rfl, e1.symm, S.kind, ?_, fun x hx => ?_, fun x j hx => ?_, fun x j hx => ?_, g0.bi, g0.ty, g0.oth⟩ PassesOwn.never body
      · have := hr.un
        exact Nat.lt_of_le_of_lt (by show (A.deeper _).units + 64 ≤ (A.deeper _).units + 16 * k + 200; omega) this
      · rw [e2] at hx
        exact ⟨locB_ok hx, .inl rfl⟩
      · rw [e3] at hx
        obtain ⟨f', fd', ps', gd'⟩ := hall x j hx
        exact ⟨k, f', fd', ps', ih x j f' fd' ps' hx gd', hr, gd'.mg, gd'.kp, gd'.bd⟩
      · rw [e4] at hx
        exact g0.gi x j hx
    · obtain ⟨cs, G, c, xs, wd, rs, h⟩ := h
      have h : Rn (match T[i]? with | none => .bad | some fd => if xs.length = fd.np then (xes (call T k) fd.body ⟨frame fd xs, c⟩).b fun fl s => match fl with
        | .nx => .ok (false, .non) s.c
        | .ret o d => .ok (o, d) s.c
        | _ => .bad else .bad) _ := h
      rw [hT] at h
      simp only at h
      split at h
      · rename_i hl
        refine ⟨⟨H, G, []⟩, cs, G, _, start_at (fd := ⟨ps.length, z.N.length, cSs 60 100 z body⟩) wd rs hl rfl, (Rn.b h).mono fun fl s' q => ?_⟩
        cases fl with
        | nx => exact fun σ' cs' G' H' sp at' => end_ok (o := false) (d := .non) q .non σ' cs' G' H' sp at' .non
        | bk => exact q.elim
        | ct => exact q.elim
        | ret o d => exact fun v σ' cs' G' H' sp at' vr => end_ok q v σ' cs' G' H' sp at' vr
      · exact h.elim
/-- the law's def -/
theorem law_sp {i k : Nat} {a : Addr} {ns : List Int} {H : Hp} {c : Cells} (hS : SqL K H a (ns.map V.int)) (h : call T k i [.lst (ns.map D.int)] [] = .ok (false, .bl true) c) : spI K (call T k) i [.ref a] H (fun v _ => v = .bl true) E0 := by
  have rs : ∀ ns : List Int, Reps K [] H (ns.map V.int) (ns.map D.int) := fun ns => by
    induction ns with
    | nil => exact .nil
    | cons n r ih => exact .cons (.int n) ih
  refine ⟨[], H, [], [.lst (ns.map D.int)], ⟨Le.refl _, Le.refl _, fun a o h => .inl (by rw [show (⟨H, H, []⟩ : Bs).g0 a = H a from rfl, h]; simp), fun a m => (by cases m), List.nodup_nil, rfl, fun n a ds h => (by simp at h), fun p m => (by cases m), fun a o h _ => .inl h⟩, .cons (.lst hS (rs ns)) .nil, ?_⟩
  rw [h]
  intro v cs' G' H' st wd vr
  exact (show Rep K cs' G' v (.bl true) from vr).bl_inv
end
end Q
end

section
set_option Elab.async false
set_option linter.all false
set_option maxRecDepth 100000
set_option maxHeartbeats 4000000
/-! ### how Q runs -/
namespace Q
theorem smI_of {i : Int} (h : i.natAbs < 2 ^ 1000) : smI i = true := by
  unfold smI
  rw [decide_eq_true_eq]
  exact Nat.lt_of_lt_of_le h (Nat.pow_le_pow_right (by decide) (by decide))
theorem call_eq {T : List Fd} {k f : Nat} {ds : List D} {c : Cells} {fd : Fd} (h : T[f]? = some fd) (hl : ds.length = fd.np) : call T (k + 1) f ds c = (xes (call T k) fd.body ⟨frame fd ds, c⟩).b fun fl s => match fl with
      | .nx => .ok (false, .non) s.c
      | .ret o d => .ok (o, d) s.c
      | _ => .bad := by
  unfold call
  rw [h]
  simp only [hl, if_pos]
  all_goals rfl
theorem whl_iter {t : S → R S Bool} {f : S → R S Fl} {st : Nat → S} {M : Nat} (h1 : ∀ k, k < M → t (st k) = .ok true (st k) ∧ (f (st k) = .ok .nx (st (k + 1)) ∨ f (st k) = .ok .ct (st (k + 1)))) (h2 : t (st M) = .ok false (st M)) : ∀ {n : Nat}, M < n → whlL t f n (st 0) = .ok .nx (st M) := by
  have : ∀ (j : Nat), j ≤ M → ∀ n, j < n → whlL t f n (st (M - j)) = .ok .nx (st M) := by
    intro j
    induction j with
    | zero => intro _ n hn; cases n with
      | zero => omega
      | succ n => simp only [whlL, Nat.sub_zero, h2, R.b_ok]; rfl
    | succ j ih => intro hj n hn; cases n with
      | zero => omega
      | succ n =>
        obtain ⟨e1, e2⟩ := h1 (M - (j + 1)) (by omega)
        have e3 : M - (j + 1) + 1 = M - j := by omega
        simp only [whlL, e1, R.b_ok, if_true]
        rcases e2 with e2 | e2 <;> (rw [e2, e3]; exact ih (by omega) n (by omega))
  intro n hn
  have := this M (Nat.le_refl _) n hn
  rwa [Nat.sub_self] at this
theorem for_iter {f : D → S → R S Fl} : ∀ {xs : List D} {st : Nat → S}, (∀ k x, xs[k]? = some x → f x (st k) = .ok .nx (st (k + 1)) ∨ f x (st k) = .ok .ct (st (k + 1))) → forL f xs (st 0) = .ok .nx (st xs.length)
  | [], st, h => rfl
  | x :: xs, st, h => by
    have h0 := h 0 x rfl
    have ih := for_iter (f := f) (xs := xs) (st := fun k => st (k + 1)) fun k y hy => h (k + 1) y (by simpa using hy)
    simp only [forL]
    rcases h0 with h0 | h0 <;> (rw [h0]; exact ih)
/-- an invariant through a for -/
theorem for_inv {f : D → S → R S Fl} {I : Nat → S → Prop} : ∀ {xs : List D} {i : Nat} {s : S}, I i s → (∀ k x s, xs[k]? = some x → I (i + k) s → ∃ s', (f x s = .ok .nx s' ∨ f x s = .ok .ct s') ∧ I (i + k + 1) s') → ∃ s', forL f xs s = .ok .nx s' ∧ I (i + xs.length) s'
  | [], i, s, h, _ => ⟨s, rfl, h⟩
  | x :: xs, i, s, h, hs => by
    obtain ⟨s1, e, h1⟩ := hs 0 x s rfl h
    obtain ⟨s2, e2, h2⟩ := for_inv (f := f) (I := I) (xs := xs) (i := i + 1) h1 fun k y s hy hi => by
      have := hs (k + 1) y s (by simpa using hy) (by rw [show i + (k + 1) = i + 1 + k by omega]; exact hi)
      rwa [show i + (k + 1) + 1 = i + 1 + k + 1 by omega] at this
    refine ⟨s2, ?_, by rw [List.length_cons, show i + (xs.length + 1) = i + 1 + xs.length by omega]; exact h2⟩
    simp only [forL]
    rcases e with e | e <;> (rw [e]; exact e2)
def lcFn (C : Cl) (e : Ex) (t : Tg) (cond : Option Ex) (own : List Nat) : D → S → R S (Option D) := fun x s => (R.of (asg t x (wipeR s.r own)) s).b fun r s => (evT C cond ⟨r, s.c⟩).b fun b s =>
  if b then (ev C e s).b fun y s => if y.1 && isPk e then .bad else .ok (some y.2) s else .ok none s
theorem lcL_map {f : D → S → R S (Option D)} {h : D → Option D} {w : Row} {own : List Nat} {c : Cells} : ∀ {xs : List D} {s : S} {acc : List D}, (∀ x ∈ xs, ∀ s, wipeR s.r own = w → s.c = c → ∃ s', f x s = .ok (h x) s' ∧ wipeR s'.r own = w ∧ s'.c = c) → wipeR s.r own = w → s.c = c → acc.length + xs.length ≤ lim →
    ∃ s', lcL f xs s acc = .ok (acc ++ xs.filterMap h) s' ∧ wipeR s'.r own = w ∧ s'.c = c
  | [], s, acc, _, hw, hc, _ => ⟨s, by simp [lcL], hw, hc⟩
  | x :: xs, s, acc, hf, hw, hc, hl => by
    obtain ⟨s1, e1, w1, c1⟩ := hf x (by simp) s hw hc
    simp only [List.length_cons] at hl
    cases hx : h x with
    | none =>
      obtain ⟨s2, e2, w2, c2⟩ := lcL_map (f := f) (h := h) (xs := xs) (acc := acc) (fun y hy => hf y (by simp [hy])) w1 c1 (by omega)
      refine ⟨s2, ?_, w2, c2⟩
      simp only [lcL, e1, hx, R.b_ok, List.filterMap_cons]
      exact e2
    | some d =>
      obtain ⟨s2, e2, w2, c2⟩ := lcL_map (f := f) (h := h) (xs := xs) (acc := acc ++ [d]) (fun y hy => hf y (by simp [hy])) w1 c1 (by simp; omega)
      refine ⟨s2, ?_, w2, c2⟩
      simp only [lcL, e1, hx, R.b_ok, List.filterMap_cons]
      rw [if_pos (by omega), e2]
      simp
theorem back_wipe {old : Row} : ∀ {own : List Nat} {r : Row}, wipeR r own = wipeR old own → (∀ i ∈ own, i < old.length) → backR old r own = old := by
  intro own r hw hl
  have hlen : r.length = old.length := by
    have := congrArg List.length hw
    rwa [wipe_len, wipe_len] at this
  apply List.ext_getElem?
  intro i
  by_cases m : i ∈ own
  · exact back_in _ _ _ _ hlen m
  · rw [back_out _ _ _ _ m, ← wipe_out' r own i m, hw, wipe_out' _ _ _ m]
/-- a comprehension whose turns tell h -/
theorem ev_lc {C : Cl} {e : Ex} {t : Tg} {k : Ik} {its : List Ex} {cond : Option Ex} {own : List Nat} {s s1 : S} {ds xs : List D} (h : D → Option D) (hg : (tgIn own t && notOwn own s.r) = true) (h1 : evA C its s = .ok ds s1) (h2 : itD k ds = some xs) (hl : xs.length ≤ lim) (ho : ∀ i ∈ own, i < s1.r.length)
    (hf : ∀ x ∈ xs, ∀ s', wipeR s'.r own = wipeR (fzD its s1.r) own → s'.c = s1.c → ∃ s'', lcFn C e t cond own x s' = .ok (h x) s'' ∧ wipeR s''.r own = wipeR (fzD its s1.r) own ∧ s''.c = s1.c) :
    ev C (.lc e t k its cond own) s = .ok (true, .lst (xs.filterMap h)) ⟨fzD its s1.r, s1.c⟩ := by
  obtain ⟨s2, e2, w2, c2⟩ := lcL_map (f := lcFn C e t cond own) (h := h) (w := wipeR (fzD its s1.r) own) (own := own) (c := s1.c) (xs := xs) (s := ⟨fzD its s1.r, s1.c⟩) (acc := []) hf rfl rfl (by simpa using hl)
  have e : ev C (.lc e t k its cond own) s = (if !(tgIn own t && notOwn own s.r) then .bad else (evA C its s).b fun ds s => (R.of (itD k ds) ⟨fzD its s.r, s.c⟩).b fun xs s0 =>
      (lcL (lcFn C e t cond own) xs s0 []).b fun acc s => .ok (true, .lst acc) ⟨backR s0.r s.r own, s.c⟩) := rfl
  rw [e, hg, h1]
  simp only [Bool.not_true, Bool.false_eq_true, if_false, R.b_ok, h2, R.of_some]
  rw [e2]
  simp only [R.b_ok, List.nil_append]
  rw [back_wipe w2 (fun i hi => by rw [(fol_fzD its s1.r).1]; exact ho i hi), c2]
section
variable {C : Cl} {s : S} {a b c e x y z : Ex} {es : List Ex} {xs ys : List Sx} {d : D} {i : Nat}
@[simp] theorem ev_c : ev C (.c d) s = .ok (false, d) s := (rfl)
@[simp] theorem ev_v : ev C (.v i) s = (match s.r[i]? with | some (some od) => .ok od s | _ => .bad) := (rfl)
@[simp] theorem ev_fz : ev C (.fz i) s = (match s.r[i]? with | some (some od) => .ok (false, od.2) ⟨s.r.set i (some (false, od.2)), s.c⟩ | _ => .bad) := (rfl)
@[simp] theorem ev_bin {o : Op} : ev C (.bin o a b) s = (ev C a s).b fun x s => (ev C b s).b fun y s => R.of (binD o x.2 y.2) s := (rfl)
@[simp] theorem ev_neg : ev C (.neg a) s = (ev C a s).b fun x s => (match x.2 with | .int i => .ok (false, .int (-i)) s | _ => .bad) := (rfl)
@[simp] theorem ev_cmp {o : Cm} : ev C (.cmp o a b) s = (ev C a s).b fun x s => (ev C b s).b fun y s => (R.of (cmpD o x.2 y.2) s).b fun t s => .ok (false, .bl t) s := (rfl)
@[simp] theorem ev_chn {o p : Cm} : ev C (.chn o p a b c) s = (ev C a s).b fun x s => (ev C b s).b fun y s => (R.of (cmpD o x.2 y.2) s).b fun t s =>
      if t then (ev C c s).b fun z s => (R.of (cmpD p y.2 z.2) s).b fun t s => .ok (false, .bl t) s else .ok (false, .bl false) s := (rfl)
@[simp] theorem ev_and : ev C (.and a b) s = (ev C a s).b fun x s => (tru x s).b fun t s => if t then ev C b s else .ok x s := (rfl)
@[simp] theorem ev_or : ev C (.or a b) s = (ev C a s).b fun x s => (tru x s).b fun t s => if t then .ok x s else ev C b s := (rfl)
@[simp] theorem ev_not : ev C (.not a) s = (ev C a s).b fun x s => (tru x s).b fun t s => .ok (false, .bl (!t)) s := (rfl)
@[simp] theorem ev_ite : ev C (.ite c a b) s = (ev C c s).b fun x s => (tru x s).b fun t s => if t then ev C a s else ev C b s := (rfl)
@[simp] theorem ev_tup : ev C (.tup es) s = (evF C es s).b fun ds s => .ok (false, .tup ds) s := (rfl)
@[simp] theorem ev_lst : ev C (.lst es) s = (evF C es s).b fun ds s => .ok (true, .lst ds) s := (rfl)
@[simp] theorem ev_dct : ev C (.dct es) s = (evF C es s).b fun ds s => (R.of (mkD ds []) s).b fun kvs s => .ok (true, .dct kvs) s := (rfl)
@[simp] theorem ev_ix : ev C (.ix a b) s = (ev C a s).b fun x s => (ev C b s).b fun y s => (R.of (ixD x.2 y.2) s).b fun d s => .ok (false, d) s := (rfl)
@[simp] theorem ev_call : ev C (.call i es) s = (evA C es s).b fun ds s => callD C i es ds s := (rfl)
@[simp] theorem ev_callS : ev C (.callS i a es) s = (ev C a s).b fun x s => (evA C es s).b fun ds s => (match x.2 with | .tup xs => callD C i es (xs ++ ds) s | _ => .bad) := (rfl)
@[simp] theorem ev_bi {t : Bi} : ev C (.bi t es) s = (evA C es s).b fun ds s => R.of (biD t ds s.c) s := (rfl)
@[simp] theorem ev_isi {t : Ty} : ev C (.isi a t) s = (ev C a s).b fun x s => (R.of (isD x.2 t) s).b fun t s => .ok (false, .bl t) s := (rfl)
@[simp] theorem ev_get : ev C (.get a b c) s = (ev C a s).b fun x s => (ev C b s).b fun y s => (ev C c s).b fun z s => (match x.2 with
    | .dct kvs => if isKey y.2 && !(z.1 && isPk c) then .ok (false, (getD kvs y.2).getD z.2) s else .bad
    | _ => .bad) := (rfl)
@[simp] theorem ev_lrev : ev C (.lrev a) s = (ev C a s).b fun x s => (match x.2 with | .lst xs => .ok (true, .lst xs.reverse) s | _ => .bad) := (rfl)
@[simp] theorem evA_nil : evA C [] s = .ok [] s := (rfl)
@[simp] theorem evA_cons : evA C (e :: es) s = (ev C e s).b fun x s => if x.1 && isPk e && !isV e then .bad else (evA C es s).b fun ds s => .ok (x.2 :: ds) s := (rfl)
@[simp] theorem evF_nil : evF C [] s = .ok [] s := (rfl)
@[simp] theorem evF_cons : evF C (e :: es) s = (ev C e s).b fun x s => if x.1 && isPk e then .bad else (evF C es s).b fun ds s => .ok (x.2 :: ds) s := (rfl)
@[simp] theorem evP_nil : evP C [] s = .ok [] s := (rfl)
@[simp] theorem evP_cons : evP C (e :: es) s = (ev C e s).b fun x s => if x.1 && isPk e then .bad else (evP C es s).b fun ds s => .ok (x :: ds) s := (rfl)
@[simp] theorem evT_none : evT C none s = .ok true s := (rfl)
@[simp] theorem evT_some : evT C (some e) s = (ev C e s).b fun x s => tru x s := (rfl)
@[simp] theorem xes_nil : xes C [] s = .ok .nx s := (rfl)
theorem xes_cons {x : Sx} : xes C (x :: xs) s = (xe C x s).b fun fl s => (match fl with | .nx => xes C xs s | .ret o d => .ok (.ret o d) s | .bk => .ok .bk s | .ct => .ok .ct s) := rfl
theorem xes_nx {x : Sx} {s1 : S} (h : xe C x s = .ok .nx s1) : xes C (x :: xs) s = xes C xs s1 := by rw [xes_cons, h]; rfl
theorem xes_ret {x : Sx} {s1 : S} {o : Bool} {d : D} (h : xe C x s = .ok (.ret o d) s1) : xes C (x :: xs) s = .ok (.ret o d) s1 := by rw [xes_cons, h]; rfl
@[simp] theorem xe_set : xe C (.set i e) s = (ev C e s).b fun x s => if x.1 && isPk e then .bad else .ok .nx ⟨s.r.set i (some (false, x.2)), s.c⟩ := (rfl)
@[simp] theorem xe_own : xe C (.own i e) s = (ev C e s).b fun x s => if x.1 && isPk e then .bad else .ok .nx ⟨s.r.set i (some x), s.c⟩ := (rfl)
@[simp] theorem xe_unp {t : Tg} : xe C (.unp t e) s = (ev C e s).b fun x s => if x.1 && isPk e then .bad else (R.of (asg t x.2 s.r) s).b fun r s => .ok .nx ⟨r, s.c⟩ := (rfl)
@[simp] theorem xe_par {is : List (Nat × Bool)} : xe C (.par is es) s = (evP C es s).b fun ds s => (R.of (parR is ds s.r) s).b fun r s => .ok .nx ⟨r, s.c⟩ := (rfl)
@[simp] theorem xe_aug {o : Op} : xe C (.aug i o e) s = (match s.r[i]? with
    | some (some (_, .int n)) => (ev C e s).b fun y s => (match o, y.2 with
      | .add, .int m => .ok .nx ⟨s.r.set i (some (false, .int (n + m))), s.c⟩
      | .sub, .int m => .ok .nx ⟨s.r.set i (some (false, .int (n - m))), s.c⟩
      | _, _ => .bad)
    | _ => .bad) := (rfl)
@[simp] theorem xe_app : xe C (.app i e) s = (ev C e s).b fun x s => if x.1 && isPk e then .bad else (match s.r[i]? with
    | some (some (true, .lst ds)) => if ds.length < lim then .ok .nx ⟨s.r.set i (some (true, .lst (ds ++ [x.2]))), s.c⟩ else .bad
    | _ => .bad) := (rfl)
@[simp] theorem xe_expr : xe C (.expr e) s = (ev C e s).b fun _ s => .ok .nx s := (rfl)
@[simp] theorem xe_ret : xe C (.ret e) s = (ev C e s).b fun x s => .ok (.ret x.1 x.2) s := (rfl)
@[simp] theorem xe_retN : xe C .retN s = .ok (.ret false .non) s := (rfl)
@[simp] theorem xe_ite : xe C (.ite c xs ys) s = (ev C c s).b fun x s => (tru x s).b fun t s => if t then xes C xs s else xes C ys s := (rfl)
@[simp] theorem xe_pass : xe C .pass s = .ok .nx s := (rfl)
@[simp] theorem xe_raise : xe C (.raise i) s = .exc i s.c := (rfl)
theorem xe_whl : xe C (.whl c xs) s = whlL (fun s => (ev C c s).b fun x s => tru x s) (fun s => xes C xs s) turns s := rfl
theorem xe_for {t : Tg} {k : Ik} : xe C (.for_ t k es xs) s = (evF C es s).b fun ds s => (R.of (itD k ds) s).b fun ys s => forL (fun x s => (R.of (asg t x s.r) s).b fun r s => xes C xs ⟨r, s.c⟩) ys s := rfl
@[simp] theorem xes_one {x : Sx} : xes C [x] s = xe C x s := by
  rw [xes_cons]
  cases h : xe C x s with
  | ok a s => cases a <;> rfl
  | exc e c => rfl
  | bad => rfl
@[simp] theorem tru_bl {b t : Bool} : tru (t, .bl b) s = .ok b s := (rfl)
@[simp] theorem binD_add {i j : Int} : binD .add (.int i) (.int j) = some (false, .int (i + j)) := (rfl)
@[simp] theorem binD_sub {i j : Int} : binD .sub (.int i) (.int j) = some (false, .int (i - j)) := (rfl)
@[simp] theorem binD_mul {i j : Int} : binD .mul (.int i) (.int j) = if smI i && smI j then some (false, .int (i * j)) else none := (rfl)
@[simp] theorem binD_fdiv {i j : Int} : binD .fdiv (.int i) (.int j) = if decide (0 < j) && smI j then some (false, .int (i / j)) else none := (rfl)
@[simp] theorem binD_mod {i j : Int} : binD .mod (.int i) (.int j) = if 0 < j then some (false, .int (i % j)) else none := (rfl)
@[simp] theorem cmp_eq_int {i j : Int} : cmpD .eq (.int i) (.int j) = some (decide (i = j)) := by
  have h : eqD (.int i) (.int j) = (i == j) := by unfold eqD; rfl
  show (if pl 60 (.int i) && pl 60 (.int j) then some (eqD (.int i) (.int j)) else none) = _
  rw [h]
  by_cases e : i = j <;> simp [pl, e]
@[simp] theorem cmp_ne_int {i j : Int} : cmpD .ne (.int i) (.int j) = some (!decide (i = j)) := by
  have h : eqD (.int i) (.int j) = (i == j) := by unfold eqD; rfl
  show (if pl 60 (.int i) && pl 60 (.int j) then some (!eqD (.int i) (.int j)) else none) = _
  rw [h]
  by_cases e : i = j <;> simp [pl, e]
@[simp] theorem cmp_ne_bl {i j : Bool} : cmpD .ne (.bl i) (.bl j) = some (i != j) := by
  cases i <;> cases j <;> simp [cmpD, eqD, pl]
@[simp] theorem cmp_lt {i j : Int} : cmpD .lt (.int i) (.int j) = some (decide (i < j)) := (rfl)
@[simp] theorem cmp_le {i j : Int} : cmpD .le (.int i) (.int j) = some (decide (i ≤ j)) := (rfl)
@[simp] theorem cmp_gt {i j : Int} : cmpD .gt (.int i) (.int j) = some (decide (j < i)) := (rfl)
@[simp] theorem cmp_ge {i j : Int} : cmpD .ge (.int i) (.int j) = some (decide (j ≤ i)) := (rfl)
@[simp] theorem cmp_is_non {x : D} : cmpD .is x .non = some (isNon x) := by cases x <;> rfl
@[simp] theorem cmp_isn_non {x : D} : cmpD .isn x .non = some (!isNon x) := by cases x <;> rfl
@[simp] theorem cmp_isn_bl {a b : Bool} : cmpD .isn (.bl a) (.bl b) = some (a != b) := (rfl)
@[simp] theorem ix_tup0 {x : D} {ds : List D} : ixD (.tup (x :: ds)) (.int 0) = some x := by simp [ixD, atD, ixN]
@[simp] theorem ix_tup1 {x y : D} {ds : List D} : ixD (.tup (x :: y :: ds)) (.int 1) = some y := by
  have : (1 : Int) < (ds.length : Int) + 1 + 1 := by omega
  simp [ixD, atD, ixN, this]
@[simp] theorem ix_tup2 {x y z : D} {ds : List D} : ixD (.tup (x :: y :: z :: ds)) (.int 2) = some z := by
  have : (2 : Int) < (ds.length : Int) + 1 + 1 + 1 := by omega
  simp [ixD, atD, ixN, this]
theorem ix_lst {ds : List D} {j : Nat} {x : D} {i : Int} (hi : i = (j : Nat)) (h : ds[j]? = some x) : ixD (.lst ds) (.int i) = some x := by
  have hl := (List.getElem?_eq_some_iff.mp h).1
  subst hi
  have : (j : Int) < ds.length := by omega
  simp [ixD, atD, ixN, this, h]
@[simp] theorem ix_last {ds : List D} {x : D} : ixD (.lst (ds ++ [x])) (.int (-1)) = some x := by
  have h2 : -((ds.length : Int) + 1) ≤ -1 := by omega
  have h3 : ((-1 : Int) + ((ds.length : Int) + 1)).toNat = ds.length := by omega
  simp [ixD, atD, ixN, h2, h3]
end
section
@[simp] theorem bi_min {i j : Int} {c : Cells} : biD .min [.int i, .int j] c = some (false, .int (min i j)) := by
  show some (false, D.int (if j < i then j else i)) = _
  congr 3
  split <;> omega
@[simp] theorem bi_max {i j : Int} {c : Cells} : biD .max [.int i, .int j] c = some (false, .int (max i j)) := by
  show some (false, D.int (if j > i then j else i)) = _
  congr 3
  split <;> omega
@[simp] theorem bi_abs {i : Int} {c : Cells} : biD .abs [.int i] c = some (false, .int (i.natAbs : Int)) := by
  show some (false, D.int (if i < 0 then -i else i)) = _
  congr 3
  split <;> omega
@[simp] theorem bi_lenl {ds : List D} {c : Cells} : biD .len [.lst ds] c = some (false, .int ds.length) := (rfl)
@[simp] theorem bi_lent {ds : List D} {c : Cells} : biD .len [.tup ds] c = some (false, .int ds.length) := (rfl)
@[simp] theorem bi_int {i : Int} {c : Cells} : biD .int [.int i] c = some (false, .int i) := (rfl)
@[simp] theorem bi_intb {b : Bool} {c : Cells} : biD .int [.bl b] c = some (false, .int (bI b)) := (rfl)
theorem ints_map : ∀ ns : List Int, intsD (ns.map .int) = some ns
  | [] => rfl
  | n :: ns => by simp [intsD, ints_map ns]
theorem bi_sum {ns : List Int} {c : Cells} : biD .sum [.lst (ns.map .int)] c = some (false, .int ns.sum) := by
  show (intsD (ns.map .int)).map _ = _
  rw [ints_map]; rfl
theorem bls_map : ∀ ns : List Bool, blsD (ns.map .bl) = some ns
  | [] => rfl
  | n :: ns => by simp [blsD, bls_map ns]
theorem bi_all {ns : List Bool} {c : Cells} : biD .all [.lst (ns.map .bl)] c = some (false, .bl (ns.all id)) := by
  show (blsD (ns.map .bl)).map _ = _
  rw [bls_map]; rfl
/-- smallness -/
def sml (k : Nat) (i : Int) : Prop := i.natAbs < 2 ^ k
theorem sml.sm {k : Nat} {i : Int} (h : sml k i) (hk : k ≤ 6000) : smI i = true := by
  unfold smI
  rw [decide_eq_true_eq]
  exact Nat.lt_of_lt_of_le h (Nat.pow_le_pow_right (by decide) hk)
theorem sml.mono {k j : Nat} {i : Int} (h : sml k i) (hk : k ≤ j) : sml j i := Nat.lt_of_lt_of_le h (Nat.pow_le_pow_right (by decide) hk)
theorem sml.two {k : Nat} {i : Int} (h : sml k i) : sml (k + 1) (2 * i) := by
  unfold sml at *
  rw [Nat.pow_succ]
  omega
theorem sml.le {k : Nat} {i j : Int} (h : sml k i) (h0 : 0 ≤ j) (hj : j ≤ i) : sml k j := by
  unfold sml at *
  omega
end
theorem call_ret {T : List Fd} {k f np nn : Nat} {b : List Sx} {ds : List D} {c : Cells} {o : Bool} {d : D} {s : S} (h : T[f]? = some ⟨np, nn, b⟩) (hl : ds.length = np) (e : xes (call T k) b ⟨ds.map (fun d => some (false, d)) ++ List.replicate (nn - np) none, c⟩ = .ok (.ret o d) s) : call T (k + 1) f ds c = .ok (o, d) s.c := by
  rw [call_eq h hl]
  show (xes (call T k) b _).b _ = _
  rw [show frame ⟨np, nn, b⟩ ds = ds.map (fun d => some (false, d)) ++ List.replicate (nn - np) none from rfl, e]
  rfl
theorem call_nx {T : List Fd} {k f np nn : Nat} {b : List Sx} {ds : List D} {c : Cells} {s : S} (h : T[f]? = some ⟨np, nn, b⟩) (hl : ds.length = np) (e : xes (call T k) b ⟨ds.map (fun d => some (false, d)) ++ List.replicate (nn - np) none, c⟩ = .ok .nx s) : call T (k + 1) f ds c = .ok (false, .non) s.c := by
  rw [call_eq h hl]
  show (xes (call T k) b _).b _ = _
  rw [show frame ⟨np, nn, b⟩ ds = ds.map (fun d => some (false, d)) ++ List.replicate (nn - np) none from rfl, e]
  rfl
theorem whl_true {t : S → R S Bool} {f : S → R S Fl} {n : Nat} {s s1 s2 : S} (h : t s = .ok true s1) (h2 : f s1 = .ok .nx s2) : whlL t f (n + 1) s = whlL t f n s2 := by
  simp only [whlL, h, R.b_ok, if_true, h2]
theorem whl_false {t : S → R S Bool} {f : S → R S Fl} {n : Nat} {s s1 : S} (h : t s = .ok false s1) : whlL t f (n + 1) s = .ok .nx s1 := by
  simp only [whlL, h, R.b_ok]
  rfl
theorem whl_ret {t : S → R S Bool} {f : S → R S Fl} {n : Nat} {s s1 s2 : S} {o : Bool} {d : D} (h : t s = .ok true s1) (h2 : f s1 = .ok (.ret o d) s2) : whlL t f (n + 1) s = .ok (.ret o d) s2 := by
  simp only [whlL, h, R.b_ok, if_true, h2]
/-- a comprehension whose turns leave all as it is -/
theorem ev_lcP {C : Cl} {e : Ex} {t : Tg} {k : Ik} {its : List Ex} {cond : Option Ex} {own : List Nat} {s s1 : S} {ds xs ys : List D} {w : Row} (h : D → Option D) (h1 : evA C its s = .ok ds s1) (h2 : itD k ds = some xs) (hg : (tgIn own t && notOwn own s.r) = true) (hl : xs.length ≤ lim) (ho : ∀ i ∈ own, i < s1.r.length) (hw : wipeR (fzD its s1.r) own = w)
    (hf : ∀ x ∈ xs, ∃ r1, asg t x w = some r1 ∧ wipeR r1 own = w ∧ ((evT C cond ⟨r1, s1.c⟩ = .ok false ⟨r1, s1.c⟩ ∧ h x = none) ∨ (evT C cond ⟨r1, s1.c⟩ = .ok true ⟨r1, s1.c⟩ ∧ ∃ y, ev C e ⟨r1, s1.c⟩ = .ok y ⟨r1, s1.c⟩ ∧ (y.1 && isPk e) = false ∧ h x = some y.2))) (hy : xs.filterMap h = ys) :
    ev C (.lc e t k its cond own) s = .ok (true, .lst ys) ⟨fzD its s1.r, s1.c⟩ := by
  rw [← hy]
  refine ev_lc h hg h1 h2 hl ho fun x hx s' hw' hc' => ?_
  obtain ⟨r1, e1, e2, e3⟩ := hf x hx
  rw [hw] at hw' ⊢
  unfold lcFn
  rw [hw', e1]
  simp only [R.of_some, R.b_ok, hc']
  rcases e3 with ⟨e3, e4⟩ | ⟨e3, y, e4, e5, e6⟩
  · rw [e3]
    simp only [R.b_ok]
    exact ⟨⟨r1, s1.c⟩, by rw [e4]; rfl, e2, rfl⟩
  · rw [e3]
    simp only [R.b_ok, if_true]
    rw [e4]
    simp only [R.b_ok, e5]
    exact ⟨⟨r1, s1.c⟩, by rw [e6]; rfl, e2, rfl⟩
theorem itD_rng {i : Int} (h : isRng i = true) : itD .rng [.int i] = some (rngD 0 i.toNat) := if_pos h
theorem itD_rng2 {i j : Int} (h : isRng i = true) (h2 : isRng j = true) : itD .rng [.int i, .int j] = some (rngD i (j - i).toNat) := if_pos (by rw [h, h2]; rfl)
theorem rng_ok {i : Int} (h : 0 ≤ i) (h2 : i ≤ 1000000) : isRng i = true := by
  unfold isRng
  rw [Bool.and_eq_true, decide_eq_true_eq, decide_eq_true_eq]
  exact ⟨Int.le_trans (by decide) h, Int.lt_of_le_of_lt h2 (by decide)⟩
theorem xe_for_of {C : Cl} {t : Tg} {k : Ik} {es : List Ex} {xs : List Sx} {s s1 : S} {ds ys : List D} (h1 : evF C es s = .ok ds s1) (h2 : itD k ds = some ys) : xe C (.for_ t k es xs) s = forL (fun x s => (R.of (asg t x s.r) s).b fun r s => xes C xs ⟨r, s.c⟩) ys s1 := by
  rw [xe_for, h1, R.b_ok, h2]
  rfl
end Q
end

section
set_option Elab.async false
set_option linter.all false
set_option maxRecDepth 100000
set_option maxHeartbeats 0
namespace Hd
open PySem PySem.Spec PyProof.Rows L2
def top (i : Nat) : Stmt := PySem.Challenge.pw_coopward_k07_whole_great_loans.main.body.getD i (.Pass ⟨0, 0, 0, 0⟩)
def dd (i : Nat) (x : Str) : He.DefD := ⟨(x, none), x, x, defArgs (top i), defBody (top i), defScope (top i), [], []⟩
def fn0 : List He.DefD := [dd 5 "is_integer", dd 6 "is_within", dd 7 "check", dd 8 "shared", dd 9 "ratio", dd 10 "is_count", dd 15 "is_rate", dd 16 "is_loan", dd 17 "check_loan", dd 18 "interest_on", dd 19 "never_by", dd 20 "month_of", dd 21 "rows_by", dd 22 "row_of_loan", dd 23 "months_of", dd 24 "all_interest", dd 25 "left_after", dd 26 "least_pay", dd 27 "debt_after", dd 28 "check_extra", dd 29 "row_with", dd 30 "saved_by", dd 31 "is_never", dd 32 "last_payment", dd 33 "halved_at"]
def fn1 : List He.DefD := [dd 34 "cheaper_of", dd 36 "takes_loan", dd 38 "_law_draws", dd 39 "_law_take", dd 40 "_law_pick", dd 41 "_law_same", dd 42 "_law_rate", dd 43 "_law_interest", dd 44 "law"]
def fn : List He.DefD := fn0 ++ fn1
def fa0 : List He.Fa := [.glo "is_integer", .glo "is_within", .glo "check", .glo "shared", .glo "ratio", .glo "is_count", .glo "is_rate", .glo "is_loan", .glo "check_loan", .glo "interest_on", .glo "never_by", .glo "month_of", .glo "rows_by", .glo "row_of_loan", .glo "months_of", .glo "all_interest", .glo "left_after", .glo "least_pay", .glo "debt_after", .glo "check_extra", .glo "row_with", .glo "saved_by", .glo "is_never", .glo "last_payment", .glo "halved_at"]
def fa1 : List He.Fa := [.glo "cheaper_of", .glo "takes_loan", .glo "_law_draws", .glo "_law_take", .glo "_law_pick", .glo "_law_same", .glo "_law_rate", .glo "_law_interest", .glo "law", .free "len", .free "abs", .free "max", .free "min", .free "sum", .free "int", .free "all", .free "list", .free "bool", .free "str", .free "tuple", .free "dict", .free "isinstance", .free "range", .free "enumerate", .free "reversed"]
def fa2 : List He.Fa := [.int "MOST_DEBT" 1000000000, .int "MOST_MONTHS" 2400, .int "MOST_TERM" 600]
def fa : List He.Fa := fa0 ++ fa1 ++ fa2
abbrev R : PySem.W.OpenRow := PySem.W.OpenLaw.row PySem.Challenge.rw_coopward_k07_whole_great_loans
def lo0 : List PySem.Str := ["CoopError", "NotRight", "NoAnswer", "TooLarge", "is_integer", "is_within", "check", "shared", "ratio", "is_count", "MOST_DEBT", "MOST_MONTHS", "MOST_TERM", "is_rate", "is_loan", "check_loan", "interest_on", "never_by", "month_of", "rows_by", "row_of_loan", "months_of", "all_interest", "left_after", "least_pay"]
def lo1 : List PySem.Str := ["debt_after", "check_extra", "row_with", "saved_by", "is_never", "last_payment", "halved_at", "cheaper_of", "takes_loan", "_law_draws", "_law_take", "_law_pick", "_law_same", "_law_rate", "_law_interest"]
def names : List PySem.Str := lo0 ++ lo1
abbrev hk : PySem.W.Hook := He.hookD 4 fa fn
def ob (s : PySem.W.SharedT) : He.AlD := He.obsDG 4 fa fn (HandSHeadRun.getT s)
theorem ob_eq (s : PySem.W.SharedT) : ob s = hk.obs s.abs := He.obsDG_eq (HandSHeadRun.getT_eq s)
theorem run (w : World) : HandSHeadRun.RunEq R (PySem.W.view R.prog [44]) hk ob 6000 names w := by
  intro os
  kernel_rfl
def ds0 : List (Str × Nat) := [("is_integer", 0), ("is_within", 1), ("check", 2), ("shared", 3), ("ratio", 4), ("is_count", 5), ("is_rate", 6), ("is_loan", 7), ("check_loan", 8), ("interest_on", 9), ("never_by", 10), ("month_of", 11), ("rows_by", 12), ("row_of_loan", 13), ("months_of", 14), ("all_interest", 15), ("left_after", 16), ("least_pay", 17), ("debt_after", 18), ("check_extra", 19), ("row_with", 20), ("saved_by", 21), ("is_never", 22), ("last_payment", 23), ("halved_at", 24)]
def ds1 : List (Str × Nat) := [("cheaper_of", 25), ("takes_loan", 26), ("_law_draws", 27), ("_law_take", 28), ("_law_pick", 29), ("_law_same", 30), ("_law_rate", 31), ("_law_interest", 32), ("law", 33)]
def ds : List (Str × Nat) := ds0 ++ ds1
def gi0 : List (Str × Int) := [("MOST_DEBT", 1000000000), ("MOST_MONTHS", 2400), ("MOST_TERM", 600)]
def gi : List (Str × Int) := gi0
def z0 : Q.Sc := ⟨["value"], (defScope (top 5)).names, (defScope (top 5)).names, ds, gi, [], []⟩
def b0 : List Q.Sx := Q.cSs 60 100 z0 (defBody (top 5))
def z1 : Q.Sc := ⟨["value", "low", "high"], (defScope (top 6)).names, (defScope (top 6)).names, ds, gi, [], []⟩
def b1 : List Q.Sx := Q.cSs 60 100 z1 (defBody (top 6))
def z2 : Q.Sc := ⟨["is_right"], (defScope (top 7)).names, (defScope (top 7)).names, ds, gi, [], []⟩
def b2 : List Q.Sx := Q.cSs 60 100 z2 (defBody (top 7))
def z3 : Q.Sc := ⟨["one", "other"], (defScope (top 8)).names, (defScope (top 8)).names, ds, gi, [], []⟩
def b3 : List Q.Sx := Q.cSs 60 100 z3 (defBody (top 8))
def z4 : Q.Sc := ⟨["number", "divisor", "least"], (defScope (top 9)).names, (defScope (top 9)).names, ds, gi, [], []⟩
def b4 : List Q.Sx := Q.cSs 60 100 z4 (defBody (top 9))
def z5 : Q.Sc := ⟨["value"], (defScope (top 10)).names, (defScope (top 10)).names, ds, gi, [], []⟩
def b5 : List Q.Sx := Q.cSs 60 100 z5 (defBody (top 10))
def z6 : Q.Sc := ⟨["value"], (defScope (top 15)).names, (defScope (top 15)).names, ds, gi, [], []⟩
def b6 : List Q.Sx := Q.cSs 60 100 z6 (defBody (top 15))
def z7 : Q.Sc := ⟨["value"], (defScope (top 16)).names, (defScope (top 16)).names, ds, gi, [], []⟩
def b7 : List Q.Sx := Q.cSs 60 100 z7 (defBody (top 16))
def z8 : Q.Sc := ⟨["loan"], (defScope (top 17)).names, (defScope (top 17)).names, ds, gi, [], []⟩
def b8 : List Q.Sx := Q.cSs 60 100 z8 (defBody (top 17))
def z9 : Q.Sc := ⟨["debt", "rate"], (defScope (top 18)).names, (defScope (top 18)).names, ds, gi, [], []⟩
def b9 : List Q.Sx := Q.cSs 60 100 z9 (defBody (top 18))
def z10 : Q.Sc := ⟨["loan", "debt", "rate", "pay"], (defScope (top 19)).names, (defScope (top 19)).names, ds, gi, [], []⟩
def b10 : List Q.Sx := Q.cSs 60 100 z10 (defBody (top 19))
def z11 : Q.Sc := ⟨["debt", "rate", "pay", "interest", "paid"], (defScope (top 20)).names, (defScope (top 20)).names, ds, gi, [], []⟩
def b11 : List Q.Sx := Q.cSs 60 100 z11 (defBody (top 20))
def z12 : Q.Sc := ⟨["loan", "extra", "found", "debt", "rate", "pay"], (defScope (top 21)).names, (defScope (top 21)).names, ds, gi, ["found"], []⟩
def b12 : List Q.Sx := Q.cSs 60 100 z12 (defBody (top 21))
def z13 : Q.Sc := ⟨["loan"], (defScope (top 22)).names, (defScope (top 22)).names, ds, gi, [], []⟩
def b13 : List Q.Sx := Q.cSs 60 100 z13 (defBody (top 22))
def z14 : Q.Sc := ⟨["loan"], (defScope (top 23)).names, (defScope (top 23)).names, ds, gi, [], []⟩
def b14 : List Q.Sx := Q.cSs 60 100 z14 (defBody (top 23))
def z15 : Q.Sc := ⟨["loan", "interest", "_"], (defScope (top 24)).names, (defScope (top 24)).names, ds, gi, [], []⟩
def b15 : List Q.Sx := Q.cSs 60 100 z15 (defBody (top 24))
def z16 : Q.Sc := ⟨["debt", "rate", "pay", "months", "_"], (defScope (top 25)).names, (defScope (top 25)).names, ds, gi, [], []⟩
def b16 : List Q.Sx := Q.cSs 60 100 z16 (defBody (top 25))
def z17 : Q.Sc := ⟨["debt", "rate", "months", "low", "high", "middle"], (defScope (top 26)).names, (defScope (top 26)).names, ds, gi, [], []⟩
def b17 : List Q.Sx := Q.cSs 60 100 z17 (defBody (top 26))
def z18 : Q.Sc := ⟨["loan", "months"], (defScope (top 27)).names, (defScope (top 27)).names, ds, gi, [], []⟩
def b18 : List Q.Sx := Q.cSs 60 100 z18 (defBody (top 27))
def z19 : Q.Sc := ⟨["loan", "extra", "pence", "month"], (defScope (top 28)).names, (defScope (top 28)).names, ds, gi, [], []⟩
def b19 : List Q.Sx := Q.cSs 60 100 z19 (defBody (top 28))
def z20 : Q.Sc := ⟨["loan", "extra"], (defScope (top 29)).names, (defScope (top 29)).names, ds, gi, [], []⟩
def b20 : List Q.Sx := Q.cSs 60 100 z20 (defBody (top 29))
def z21 : Q.Sc := ⟨["loan", "extra", "row"], (defScope (top 30)).names, (defScope (top 30)).names, ds, gi, [], []⟩
def b21 : List Q.Sx := Q.cSs 60 100 z21 (defBody (top 30))
def z22 : Q.Sc := ⟨["loan"], (defScope (top 31)).names, (defScope (top 31)).names, ds, gi, [], []⟩
def b22 : List Q.Sx := Q.cSs 60 100 z22 (defBody (top 31))
def z23 : Q.Sc := ⟨["loan", "rows"], (defScope (top 32)).names, (defScope (top 32)).names, ds, gi, [], []⟩
def b23 : List Q.Sx := Q.cSs 60 100 z23 (defBody (top 32))
def z24 : Q.Sc := ⟨["loan", "able", "at", "row"], (defScope (top 33)).names, (defScope (top 33)).names, ds, gi, [], []⟩
def b24 : List Q.Sx := Q.cSs 60 100 z24 (defBody (top 33))
def z25 : Q.Sc := ⟨["one", "other", "first", "second", "loan", "_", "paid"], (defScope (top 34)).names, (defScope (top 34)).names, ds, gi, [], []⟩
def b25 : List Q.Sx := Q.cSs 60 100 z25 (defBody (top 34))
def z26 : Q.Sc := ⟨["loan", "told", "found", "debt", "pay", "interest", "paid", "number", "divisor", "one"], (defScope (top 36)).names, (defScope (top 36)).names, ds, gi, ["found"], []⟩
def b26 : List Q.Sx := Q.cSs 60 100 z26 (defBody (top 36))
def z27 : Q.Sc := ⟨["script", "draws", "seed", "cell", "k", "number"], (defScope (top 38)).names, (defScope (top 38)).names, ds, gi, ["draws"], []⟩
def b27 : List Q.Sx := Q.cSs 60 100 z27 (defBody (top 38))
def z28 : Q.Sc := ⟨["draws", "bound"], (defScope (top 39)).names, (defScope (top 39)).names, ds, gi, [], []⟩
def b28 : List Q.Sx := Q.cSs 60 100 z28 (defBody (top 39))
def z29 : Q.Sc := ⟨["draws", "some"], (defScope (top 40)).names, (defScope (top 40)).names, ds, gi, [], []⟩
def b29 : List Q.Sx := Q.cSs 60 100 z29 (defBody (top 40))
def z30 : Q.Sc := ⟨["actual", "due", "k", "key"], (defScope (top 41)).names, (defScope (top 41)).names, ds, gi, [], []⟩
def b30 : List Q.Sx := Q.cSs 60 100 z30 (defBody (top 41))
def z31 : Q.Sc := ⟨["draws"], (defScope (top 42)).names, (defScope (top 42)).names, ds, gi, [], []⟩
def b31 : List Q.Sx := Q.cSs 60 100 z31 (defBody (top 42))
def z32 : Q.Sc := ⟨["debt", "rate", "whole", "rest"], (defScope (top 43)).names, (defScope (top 43)).names, ds, gi, [], []⟩
def b32 : List Q.Sx := Q.cSs 60 100 z32 (defBody (top 43))
def z33 : Q.Sc := ⟨["script", "draws", "turn", "first", "slow", "pay", "loan", "lefts", "k", "at", "half", "more", "rows", "term", "least", "debt", "rate", "many", "months", "whole", "pence", "day", "extra", "sooner", "row"], (defScope (top 44)).names, (defScope (top 44)).names, ds, gi, [], ["draws"]⟩
def b33 : List Q.Sx := Q.cSs 60 100 z33 (defBody (top 44))
def T0 : List Q.Fd := [⟨1, 1, b0⟩, ⟨3, 3, b1⟩, ⟨1, 1, b2⟩, ⟨2, 2, b3⟩, ⟨2, 3, b4⟩, ⟨1, 1, b5⟩, ⟨1, 1, b6⟩, ⟨1, 1, b7⟩, ⟨1, 1, b8⟩, ⟨2, 2, b9⟩, ⟨1, 4, b10⟩, ⟨3, 5, b11⟩, ⟨2, 6, b12⟩, ⟨1, 1, b13⟩, ⟨1, 1, b14⟩, ⟨1, 3, b15⟩, ⟨4, 5, b16⟩, ⟨3, 6, b17⟩, ⟨2, 2, b18⟩, ⟨2, 4, b19⟩, ⟨2, 2, b20⟩, ⟨2, 3, b21⟩, ⟨1, 1, b22⟩, ⟨1, 2, b23⟩, ⟨1, 4, b24⟩]
def T1 : List Q.Fd := [⟨2, 7, b25⟩, ⟨2, 10, b26⟩, ⟨1, 6, b27⟩, ⟨2, 2, b28⟩, ⟨2, 2, b29⟩, ⟨2, 4, b30⟩, ⟨1, 1, b31⟩, ⟨2, 4, b32⟩, ⟨1, 25, b33⟩]
def T : List Q.Fd := T0 ++ T1
end Hd
end

section
set_option Elab.async false
set_option linter.all false
set_option maxRecDepth 100000
namespace Ek07
open Q
/-- is_integer: value -/
def e0 : List Sx := [
  .ret (.and (.isi (.v 0) .int) (.not (.isi (.v 0) .bool)))]
/-- is_within: value low high -/
def e1 : List Sx := [
  .ret (.and (.call 0 [.v 0]) (.chn .le .le (.v 1) (.v 0) (.v 2)))]
/-- check: is_right -/
def e2 : List Sx := [
  .ite (.not (.v 0)) [.raise 0] []]
/-- shared: one other -/
def e3 : List Sx := [
  .par [(0, false), (1, false)] [.bi .abs [.v 0], .bi .abs [.v 1]],
  .whl (.cmp .gt (.v 1) (.c (.int 0))) [.par [(0, false), (1, false)] [.v 1, .bin .mod (.v 0) (.v 1)]],
  .ret (.v 0)]
/-- ratio: number divisor least -/
def e4 : List Sx := [
  .set 2 (.call 3 [.v 0, .v 1]),
  .ret (.tup [.bin .fdiv (.v 0) (.v 2), .bin .fdiv (.v 1) (.v 2)])]
/-- is_count: value -/
def e5 : List Sx := [
  .ret (.and (.call 0 [.v 0]) (.cmp .ge (.v 0) (.c (.int 0))))]
/-- is_rate: value -/
def e6 : List Sx := [
  .ite (.or (.not (.isi (.v 0) .tup)) (.or (.cmp .ne (.bi .len [.v 0]) (.c (.int 2))) (.or (.not (.call 0 [.ix (.v 0) (.c (.int 0))])) (.not (.call 0 [.ix (.v 0) (.c (.int 1))]))))) [.ret (.c (.bl false))] [],
  .ret (.and (.chn .le .le (.c (.int 0)) (.ix (.v 0) (.c (.int 0))) (.ix (.v 0) (.c (.int 1)))) (.and (.cmp .gt (.ix (.v 0) (.c (.int 1))) (.c (.int 0))) (.cmp .eq (.call 3 [.ix (.v 0) (.c (.int 0)), .ix (.v 0) (.c (.int 1))]) (.c (.int 1)))))]
/-- is_loan: value -/
def e7 : List Sx := [
  .ite (.or (.not (.isi (.v 0) .tup)) (.or (.cmp .ne (.bi .len [.v 0]) (.c (.int 3))) (.not (.call 1 [.ix (.v 0) (.c (.int 0)), .c (.int 0), .c (.int 1000000000)])))) [.ret (.c (.bl false))] [],
  .ret (.and (.call 6 [.ix (.v 0) (.c (.int 1))]) (.call 1 [.ix (.v 0) (.c (.int 2)), .c (.int 1), .c (.int 1000000000)]))]
/-- check_loan: loan -/
def e8 : List Sx := [
  .expr (.call 2 [.call 7 [.v 0]])]
/-- interest_on: debt rate -/
def e9 : List Sx := [
  .ret (.bin .fdiv (.bin .add (.bin .mul (.bin .mul (.c (.int 2)) (.v 0)) (.ix (.v 1) (.c (.int 0)))) (.ix (.v 1) (.c (.int 1)))) (.bin .mul (.c (.int 2)) (.ix (.v 1) (.c (.int 1)))))]
/-- never_by: loan debt rate pay -/
def e10 : List Sx := [
  .unp (.t [.n 1, .n 2, .n 3]) (.v 0),
  .ret (.and (.cmp .gt (.v 1) (.c (.int 0))) (.cmp .ge (.call 9 [.v 1, .v 2]) (.v 3)))]
/-- month_of: debt rate pay interest paid -/
def e11 : List Sx := [
  .set 3 (.call 9 [.v 0, .v 1]),
  .set 4 (.bi .min [.v 2, .bin .add (.v 0) (.v 3)]),
  .ret (.tup [.v 3, .v 4, .bin .sub (.bin .add (.v 0) (.v 3)) (.v 4)])]
/-- rows_by: loan extra found debt rate pay -/
def e12 : List Sx := [
  .unp (.t [.n 3, .n 4, .n 5]) (.v 0),
  .ite (.call 10 [.v 0]) [.raise 0] [],
  .own 2 (.lst []),
  .whl (.cmp .gt (.v 3) (.c (.int 0))) [.ite (.cmp .eq (.bi .len [.v 2]) (.c (.int 2400))) [.raise 0] [], .app 2 (.call 11 [.v 3, .v 4, .bin .add (.v 5) (.get (.v 1) (.bi .len [.v 2]) (.c (.int 0)))]), .set 3 (.ix (.ix (.v 2) (.neg (.c (.int 1)))) (.c (.int 2)))],
  .ret (.v 2)]
/-- row_of_loan: loan -/
def e13 : List Sx := [
  .expr (.call 8 [.v 0]),
  .ret (.call 12 [.v 0, .dct []])]
/-- months_of: loan -/
def e14 : List Sx := [
  .expr (.call 8 [.v 0]),
  .ret (.ite (.call 10 [.v 0]) (.c .non) (.bi .len [.call 12 [.v 0, .dct []]]))]
/-- all_interest: loan interest _ -/
def e15 : List Sx := [
  .expr (.call 8 [.v 0]),
  .ret (.bi .sum [.lc (.v 1) (.t [.n 1, .n 2, .n 2]) .seq [.call 12 [.v 0, .dct []]] none [1, 2]])]
/-- left_after: debt rate pay months _ -/
def e16 : List Sx := [
  .for_ (.n 4) .rng [.v 3] [.ite (.cmp .eq (.v 0) (.c (.int 0))) [.ret (.c (.int 0))] [], .set 0 (.ix (.call 11 [.v 0, .v 1, .v 2]) (.c (.int 2)))],
  .ret (.v 0)]
/-- least_pay: debt rate months low high middle -/
def e17 : List Sx := [
  .expr (.call 2 [.and (.call 1 [.v 0, .c (.int 1), .c (.int 1000000000)]) (.and (.call 6 [.v 1]) (.call 1 [.v 2, .c (.int 1), .c (.int 600)]))]),
  .par [(3, false), (4, false)] [.c (.int 1), .bin .add (.v 0) (.call 9 [.v 0, .v 1])],
  .whl (.cmp .lt (.v 3) (.v 4)) [.set 5 (.bin .fdiv (.bin .add (.v 3) (.v 4)) (.c (.int 2))), .ite (.cmp .eq (.call 16 [.v 0, .v 1, .v 5, .v 2]) (.c (.int 0))) [.set 4 (.v 5)] [.set 3 (.bin .add (.v 5) (.c (.int 1)))]],
  .ret (.v 3)]
/-- debt_after: loan months -/
def e18 : List Sx := [
  .expr (.call 8 [.v 0]),
  .expr (.call 2 [.call 1 [.v 1, .c (.int 0), .c (.int 2400)]]),
  .ret (.callS 16 (.v 0) [.v 1])]
/-- check_extra: loan extra pence month -/
def e19 : List Sx := [
  .expr (.call 8 [.v 0]),
  .expr (.call 2 [.and (.isi (.v 1) .dct) (.bi .all [.lc (.call 5 [.v 3]) (.n 3) .seq [.v 1] none [3]])]),
  .expr (.call 2 [.bi .all [.lc (.call 5 [.v 2]) (.n 2) .vals [.v 1] none [2]]])]
/-- row_with: loan extra -/
def e20 : List Sx := [
  .expr (.call 19 [.v 0, .v 1]),
  .ret (.call 12 [.v 0, .v 1])]
/-- saved_by: loan extra row -/
def e21 : List Sx := [
  .expr (.call 19 [.v 0, .v 1]),
  .ret (.bin .sub (.bi .sum [.lc (.ix (.v 2) (.c (.int 0))) (.n 2) .seq [.call 12 [.v 0, .dct []]] none [2]]) (.bi .sum [.lc (.ix (.v 2) (.c (.int 0))) (.n 2) .seq [.call 12 [.v 0, .v 1]] none [2]]))]
/-- is_never: loan -/
def e22 : List Sx := [
  .expr (.call 8 [.v 0]),
  .ret (.call 10 [.v 0])]
/-- last_payment: loan rows -/
def e23 : List Sx := [
  .expr (.call 8 [.v 0]),
  .set 1 (.call 12 [.v 0, .dct []]),
  .ret (.ite (.cmp .gt (.bi .len [.v 1]) (.c (.int 0))) (.ix (.ix (.v 1) (.neg (.c (.int 1)))) (.c (.int 1))) (.c (.int 0)))]
/-- halved_at: loan able at row -/
def e24 : List Sx := [
  .expr (.call 8 [.v 0]),
  .set 1 (.lc (.v 2) (.t [.n 2, .n 3]) .enu [.call 12 [.v 0, .dct []]] (some (.cmp .le (.bin .mul (.c (.int 2)) (.ix (.v 3) (.c (.int 2)))) (.ix (.v 0) (.c (.int 0))))) [2, 3]),
  .ret (.ite (.cmp .gt (.bi .len [.v 1]) (.c (.int 0))) (.ix (.v 1) (.c (.int 0))) (.c .non))]
/-- cheaper_of: one other first second loan _ paid -/
def e25 : List Sx := [
  .expr (.call 8 [.v 0]),
  .expr (.call 8 [.v 1]),
  .unp (.t [.n 2, .n 3]) (.lc (.bi .sum [.lc (.v 6) (.t [.n 5, .n 6, .n 5]) .seq [.call 12 [.v 4, .dct []]] none [5, 6]]) (.n 4) .seq [.tup [.v 0, .v 1]] none [4]),
  .ret (.ite (.cmp .le (.v 2) (.v 3)) (.c (.int 0)) (.c (.int 1)))]
/-- takes_loan: loan told found debt pay interest paid number divisor one -/
def e26 : List Sx := [
  .expr (.call 2 [.and (.isi (.v 0) .tup) (.and (.cmp .eq (.bi .len [.v 0]) (.c (.int 3))) (.call 1 [.ix (.v 0) (.c (.int 0)), .c (.int 0), .c (.int 1000000000)]))]),
  .expr (.call 2 [.and (.isi (.ix (.v 0) (.c (.int 1))) .tup) (.and (.cmp .eq (.bi .len [.ix (.v 0) (.c (.int 1))]) (.c (.int 2))) (.bi .all [.lc (.call 0 [.v 9]) (.n 9) .seq [.ix (.v 0) (.c (.int 1))] none [9]]))]),
  .expr (.call 2 [.and (.chn .le .le (.c (.int 0)) (.ix (.ix (.v 0) (.c (.int 1))) (.c (.int 0))) (.ix (.ix (.v 0) (.c (.int 1))) (.c (.int 1)))) (.and (.cmp .gt (.ix (.ix (.v 0) (.c (.int 1))) (.c (.int 1))) (.c (.int 0))) (.cmp .eq (.call 4 [.ix (.ix (.v 0) (.c (.int 1))) (.c (.int 0)), .ix (.ix (.v 0) (.c (.int 1))) (.c (.int 1))]) (.ix (.v 0) (.c (.int 1)))))]),
  .expr (.call 2 [.call 1 [.ix (.v 0) (.c (.int 2)), .c (.int 1), .c (.int 1000000000)]]),
  .unp (.t [.n 3, .t [.n 7, .n 8], .n 4]) (.v 0),
  .own 2 (.lst []),
  .whl (.cmp .gt (.v 3) (.c (.int 0))) [.set 5 (.bin .fdiv (.bin .add (.bin .mul (.bin .mul (.c (.int 2)) (.v 3)) (.v 7)) (.v 8)) (.bin .mul (.c (.int 2)) (.v 8))), .set 6 (.bi .min [.v 4, .bin .add (.v 3) (.v 5)]), .ite (.or (.and (.cmp .ge (.v 5) (.v 4)) (.cmp .lt (.v 6) (.bin .add (.v 3) (.v 5)))) (.cmp .eq (.bi .len [.v 2]) (.c (.int 2400)))) [.ret (.c (.bl false))] [], .aug 3 .add (.bin .sub (.v 5) (.v 6)), .app 2 (.tup [.v 5, .v 6, .v 3])],
  .ret (.cmp .eq (.v 1) (.v 2))]
/-- _law_draws: script draws seed cell k number -/
def e27 : List Sx := [
  .own 1 (.lst []),
  .set 2 (.c (.int 11)),
  .for_ (.n 3) .seq [.v 0] [.set 5 (.bi .abs [.bi .int [.v 3]]), .set 2 (.bin .mod (.bi .int [.bin .add (.bin .add (.bin .mul (.v 2) (.c (.int 48271))) (.v 5)) (.c (.int 1))]) (.c (.int 2147483647))), .ite (.cmp .lt (.v 5) (.bin .pow (.c (.int 10)) (.c (.int 18)))) [.app 1 (.bin .mod (.bi .int [.v 5]) (.c (.int 997))), .app 1 (.bin .mod (.bi .int [.v 2]) (.c (.int 65521))), .set 5 (.c (.int 0))] [], .for_ (.n 4) .rng [.c (.int 60)] [.ite (.cmp .gt (.v 5) (.c (.int 0))) [.app 1 (.bin .mod (.bi .int [.v 5]) (.c (.int 997))), .set 5 (.bin .fdiv (.v 5) (.c (.int 997)))] []]],
  .for_ (.n 4) .rng [.c (.int 1600)] [.set 2 (.bin .mod (.bi .int [.bin .add (.bin .mul (.v 2) (.c (.int 48271))) (.c (.int 69621))]) (.c (.int 2147483647))), .app 1 (.bin .fdiv (.v 2) (.c (.int 5)))],
  .ret (.lrev (.v 1))]
/-- _law_take: draws bound -/
def e28 : List Sx := [
  .ite (.cmp .eq (.bi .len [.v 0]) (.c (.int 0))) [.ret (.c (.int 0))] [],
  .ret (.bin .mod (.bi .int [.pop 0]) (.v 1))]
/-- _law_pick: draws some -/
def e29 : List Sx := [
  .ret (.ix (.v 1) (.call 28 [.v 0, .bi .len [.v 1]]))]
/-- _law_same: actual due k key -/
def e30 : List Sx := [
  .ite (.cmp .is (.v 1) (.c .non)) [.ret (.cmp .is (.v 0) (.c .non))] [],
  .ite (.or (.isi (.v 1) .tup) (.isi (.v 1) .lst)) [.ite (.or (.cmp .ne (.isi (.v 1) .tup) (.isi (.v 0) .tup)) (.cmp .ne (.isi (.v 1) .lst) (.isi (.v 0) .lst))) [.ret (.c (.bl false))] [], .ite (.cmp .ne (.bi .len [.v 0]) (.bi .len [.v 1])) [.ret (.c (.bl false))] [], .for_ (.n 2) .rng [.bi .len [.v 1]] [.ite (.not (.call 30 [.ix (.v 0) (.v 2), .ix (.v 1) (.v 2)])) [.ret (.c (.bl false))] []], .ret (.c (.bl true))] [],
  .ite (.isi (.v 1) .dct) [.ite (.or (.not (.isi (.v 0) .dct)) (.cmp .ne (.bi .len [.v 0]) (.bi .len [.v 1]))) [.ret (.c (.bl false))] [], .raise 0] [],
  .ite (.cmp .ne (.isi (.v 1) .bool) (.isi (.v 0) .bool)) [.ret (.c (.bl false))] [],
  .ite (.or (.cmp .ne (.isi (.v 1) .int) (.isi (.v 0) .int)) (.cmp .ne (.isi (.v 1) .str) (.isi (.v 0) .str))) [.ret (.c (.bl false))] [],
  .ret (.cmp .eq (.v 0) (.v 1))]
/-- _law_rate: draws -/
def e31 : List Sx := [
  .ret (.call 29 [.v 0, .lst [.tup [.c (.int 1), .c (.int 100)], .tup [.c (.int 0), .c (.int 1)], .tup [.c (.int 1), .c (.int 240)], .tup [.c (.int 1), .c (.int 2)], .tup [.c (.int 1), .c (.int 1)], .tup [.c (.int 1), .c (.int 10)], .tup [.c (.int 3), .c (.int 200)]]])]
/-- _law_interest: debt rate whole rest -/
def e32 : List Sx := [
  .set 2 (.bin .fdiv (.bin .mul (.v 0) (.ix (.v 1) (.c (.int 0)))) (.ix (.v 1) (.c (.int 1)))),
  .set 3 (.bin .sub (.bin .mul (.v 0) (.ix (.v 1) (.c (.int 0)))) (.bin .mul (.v 2) (.ix (.v 1) (.c (.int 1))))),
  .ret (.bin .add (.v 2) (.bi .int [.cmp .ge (.bin .mul (.c (.int 2)) (.v 3)) (.ix (.v 1) (.c (.int 1)))]))]
/-- law: script draws turn first slow pay loan lefts k at half more rows term least debt rate many months whole pence day extra sooner row -/
def e33 : List Sx := [
  .mkc 1 (.call 27 [.v 0]),
  .for_ (.n 2) .rng [.c (.int 4)] [.par [(15, false), (16, false)] [.bin .add (.c (.int 1)) (.call 29 [.v 1, .lst [.call 28 [.v 1, .bin .pow (.c (.int 10)) (.c (.int 9))], .call 28 [.v 1, .c (.int 997)], .call 28 [.v 1, .bin .pow (.c (.int 10)) (.c (.int 6))]]]), .call 31 [.v 1]], .set 3 (.call 32 [.v 15, .v 16]), .set 4 (.tup [.v 15, .v 16, .bi .max [.c (.int 1), .bin .sub (.v 3) (.call 28 [.v 1, .c (.int 9)])]]), .ite (.or (.and (.not (.call 22 [.v 4])) (.cmp .le (.ix (.v 4) (.c (.int 2))) (.v 3))) (.cmp .ne (.call 22 [.v 4]) (.cmp .le (.ix (.v 4) (.c (.int 2))) (.v 3)))) [.ret (.c (.bl false))] [], .ite (.call 22 [.v 4]) [.set 17 (.call 28 [.v 1, .c (.int 20)]), .ite (.or (.cmp .isn (.call 14 [.v 4]) (.c .non)) (.or (.cmp .lt (.call 18 [.v 4, .v 17]) (.v 15)) (.cmp .lt (.call 18 [.v 4, .bin .add (.v 17) (.c (.int 1))]) (.call 18 [.v 4, .v 17])))) [.ret (.c (.bl false))] []] [], .set 5 (.bi .min [.bin .pow (.c (.int 10)) (.c (.int 9)), .bin .add (.bin .add (.v 3) (.c (.int 1))) (.call 29 [.v 1, .lst [.bin .fdiv (.v 15) (.c (.int 3)), .bin .add (.bin .fdiv (.v 15) (.c (.int 40))) (.c (.int 1)), .bin .add (.call 28 [.v 1, .c (.int 1000)]) (.bin .fdiv (.v 15) (.c (.int 200)))]])]), .set 6 (.tup [.v 15, .v 16, .v 5]), .ite (.or (.cmp .isn (.call 7 [.v 6]) (.c (.bl true))) (.call 22 [.v 6])) [.ret (.c (.bl false))] [], .unp (.t [.n 12, .n 18, .n 19]) (.tup [.call 13 [.v 6], .call 14 [.v 6], .call 15 [.v 6]]), .ite (.or (.cmp .ne (.bi .len [.v 12]) (.v 18)) (.or (.cmp .ne (.bi .sum [.lc (.ix (.v 24) (.c (.int 0))) (.n 24) .seq [.v 12] none [24]]) (.v 19)) (.or (.cmp .ne (.bi .sum [.lc (.ix (.v 24) (.c (.int 1))) (.n 24) .seq [.v 12] none [24]]) (.bin .add (.v 15) (.v 19))) (.or (.cmp .ne (.ix (.ix (.v 12) (.bin .sub (.v 18) (.c (.int 1)))) (.c (.int 2))) (.c (.int 0))) (.cmp .isn (.call 26 [.v 6, .v 12]) (.c (.bl true))))))) [.ret (.c (.bl false))] [], .set 7 (.bin .add (.lst [.v 15]) (.lc (.ix (.v 24) (.c (.int 2))) (.n 24) .seq [.v 12] none [24])), .for_ (.n 8) .rng [.v 18] [.set 11 (.call 32 [.ix (.v 7) (.v 8), .v 16]), .ite (.or (.cmp .ne (.ix (.v 12) (.v 8)) (.tup [.v 11, .bi .min [.v 5, .bin .add (.ix (.v 7) (.v 8)) (.v 11)], .ix (.v 7) (.bin .add (.v 8) (.c (.int 1)))])) (.or (.cmp .ne (.ix (.v 7) (.bin .add (.v 8) (.c (.int 1)))) (.bin .sub (.bin .add (.ix (.v 7) (.v 8)) (.v 11)) (.ix (.ix (.v 12) (.v 8)) (.c (.int 1))))) (.cmp .ge (.ix (.v 7) (.bin .add (.v 8) (.c (.int 1)))) (.ix (.v 7) (.v 8))))) [.ret (.c (.bl false))] []], .set 9 (.call 28 [.v 1, .bin .add (.v 18) (.c (.int 5))]), .set 10 (.call 24 [.v 6]), .ite (.or (.cmp .ne (.call 18 [.v 6, .v 9]) (.ix (.v 7) (.bi .min [.v 9, .v 18]))) (.or (.cmp .ne (.call 23 [.v 6]) (.ix (.ix (.v 12) (.bin .sub (.v 18) (.c (.int 1)))) (.c (.int 1)))) (.or (.cmp .gt (.bin .mul (.c (.int 2)) (.ix (.v 7) (.bin .add (.v 10) (.c (.int 1))))) (.v 15)) (.and (.cmp .gt (.v 10) (.c (.int 0))) (.cmp .le (.bin .mul (.c (.int 2)) (.ix (.v 7) (.v 10))) (.v 15)))))) [.ret (.c (.bl false))] [], .set 11 (.tup [.v 15, .v 16, .bi .min [.bin .pow (.c (.int 10)) (.c (.int 9)), .bin .add (.bin .add (.v 5) (.c (.int 1))) (.call 28 [.v 1, .c (.int 500)])]]), .ite (.or (.cmp .gt (.call 14 [.v 11]) (.v 18)) (.or (.cmp .gt (.call 15 [.v 11]) (.v 19)) (.or (.cmp .ne (.call 25 [.v 6, .v 11]) (.bi .int [.cmp .lt (.call 15 [.v 11]) (.v 19)])) (.cmp .ne (.call 25 [.v 11, .v 6]) (.bi .int [.cmp .gt (.call 15 [.v 11]) (.v 19)]))))) [.ret (.c (.bl false))] [], .par [(20, false), (21, false)] [.bin .add (.c (.int 1)) (.call 28 [.v 1, .bi .max [.c (.int 1), .bin .fdiv (.v 15) (.c (.int 4))]]), .call 28 [.v 1, .v 18]], .par [(22, false), (23, false)] [.dct [.v 21, .v 20, .bin .add (.v 18) (.c (.int 3)), .c (.int 5)], .dct [.bi .max [.c (.int 0), .bin .sub (.v 21) (.c (.int 1))], .v 20]], .set 12 (.call 20 [.v 6, .v 22]), .ite (.or (.cmp .ne (.bi .sum [.lc (.ix (.v 24) (.c (.int 1))) (.n 24) .seq [.v 12] none [24]]) (.bin .add (.v 15) (.bi .sum [.lc (.ix (.v 24) (.c (.int 0))) (.n 24) .seq [.v 12] none [24]]))) (.or (.cmp .gt (.bi .len [.v 12]) (.v 18)) (.cmp .ne (.ix (.ix (.v 12) (.bin .sub (.bi .len [.v 12]) (.c (.int 1)))) (.c (.int 2))) (.c (.int 0))))) [.ret (.c (.bl false))] [], .ite (.or (.cmp .ne (.call 21 [.v 6, .v 22]) (.bin .sub (.v 19) (.bi .sum [.lc (.ix (.v 24) (.c (.int 0))) (.n 24) .seq [.v 12] none [24]]))) (.or (.cmp .lt (.call 21 [.v 6, .v 22]) (.c (.int 0))) (.or (.cmp .ne (.call 21 [.v 6, .dct []]) (.c (.int 0))) (.cmp .ne (.call 20 [.v 6, .dct []]) (.call 13 [.v 6]))))) [.ret (.c (.bl false))] [], .ite (.or (.cmp .ne (.lc (.v 8) (.n 8) .rng [.bi .min [.v 21, .bi .len [.v 12]]] (some (.cmp .ne (.ix (.v 12) (.v 8)) (.ix (.call 13 [.v 6]) (.v 8)))) [8]) (.lst [])) (.and (.cmp .lt (.v 21) (.bi .len [.v 12])) (.cmp .ne (.ix (.ix (.v 12) (.v 21)) (.c (.int 1))) (.bi .min [.bin .add (.v 5) (.v 20), .bin .add (.ix (.v 7) (.v 21)) (.ix (.ix (.v 12) (.v 21)) (.c (.int 0)))])))) [.ret (.c (.bl false))] [], .ite (.cmp .lt (.call 21 [.v 6, .v 23]) (.call 21 [.v 6, .dct [.v 21, .v 20]])) [.ret (.c (.bl false))] [], .set 13 (.bin .add (.c (.int 1)) (.call 28 [.v 1, .c (.int 600)])), .set 14 (.call 17 [.v 15, .v 16, .v 13]), .ite (.or (.cmp .lt (.v 14) (.c (.int 1))) (.or (.and (.cmp .ne (.call 18 [.tup [.v 15, .v 16, .bi .min [.bin .pow (.c (.int 10)) (.c (.int 9)), .v 14]], .v 13]) (.c (.int 0))) (.cmp .le (.v 14) (.bin .pow (.c (.int 10)) (.c (.int 9))))) (.and (.cmp .gt (.v 14) (.c (.int 1))) (.and (.cmp .le (.v 14) (.bin .pow (.c (.int 10)) (.c (.int 9)))) (.cmp .eq (.call 18 [.tup [.v 15, .v 16, .bin .sub (.v 14) (.c (.int 1))], .v 13]) (.c (.int 0))))))) [.ret (.c (.bl false))] [], .ite (.or (.and (.cmp .lt (.v 13) (.c (.int 600))) (.cmp .gt (.call 17 [.v 15, .v 16, .bin .add (.v 13) (.c (.int 1))]) (.v 14))) (.cmp .ne (.call 17 [.v 15, .v 16, .c (.int 1)]) (.bin .add (.v 15) (.v 3)))) [.ret (.c (.bl false))] []],
  .ret (.c (.bl true))]
def T0 : List Fd := [⟨1, 1, e0⟩, ⟨3, 3, e1⟩, ⟨1, 1, e2⟩, ⟨2, 2, e3⟩, ⟨2, 3, e4⟩, ⟨1, 1, e5⟩, ⟨1, 1, e6⟩, ⟨1, 1, e7⟩, ⟨1, 1, e8⟩, ⟨2, 2, e9⟩, ⟨1, 4, e10⟩, ⟨3, 5, e11⟩, ⟨2, 6, e12⟩, ⟨1, 1, e13⟩, ⟨1, 1, e14⟩, ⟨1, 3, e15⟩, ⟨4, 5, e16⟩, ⟨3, 6, e17⟩, ⟨2, 2, e18⟩, ⟨2, 4, e19⟩, ⟨2, 2, e20⟩, ⟨2, 3, e21⟩, ⟨1, 1, e22⟩, ⟨1, 2, e23⟩, ⟨1, 4, e24⟩]
def T1 : List Fd := [⟨2, 7, e25⟩, ⟨2, 10, e26⟩, ⟨1, 6, e27⟩, ⟨2, 2, e28⟩, ⟨2, 2, e29⟩, ⟨2, 4, e30⟩, ⟨1, 1, e31⟩, ⟨2, 4, e32⟩, ⟨1, 25, e33⟩]
def T : List Fd := T0 ++ T1
end Ek07
end

section
set_option Elab.async false
set_option linter.all false
set_option maxRecDepth 100000
set_option maxHeartbeats 0
namespace Hd
open PySem PySem.Spec PyProof.Rows L2
section
variable {K : PySem.W.Frag} {mg : Str → Option Value} {h : Heap}
theorem g0 (X : K.In h) (G : h.Ns mainGlobals mg) (c : He.SaysD fa fn K) : ∃ f fd ps, Q.Gd K mg ds gi T "is_integer" 0 f fd ps := by
  obtain ⟨fd, F⟩ := c.def_ 0 (d := dd 5 "is_integer") (by rfl)
  refine ⟨_, fd, ["value"], ⟨⟨_, _, _, _, _, F, z0, ⟨by rfl, by rfl, by rfl, by decide +kernel, by rfl, by decide +kernel, by decide +kernel⟩, rfl, rfl, rfl, rfl, by rfl⟩, He.glo_ok X G (c.fact 0 (f := .glo "is_integer") (by rfl)), F.bindsN fun _ _ _ _ _ _ us hl => match us, hl with | [_], _ => by rfl⟩⟩
theorem g1 (X : K.In h) (G : h.Ns mainGlobals mg) (c : He.SaysD fa fn K) : ∃ f fd ps, Q.Gd K mg ds gi T "is_within" 1 f fd ps := by
  obtain ⟨fd, F⟩ := c.def_ 1 (d := dd 6 "is_within") (by rfl)
  refine ⟨_, fd, ["value", "low", "high"], ⟨⟨_, _, _, _, _, F, z1, ⟨by rfl, by rfl, by rfl, by decide +kernel, by rfl, by decide +kernel, by decide +kernel⟩, rfl, rfl, rfl, rfl, by rfl⟩, He.glo_ok X G (c.fact 1 (f := .glo "is_within") (by rfl)), F.bindsN fun _ _ _ _ _ _ us hl => match us, hl with | [_, _, _], _ => by rfl⟩⟩
theorem g2 (X : K.In h) (G : h.Ns mainGlobals mg) (c : He.SaysD fa fn K) : ∃ f fd ps, Q.Gd K mg ds gi T "check" 2 f fd ps := by
  obtain ⟨fd, F⟩ := c.def_ 2 (d := dd 7 "check") (by rfl)
  refine ⟨_, fd, ["is_right"], ⟨⟨_, _, _, _, _, F, z2, ⟨by rfl, by rfl, by rfl, by decide +kernel, by rfl, by decide +kernel, by decide +kernel⟩, rfl, rfl, rfl, rfl, by rfl⟩, He.glo_ok X G (c.fact 2 (f := .glo "check") (by rfl)), F.bindsN fun _ _ _ _ _ _ us hl => match us, hl with | [_], _ => by rfl⟩⟩
theorem g3 (X : K.In h) (G : h.Ns mainGlobals mg) (c : He.SaysD fa fn K) : ∃ f fd ps, Q.Gd K mg ds gi T "shared" 3 f fd ps := by
  obtain ⟨fd, F⟩ := c.def_ 3 (d := dd 8 "shared") (by rfl)
  refine ⟨_, fd, ["one", "other"], ⟨⟨_, _, _, _, _, F, z3, ⟨by rfl, by rfl, by rfl, by decide +kernel, by rfl, by decide +kernel, by decide +kernel⟩, rfl, rfl, rfl, rfl, by rfl⟩, He.glo_ok X G (c.fact 3 (f := .glo "shared") (by rfl)), F.bindsN fun _ _ _ _ _ _ us hl => match us, hl with | [_, _], _ => by rfl⟩⟩
theorem g4 (X : K.In h) (G : h.Ns mainGlobals mg) (c : He.SaysD fa fn K) : ∃ f fd ps, Q.Gd K mg ds gi T "ratio" 4 f fd ps := by
  obtain ⟨fd, F⟩ := c.def_ 4 (d := dd 9 "ratio") (by rfl)
  refine ⟨_, fd, ["number", "divisor"], ⟨⟨_, _, _, _, _, F, z4, ⟨by rfl, by rfl, by rfl, by decide +kernel, by rfl, by decide +kernel, by decide +kernel⟩, rfl, rfl, rfl, rfl, by rfl⟩, He.glo_ok X G (c.fact 4 (f := .glo "ratio") (by rfl)), F.bindsN fun _ _ _ _ _ _ us hl => match us, hl with | [_, _], _ => by rfl⟩⟩
theorem g5 (X : K.In h) (G : h.Ns mainGlobals mg) (c : He.SaysD fa fn K) : ∃ f fd ps, Q.Gd K mg ds gi T "is_count" 5 f fd ps := by
  obtain ⟨fd, F⟩ := c.def_ 5 (d := dd 10 "is_count") (by rfl)
  refine ⟨_, fd, ["value"], ⟨⟨_, _, _, _, _, F, z5, ⟨by rfl, by rfl, by rfl, by decide +kernel, by rfl, by decide +kernel, by decide +kernel⟩, rfl, rfl, rfl, rfl, by rfl⟩, He.glo_ok X G (c.fact 5 (f := .glo "is_count") (by rfl)), F.bindsN fun _ _ _ _ _ _ us hl => match us, hl with | [_], _ => by rfl⟩⟩
theorem g6 (X : K.In h) (G : h.Ns mainGlobals mg) (c : He.SaysD fa fn K) : ∃ f fd ps, Q.Gd K mg ds gi T "is_rate" 6 f fd ps := by
  obtain ⟨fd, F⟩ := c.def_ 6 (d := dd 15 "is_rate") (by rfl)
  refine ⟨_, fd, ["value"], ⟨⟨_, _, _, _, _, F, z6, ⟨by rfl, by rfl, by rfl, by decide +kernel, by rfl, by decide +kernel, by decide +kernel⟩, rfl, rfl, rfl, rfl, by rfl⟩, He.glo_ok X G (c.fact 6 (f := .glo "is_rate") (by rfl)), F.bindsN fun _ _ _ _ _ _ us hl => match us, hl with | [_], _ => by rfl⟩⟩
theorem g7 (X : K.In h) (G : h.Ns mainGlobals mg) (c : He.SaysD fa fn K) : ∃ f fd ps, Q.Gd K mg ds gi T "is_loan" 7 f fd ps := by
  obtain ⟨fd, F⟩ := c.def_ 7 (d := dd 16 "is_loan") (by rfl)
  refine ⟨_, fd, ["value"], ⟨⟨_, _, _, _, _, F, z7, ⟨by rfl, by rfl, by rfl, by decide +kernel, by rfl, by decide +kernel, by decide +kernel⟩, rfl, rfl, rfl, rfl, by rfl⟩, He.glo_ok X G (c.fact 7 (f := .glo "is_loan") (by rfl)), F.bindsN fun _ _ _ _ _ _ us hl => match us, hl with | [_], _ => by rfl⟩⟩
theorem g8 (X : K.In h) (G : h.Ns mainGlobals mg) (c : He.SaysD fa fn K) : ∃ f fd ps, Q.Gd K mg ds gi T "check_loan" 8 f fd ps := by
  obtain ⟨fd, F⟩ := c.def_ 8 (d := dd 17 "check_loan") (by rfl)
  refine ⟨_, fd, ["loan"], ⟨⟨_, _, _, _, _, F, z8, ⟨by rfl, by rfl, by rfl, by decide +kernel, by rfl, by decide +kernel, by decide +kernel⟩, rfl, rfl, rfl, rfl, by rfl⟩, He.glo_ok X G (c.fact 8 (f := .glo "check_loan") (by rfl)), F.bindsN fun _ _ _ _ _ _ us hl => match us, hl with | [_], _ => by rfl⟩⟩
theorem g9 (X : K.In h) (G : h.Ns mainGlobals mg) (c : He.SaysD fa fn K) : ∃ f fd ps, Q.Gd K mg ds gi T "interest_on" 9 f fd ps := by
  obtain ⟨fd, F⟩ := c.def_ 9 (d := dd 18 "interest_on") (by rfl)
  refine ⟨_, fd, ["debt", "rate"], ⟨⟨_, _, _, _, _, F, z9, ⟨by rfl, by rfl, by rfl, by decide +kernel, by rfl, by decide +kernel, by decide +kernel⟩, rfl, rfl, rfl, rfl, by rfl⟩, He.glo_ok X G (c.fact 9 (f := .glo "interest_on") (by rfl)), F.bindsN fun _ _ _ _ _ _ us hl => match us, hl with | [_, _], _ => by rfl⟩⟩
theorem g10 (X : K.In h) (G : h.Ns mainGlobals mg) (c : He.SaysD fa fn K) : ∃ f fd ps, Q.Gd K mg ds gi T "never_by" 10 f fd ps := by
  obtain ⟨fd, F⟩ := c.def_ 10 (d := dd 19 "never_by") (by rfl)
  refine ⟨_, fd, ["loan"], ⟨⟨_, _, _, _, _, F, z10, ⟨by rfl, by rfl, by rfl, by decide +kernel, by rfl, by decide +kernel, by decide +kernel⟩, rfl, rfl, rfl, rfl, by rfl⟩, He.glo_ok X G (c.fact 10 (f := .glo "never_by") (by rfl)), F.bindsN fun _ _ _ _ _ _ us hl => match us, hl with | [_], _ => by rfl⟩⟩
theorem g11 (X : K.In h) (G : h.Ns mainGlobals mg) (c : He.SaysD fa fn K) : ∃ f fd ps, Q.Gd K mg ds gi T "month_of" 11 f fd ps := by
  obtain ⟨fd, F⟩ := c.def_ 11 (d := dd 20 "month_of") (by rfl)
  refine ⟨_, fd, ["debt", "rate", "pay"], ⟨⟨_, _, _, _, _, F, z11, ⟨by rfl, by rfl, by rfl, by decide +kernel, by rfl, by decide +kernel, by decide +kernel⟩, rfl, rfl, rfl, rfl, by rfl⟩, He.glo_ok X G (c.fact 11 (f := .glo "month_of") (by rfl)), F.bindsN fun _ _ _ _ _ _ us hl => match us, hl with | [_, _, _], _ => by rfl⟩⟩
theorem g12 (X : K.In h) (G : h.Ns mainGlobals mg) (c : He.SaysD fa fn K) : ∃ f fd ps, Q.Gd K mg ds gi T "rows_by" 12 f fd ps := by
  obtain ⟨fd, F⟩ := c.def_ 12 (d := dd 21 "rows_by") (by rfl)
  refine ⟨_, fd, ["loan", "extra"], ⟨⟨_, _, _, _, _, F, z12, ⟨by rfl, by rfl, by rfl, by decide +kernel, by rfl, by decide +kernel, by decide +kernel⟩, rfl, rfl, rfl, rfl, by rfl⟩, He.glo_ok X G (c.fact 12 (f := .glo "rows_by") (by rfl)), F.bindsN fun _ _ _ _ _ _ us hl => match us, hl with | [_, _], _ => by rfl⟩⟩
theorem g13 (X : K.In h) (G : h.Ns mainGlobals mg) (c : He.SaysD fa fn K) : ∃ f fd ps, Q.Gd K mg ds gi T "row_of_loan" 13 f fd ps := by
  obtain ⟨fd, F⟩ := c.def_ 13 (d := dd 22 "row_of_loan") (by rfl)
  refine ⟨_, fd, ["loan"], ⟨⟨_, _, _, _, _, F, z13, ⟨by rfl, by rfl, by rfl, by decide +kernel, by rfl, by decide +kernel, by decide +kernel⟩, rfl, rfl, rfl, rfl, by rfl⟩, He.glo_ok X G (c.fact 13 (f := .glo "row_of_loan") (by rfl)), F.bindsN fun _ _ _ _ _ _ us hl => match us, hl with | [_], _ => by rfl⟩⟩
theorem g14 (X : K.In h) (G : h.Ns mainGlobals mg) (c : He.SaysD fa fn K) : ∃ f fd ps, Q.Gd K mg ds gi T "months_of" 14 f fd ps := by
  obtain ⟨fd, F⟩ := c.def_ 14 (d := dd 23 "months_of") (by rfl)
  refine ⟨_, fd, ["loan"], ⟨⟨_, _, _, _, _, F, z14, ⟨by rfl, by rfl, by rfl, by decide +kernel, by rfl, by decide +kernel, by decide +kernel⟩, rfl, rfl, rfl, rfl, by rfl⟩, He.glo_ok X G (c.fact 14 (f := .glo "months_of") (by rfl)), F.bindsN fun _ _ _ _ _ _ us hl => match us, hl with | [_], _ => by rfl⟩⟩
theorem g15 (X : K.In h) (G : h.Ns mainGlobals mg) (c : He.SaysD fa fn K) : ∃ f fd ps, Q.Gd K mg ds gi T "all_interest" 15 f fd ps := by
  obtain ⟨fd, F⟩ := c.def_ 15 (d := dd 24 "all_interest") (by rfl)
  refine ⟨_, fd, ["loan"], ⟨⟨_, _, _, _, _, F, z15, ⟨by rfl, by rfl, by rfl, by decide +kernel, by rfl, by decide +kernel, by decide +kernel⟩, rfl, rfl, rfl, rfl, by rfl⟩, He.glo_ok X G (c.fact 15 (f := .glo "all_interest") (by rfl)), F.bindsN fun _ _ _ _ _ _ us hl => match us, hl with | [_], _ => by rfl⟩⟩
theorem g16 (X : K.In h) (G : h.Ns mainGlobals mg) (c : He.SaysD fa fn K) : ∃ f fd ps, Q.Gd K mg ds gi T "left_after" 16 f fd ps := by
  obtain ⟨fd, F⟩ := c.def_ 16 (d := dd 25 "left_after") (by rfl)
  refine ⟨_, fd, ["debt", "rate", "pay", "months"], ⟨⟨_, _, _, _, _, F, z16, ⟨by rfl, by rfl, by rfl, by decide +kernel, by rfl, by decide +kernel, by decide +kernel⟩, rfl, rfl, rfl, rfl, by rfl⟩, He.glo_ok X G (c.fact 16 (f := .glo "left_after") (by rfl)), F.bindsN fun _ _ _ _ _ _ us hl => match us, hl with | [_, _, _, _], _ => by rfl⟩⟩
theorem g17 (X : K.In h) (G : h.Ns mainGlobals mg) (c : He.SaysD fa fn K) : ∃ f fd ps, Q.Gd K mg ds gi T "least_pay" 17 f fd ps := by
  obtain ⟨fd, F⟩ := c.def_ 17 (d := dd 26 "least_pay") (by rfl)
  refine ⟨_, fd, ["debt", "rate", "months"], ⟨⟨_, _, _, _, _, F, z17, ⟨by rfl, by rfl, by rfl, by decide +kernel, by rfl, by decide +kernel, by decide +kernel⟩, rfl, rfl, rfl, rfl, by rfl⟩, He.glo_ok X G (c.fact 17 (f := .glo "least_pay") (by rfl)), F.bindsN fun _ _ _ _ _ _ us hl => match us, hl with | [_, _, _], _ => by rfl⟩⟩
theorem g18 (X : K.In h) (G : h.Ns mainGlobals mg) (c : He.SaysD fa fn K) : ∃ f fd ps, Q.Gd K mg ds gi T "debt_after" 18 f fd ps := by
  obtain ⟨fd, F⟩ := c.def_ 18 (d := dd 27 "debt_after") (by rfl)
  refine ⟨_, fd, ["loan", "months"], ⟨⟨_, _, _, _, _, F, z18, ⟨by rfl, by rfl, by rfl, by decide +kernel, by rfl, by decide +kernel, by decide +kernel⟩, rfl, rfl, rfl, rfl, by rfl⟩, He.glo_ok X G (c.fact 18 (f := .glo "debt_after") (by rfl)), F.bindsN fun _ _ _ _ _ _ us hl => match us, hl with | [_, _], _ => by rfl⟩⟩
theorem g19 (X : K.In h) (G : h.Ns mainGlobals mg) (c : He.SaysD fa fn K) : ∃ f fd ps, Q.Gd K mg ds gi T "check_extra" 19 f fd ps := by
  obtain ⟨fd, F⟩ := c.def_ 19 (d := dd 28 "check_extra") (by rfl)
  refine ⟨_, fd, ["loan", "extra"], ⟨⟨_, _, _, _, _, F, z19, ⟨by rfl, by rfl, by rfl, by decide +kernel, by rfl, by decide +kernel, by decide +kernel⟩, rfl, rfl, rfl, rfl, by rfl⟩, He.glo_ok X G (c.fact 19 (f := .glo "check_extra") (by rfl)), F.bindsN fun _ _ _ _ _ _ us hl => match us, hl with | [_, _], _ => by rfl⟩⟩
theorem g20 (X : K.In h) (G : h.Ns mainGlobals mg) (c : He.SaysD fa fn K) : ∃ f fd ps, Q.Gd K mg ds gi T "row_with" 20 f fd ps := by
  obtain ⟨fd, F⟩ := c.def_ 20 (d := dd 29 "row_with") (by rfl)
  refine ⟨_, fd, ["loan", "extra"], ⟨⟨_, _, _, _, _, F, z20, ⟨by rfl, by rfl, by rfl, by decide +kernel, by rfl, by decide +kernel, by decide +kernel⟩, rfl, rfl, rfl, rfl, by rfl⟩, He.glo_ok X G (c.fact 20 (f := .glo "row_with") (by rfl)), F.bindsN fun _ _ _ _ _ _ us hl => match us, hl with | [_, _], _ => by rfl⟩⟩
theorem g21 (X : K.In h) (G : h.Ns mainGlobals mg) (c : He.SaysD fa fn K) : ∃ f fd ps, Q.Gd K mg ds gi T "saved_by" 21 f fd ps := by
  obtain ⟨fd, F⟩ := c.def_ 21 (d := dd 30 "saved_by") (by rfl)
  refine ⟨_, fd, ["loan", "extra"], ⟨⟨_, _, _, _, _, F, z21, ⟨by rfl, by rfl, by rfl, by decide +kernel, by rfl, by decide +kernel, by decide +kernel⟩, rfl, rfl, rfl, rfl, by rfl⟩, He.glo_ok X G (c.fact 21 (f := .glo "saved_by") (by rfl)), F.bindsN fun _ _ _ _ _ _ us hl => match us, hl with | [_, _], _ => by rfl⟩⟩
theorem g22 (X : K.In h) (G : h.Ns mainGlobals mg) (c : He.SaysD fa fn K) : ∃ f fd ps, Q.Gd K mg ds gi T "is_never" 22 f fd ps := by
  obtain ⟨fd, F⟩ := c.def_ 22 (d := dd 31 "is_never") (by rfl)
  refine ⟨_, fd, ["loan"], ⟨⟨_, _, _, _, _, F, z22, ⟨by rfl, by rfl, by rfl, by decide +kernel, by rfl, by decide +kernel, by decide +kernel⟩, rfl, rfl, rfl, rfl, by rfl⟩, He.glo_ok X G (c.fact 22 (f := .glo "is_never") (by rfl)), F.bindsN fun _ _ _ _ _ _ us hl => match us, hl with | [_], _ => by rfl⟩⟩
theorem g23 (X : K.In h) (G : h.Ns mainGlobals mg) (c : He.SaysD fa fn K) : ∃ f fd ps, Q.Gd K mg ds gi T "last_payment" 23 f fd ps := by
  obtain ⟨fd, F⟩ := c.def_ 23 (d := dd 32 "last_payment") (by rfl)
  refine ⟨_, fd, ["loan"], ⟨⟨_, _, _, _, _, F, z23, ⟨by rfl, by rfl, by rfl, by decide +kernel, by rfl, by decide +kernel, by decide +kernel⟩, rfl, rfl, rfl, rfl, by rfl⟩, He.glo_ok X G (c.fact 23 (f := .glo "last_payment") (by rfl)), F.bindsN fun _ _ _ _ _ _ us hl => match us, hl with | [_], _ => by rfl⟩⟩
theorem g24 (X : K.In h) (G : h.Ns mainGlobals mg) (c : He.SaysD fa fn K) : ∃ f fd ps, Q.Gd K mg ds gi T "halved_at" 24 f fd ps := by
  obtain ⟨fd, F⟩ := c.def_ 24 (d := dd 33 "halved_at") (by rfl)
  refine ⟨_, fd, ["loan"], ⟨⟨_, _, _, _, _, F, z24, ⟨by rfl, by rfl, by rfl, by decide +kernel, by rfl, by decide +kernel, by decide +kernel⟩, rfl, rfl, rfl, rfl, by rfl⟩, He.glo_ok X G (c.fact 24 (f := .glo "halved_at") (by rfl)), F.bindsN fun _ _ _ _ _ _ us hl => match us, hl with | [_], _ => by rfl⟩⟩
theorem g25 (X : K.In h) (G : h.Ns mainGlobals mg) (c : He.SaysD fa fn K) : ∃ f fd ps, Q.Gd K mg ds gi T "cheaper_of" 25 f fd ps := by
  obtain ⟨fd, F⟩ := c.def_ 25 (d := dd 34 "cheaper_of") (by rfl)
  refine ⟨_, fd, ["one", "other"], ⟨⟨_, _, _, _, _, F, z25, ⟨by rfl, by rfl, by rfl, by decide +kernel, by rfl, by decide +kernel, by decide +kernel⟩, rfl, rfl, rfl, rfl, by rfl⟩, He.glo_ok X G (c.fact 25 (f := .glo "cheaper_of") (by rfl)), F.bindsN fun _ _ _ _ _ _ us hl => match us, hl with | [_, _], _ => by rfl⟩⟩
theorem g26 (X : K.In h) (G : h.Ns mainGlobals mg) (c : He.SaysD fa fn K) : ∃ f fd ps, Q.Gd K mg ds gi T "takes_loan" 26 f fd ps := by
  obtain ⟨fd, F⟩ := c.def_ 26 (d := dd 36 "takes_loan") (by rfl)
  refine ⟨_, fd, ["loan", "told"], ⟨⟨_, _, _, _, _, F, z26, ⟨by rfl, by rfl, by rfl, by decide +kernel, by rfl, by decide +kernel, by decide +kernel⟩, rfl, rfl, rfl, rfl, by rfl⟩, He.glo_ok X G (c.fact 26 (f := .glo "takes_loan") (by rfl)), F.bindsN fun _ _ _ _ _ _ us hl => match us, hl with | [_, _], _ => by rfl⟩⟩
theorem g27 (X : K.In h) (G : h.Ns mainGlobals mg) (c : He.SaysD fa fn K) : ∃ f fd ps, Q.Gd K mg ds gi T "_law_draws" 27 f fd ps := by
  obtain ⟨fd, F⟩ := c.def_ 27 (d := dd 38 "_law_draws") (by rfl)
  refine ⟨_, fd, ["script"], ⟨⟨_, _, _, _, _, F, z27, ⟨by rfl, by rfl, by rfl, by decide +kernel, by rfl, by decide +kernel, by decide +kernel⟩, rfl, rfl, rfl, rfl, by rfl⟩, He.glo_ok X G (c.fact 27 (f := .glo "_law_draws") (by rfl)), F.bindsN fun _ _ _ _ _ _ us hl => match us, hl with | [_], _ => by rfl⟩⟩
theorem g28 (X : K.In h) (G : h.Ns mainGlobals mg) (c : He.SaysD fa fn K) : ∃ f fd ps, Q.Gd K mg ds gi T "_law_take" 28 f fd ps := by
  obtain ⟨fd, F⟩ := c.def_ 28 (d := dd 39 "_law_take") (by rfl)
  refine ⟨_, fd, ["draws", "bound"], ⟨⟨_, _, _, _, _, F, z28, ⟨by rfl, by rfl, by rfl, by decide +kernel, by rfl, by decide +kernel, by decide +kernel⟩, rfl, rfl, rfl, rfl, by rfl⟩, He.glo_ok X G (c.fact 28 (f := .glo "_law_take") (by rfl)), F.bindsN fun _ _ _ _ _ _ us hl => match us, hl with | [_, _], _ => by rfl⟩⟩
theorem g29 (X : K.In h) (G : h.Ns mainGlobals mg) (c : He.SaysD fa fn K) : ∃ f fd ps, Q.Gd K mg ds gi T "_law_pick" 29 f fd ps := by
  obtain ⟨fd, F⟩ := c.def_ 29 (d := dd 40 "_law_pick") (by rfl)
  refine ⟨_, fd, ["draws", "some"], ⟨⟨_, _, _, _, _, F, z29, ⟨by rfl, by rfl, by rfl, by decide +kernel, by rfl, by decide +kernel, by decide +kernel⟩, rfl, rfl, rfl, rfl, by rfl⟩, He.glo_ok X G (c.fact 29 (f := .glo "_law_pick") (by rfl)), F.bindsN fun _ _ _ _ _ _ us hl => match us, hl with | [_, _], _ => by rfl⟩⟩
theorem g30 (X : K.In h) (G : h.Ns mainGlobals mg) (c : He.SaysD fa fn K) : ∃ f fd ps, Q.Gd K mg ds gi T "_law_same" 30 f fd ps := by
  obtain ⟨fd, F⟩ := c.def_ 30 (d := dd 41 "_law_same") (by rfl)
  refine ⟨_, fd, ["actual", "due"], ⟨⟨_, _, _, _, _, F, z30, ⟨by rfl, by rfl, by rfl, by decide +kernel, by rfl, by decide +kernel, by decide +kernel⟩, rfl, rfl, rfl, rfl, by rfl⟩, He.glo_ok X G (c.fact 30 (f := .glo "_law_same") (by rfl)), F.bindsN fun _ _ _ _ _ _ us hl => match us, hl with | [_, _], _ => by rfl⟩⟩
theorem g31 (X : K.In h) (G : h.Ns mainGlobals mg) (c : He.SaysD fa fn K) : ∃ f fd ps, Q.Gd K mg ds gi T "_law_rate" 31 f fd ps := by
  obtain ⟨fd, F⟩ := c.def_ 31 (d := dd 42 "_law_rate") (by rfl)
  refine ⟨_, fd, ["draws"], ⟨⟨_, _, _, _, _, F, z31, ⟨by rfl, by rfl, by rfl, by decide +kernel, by rfl, by decide +kernel, by decide +kernel⟩, rfl, rfl, rfl, rfl, by rfl⟩, He.glo_ok X G (c.fact 31 (f := .glo "_law_rate") (by rfl)), F.bindsN fun _ _ _ _ _ _ us hl => match us, hl with | [_], _ => by rfl⟩⟩
theorem g32 (X : K.In h) (G : h.Ns mainGlobals mg) (c : He.SaysD fa fn K) : ∃ f fd ps, Q.Gd K mg ds gi T "_law_interest" 32 f fd ps := by
  obtain ⟨fd, F⟩ := c.def_ 32 (d := dd 43 "_law_interest") (by rfl)
  refine ⟨_, fd, ["debt", "rate"], ⟨⟨_, _, _, _, _, F, z32, ⟨by rfl, by rfl, by rfl, by decide +kernel, by rfl, by decide +kernel, by decide +kernel⟩, rfl, rfl, rfl, rfl, by rfl⟩, He.glo_ok X G (c.fact 32 (f := .glo "_law_interest") (by rfl)), F.bindsN fun _ _ _ _ _ _ us hl => match us, hl with | [_, _], _ => by rfl⟩⟩
theorem g33 (X : K.In h) (G : h.Ns mainGlobals mg) (c : He.SaysD fa fn K) : ∃ f fd ps, Q.Gd K mg ds gi T "law" 33 f fd ps := by
  obtain ⟨fd, F⟩ := c.def_ 33 (d := dd 44 "law") (by rfl)
  refine ⟨_, fd, ["script"], ⟨⟨_, _, _, _, _, F, z33, ⟨by rfl, by rfl, by rfl, by decide +kernel, by rfl, by decide +kernel, by decide +kernel⟩, rfl, rfl, rfl, rfl, by rfl⟩, He.glo_ok X G (c.fact 33 (f := .glo "law") (by rfl)), F.bindsN fun _ _ _ _ _ _ us hl => match us, hl with | [_], _ => by rfl⟩⟩
theorem lkup {α β : Type} [BEq α] [LawfulBEq α] {a : α} {b : β} : ∀ {l : List (α × β)}, l.lookup a = some b → (a, b) ∈ l
  | [], h => by cases h
  | (x, y) :: l, h => by
    rw [List.lookup_cons] at h
    split at h
    · rename_i e
      have := eq_of_beq e
      cases h; subst this; exact List.mem_cons_self
    · exact List.mem_cons_of_mem _ (lkup h)
theorem good (X : K.In h) (G : h.Ns mainGlobals mg) (c : He.SaysD fa fn K) : ∀ nm i, ds.lookup nm = some i → ∃ f fd ps, Q.Gd K mg ds gi T nm i f fd ps := by
  intro nm i hi
  have m := lkup hi
  rw [show ds = ds0 ++ ds1 from rfl] at m
  simp only [List.mem_append] at m
  rcases m with m | m
  · simp only [ds0, List.mem_cons, List.not_mem_nil, or_false, Prod.mk.injEq] at m
    rcases m with ⟨rfl, rfl⟩ | ⟨rfl, rfl⟩ | ⟨rfl, rfl⟩ | ⟨rfl, rfl⟩ | ⟨rfl, rfl⟩ | ⟨rfl, rfl⟩ | ⟨rfl, rfl⟩ | ⟨rfl, rfl⟩ | ⟨rfl, rfl⟩ | ⟨rfl, rfl⟩ | ⟨rfl, rfl⟩ | ⟨rfl, rfl⟩ | ⟨rfl, rfl⟩ | ⟨rfl, rfl⟩ | ⟨rfl, rfl⟩ | ⟨rfl, rfl⟩ | ⟨rfl, rfl⟩ | ⟨rfl, rfl⟩ | ⟨rfl, rfl⟩ | ⟨rfl, rfl⟩ | ⟨rfl, rfl⟩ | ⟨rfl, rfl⟩ | ⟨rfl, rfl⟩ | ⟨rfl, rfl⟩ | ⟨rfl, rfl⟩
    · exact g0 X G c
    · exact g1 X G c
    · exact g2 X G c
    · exact g3 X G c
    · exact g4 X G c
    · exact g5 X G c
    · exact g6 X G c
    · exact g7 X G c
    · exact g8 X G c
    · exact g9 X G c
    · exact g10 X G c
    · exact g11 X G c
    · exact g12 X G c
    · exact g13 X G c
    · exact g14 X G c
    · exact g15 X G c
    · exact g16 X G c
    · exact g17 X G c
    · exact g18 X G c
    · exact g19 X G c
    · exact g20 X G c
    · exact g21 X G c
    · exact g22 X G c
    · exact g23 X G c
    · exact g24 X G c
  · simp only [ds1, List.mem_cons, List.not_mem_nil, or_false, Prod.mk.injEq] at m
    rcases m with ⟨rfl, rfl⟩ | ⟨rfl, rfl⟩ | ⟨rfl, rfl⟩ | ⟨rfl, rfl⟩ | ⟨rfl, rfl⟩ | ⟨rfl, rfl⟩ | ⟨rfl, rfl⟩ | ⟨rfl, rfl⟩ | ⟨rfl, rfl⟩
    · exact g25 X G c
    · exact g26 X G c
    · exact g27 X G c
    · exact g28 X G c
    · exact g29 X G c
    · exact g30 X G c
    · exact g31 X G c
    · exact g32 X G c
    · exact g33 X G c
theorem gl0 (X : K.In h) (G : h.Ns mainGlobals mg) (c : He.SaysD fa fn K) : Q.Gl0 mg gi where
  gi := fun x i hi => by
    have m := lkup hi
    rw [show gi = gi0 from rfl] at m
    simp only [gi0, List.mem_cons, List.not_mem_nil, or_false, Prod.mk.injEq] at m
    rcases m with ⟨rfl, rfl⟩ | ⟨rfl, rfl⟩ | ⟨rfl, rfl⟩
    · exact He.int_ok X G (c.fact 50 (f := .int "MOST_DEBT" 1000000000) (by rfl))
    · exact He.int_ok X G (c.fact 51 (f := .int "MOST_MONTHS" 2400) (by rfl))
    · exact He.int_ok X G (c.fact 52 (f := .int "MOST_TERM" 600) (by rfl))
  bi := fun b => by
    cases b
    · exact He.free_ok X G (c.fact 34 (f := .free "len") (by rfl))
    · exact He.free_ok X G (c.fact 35 (f := .free "abs") (by rfl))
    · exact He.free_ok X G (c.fact 36 (f := .free "max") (by rfl))
    · exact He.free_ok X G (c.fact 37 (f := .free "min") (by rfl))
    · exact He.free_ok X G (c.fact 38 (f := .free "sum") (by rfl))
    · exact He.free_ok X G (c.fact 39 (f := .free "int") (by rfl))
    · exact He.free_ok X G (c.fact 40 (f := .free "all") (by rfl))
    · exact He.free_ok X G (c.fact 41 (f := .free "list") (by rfl))
  ty := fun b => by
    cases b
    · exact He.free_ok X G (c.fact 39 (f := .free "int") (by rfl))
    · exact He.free_ok X G (c.fact 42 (f := .free "bool") (by rfl))
    · exact He.free_ok X G (c.fact 43 (f := .free "str") (by rfl))
    · exact He.free_ok X G (c.fact 44 (f := .free "tuple") (by rfl))
    · exact He.free_ok X G (c.fact 41 (f := .free "list") (by rfl))
    · exact He.free_ok X G (c.fact 45 (f := .free "dict") (by rfl))
  oth := ⟨He.free_ok X G (c.fact 46 (f := .free "isinstance") (by rfl)), He.free_ok X G (c.fact 47 (f := .free "range") (by rfl)), He.free_ok X G (c.fact 48 (f := .free "enumerate") (by rfl)), He.free_ok X G (c.fact 49 (f := .free "reversed") (by rfl)), He.free_ok X G (c.fact 41 (f := .free "list") (by rfl))⟩
end
theorem facts {P : Program} {w : World} {K : PySem.W.Frag} {h : Heap} {mg : Str → Option Value} {f : Addr} (kk : Nat) (X : K.In h) (G : h.Ns mainGlobals mg) (hfa : mg ("law" : Str) = some (.ref f)) (c : He.SaysD fa fn K) :
    ∃ fd : FuncData, (∀ (s : Shared) (v : Value), BindsTo s fd ⟨[v], []⟩ [("script", v)]) ∧ ∀ base : Heap, K.In base → base.Ns mainGlobals mg → FnOk P w K mg base CX0 kk f fd ["script"] (Q.spI K (Q.call T kk) 33) := by
  obtain ⟨fd, F⟩ := c.def_ 33 (d := dd 44 "law") (by rfl)
  have e := hfa.symm.trans (He.glo_ok X G (c.fact 33 (f := .glo "law") (by rfl)))
  cases e
  have b := FunD.bindsA (ps := ["script"]) F fun _ _ _ _ _ _ us hl => match us, hl with | [_], _ => by rfl
  refine ⟨fd, fun s v => b s [v] rfl, fun base _ _ => Q.prog (good X G c) (gl0 X G c) kk "law" 33 _ fd ["script"] (by decide +kernel) ?_⟩
  exact ⟨⟨_, _, _, _, _, F, z33, ⟨by rfl, by rfl, by rfl, by decide +kernel, by rfl, by decide +kernel, by decide +kernel⟩, rfl, rfl, rfl, rfl, by rfl⟩, hfa, F.bindsN fun _ _ _ _ _ _ us hl => match us, hl with | [_], _ => by rfl⟩
end Hd
end

section
set_option Elab.async false
set_option linter.all false
set_option maxRecDepth 100000
set_option maxHeartbeats 0
namespace Hd
theorem x0 : b0 = Ek07.e0 := by kernel_rfl
theorem x1 : b1 = Ek07.e1 := by kernel_rfl
theorem x2 : b2 = Ek07.e2 := by kernel_rfl
theorem x3 : b3 = Ek07.e3 := by kernel_rfl
theorem x4 : b4 = Ek07.e4 := by kernel_rfl
theorem x5 : b5 = Ek07.e5 := by kernel_rfl
theorem x6 : b6 = Ek07.e6 := by kernel_rfl
theorem x7 : b7 = Ek07.e7 := by kernel_rfl
theorem x8 : b8 = Ek07.e8 := by kernel_rfl
theorem x9 : b9 = Ek07.e9 := by kernel_rfl
theorem x10 : b10 = Ek07.e10 := by kernel_rfl
theorem x11 : b11 = Ek07.e11 := by kernel_rfl
theorem x12 : b12 = Ek07.e12 := by kernel_rfl
theorem x13 : b13 = Ek07.e13 := by kernel_rfl
theorem x14 : b14 = Ek07.e14 := by kernel_rfl
theorem x15 : b15 = Ek07.e15 := by kernel_rfl
theorem x16 : b16 = Ek07.e16 := by kernel_rfl
theorem x17 : b17 = Ek07.e17 := by kernel_rfl
theorem x18 : b18 = Ek07.e18 := by kernel_rfl
theorem x19 : b19 = Ek07.e19 := by kernel_rfl
theorem x20 : b20 = Ek07.e20 := by kernel_rfl
theorem x21 : b21 = Ek07.e21 := by kernel_rfl
theorem x22 : b22 = Ek07.e22 := by kernel_rfl
theorem x23 : b23 = Ek07.e23 := by kernel_rfl
theorem x24 : b24 = Ek07.e24 := by kernel_rfl
theorem x25 : b25 = Ek07.e25 := by kernel_rfl
theorem x26 : b26 = Ek07.e26 := by kernel_rfl
theorem x27 : b27 = Ek07.e27 := by kernel_rfl
theorem x28 : b28 = Ek07.e28 := by kernel_rfl
theorem x29 : b29 = Ek07.e29 := by kernel_rfl
theorem x30 : b30 = Ek07.e30 := by kernel_rfl
theorem x31 : b31 = Ek07.e31 := by kernel_rfl
theorem x32 : b32 = Ek07.e32 := by kernel_rfl
theorem x33 : b33 = Ek07.e33 := by kernel_rfl
theorem T_eq : T = Ek07.T := by
  unfold T Ek07.T T0 Ek07.T0 T1 Ek07.T1
  rw [x0, x1, x2, x3, x4, x5, x6, x7, x8, x9, x10, x11, x12, x13, x14, x15, x16, x17, x18, x19, x20, x21, x22, x23, x24, x25, x26, x27, x28, x29, x30, x31, x32, x33]
end Hd
end

section
set_option Elab.async false
set_option linter.all false
set_option maxRecDepth 100000
set_option maxHeartbeats 0
open PySem PySem.W PySem.Calls PyProof.Rows
theorem holds_of_k07 (hlaw : ∀ ns : List Int, ns.length ≤ 63 → ∃ c, Q.call Ek07.T 12 33 [.lst (ns.map Q.D.int)] [] = .ok (false, .bl true) c) : PySem.Challenge.rw_coopward_k07_whole_great_loans.Holds := by
  w_on; o_law
  refine HandSHeadRun.head_any (r := OpenLaw.row PySem.Challenge.rw_coopward_k07_whole_great_loans) (q := view (OpenLaw.row PySem.Challenge.rw_coopward_k07_whole_great_loans).prog [44]) (H := Hd.hk) (ob := Hd.ob) (M := 6000) (loose := Hd.names) (d := HandSHeadRun.topDef (OpenLaw.row PySem.Challenge.rw_coopward_k07_whole_great_loans).prog 44) (kwd := []) Hd.ob_eq
    (by kernel_rfl) (fun s => by kernel_rfl) Hd.run (by kernel_rfl) (by kernel_rfl) (by kernel_rfl) (by rfl) (by first | assumption | decide +kernel) (by decide +kernel) ⟨rfl, rfl, rfl, rfl, rfl, by decide +kernel⟩ ?hw ?hc
  case hw => w_witness2
  case hc =>
    refine L2.walk_ofE (l := PySem.Challenge.rw_coopward_k07_whole_great_loans) (n := 63) (k := 12) (x := "script") (CX := L2.CX0) rfl (by decide) (by kernel_rfl) ⟨rfl, by decide, by decide⟩ ?F (fun _ _ _ _ z => z)
    intro w mg fa h Y G hmg0
    obtain ⟨K, KX, c⟩ := Y
    have hmg : mg ("law" : PySem.Str) = some (.ref fa) := by
      have e : (HandSHeadRun.topDef (OpenLaw.row PySem.Challenge.rw_coopward_k07_whole_great_loans).prog 44).name = ("law" : PySem.Str) := by kernel_rfl
      rw [← e]
      exact hmg0
    obtain ⟨fd, hb, hF⟩ := Hd.facts (P := (PySem.Challenge.rw_coopward_k07_whole_great_loans).prog) (w := w) 12 KX G hmg c
    refine ⟨K, fd, Q.spI K (Q.call Hd.T 12) 33, KX, hb, fun H a ns hl _ hS => ?_, hF⟩
    rw [Hd.T_eq]
    obtain ⟨c, hc⟩ := hlaw ns hl
    exact Q.law_sp hS hc
end

section
set_option Elab.async false
set_option linter.all false
set_option maxRecDepth 100000
set_option maxHeartbeats 4000000
namespace V07
open Q Ek07
theorem is_integer (k : Nat) (i : Int) (c : Cells) : call T (k + 1) 0 [.int i] c = .ok (false, .bl true) c := by
  rw [call_eq (fd := ⟨1, 1, e0⟩) rfl rfl]
  simp [e0, frame, isD]
theorem is_within (k : Nat) (i lo hi : Int) (c : Cells) : call T (k + 2) 1 [.int i, .int lo, .int hi] c = .ok (false, .bl (decide (lo ≤ i) && decide (i ≤ hi))) c := by
  rw [call_eq (fd := ⟨3, 3, e1⟩) rfl rfl]
  simp [e1, frame, isPk, callD, anyO, is_integer]
  by_cases h : lo ≤ i <;> simp [h]
theorem is_within_t (k : Nat) {i lo hi : Int} (h : lo ≤ i) (h2 : i ≤ hi) (c : Cells) : call T (k + 2) 1 [.int i, .int lo, .int hi] c = .ok (false, .bl true) c := by
  rw [is_within, decide_eq_true h, decide_eq_true h2]
  rfl
theorem check (k : Nat) (c : Cells) : call T (k + 1) 2 [.bl true] c = .ok (false, .non) c := by
  rw [call_eq (fd := ⟨1, 1, e2⟩) rfl rfl]
  simp [e2, frame]
theorem shared_loop (C : Cl) (c : Cells) : ∀ (b a n : Nat), b < n → whlL (fun s => (ev C (.cmp .gt (.v 1) (.c (.int 0))) s).b fun x s => tru x s) (fun s => xes C [.par [(0, false), (1, false)] [.v 1, .bin .mod (.v 0) (.v 1)]] s) n ⟨[some (false, .int a), some (false, .int b)], c⟩ = .ok .nx ⟨[some (false, .int (Nat.gcd a b)), some (false, .int 0)], c⟩ := by
  intro b
  induction b using Nat.strongRecOn with
  | _ b ih =>
    intro a n hn
    cases n with
    | zero => omega
    | succ n =>
      by_cases hb : b = 0
      · subst hb
        refine Eq.trans (whl_false (s1 := ⟨[some (false, .int a), some (false, .int 0)], c⟩) (by simp)) (by simp)
      · have h0 : 0 < b := by omega
        have h1 : (0 : Int) < b := by omega
        have h2 : ((a : Int) % (b : Int)) = ((a % b : Nat) : Int) := rfl
        have := ih (a % b) (Nat.mod_lt _ h0) b n (by have := Nat.mod_lt a h0; omega)
        rw [Nat.gcd_comm b, ← Nat.gcd_rec, Nat.gcd_comm] at this
        exact (whl_true (s1 := ⟨[some (false, .int a), some (false, .int b)], c⟩) (s2 := ⟨[some (false, .int b), some (false, .int ((a % b : Nat) : Int))], c⟩) (by simp [h0]) (by simp [isPk, parR, h0])).trans this
theorem shared (k : Nat) (a b : Nat) (c : Cells) (hb : b < 10 ^ 18) : call T (k + 1) 3 [.int a, .int b] c = .ok (false, .int (Nat.gcd a b)) c := by
  refine call_ret (b := e3) (s := ⟨[some (false, .int (Nat.gcd a b)), some (false, .int 0)], c⟩) rfl rfl ?_
  refine (xes_nx (s1 := ⟨[some (false, .int a), some (false, .int b)], c⟩) (by simp [isPk, parR])).trans ((xes_nx (s1 := ⟨[some (false, .int (Nat.gcd a b)), some (false, .int 0)], c⟩) ?_).trans (by simp))
  rw [xe_whl]; exact shared_loop _ _ _ _ _ hb
/-- rates that are right -/
structure Rok (n v : Int) : Prop where
  n0 : 0 ≤ n
  le : n ≤ v
  v0 : 0 < v
  vs : v < 1000
  g : Nat.gcd n.toNat v.toNat = 1
def rt (n v : Int) : D := .tup [.int n, .int v]
def ln (d n v p : Int) : D := .tup [.int d, rt n v, .int p]
theorem Rok.sh {n v : Int} (r : Rok n v) (k : Nat) (c : Cells) : call T (k + 1) 3 [.int n, .int v] c = .ok (false, .int 1) c := by
  have h1 := r.n0
  have h2 := r.v0
  have h3 := r.vs
  have := shared k n.toNat v.toNat c (by omega)
  rw [Int.toNat_of_nonneg h1, Int.toNat_of_nonneg (Int.le_of_lt h2), r.g] at this
  exact this
theorem is_rate {n v : Int} (r : Rok n v) (k : Nat) (c : Cells) : call T (k + 2) 6 [rt n v] c = .ok (false, .bl true) c := by
  rw [call_eq (fd := ⟨1, 1, e6⟩) rfl rfl]
  have h1 := r.n0
  have h2 := r.v0
  have h3 := r.le
  simp [e6, frame, isPk, callD, anyO, is_integer, rt, isD, xes_cons, r.sh, h1, h2, h3]
theorem is_loan {d n v p : Int} (r : Rok n v) (hd0 : 0 ≤ d) (hd : d ≤ 1000000000) (hp0 : 1 ≤ p) (hp : p ≤ 1000000000) (k : Nat) (c : Cells) : call T (k + 3) 7 [ln d n v p] c = .ok (false, .bl true) c := by
  rw [call_eq (fd := ⟨1, 1, e7⟩) rfl rfl]
  simp [e7, frame, isPk, callD, anyO, is_within, is_rate r, ln, isD, xes_cons, hd0, hd, hp0, hp]
theorem check_loan {d n v p : Int} (r : Rok n v) (hd0 : 0 ≤ d) (hd : d ≤ 1000000000) (hp0 : 1 ≤ p) (hp : p ≤ 1000000000) (k : Nat) (c : Cells) : call T (k + 4) 8 [ln d n v p] c = .ok (false, .non) c := by
  rw [call_eq (fd := ⟨1, 1, e8⟩) rfl rfl]
  simp [e8, frame, isPk, isV, callD, anyO, is_loan r hd0 hd hp0 hp, check]
def I (n v d : Int) : Int := (2 * d * n + v) / (2 * v)
theorem interest_on {n v d : Int} (r : Rok n v) (hd : sml 5000 d) (k : Nat) (c : Cells) : call T (k + 1) 9 [.int d, rt n v] c = .ok (false, .int (I n v d)) c := by
  rw [call_eq (fd := ⟨2, 2, e9⟩) rfl rfl]
  have h1 := r.n0
  have h2 := r.v0
  have h3 := r.le
  have h4 := r.vs
  have sn : smI n = true := sml.sm (k := 10) (by unfold sml; omega) (by decide)
  have sv : smI v = true := sml.sm (k := 10) (by unfold sml; omega) (by decide)
  have sv2 : smI (2 * v) = true := sml.sm (k := 11) (by unfold sml; omega) (by decide)
  have s2 : smI 2 = true := sml.sm (k := 2) (by unfold sml; omega) (by decide)
  have sd : smI d = true := hd.sm (by decide)
  have sd2 : smI (2 * d) = true := hd.two.sm (by decide)
  have h5 : 0 < 2 * v := by omega
  simp [e9, frame, isPk, rt, sn, sv, sv2, s2, sd, sd2, h5, I]
theorem never_by {n v d p : Int} (r : Rok n v) (hd : sml 5000 d) (k : Nat) (c : Cells) : call T (k + 2) 10 [ln d n v p] c = .ok (false, .bl (decide (0 < d) && decide (p ≤ I n v d))) c := by
  rw [call_eq (fd := ⟨1, 4, e10⟩) rfl rfl]
  simp [e10, frame, isPk, isV, ln, asg, asgs, callD, anyO, interest_on r hd, xes_cons]
  by_cases h : 0 < d <;> simp [h]
theorem month_of {n v d p : Int} (r : Rok n v) (hd : sml 5000 d) (k : Nat) (c : Cells) : call T (k + 2) 11 [.int d, rt n v, .int p] c = .ok (false, .tup [.int (I n v d), .int (min p (d + I n v d)), .int (d + I n v d - min p (d + I n v d))]) c := by
  rw [call_eq (fd := ⟨3, 5, e11⟩) rfl rfl]
  simp [e11, frame, isPk, isV, callD, anyO, interest_on r hd, xes_cons]
end V07
end

section
set_option Elab.async false
set_option linter.all false
set_option maxRecDepth 100000
set_option maxHeartbeats 4000000
namespace V07
open Q Ek07
def nx (n v p d : Int) : Int := d + I n v d - min p (d + I n v d)
def sq (n v : Int) (P : Nat → Int) (D : Int) : Nat → Int
  | 0 => D
  | k + 1 => nx n v (P k) (sq n v P D k)
def row (n v : Int) (P : Nat → Int) (D : Int) (k : Nat) : Q.D := .tup [.int (I n v (sq n v P D k)), .int (min (P k) (sq n v P D k + I n v (sq n v P D k))), .int (sq n v P D (k + 1))]
def rows (n v : Int) (P : Nat → Int) (D : Int) (M : Nat) : List Q.D := (List.range M).map (row n v P D)
structure Run (n v : Int) (P : Nat → Int) (D : Int) (M : Nat) : Prop where
  r : Rok n v
  pos : ∀ k, k < M → 0 < sq n v P D k
  fin : sq n v P D M = 0
  few : M ≤ 2400
  small : ∀ k, k ≤ M → sml 5000 (sq n v P D k)
theorem rows_len {n v : Int} {P : Nat → Int} {D : Int} {M : Nat} : (rows n v P D M).length = M := by simp [rows]
theorem rows_succ {n v : Int} {P : Nat → Int} {D : Int} {M : Nat} : rows n v P D (M + 1) = rows n v P D M ++ [row n v P D M] := by simp [rows, List.range_succ]
theorem rows_by {n v p D : Int} {E : Nat → Int} {kvs : List (Q.D × Q.D)} {M : Nat} (R : Run n v (fun k => p + E k) D M) (hE : ∀ k : Nat, (getD kvs (.int k)).getD (.int 0) = .int (E k)) (hn : 0 < D → I n v D < p) (k : Nat) (c : Cells) :
    call T (k + 3) 12 [ln D n v p, .dct kvs] c = .ok (true, .lst (rows n v (fun k => p + E k) D M)) c := by
  have hs : sml 5000 D := R.small 0 (Nat.zero_le _)
  let st : Nat → S := fun j => ⟨[some (false, ln D n v p), some (false, .dct kvs), some (true, .lst (rows n v (fun k => p + E k) D j)), some (false, .int (sq n v (fun k => p + E k) D j)), some (false, rt n v), some (false, .int p)], c⟩
  refine call_ret (b := e12) (s := st M) rfl rfl ?_
  refine (xes_nx (s1 := ⟨[some (false, ln D n v p), some (false, .dct kvs), none, some (false, .int D), some (false, rt n v), some (false, .int p)], c⟩) (by simp [isPk, ln, asg, asgs])).trans ?_
  refine (xes_nx (s1 := ⟨[some (false, ln D n v p), some (false, .dct kvs), none, some (false, .int D), some (false, rt n v), some (false, .int p)], c⟩) ?_).trans ?_
  · have : ¬ (0 < D ∧ p ≤ I n v D) := fun h => by have := hn h.1; omega
    simp [isPk, isV, callD, anyO, never_by R.r hs]
    intro h1
    exact hn h1
  refine (xes_nx (s1 := st 0) (by simp [isPk, st, rows, sq])).trans ?_
  refine (xes_nx (s1 := st M) ?_).trans (by simp [st])
  rw [xe_whl]
  refine whl_iter (M := M) (fun j hj => ⟨?_, .inl ?_⟩) ?_ (Nat.lt_of_le_of_lt R.few (by decide))
  · have := R.pos j hj
    simp [st, this]
  · have hp := R.pos j hj
    have hm := R.few
    have h1 : ¬ ((j : Int) = 2400) := by omega
    have h2 : j < lim := Nat.lt_trans (Nat.lt_of_lt_of_le hj hm) (by decide)
    refine (xes_nx (s1 := st j) (by simp [st, isPk, isV, rows_len, h1])).trans ?_
    refine (xes_nx (s1 := ⟨[some (false, ln D n v p), some (false, .dct kvs), some (true, .lst (rows n v (fun k => p + E k) D (j + 1))), some (false, .int (sq n v (fun k => p + E k) D j)), some (false, rt n v), some (false, .int p)], c⟩) ?_).trans ?_
    · have := month_of (p := p + E j) R.r (R.small j (Nat.le_of_lt hj)) k c
      simp [st, isPk, isV, rows_len, isKey, hE, callD, anyO, this, rows_succ, h2]
      rfl
    · simp [st, isPk, rows_succ, row]
  · have := R.fin
    simp [st, this]
/-- no extra pence -/
theorem noE (k : Nat) : (getD [] (.int k)).getD (.int 0) = .int ((fun _ => 0 : Nat → Int) k) := rfl
abbrev cP (p : Int) : Nat → Int := fun _ => p
theorem cP_eq {p : Int} : (fun k => p + (fun _ => 0 : Nat → Int) k) = cP p := by funext k; simp [cP]
theorem rows0 {n v p D : Int} {M : Nat} (R : Run n v (cP p) D M) (hn : 0 < D → I n v D < p) (k : Nat) (c : Cells) : call T (k + 3) 12 [ln D n v p, .dct []] c = .ok (true, .lst (rows n v (cP p) D M)) c := by
  have := rows_by (p := p) (E := fun _ => 0) (kvs := []) (M := M) (by rw [cP_eq]; exact R) noE hn k c
  rwa [cP_eq] at this
/-- a loan that is right -/
structure Lok (n v D p : Int) : Prop where
  r : Rok n v
  d0 : 0 ≤ D
  d1 : D ≤ 1000000000
  p0 : 1 ≤ p
  p1 : p ≤ 1000000000
theorem Lok.sm {n v D p : Int} (l : Lok n v D p) : sml 5000 D := by
  have h1 := l.d0
  have h2 := l.d1
  exact sml.mono (k := 40) (by unfold sml; omega) (by decide)
theorem Lok.check {n v D p : Int} (l : Lok n v D p) (k : Nat) (c : Cells) : call T (k + 4) 8 [ln D n v p] c = .ok (false, .non) c := check_loan l.r l.d0 l.d1 l.p0 l.p1 k c
section
variable {n v p D : Int} {M : Nat}
theorem row_of_loan (l : Lok n v D p) (R : Run n v (cP p) D M) (hn : 0 < D → I n v D < p) (k : Nat) (c : Cells) : call T (k + 5) 13 [ln D n v p] c = .ok (true, .lst (rows n v (cP p) D M)) c := by
  refine call_ret (b := e13) (s := ⟨[some (false, ln D n v p)], c⟩) rfl rfl ?_
  refine (xes_nx (s1 := ⟨[some (false, ln D n v p)], c⟩) (by simp [isPk, isV, callD, anyO, l.check])).trans ?_
  simp [isPk, isV, callD, anyO, mkD, rows0 R hn]
theorem months_of (l : Lok n v D p) (R : Run n v (cP p) D M) (hn : 0 < D → I n v D < p) (k : Nat) (c : Cells) : call T (k + 5) 14 [ln D n v p] c = .ok (false, .int M) c := by
  refine call_ret (b := e14) (s := ⟨[some (false, ln D n v p)], c⟩) rfl rfl ?_
  refine (xes_nx (s1 := ⟨[some (false, ln D n v p)], c⟩) (by simp [isPk, isV, callD, anyO, l.check])).trans ?_
  by_cases h : 0 < D
  · have := hn h
    have h2 : ¬ p ≤ I n v D := by omega
    simp [isPk, isV, callD, anyO, mkD, rows0 R hn, never_by l.r l.sm, h2, rows_len]
  · simp [isPk, isV, callD, anyO, mkD, rows0 R hn, never_by l.r l.sm, h, rows_len]
theorem months_none (l : Lok n v D p) (h : 0 < D) (h2 : p ≤ I n v D) (k : Nat) (c : Cells) : call T (k + 5) 14 [ln D n v p] c = .ok (false, .non) c := by
  refine call_ret (b := e14) (s := ⟨[some (false, ln D n v p)], c⟩) rfl rfl ?_
  refine (xes_nx (s1 := ⟨[some (false, ln D n v p)], c⟩) (by simp [isPk, isV, callD, anyO, l.check])).trans ?_
  simp [isPk, isV, callD, anyO, never_by l.r l.sm, h2, h]
theorem is_never (l : Lok n v D p) (k : Nat) (c : Cells) : call T (k + 5) 22 [ln D n v p] c = .ok (false, .bl (decide (0 < D) && decide (p ≤ I n v D))) c := by
  refine call_ret (b := e22) (s := ⟨[some (false, ln D n v p)], c⟩) rfl rfl ?_
  refine (xes_nx (s1 := ⟨[some (false, ln D n v p)], c⟩) (by simp [isPk, isV, callD, anyO, l.check])).trans ?_
  simp [isPk, isV, callD, anyO, never_by l.r l.sm]
theorem last_payment (l : Lok n v D p) (R : Run n v (cP p) D (M + 1)) (hn : 0 < D → I n v D < p) (k : Nat) (c : Cells) : call T (k + 5) 23 [ln D n v p] c = .ok (false, .int (min p (sq n v (cP p) D M + I n v (sq n v (cP p) D M)))) c := by
  refine call_ret (b := e23) (s := ⟨[some (false, ln D n v p), some (false, .lst (rows n v (cP p) D (M + 1)))], c⟩) rfl rfl ?_
  refine (xes_nx (s1 := ⟨[some (false, ln D n v p), none], c⟩) (by simp [isPk, isV, callD, anyO, l.check])).trans ?_
  refine (xes_nx (s1 := ⟨[some (false, ln D n v p), some (false, .lst (rows n v (cP p) D (M + 1)))], c⟩) (by simp [isPk, isV, callD, anyO, mkD, rows0 R hn])).trans ?_
  have h : (0 : Int) < (M : Int) + 1 := by omega
  simp [isPk, isV, rows_len, rows_succ, row, h, cP]
end
end V07
end

section
set_option Elab.async false
set_option linter.all false
set_option maxRecDepth 100000
set_option maxHeartbeats 4000000
/-! ### loans, in numbers -/
namespace V07
open Q (sml)
section
variable {n v : Int}
theorem I_mono (r : Rok n v) {d d' : Int} (h : d ≤ d') : I n v d ≤ I n v d' := by
  unfold I
  have h1 := r.n0
  have h2 := r.v0
  refine Int.ediv_le_ediv (by omega) ?_
  have := Int.mul_le_mul_of_nonneg_right (show 2 * d ≤ 2 * d' by omega) h1
  omega
theorem I_zero (r : Rok n v) : I n v 0 = 0 := by
  unfold I
  have h2 := r.v0
  have : (2 * 0 * n + v) = v := by simp
  rw [this]
  exact Int.ediv_eq_zero_of_lt (by omega) (by omega)
theorem I_nonneg (r : Rok n v) {d : Int} (h : 0 ≤ d) : 0 ≤ I n v d := by
  rw [← I_zero r]; exact I_mono r h
theorem I_le (r : Rok n v) {d : Int} (h : 0 ≤ d) : I n v d ≤ d := by
  unfold I
  have h1 := r.n0
  have h2 := r.v0
  have h3 := r.le
  have h4 : 2 * d * n ≤ 2 * d * v := Int.mul_le_mul_of_nonneg_left h3 (by omega)
  have h5 : (2 * d * n + v) ≤ (2 * v) * d + v := by
    have : 2 * d * v = 2 * v * d := by rw [Int.mul_assoc, Int.mul_comm d v, Int.mul_assoc]
    omega
  refine Int.le_trans (Int.ediv_le_ediv (by omega) h5) ?_
  rw [Int.mul_comm (2 * v) d, Int.add_comm, Int.add_mul_ediv_right _ _ (by omega)]
  have : v / (2 * v) = 0 := Int.ediv_eq_zero_of_lt (by omega) (by omega)
  omega
theorem nx_max {p d : Int} : nx n v p d = max 0 (d + I n v d - p) := by unfold nx; omega
theorem nx_mono (r : Rok n v) {p p' d d' : Int} (h : d ≤ d') (hp : p' ≤ p) : nx n v p d ≤ nx n v p' d' := by
  have := I_mono r h
  rw [nx_max, nx_max]; omega
theorem nx_nonneg {p d : Int} : 0 ≤ nx n v p d := by rw [nx_max]; omega
theorem nx_zero (r : Rok n v) {p : Int} (h : 0 ≤ p) : nx n v p 0 = 0 := by
  rw [nx_max, I_zero r]; omega
theorem sq_nonneg {P : Nat → Int} {D : Int} (h : 0 ≤ D) : ∀ k, 0 ≤ sq n v P D k
  | 0 => h
  | k + 1 => nx_nonneg
theorem sq_mono (r : Rok n v) {P P' : Nat → Int} {D D' : Int} (h : D ≤ D') (hp : ∀ k, P' k ≤ P k) : ∀ k, sq n v P D k ≤ sq n v P' D' k
  | 0 => h
  | k + 1 => nx_mono r (sq_mono r h hp k) (hp k)
theorem sq_after (r : Rok n v) {P : Nat → Int} {D : Int} (hp : ∀ k, 0 ≤ P k) {k : Nat} (h : sq n v P D k = 0) : ∀ j, sq n v P D (k + j) = 0
  | 0 => h
  | j + 1 => by
    show nx n v (P (k + j)) (sq n v P D (k + j)) = 0
    rw [sq_after r hp h j]; exact nx_zero r (hp _)
theorem sq_shift {p D : Int} : ∀ k, sq n v (cP p) D (k + 1) = sq n v (cP p) (nx n v p D) k
  | 0 => rfl
  | k + 1 => by
    show nx n v p (sq n v (cP p) D (k + 1)) = nx n v p (sq n v (cP p) (nx n v p D) k)
    rw [sq_shift k]
/-- debts at most double -/
theorem sq_grow (r : Rok n v) {P : Nat → Int} {D : Int} (h : 0 ≤ D) (hp : ∀ k, 0 ≤ P k) {a : Nat} (hs : sml a D) : ∀ k, sml (a + k) (sq n v P D k)
  | 0 => hs
  | k + 1 => by
    have ih := sq_grow r h hp hs k
    have h1 := sq_nonneg (n := n) (v := v) (P := P) h k
    have h2 := I_le r h1
    have h3 := hp k
    refine Q.sml.le ih.two ?_ ?_
    · exact nx_nonneg
    · show nx n v (P k) (sq n v P D k) ≤ _
      rw [nx_max]; omega
/-- a loan whose pay is above its interest falls -/
theorem sq_fall (r : Rok n v) {P : Nat → Int} {D : Int} (h : 0 ≤ D) {b : Int} (hp : ∀ k, I n v D + b ≤ P k) (hb : 0 ≤ b) : ∀ k, sq n v P D k ≤ max 0 (D - b * k) ∧ sq n v P D k ≤ D
  | 0 => ⟨by simp [sq]; omega, Int.le_refl _⟩
  | k + 1 => by
    obtain ⟨h1, h2⟩ := sq_fall r h hp hb k
    have h3 := I_mono r h2
    have h4 := hp k
    have e : sq n v P D (k + 1) = max 0 (sq n v P D k + I n v (sq n v P D k) - P k) := nx_max
    have e2 : b * ((k + 1 : Nat) : Int) = b * k + b := by rw [Int.natCast_add, Int.mul_add]; simp
    rw [e2, e]
    constructor <;> omega
/-- how many months -/
theorem months_ex {P : Nat → Int} {D : Int} (h : 0 ≤ D) : ∀ {N : Nat}, sq n v P D N = 0 → ∃ M, M ≤ N ∧ sq n v P D M = 0 ∧ ∀ k, k < M → 0 < sq n v P D k := by
  intro N
  induction N using Nat.strongRecOn with
  | _ N ih =>
    intro hN
    by_cases hall : ∃ k, k < N ∧ sq n v P D k = 0
    · obtain ⟨k, hk, hz⟩ := hall
      obtain ⟨M, h1, h2, h3⟩ := ih k hk hz
      exact ⟨M, by omega, h2, h3⟩
    · refine ⟨N, Nat.le_refl _, hN, fun j hj => ?_⟩
      have h1 := sq_nonneg (n := n) (v := v) (P := P) h j
      have h2 : sq n v P D j ≠ 0 := fun e => hall ⟨j, hj, e⟩
      omega
/-- a loan as the law draws it: it falls by b a month, at most 200 months -/
theorem run_of (r : Rok n v) {P : Nat → Int} {D b : Int} (hD : 0 ≤ D) (hD2 : D ≤ 1000000000) (hp : ∀ k, I n v D + b ≤ P k) (hb : 0 ≤ b) (h200 : D ≤ b * 200) : ∃ M, M ≤ 200 ∧ Run n v P D M := by
  obtain ⟨h1, h2⟩ := sq_fall r hD hp hb 200
  have h0 := sq_nonneg (n := n) (v := v) (P := P) hD 200
  have hz : sq n v P D 200 = 0 := by
    have : b * ((200 : Nat) : Int) = b * 200 := rfl
    omega
  obtain ⟨M, h3, h4, h5⟩ := months_ex hD hz
  refine ⟨M, h3, r, h5, h4, by omega, fun k hk => ?_⟩
  have := (sq_fall r hD hp hb k).2
  have h6 := sq_nonneg (n := n) (v := v) (P := P) hD k
  refine Q.sml.mono (k := 40) ?_ (by decide)
  unfold Q.sml
  omega
theorem Run.uniq {P : Nat → Int} {D : Int} {M M' : Nat} (h : Run n v P D M) (h' : Run n v P D M') : M = M' := by
  rcases Nat.lt_trichotomy M M' with x | x | x
  · have := h'.pos M x; rw [h.fin] at this; omega
  · exact x
  · have := h.pos M' x; rw [h'.fin] at this; omega
/-- more pay: no more months, no higher debts -/
theorem Run.le (r : Rok n v) {P P' : Nat → Int} {D : Int} {M M' : Nat} (hD : 0 ≤ D) (h : Run n v P D M) (h' : Run n v P' D M') (hp : ∀ k, P k ≤ P' k) : M' ≤ M := by
  by_cases x : M < M'
  · have h1 := h'.pos M x
    have h2 := sq_mono r (Int.le_refl D) hp M
    rw [h.fin] at h2
    omega
  · omega
/-! sums -/
def sumI (n v : Int) (P : Nat → Int) (D : Int) (M : Nat) : Int := ((List.range M).map fun k => I n v (sq n v P D k)).sum
def sumP (n v : Int) (P : Nat → Int) (D : Int) (M : Nat) : Int := ((List.range M).map fun k => min (P k) (sq n v P D k + I n v (sq n v P D k))).sum
theorem sum_succ {f : Nat → Int} {M : Nat} : ((List.range (M + 1)).map f).sum = ((List.range M).map f).sum + f M := by
  rw [List.range_succ, List.map_append, List.sum_append]; simp
theorem sums (P : Nat → Int) (D : Int) : ∀ M, sumP n v P D M + sq n v P D M = D + sumI n v P D M
  | 0 => by simp [sumP, sumI, sq]
  | M + 1 => by
    have ih := sums P D M
    have e : sq n v P D (M + 1) = sq n v P D M + I n v (sq n v P D M) - min (P M) (sq n v P D M + I n v (sq n v P D M)) := rfl
    unfold sumP sumI at *
    rw [sum_succ, sum_succ, e]
    omega
theorem sumP_eq {P : Nat → Int} {D : Int} {M : Nat} (h : Run n v P D M) : sumP n v P D M = D + sumI n v P D M := by
  have := sums (n := n) (v := v) P D M
  rw [h.fin] at this
  omega
theorem sum_le {f g : Nat → Int} : ∀ {M : Nat}, (∀ k, k < M → f k ≤ g k) → ((List.range M).map f).sum ≤ ((List.range M).map g).sum
  | 0, _ => Int.le_refl _
  | M + 1, h => by
    rw [sum_succ, sum_succ]
    have := sum_le (f := f) (g := g) (M := M) fun k hk => h k (by omega)
    have := h M (by omega)
    omega
theorem sumI_ext (r : Rok n v) {P : Nat → Int} {D : Int} {M : Nat} (hp : ∀ k, 0 ≤ P k) (h : sq n v P D M = 0) : ∀ j, sumI n v P D (M + j) = sumI n v P D M
  | 0 => rfl
  | j + 1 => by
    have ih := sumI_ext r hp h j
    unfold sumI at *
    rw [← Nat.add_assoc, sum_succ, ih, sq_after r hp h j, I_zero r]
    omega
theorem sumI_le (r : Rok n v) {P P' : Nat → Int} {D : Int} {M M' : Nat} (hp : ∀ k, 0 ≤ P k) (hp' : ∀ k, 0 ≤ P' k) (h : Run n v P D M) (h' : Run n v P' D M') (hle : ∀ k, sq n v P' D k ≤ sq n v P D k) : sumI n v P' D M' ≤ sumI n v P D M := by
  have e1 := sumI_ext r hp h.fin M'
  have e2 := sumI_ext r hp' h'.fin M
  rw [← e1, ← e2, Nat.add_comm M' M]
  exact sum_le fun k _ => I_mono r (hle k)
end
end V07
end

section
set_option Elab.async false
set_option linter.all false
set_option maxRecDepth 100000
set_option maxHeartbeats 4000000
namespace V07
open Q Ek07
section
variable {n v p D : Int} {M : Nat} {P : Nat → Int}
theorem rows_fm {h : Q.D → Option Q.D} {g : Nat → Q.D} (hh : ∀ k, h (row n v P D k) = some (g k)) : (rows n v P D M).filterMap h = (List.range M).map g := by
  unfold rows
  rw [List.filterMap_map]
  rw [show (h ∘ row n v P D) = fun k => some (g k) from funext hh]
  rw [List.filterMap_eq_map']
theorem bi_sumR {f : Nat → Int} {c : Cells} : biD .sum [.lst ((List.range M).map fun k => .int (f k))] c = some (false, .int ((List.range M).map f).sum) := by
  have : (List.range M).map (fun k => D.int (f k)) = ((List.range M).map f).map D.int := by rw [List.map_map]; rfl
  rw [this]; exact bi_sum
theorem mem_rows {x : Q.D} (h : x ∈ rows n v P D M) : ∃ k, k < M ∧ x = row n v P D k := by
  unfold rows at h
  obtain ⟨k, hk, e⟩ := List.mem_map.mp h
  exact ⟨k, List.mem_range.mp hk, e.symm⟩
theorem lim_M (h : M ≤ 2400) : (rows n v P D M).length ≤ lim := by rw [rows_len]; exact Nat.le_trans h (by decide)
theorem all_interest (l : Lok n v D p) (R : Run n v (cP p) D M) (hn : 0 < D → I n v D < p) (k : Nat) (c : Cells) : call T (k + 5) 15 [ln D n v p] c = .ok (false, .int (sumI n v (cP p) D M)) c := by
  refine call_ret (b := e15) (s := ⟨[some (false, ln D n v p), none, none], c⟩) rfl rfl ?_
  refine (xes_nx (s1 := ⟨[some (false, ln D n v p), none, none], c⟩) (by simp [isPk, isV, callD, anyO, l.check])).trans ?_
  have e : ev (call T (k + 4)) (.lc (.v 1) (.t [.n 1, .n 2, .n 2]) .seq [.call 12 [.v 0, .dct []]] none [1, 2]) ⟨[some (false, ln D n v p), none, none], c⟩ = .ok (true, .lst ((List.range M).map fun k => .int (I n v (sq n v (cP p) D k)))) ⟨[some (false, ln D n v p), none, none], c⟩ := by
    refine ev_lcP (s1 := ⟨[some (false, ln D n v p), none, none], c⟩) (fun d => ixD d (.int 0)) (ds := [.lst (rows n v (cP p) D M)]) (xs := rows n v (cP p) D M) (w := [some (false, ln D n v p), none, none]) (by simp [isPk, isV, callD, anyO, mkD, rows0 R hn]) rfl rfl (lim_M R.few) (by simp) rfl (fun x hx => ?_) (rows_fm fun k => by simp [row])
    obtain ⟨j, hj, rfl⟩ := mem_rows hx
    exact ⟨[some (false, ln D n v p), some (false, .int (I n v (sq n v (cP p) D j))), some (false, .int (sq n v (cP p) D (j + 1)))], by simp [row, asg, asgs], rfl, .inr ⟨rfl, (false, .int (I n v (sq n v (cP p) D j))), rfl, rfl, by simp [row]⟩⟩
  rw [xes_one, xe_ret, ev_bi, evA_cons, e]
  simp [isPk, bi_sumR]
  rfl
theorem left_loop (r : Rok n v) (hp : 0 ≤ p) (m0 : Q.D) (k : Nat) (c : Cells) : ∀ (xs : List Q.D) (d : Int) (x4 : Option (Bool × Q.D)), (∀ j, j ≤ xs.length → sml 5000 (sq n v (cP p) d j)) →
    ∃ fl s, forL (fun x s => (R.of (asg (.n 4) x s.r) s).b fun r s => xes (call T (k + 2)) [.ite (.cmp .eq (.v 0) (.c (.int 0))) [.ret (.c (.int 0))] [], .set 0 (.ix (.call 11 [.v 0, .v 1, .v 2]) (.c (.int 2)))] ⟨r, s.c⟩) xs ⟨[some (false, .int d), some (false, rt n v), some (false, .int p), some (false, m0), x4], c⟩ = .ok fl s ∧ s.c = c ∧
      ((fl = .nx ∧ s.r[0]? = some (some (false, .int (sq n v (cP p) d xs.length)))) ∨ (fl = .ret false (.int 0) ∧ sq n v (cP p) d xs.length = 0))
  | [], d, x4, _ => ⟨.nx, _, rfl, rfl, .inl ⟨rfl, rfl⟩⟩
  | x :: xs, d, x4, hs => by
    by_cases hd : d = 0
    · refine ⟨.ret false (.int 0), ⟨[some (false, .int d), some (false, rt n v), some (false, .int p), some (false, m0), some (false, x)], c⟩, ?_, rfl, .inr ⟨rfl, ?_⟩⟩
      · subst hd
        simp [forL, asg, xes_cons]
      · have := sq_after (n := n) (v := v) (P := cP p) (D := d) r (fun _ => hp) (k := 0) hd (xs.length + 1)
        rw [Nat.zero_add] at this
        exact this
    · obtain ⟨fl, s, e, hc, h⟩ := left_loop r hp m0 k c xs (nx n v p d) (some (false, x)) fun j hj => by
        rw [← sq_shift]; exact hs (j + 1) (by simp; omega)
      refine ⟨fl, s, ?_, hc, by rw [← sq_shift] at h; exact h⟩
      rw [← e]
      have hm := month_of (p := p) r (hs 0 (Nat.zero_le _)) k c
      have hm : call T (k + 2) 11 [.int d, rt n v, .int p] c = _ := hm
      simp [forL, asg, xes_cons, hd, isPk, isV, callD, anyO, hm, sq]
      rfl
theorem left_after (r : Rok n v) (hp : 0 ≤ p) {d : Int} {m : Nat} (hm : m ≤ 2400) (hs : ∀ j, j ≤ m → sml 5000 (sq n v (cP p) d j)) (k : Nat) (c : Cells) : call T (k + 3) 16 [.int d, rt n v, .int p, .int m] c = .ok (false, .int (sq n v (cP p) d m)) c := by
  have hl : (rngD 0 m).length = m := by simp [rngD]
  obtain ⟨fl, s, e, hc, h⟩ := left_loop r hp (.int m) k c (rngD 0 m) d none (by rw [hl]; exact hs)
  rw [hl] at h
  have hr : isRng m = true := rng_ok (by omega) (by omega)
  have key : xe (call T (k + 2)) (.for_ (.n 4) .rng [.v 3] [.ite (.cmp .eq (.v 0) (.c (.int 0))) [.ret (.c (.int 0))] [], .set 0 (.ix (.call 11 [.v 0, .v 1, .v 2]) (.c (.int 2)))]) ⟨[some (false, .int d), some (false, rt n v), some (false, .int p), some (false, .int m), none], c⟩ = .ok fl s := by
    rw [← e]
    exact xe_for_of (ds := [.int m]) (by simp [isPk]) (itD_rng hr)
  rcases h with ⟨rfl, h⟩ | ⟨rfl, h⟩
  · rw [← hc]
    rw [← hc] at key
    refine call_ret (b := e16) (s := s) rfl rfl ?_
    refine (xes_nx key).trans ?_
    simp [h]
  · rw [← hc, h]
    rw [← hc] at key
    refine call_ret (b := e16) (s := s) rfl rfl ?_
    exact xes_ret key
theorem da2 (l m : Q.D) (c : Cells) (C : Cl) (h2 : C 1 [m, .int 0, .int 2400] c = .ok (false, .bl true) c) (h3 : C 2 [.bl true] c = .ok (false, .non) c) : xe C (.expr (.call 2 [.call 1 [.v 1, .c (.int 0), .c (.int 2400)]])) ⟨[some (false, l), some (false, m)], c⟩ = .ok .nx ⟨[some (false, l), some (false, m)], c⟩ := by
  simp [isPk, isV, callD, anyO, h2, h3]
theorem da3 (m : Q.D) (c : Cells) (x : Int) (C : Cl) (h2 : C 16 [.int D, rt n v, .int p, m] c = .ok (false, .int x) c) : xes C [.ret (.callS 16 (.v 0) [.v 1])] ⟨[some (false, ln D n v p), some (false, m)], c⟩ = .ok (.ret false (.int x)) ⟨[some (false, ln D n v p), some (false, m)], c⟩ := by
  simp [isPk, isV, callD, anyO, ln, h2]
theorem debt_after (l : Lok n v D p) {m : Nat} (hm : m ≤ 2400) (hs : ∀ j, j ≤ m → sml 5000 (sq n v (cP p) D j)) (k : Nat) (c : Cells) : call T (k + 5) 18 [ln D n v p, .int m] c = .ok (false, .int (sq n v (cP p) D m)) c := by
  have h1 : (m : Int) ≤ 2400 := by omega
  have hp : 0 ≤ p := by have := l.p0; omega
  refine call_ret (b := e18) (s := ⟨[some (false, ln D n v p), some (false, .int m)], c⟩) rfl rfl ?_
  refine (xes_nx (s1 := ⟨[some (false, ln D n v p), some (false, .int m)], c⟩) (by simp [isPk, isV, callD, anyO, l.check])).trans ?_
  refine (xes_nx (da2 _ _ c _ (is_within_t (k + 2) (Int.natCast_nonneg m) h1 c) (check (k + 3) c))).trans ?_
  exact da3 (.int m) c _ _ (left_after l.r hp hm hs (k + 1) c)
end
end V07
end

section
set_option Elab.async false
set_option linter.all false
set_option maxRecDepth 100000
set_option maxHeartbeats 4000000
namespace V07
open Q Ek07
theorem sm2 : smI 2 = true := sml.sm (k := 2) (by unfold sml; omega) (by decide)
/-! the least pay -/
theorem lp_loop {C : Cl} {x0 x1 m : Q.D} {g : Int → Int} {W : Int} (hC : ∀ p, 1 ≤ p → p ≤ W → ∀ c, C 16 [x0, x1, .int p, m] c = .ok (false, .int (g p)) c) (anti : ∀ p q, p ≤ q → g q ≤ g p) (g0 : ∀ p, 0 ≤ g p) (c : Cells) :
    ∀ (N : Nat) (lo hi : Int) (x5 : Option (Bool × Q.D)) (fuel : Nat), (hi - lo).toNat ≤ N → N < fuel → 1 ≤ lo → lo ≤ hi → hi ≤ W → (∀ p, 1 ≤ p → p < lo → g p ≠ 0) → g hi = 0 →
      ∃ s L, whlL (fun s => (ev C (.cmp .lt (.v 3) (.v 4)) s).b fun x s => tru x s) (fun s => xes C [.set 5 (.bin .fdiv (.bin .add (.v 3) (.v 4)) (.c (.int 2))), .ite (.cmp .eq (.call 16 [.v 0, .v 1, .v 5, .v 2]) (.c (.int 0))) [.set 4 (.v 5)] [.set 3 (.bin .add (.v 5) (.c (.int 1)))]] s) fuel ⟨[some (false, x0), some (false, x1), some (false, m), some (false, .int lo), some (false, .int hi), x5], c⟩ = .ok .nx s ∧ s.c = c ∧ s.r[3]? = some (some (false, .int L)) ∧ 1 ≤ L ∧ L ≤ W ∧ g L = 0 ∧ ∀ p, 1 ≤ p → p < L → g p ≠ 0 := by
  intro N
  induction N with
  | zero =>
    intro lo hi x5 fuel h1 h2 h3 h4 h5 h6 h7
    have : lo = hi := by omega
    subst this
    cases fuel with
    | zero => omega
    | succ fuel =>
      have ht : ((ev C (.cmp .lt (.v 3) (.v 4)) ⟨[some (false, x0), some (false, x1), some (false, m), some (false, .int lo), some (false, .int lo), x5], c⟩).b fun x s => tru x s) = .ok false ⟨[some (false, x0), some (false, x1), some (false, m), some (false, .int lo), some (false, .int lo), x5], c⟩ := by simp
      exact ⟨_, lo, whl_false ht, rfl, rfl, h3, h5, h7, h6⟩
  | succ N ih =>
    intro lo hi x5 fuel h1 h2 h3 h4 h5 h6 h7
    cases fuel with
    | zero => omega
    | succ fuel =>
      by_cases hlt : lo < hi
      · have ht : ((ev C (.cmp .lt (.v 3) (.v 4)) ⟨[some (false, x0), some (false, x1), some (false, m), some (false, .int lo), some (false, .int hi), x5], c⟩).b fun x s => tru x s) = .ok true ⟨[some (false, x0), some (false, x1), some (false, m), some (false, .int lo), some (false, .int hi), x5], c⟩ := by simp [hlt]
        have hm := hC ((lo + hi) / 2) (by omega) (by omega) c
        have hs : xe C (.set 5 (.bin .fdiv (.bin .add (.v 3) (.v 4)) (.c (.int 2)))) ⟨[some (false, x0), some (false, x1), some (false, m), some (false, .int lo), some (false, .int hi), x5], c⟩ = .ok .nx ⟨[some (false, x0), some (false, x1), some (false, m), some (false, .int lo), some (false, .int hi), some (false, .int ((lo + hi) / 2))], c⟩ := by
          simp [isPk, sm2]
        by_cases hz : g ((lo + hi) / 2) = 0
        · have hb : xes C [.set 5 (.bin .fdiv (.bin .add (.v 3) (.v 4)) (.c (.int 2))), .ite (.cmp .eq (.call 16 [.v 0, .v 1, .v 5, .v 2]) (.c (.int 0))) [.set 4 (.v 5)] [.set 3 (.bin .add (.v 5) (.c (.int 1)))]] ⟨[some (false, x0), some (false, x1), some (false, m), some (false, .int lo), some (false, .int hi), x5], c⟩ = .ok .nx ⟨[some (false, x0), some (false, x1), some (false, m), some (false, .int lo), some (false, .int ((lo + hi) / 2)), some (false, .int ((lo + hi) / 2))], c⟩ := by
            rw [xes_nx hs]
            simp [isPk, isV, callD, anyO, hm, hz]
          obtain ⟨s, L, e, r⟩ := ih lo ((lo + hi) / 2) (some (false, .int ((lo + hi) / 2))) fuel (by omega) (by omega) h3 (by omega) (by omega) h6 hz
          exact ⟨s, L, (by refine Eq.trans (whl_true (s1 := ⟨[some (false, x0), some (false, x1), some (false, m), some (false, .int lo), some (false, .int hi), x5], c⟩) ?_ ?_) e <;> first | exact ht | exact hb), r⟩
        · have hb : xes C [.set 5 (.bin .fdiv (.bin .add (.v 3) (.v 4)) (.c (.int 2))), .ite (.cmp .eq (.call 16 [.v 0, .v 1, .v 5, .v 2]) (.c (.int 0))) [.set 4 (.v 5)] [.set 3 (.bin .add (.v 5) (.c (.int 1)))]] ⟨[some (false, x0), some (false, x1), some (false, m), some (false, .int lo), some (false, .int hi), x5], c⟩ = .ok .nx ⟨[some (false, x0), some (false, x1), some (false, m), some (false, .int ((lo + hi) / 2 + 1)), some (false, .int hi), some (false, .int ((lo + hi) / 2))], c⟩ := by
            rw [xes_nx hs]
            simp [isPk, isV, callD, anyO, hm, hz]
          obtain ⟨s, L, e, r⟩ := ih ((lo + hi) / 2 + 1) hi (some (false, .int ((lo + hi) / 2))) fuel (by omega) (by omega) (by omega) (by omega) h5 (fun p hp hp2 => by
            have h1 := anti p ((lo + hi) / 2) (by omega)
            have h2 := g0 ((lo + hi) / 2)
            omega) h7
          exact ⟨s, L, (by refine Eq.trans (whl_true (s1 := ⟨[some (false, x0), some (false, x1), some (false, m), some (false, .int lo), some (false, .int hi), x5], c⟩) ?_ ?_) e <;> first | exact ht | exact hb), r⟩
      · have : lo = hi := by omega
        subst this
        have ht : ((ev C (.cmp .lt (.v 3) (.v 4)) ⟨[some (false, x0), some (false, x1), some (false, m), some (false, .int lo), some (false, .int lo), x5], c⟩).b fun x s => tru x s) = .ok false ⟨[some (false, x0), some (false, x1), some (false, m), some (false, .int lo), some (false, .int lo), x5], c⟩ := by simp
        exact ⟨_, lo, whl_false ht, rfl, rfl, h3, h5, h7, h6⟩
theorem lp1 {C : Cl} {x0 x1 m : Q.D} {c : Cells} (h0 : C 1 [x0, .int 1, .int 1000000000] c = .ok (false, .bl true) c) (h1 : C 6 [x1] c = .ok (false, .bl true) c) (h2 : C 1 [m, .int 1, .int 600] c = .ok (false, .bl true) c) (h3 : C 2 [.bl true] c = .ok (false, .non) c) :
    xe C (.expr (.call 2 [.and (.call 1 [.v 0, .c (.int 1), .c (.int 1000000000)]) (.and (.call 6 [.v 1]) (.call 1 [.v 2, .c (.int 1), .c (.int 600)]))])) ⟨[some (false, x0), some (false, x1), some (false, m), none, none, none], c⟩ = .ok .nx ⟨[some (false, x0), some (false, x1), some (false, m), none, none, none], c⟩ := by
  simp [isPk, isV, callD, anyO, h0, h1, h2, h3]
theorem lp2 {C : Cl} {x1 m : Q.D} {d i : Int} {c : Cells} (h0 : C 9 [.int d, x1] c = .ok (false, .int i) c) : xe C (.par [(3, false), (4, false)] [.c (.int 1), .bin .add (.v 0) (.call 9 [.v 0, .v 1])]) ⟨[some (false, .int d), some (false, x1), some (false, m), none, none, none], c⟩ = .ok .nx ⟨[some (false, .int d), some (false, x1), some (false, m), some (false, .int 1), some (false, .int (d + i)), none], c⟩ := by
  simp [isPk, isV, callD, anyO, h0, parR]
structure Least (n v D : Int) (m : Nat) (L : Int) : Prop where
  l1 : 1 ≤ L
  le : L ≤ D + I n v D
  z : sq n v (cP L) D m = 0
  min : ∀ p, 1 ≤ p → p < L → sq n v (cP p) D m ≠ 0
theorem least_pay {n v D : Int} (r : Rok n v) (d0 : 1 ≤ D) (d1 : D ≤ 1000000000) {m : Nat} (m0 : 1 ≤ m) (m1 : m ≤ 600) (k : Nat) (c : Cells) : ∃ L, Least n v D m L ∧ call T (k + 5) 17 [.int D, rt n v, .int m] c = .ok (false, .int L) c := by
  have hs : sml 40 D := by unfold sml; omega
  have hI := I_nonneg r (show 0 ≤ D by omega)
  have hW := I_le r (show 0 ≤ D by omega)
  have hC : ∀ p, 1 ≤ p → p ≤ D + I n v D → ∀ c, call T (k + 4) 16 [.int D, rt n v, .int p, .int m] c = .ok (false, .int (sq n v (cP p) D m)) c := fun p h1 h2 c =>
    left_after r (by omega) (by omega) (fun j hj => Q.sml.mono (sq_grow r (by omega) (fun _ => (show 0 ≤ p by omega)) hs j) (by omega)) (k + 1) c
  obtain ⟨s, L, e, hc, h3, h4, h5, h6, h7⟩ := lp_loop (C := call T (k + 4)) (x0 := .int D) (x1 := rt n v) (m := .int m) (g := fun p => sq n v (cP p) D m) hC (fun p q h => sq_mono r (Int.le_refl D) (fun _ => h) m) (fun p => sq_nonneg (by omega) m) c ((D + I n v D - 1).toNat) 1 (D + I n v D) none turns (Nat.le_refl _) (by unfold turns; omega) (Int.le_refl _) (by omega) (Int.le_refl _) (fun p h h2 => by omega) (by
    have : sq n v (cP (D + I n v D)) D 1 = 0 := by show nx n v (D + I n v D) D = 0; rw [nx_max]; omega
    have := sq_after (n := n) (v := v) (P := cP (D + I n v D)) (D := D) r (fun _ => (show 0 ≤ D + I n v D by omega)) this (m - 1)
    rwa [show 1 + (m - 1) = m by omega] at this)
  refine ⟨L, ⟨h4, h5, h6, h7⟩, ?_⟩
  rw [← hc] at e ⊢
  have hi := interest_on (n := n) (v := v) (d := D) r (Q.sml.mono hs (by decide)) (k + 3) s.c
  refine call_ret (b := e17) (s := s) rfl rfl ?_
  refine (xes_nx (lp1 (is_within_t (k + 2) d0 d1 s.c) (is_rate r (k + 2) s.c) (is_within_t (k + 2) (by omega) (by omega) s.c) (check (k + 3) s.c))).trans ?_
  refine (xes_nx (lp2 hi)).trans ?_
  refine (xes_nx (s1 := s) (by rw [xe_whl]; exact e)).trans ?_
  simp [h3]
end V07
end

section
set_option Elab.async false
set_option linter.all false
set_option maxRecDepth 100000
set_option maxHeartbeats 4000000
namespace V07
open Q Ek07
theorem is_count (k : Nat) {i : Int} (h : 0 ≤ i) (c : Cells) : call T (k + 2) 5 [.int i] c = .ok (false, .bl true) c := by
  refine call_ret (b := e5) (s := ⟨[some (false, .int i)], c⟩) rfl rfl ?_
  simp [e5, isPk, isV, callD, anyO, is_integer, h]
/-- extra pence -/
def ex (es : List (Int × Int)) : List (Q.D × Q.D) := es.map fun p => (.int p.1, .int p.2)
structure Eok (es : List (Int × Int)) (E : Nat → Int) : Prop where
  pos : ∀ p ∈ es, 0 ≤ p.1 ∧ 0 ≤ p.2
  len : es.length ≤ 100
  get : ∀ k : Nat, (getD (ex es) (.int k)).getD (.int 0) = .int (E k)
  nn : ∀ k, 0 ≤ E k
theorem ce1 {C : Cl} {l : Q.D} {c : Cells} (h : C 8 [l] c = .ok (false, .non) c) {d : Option (Bool × Q.D)} : xe C (.expr (.call 8 [.v 0])) ⟨[some (false, l), d, none, none], c⟩ = .ok .nx ⟨[some (false, l), d, none, none], c⟩ := by
  simp [isPk, isV, callD, anyO, h]
theorem all_true {α : Type} (l : List α) : (l.map fun _ => D.bl true) = (l.map fun _ => true).map D.bl := by rw [List.map_map]; rfl
theorem fm_const {α β γ : Type} {g : α → β} {a : γ} : ∀ l : List α, (l.map g).filterMap (fun _ => some a) = l.map fun _ => a
  | [] => rfl
  | x :: l => by simp only [List.map_cons, List.filterMap_cons, fm_const l]
theorem ce2 {C : Cl} {l : Q.D} {c : Cells} {es : List (Int × Int)} (hl : es.length ≤ 100) (h : ∀ p ∈ es, C 5 [.int p.1] c = .ok (false, .bl true) c) (h2 : C 2 [.bl true] c = .ok (false, .non) c) :
    xe C (.expr (.call 2 [.and (.isi (.v 1) .dct) (.bi .all [.lc (.call 5 [.v 3]) (.n 3) .seq [.v 1] none [3]])])) ⟨[some (false, l), some (false, .dct (ex es)), none, none], c⟩ = .ok .nx ⟨[some (false, l), some (false, .dct (ex es)), none, none], c⟩ := by
  have e : ev C (.lc (.call 5 [.v 3]) (.n 3) .seq [.v 1] none [3]) ⟨[some (false, l), some (false, .dct (ex es)), none, none], c⟩ = .ok (true, .lst (es.map fun _ => .bl true)) ⟨[some (false, l), some (false, .dct (ex es)), none, none], c⟩ := by
    refine ev_lcP (s1 := ⟨[some (false, l), some (false, .dct (ex es)), none, none], c⟩) (fun _ => some (.bl true)) (ds := [.dct (ex es)]) (xs := es.map fun p => .int p.1) (w := [some (false, l), some (false, .dct (ex es)), none, none]) (by simp [isPk, isV]) ?_ rfl ?_ (by simp) rfl (fun x hx => ?_) ?_
    · show some ((ex es).map (·.1)) = _
      simp [ex]
    · simp; exact Nat.le_trans hl (by decide)
    · obtain ⟨p, hp, rfl⟩ := List.mem_map.mp hx
      exact ⟨[some (false, l), some (false, .dct (ex es)), none, some (false, .int p.1)], rfl, rfl, .inr ⟨rfl, (false, .bl true), by simp [isPk, isV, callD, anyO, h p hp], rfl, rfl⟩⟩
    · exact fm_const es
  rw [all_true] at e
  have hall : (es.map fun _ => true).all id = true := by simp
  have e2 : ev C (.and (.isi (.v 1) .dct) (.bi .all [.lc (.call 5 [.v 3]) (.n 3) .seq [.v 1] none [3]])) ⟨[some (false, l), some (false, .dct (ex es)), none, none], c⟩ = .ok (false, .bl true) ⟨[some (false, l), some (false, .dct (ex es)), none, none], c⟩ := by
    rw [ev_and, ev_isi]
    simp only [ev_v, List.getElem?_cons_succ, List.getElem?_cons_zero, R.b_ok, isD, R.of_some, tru_bl, if_true]
    rw [ev_bi, evA_cons, e]
    simp only [R.b_ok, isPk, Bool.and_false, Bool.false_and, if_false, Bool.false_eq_true, evA_nil, bi_all, R.of_some, hall]
  rw [xe_expr, ev_call, evA_cons, e2]
  simp [isPk, isV, callD, anyO, h2]
theorem ce3 {C : Cl} {l : Q.D} {c : Cells} {es : List (Int × Int)} (hl : es.length ≤ 100) (h : ∀ p ∈ es, C 5 [.int p.2] c = .ok (false, .bl true) c) (h2 : C 2 [.bl true] c = .ok (false, .non) c) :
    xe C (.expr (.call 2 [.bi .all [.lc (.call 5 [.v 2]) (.n 2) .vals [.v 1] none [2]]])) ⟨[some (false, l), some (false, .dct (ex es)), none, none], c⟩ = .ok .nx ⟨[some (false, l), some (false, .dct (ex es)), none, none], c⟩ := by
  have e : ev C (.lc (.call 5 [.v 2]) (.n 2) .vals [.v 1] none [2]) ⟨[some (false, l), some (false, .dct (ex es)), none, none], c⟩ = .ok (true, .lst (es.map fun _ => .bl true)) ⟨[some (false, l), some (false, .dct (ex es)), none, none], c⟩ := by
    refine ev_lcP (s1 := ⟨[some (false, l), some (false, .dct (ex es)), none, none], c⟩) (fun _ => some (.bl true)) (ds := [.dct (ex es)]) (xs := es.map fun p => .int p.2) (w := [some (false, l), some (false, .dct (ex es)), none, none]) (by simp [isPk, isV]) ?_ rfl ?_ (by simp) rfl (fun x hx => ?_) ?_
    · show some ((ex es).map (·.2)) = _
      simp [ex]
    · simp; exact Nat.le_trans hl (by decide)
    · obtain ⟨p, hp, rfl⟩ := List.mem_map.mp hx
      exact ⟨[some (false, l), some (false, .dct (ex es)), some (false, .int p.2), none], rfl, rfl, .inr ⟨rfl, (false, .bl true), by simp [isPk, isV, callD, anyO, h p hp], rfl, rfl⟩⟩
    · exact fm_const es
  rw [all_true] at e
  have hall : (es.map fun _ => true).all id = true := by simp
  have e2 : ev C (.bi .all [.lc (.call 5 [.v 2]) (.n 2) .vals [.v 1] none [2]]) ⟨[some (false, l), some (false, .dct (ex es)), none, none], c⟩ = .ok (false, .bl true) ⟨[some (false, l), some (false, .dct (ex es)), none, none], c⟩ := by
    rw [ev_bi, evA_cons, e]
    simp only [R.b_ok, isPk, Bool.and_false, Bool.false_and, if_false, Bool.false_eq_true, evA_nil, bi_all, R.of_some, hall]
  rw [xe_expr, ev_call, evA_cons, e2]
  simp [isPk, isV, callD, anyO, h2]
section
variable {n v p D : Int} {M : Nat}
theorem check_extra (l : Lok n v D p) {es : List (Int × Int)} {E : Nat → Int} (he : Eok es E) (k : Nat) (c : Cells) : call T (k + 5) 19 [ln D n v p, .dct (ex es)] c = .ok (false, .non) c := by
  refine call_nx (b := e19) (s := ⟨[some (false, ln D n v p), some (false, .dct (ex es)), none, none], c⟩) rfl rfl ?_
  refine (xes_nx (ce1 (l.check k c))).trans ?_
  refine (xes_nx (ce2 he.len (fun p hp => is_count (k + 2) (he.pos p hp).1 c) (check (k + 3) c))).trans ?_
  exact (xes_nx (ce3 he.len (fun p hp => is_count (k + 2) (he.pos p hp).2 c) (check (k + 3) c))).trans rfl
theorem row_with (l : Lok n v D p) {es : List (Int × Int)} {E : Nat → Int} (he : Eok es E) (R : Run n v (fun k => p + E k) D M) (hn : 0 < D → I n v D < p) (k : Nat) (c : Cells) : call T (k + 6) 20 [ln D n v p, .dct (ex es)] c = .ok (true, .lst (rows n v (fun k => p + E k) D M)) c := by
  have h1 := check_extra l he k c
  have h2 := rows_by R he.get hn (k + 2) c
  refine call_ret (b := e20) (s := ⟨[some (false, ln D n v p), some (false, .dct (ex es))], c⟩) rfl rfl ?_
  refine (xes_nx (s1 := ⟨[some (false, ln D n v p), some (false, .dct (ex es))], c⟩) (by simp [isPk, isV, callD, anyO, h1])).trans ?_
  simp [isPk, isV, callD, anyO, h2]
/-- sums of a part of all rows -/
theorem sb_sum {C : Cl} {P : Nat → Int} {src : Ex} {l d : Option (Bool × Q.D)} {c : Cells} (hm : M ≤ 2400) (hs : evA C [src] ⟨[l, d, none], c⟩ = .ok [.lst (rows n v P D M)] ⟨[l, d, none], c⟩) (hf : fzD [src] [l, d, none] = [l, d, none]) :
    ev C (.bi .sum [.lc (.ix (.v 2) (.c (.int 0))) (.n 2) .seq [src] none [2]]) ⟨[l, d, none], c⟩ = .ok (false, .int (sumI n v P D M)) ⟨[l, d, none], c⟩ := by
  have e : ev C (.lc (.ix (.v 2) (.c (.int 0))) (.n 2) .seq [src] none [2]) ⟨[l, d, none], c⟩ = .ok (true, .lst ((List.range M).map fun k => .int (I n v (sq n v P D k)))) ⟨fzD [src] [l, d, none], c⟩ := by
    refine ev_lcP (s1 := ⟨[l, d, none], c⟩) (fun d => ixD d (.int 0)) (ds := [.lst (rows n v P D M)]) (xs := rows n v P D M) (w := [l, d, none]) hs rfl rfl (lim_M hm) (by simp) (by rw [hf]; rfl) (fun x hx => ?_) (rows_fm fun k => by simp [row])
    obtain ⟨j, hj, rfl⟩ := mem_rows hx
    exact ⟨[l, d, some (false, row n v P D j)], rfl, rfl, .inr ⟨rfl, (false, .int (I n v (sq n v P D j))), by simp [row], rfl, by simp [row]⟩⟩
  rw [ev_bi, evA_cons, e, hf]
  simp only [R.b_ok, isPk, Bool.and_false, Bool.false_and, if_false, Bool.false_eq_true, evA_nil, bi_sumR, R.of_some]
  rfl
theorem saved_by {M0 : Nat} (l : Lok n v D p) {es : List (Int × Int)} {E : Nat → Int} (he : Eok es E) (R0 : Run n v (cP p) D M0) (R1 : Run n v (fun k => p + E k) D M) (hn : 0 < D → I n v D < p) (k : Nat) (c : Cells) :
    call T (k + 6) 21 [ln D n v p, .dct (ex es)] c = .ok (false, .int (sumI n v (cP p) D M0 - sumI n v (fun k => p + E k) D M)) c := by
  have h1 := check_extra l he k c
  have h2 := rows_by R1 he.get hn (k + 2) c
  have h3 := rows0 R0 hn (k + 2) c
  refine call_ret (b := e21) (s := ⟨[some (false, ln D n v p), some (false, .dct (ex es)), none], c⟩) rfl rfl ?_
  refine (xes_nx (s1 := ⟨[some (false, ln D n v p), some (false, .dct (ex es)), none], c⟩) (by simp [isPk, isV, callD, anyO, h1])).trans ?_
  have a1 := sb_sum (C := call T (k + 5)) (n := n) (v := v) (D := D) (M := M0) (P := cP p) (src := .call 12 [.v 0, .dct []]) (l := some (false, ln D n v p)) (d := some (false, .dct (ex es))) (c := c) R0.few (by simp [isPk, isV, callD, anyO, mkD, h3]) rfl
  have a2 := sb_sum (C := call T (k + 5)) (n := n) (v := v) (D := D) (M := M) (P := fun k => p + E k) (src := .call 12 [.v 0, .v 1]) (l := some (false, ln D n v p)) (d := some (false, .dct (ex es))) (c := c) R1.few (by simp [isPk, isV, callD, anyO, mkD, h2]) rfl
  rw [xes_one, xe_ret, ev_bin, a1]
  simp only [R.b_ok]
  rw [a2]
  simp
end
end V07
end

section
set_option Elab.async false
set_option linter.all false
set_option maxRecDepth 100000
set_option maxHeartbeats 4000000
namespace V07
open Q Ek07
section
variable {n v p D : Int} {M : Nat}
/-! halves -/
structure Half (n v : Int) (P : Nat → Int) (D : Int) (M H : Nat) : Prop where
  lt : H < M
  z : 2 * sq n v P D (H + 1) ≤ D
  first : ∀ k, k < H → D < 2 * sq n v P D (k + 1)
theorem fm_first {f : Nat → Option Q.D} {M H : Nat} {x : Q.D} (h : H < M) (h1 : ∀ k, k < H → f k = none) (h2 : f H = some x) : ∃ r, (List.range M).filterMap f = x :: r := by
  obtain ⟨j, rfl⟩ : ∃ j, M = H + (j + 1) := ⟨M - H - 1, by omega⟩
  rw [List.range_add, List.filterMap_append]
  have e1 : (List.range H).filterMap f = [] := List.filterMap_eq_nil_iff.mpr fun k hk => h1 k (List.mem_range.mp hk)
  rw [e1, List.range_succ_eq_map]
  simp only [List.map_cons, List.nil_append, Nat.add_zero, List.filterMap_cons, h2]
  exact ⟨_, rfl⟩
theorem enu_rows {P : Nat → Int} : ∀ (M : Nat), enuD 0 (rows n v P D M) = (List.range M).map fun k => .tup [.int (k : Nat), row n v P D k] := by
  intro M
  apply List.ext_getElem?
  intro i
  have : ∀ (a : Nat) (ds : List Q.D) (i : Nat), (enuD a ds)[i]? = (ds[i]?).map fun d => .tup [.int ((a + i : Nat) : Int), d] := by
    intro a ds
    induction ds generalizing a with
    | nil => intro i; simp [enuD]
    | cons d ds ih =>
      intro i
      cases i with
      | zero => simp [enuD]
      | succ i =>
        simp only [enuD, List.getElem?_cons_succ]
        rw [ih]
        have : a + 1 + i = a + (i + 1) := by omega
        rw [this]
  rw [this]
  unfold rows
  rw [List.getElem?_map, List.getElem?_map]
  by_cases hi : i < M
  · rw [List.getElem?_range hi]; simp
  · rw [List.getElem?_eq_none (by simpa using Nat.le_of_not_lt hi)]; rfl
def hHalf (D : Int) : Q.D → Option Q.D
  | .tup [i, .tup [_, _, .int z]] => if 2 * z ≤ D then some i else none
  | _ => none
theorem hv1 {C : Cl} {c : Cells} (hM : M ≤ 2400) (h12 : C 12 [ln D n v p, .dct []] c = .ok (true, .lst (rows n v (cP p) D M)) c) (hs : ∀ k, k ≤ M → sml 5000 (sq n v (cP p) D k)) :
    ev C (.lc (.v 2) (.t [.n 2, .n 3]) .enu [.call 12 [.v 0, .dct []]] (some (.cmp .le (.bin .mul (.c (.int 2)) (.ix (.v 3) (.c (.int 2)))) (.ix (.v 0) (.c (.int 0))))) [2, 3]) ⟨[some (false, ln D n v p), none, none, none], c⟩ =
      .ok (true, .lst ((List.range M).filterMap fun k => if 2 * sq n v (cP p) D (k + 1) ≤ D then some (.int (k : Nat)) else none)) ⟨[some (false, ln D n v p), none, none, none], c⟩ := by
  refine ev_lcP (s1 := ⟨[some (false, ln D n v p), none, none, none], c⟩) (hHalf D) (ds := [.lst (rows n v (cP p) D M)]) (xs := (List.range M).map fun k => .tup [.int (k : Nat), row n v (cP p) D k]) (w := [some (false, ln D n v p), none, none, none]) (by simp [isPk, isV, callD, anyO, mkD, h12]) ?_ rfl ?_ (by simp) rfl (fun x hx => ?_) ?_
  · show some (enuD 0 (rows n v (cP p) D M)) = _
    rw [enu_rows]
  · simp; exact Nat.le_trans hM (by decide)
  · obtain ⟨k, hk, rfl⟩ := List.mem_map.mp hx
    have hk := List.mem_range.mp hk
    refine ⟨[some (false, ln D n v p), none, some (false, .int (k : Nat)), some (false, row n v (cP p) D k)], rfl, rfl, ?_⟩
    have hsm : smI (sq n v (cP p) D (k + 1)) = true := (hs (k + 1) hk).sm (by decide)
    by_cases hz : 2 * sq n v (cP p) D (k + 1) ≤ D
    · refine .inr ⟨?_, (false, .int (k : Nat)), rfl, rfl, ?_⟩
      · simp [row, ln, sm2, hsm, hz]
      · simp [hHalf, row, hz]
    · refine .inl ⟨?_, ?_⟩
      · simp [row, ln, sm2, hsm, hz]
      · simp [hHalf, row, hz]
  · rw [List.filterMap_map]
    rfl
theorem hv2 {C : Cl} {c : Cells} {l x : Q.D} {r : List Q.D} : xes C [.ret (.ite (.cmp .gt (.bi .len [.v 1]) (.c (.int 0))) (.ix (.v 1) (.c (.int 0))) (.c .non))] ⟨[some (false, l), some (false, .lst (x :: r)), none, none], c⟩ = .ok (.ret false x) ⟨[some (false, l), some (false, .lst (x :: r)), none, none], c⟩ := by
  have h : (0 : Int) < ((x :: r).length : Nat) := by rw [List.length_cons]; omega
  have e : ixD (.lst (x :: r)) (.int 0) = some x := ix_lst (j := 0) rfl rfl
  simp only [xes_one, xe_ret, ev_ite, ev_cmp, ev_bi, evA_cons, evA_nil, ev_v, ev_c, ev_ix, List.getElem?_cons_succ, List.getElem?_cons_zero, R.b_ok, isPk, isV, Bool.and_false, Bool.false_and, if_false, Bool.false_eq_true, bi_lenl, R.of_some, cmp_gt, decide_eq_true h, tru_bl, if_true, e]
theorem halved_at (l : Lok n v D p) (R1 : Run n v (cP p) D M) {H : Nat} (hh : Half n v (cP p) D M H) (hn : 0 < D → I n v D < p) (k : Nat) (c : Cells) : call T (k + 5) 24 [ln D n v p] c = .ok (false, .int (H : Nat)) c := by
  obtain ⟨r, hr⟩ := fm_first (f := fun k => if 2 * sq n v (cP p) D (k + 1) ≤ D then some (Q.D.int (k : Nat)) else none) hh.lt (fun k hk => if_neg (by have := hh.first k hk; omega)) (if_pos hh.z)
  have h1 := hv1 (C := call T (k + 4)) (c := c) R1.few (rows0 R1 hn (k + 1) c) R1.small
  rw [hr] at h1
  refine call_ret (b := e24) (s := ⟨[some (false, ln D n v p), some (false, .lst (.int (H : Nat) :: r)), none, none], c⟩) rfl rfl ?_
  refine (xes_nx (s1 := ⟨[some (false, ln D n v p), none, none, none], c⟩) (by simp [isPk, isV, callD, anyO, l.check])).trans ?_
  refine (xes_nx (s1 := ⟨[some (false, ln D n v p), some (false, .lst (.int (H : Nat) :: r)), none, none], c⟩) ?_).trans hv2
  rw [xe_set, h1]
  rfl
/-! the cheaper -/
theorem ch1 {C : Cl} {P : Nat → Int} {c : Cells} {l : Q.D} {x0 x1 x2 x3 : Option (Bool × Q.D)} (hM : M ≤ 2400) (h12 : C 12 [l, .dct []] c = .ok (true, .lst (rows n v P D M)) c) :
    ev C (.bi .sum [.lc (.v 6) (.t [.n 5, .n 6, .n 5]) .seq [.call 12 [.v 4, .dct []]] none [5, 6]]) ⟨[x0, x1, x2, x3, some (false, l), none, none], c⟩ = .ok (false, .int (sumP n v P D M)) ⟨[x0, x1, x2, x3, some (false, l), none, none], c⟩ := by
  have e : ev C (.lc (.v 6) (.t [.n 5, .n 6, .n 5]) .seq [.call 12 [.v 4, .dct []]] none [5, 6]) ⟨[x0, x1, x2, x3, some (false, l), none, none], c⟩ = .ok (true, .lst ((List.range M).map fun k => .int (min (P k) (sq n v P D k + I n v (sq n v P D k))))) ⟨[x0, x1, x2, x3, some (false, l), none, none], c⟩ := by
    refine ev_lcP (s1 := ⟨[x0, x1, x2, x3, some (false, l), none, none], c⟩) (fun d => ixD d (.int 1)) (ds := [.lst (rows n v P D M)]) (xs := rows n v P D M) (w := [x0, x1, x2, x3, some (false, l), none, none]) (by simp [isPk, isV, callD, anyO, mkD, h12]) rfl rfl (lim_M hM) (by simp) rfl (fun x hx => ?_) (rows_fm fun k => by simp [row])
    obtain ⟨j, hj, rfl⟩ := mem_rows hx
    exact ⟨[x0, x1, x2, x3, some (false, l), some (false, .int (sq n v P D (j + 1))), some (false, .int (min (P j) (sq n v P D j + I n v (sq n v P D j))))], by simp [row, asg, asgs], rfl, .inr ⟨rfl, (false, .int (min (P j) (sq n v P D j + I n v (sq n v P D j)))), rfl, rfl, by simp [row]⟩⟩
  rw [ev_bi, evA_cons, e]
  simp only [R.b_ok, isPk, Bool.and_false, Bool.false_and, if_false, Bool.false_eq_true, evA_nil, bi_sumR, R.of_some]
  rfl
def hChp (p a b : Int) : Q.D → Option Q.D
  | .tup [_, _, .int q] => if q = p then some (.int a) else some (.int b)
  | _ => none
theorem cheaper_of {p' : Int} {M' : Nat} (l : Lok n v D p) (l' : Lok n v D p') (R1 : Run n v (cP p) D M) (R2 : Run n v (cP p') D M') (hn : 0 < D → I n v D < p) (hn' : 0 < D → I n v D < p') (k : Nat) (c : Cells) :
    call T (k + 5) 25 [ln D n v p, ln D n v p'] c = .ok (false, .int (if sumP n v (cP p) D M ≤ sumP n v (cP p') D M' then 0 else 1)) c := by
  have e1 := fun x0 x1 x2 x3 => ch1 (C := call T (k + 4)) (c := c) (x0 := x0) (x1 := x1) (x2 := x2) (x3 := x3) R1.few (rows0 R1 hn (k + 1) c)
  have e2 := fun x0 x1 x2 x3 => ch1 (C := call T (k + 4)) (c := c) (x0 := x0) (x1 := x1) (x2 := x2) (x3 := x3) R2.few (rows0 R2 hn' (k + 1) c)
  have q1 : hChp p (sumP n v (cP p) D M) (sumP n v (cP p') D M') (ln D n v p) = some (.int (sumP n v (cP p) D M)) := if_pos rfl
  have q2 : hChp p (sumP n v (cP p) D M) (sumP n v (cP p') D M') (ln D n v p') = some (.int (sumP n v (cP p') D M')) := by
    by_cases hpp : p' = p
    · subst hpp
      rw [R1.uniq R2]; exact if_pos rfl
    · exact if_neg hpp
  have e : ev (call T (k + 4)) (.lc (.bi .sum [.lc (.v 6) (.t [.n 5, .n 6, .n 5]) .seq [.call 12 [.v 4, .dct []]] none [5, 6]]) (.n 4) .seq [.tup [.v 0, .v 1]] none [4]) ⟨[some (false, ln D n v p), some (false, ln D n v p'), none, none, none, none, none], c⟩ = .ok (true, .lst [.int (sumP n v (cP p) D M), .int (sumP n v (cP p') D M')]) ⟨[some (false, ln D n v p), some (false, ln D n v p'), none, none, none, none, none], c⟩ := by
    refine ev_lcP (s1 := ⟨[some (false, ln D n v p), some (false, ln D n v p'), none, none, none, none, none], c⟩) (hChp p (sumP n v (cP p) D M) (sumP n v (cP p') D M')) (ds := [.tup [ln D n v p, ln D n v p']]) (xs := [ln D n v p, ln D n v p']) (w := [some (false, ln D n v p), some (false, ln D n v p'), none, none, none, none, none]) (by simp [isPk, isV]) rfl rfl (Nat.le_trans (show 2 ≤ 2400 by decide) (by decide)) (by simp) rfl (fun x hx => ?_) ?_
    · simp only [List.mem_cons, List.not_mem_nil, or_false] at hx
      rcases hx with rfl | rfl
      · exact ⟨[some (false, ln D n v p), some (false, ln D n v p'), none, none, some (false, ln D n v p), none, none], rfl, rfl, .inr ⟨rfl, _, e1 _ _ _ _, rfl, by simp [hChp, ln]⟩⟩
      · refine ⟨[some (false, ln D n v p), some (false, ln D n v p'), none, none, some (false, ln D n v p'), none, none], rfl, rfl, .inr ⟨rfl, _, e2 _ _ _ _, rfl, ?_⟩⟩
        exact q2
    · simp only [List.filterMap_cons, List.filterMap_nil, q1, q2]
  refine call_ret (b := e25) (s := ⟨[some (false, ln D n v p), some (false, ln D n v p'), some (false, .int (sumP n v (cP p) D M)), some (false, .int (sumP n v (cP p') D M')), none, none, none], c⟩) rfl rfl ?_
  refine (xes_nx (s1 := ⟨[some (false, ln D n v p), some (false, ln D n v p'), none, none, none, none, none], c⟩) (by simp [isPk, isV, callD, anyO, l.check])).trans ?_
  refine (xes_nx (s1 := ⟨[some (false, ln D n v p), some (false, ln D n v p'), none, none, none, none, none], c⟩) (by simp [isPk, isV, callD, anyO, l'.check])).trans ?_
  refine (xes_nx (s1 := ⟨[some (false, ln D n v p), some (false, ln D n v p'), some (false, .int (sumP n v (cP p) D M)), some (false, .int (sumP n v (cP p') D M')), none, none, none], c⟩) ?_).trans ?_
  · rw [xe_unp, e]
    simp [isPk, asg, asgs]
  · by_cases h : sumP n v (cP p) D M ≤ sumP n v (cP p') D M' <;> simp [h]
end
end V07
end

section
set_option Elab.async false
set_option linter.all false
set_option maxRecDepth 100000
set_option maxHeartbeats 4000000
namespace V07
open Q Ek07
section
variable {n v p D : Int} {M : Nat} {P : Nat → Int}
/-! rows alike -/
theorem eqD_row (k : Nat) : eqD (row n v P D k) (row n v P D k) = true := by simp [row, eqD, eqDs]
theorem eqDs_self : ∀ (l : List Q.D), (∀ x ∈ l, eqD x x = true) → eqDs l l = true
  | [], _ => by simp [eqDs]
  | x :: l, h => by simp [eqDs, h x (by simp), eqDs_self l fun y hy => h y (by simp [hy])]
theorem pl_row (j k : Nat) : pl (j + 1) (row n v P D k) = true := by simp [row, pl]
theorem pl_rows (j : Nat) : pl (j + 2) (.lst (rows n v P D M)) = true := by
  simp only [pl]
  rw [List.all_eq_true]
  intro x hx
  obtain ⟨k, _, rfl⟩ := mem_rows hx
  exact pl_row j k
theorem eq_rows : cmpD .eq (.lst (rows n v P D M)) (.lst (rows n v P D M)) = some true := by
  have h1 : pl 60 (.lst (rows n v P D M)) = true := pl_rows 58
  have h2 : eqD (.lst (rows n v P D M)) (.lst (rows n v P D M)) = true := by
    unfold eqD
    exact eqDs_self _ fun x hx => by obtain ⟨k, _, rfl⟩ := mem_rows hx; exact eqD_row k
  show (if (pl 60 _ && pl 60 _) = true then some (eqD _ _) else none) = _
  rw [h1, h2]; rfl
/-! takes_loan -/
theorem ratio (r : Rok n v) (k : Nat) (c : Cells) : call T (k + 2) 4 [.int n, .int v] c = .ok (false, rt n v) c := by
  have s1 : smI 1 = true := sml.sm (k := 1) (by unfold sml; omega) (by decide)
  refine call_ret (b := e4) (s := ⟨[some (false, .int n), some (false, .int v), some (false, .int 1)], c⟩) rfl rfl ?_
  refine (xes_nx (s1 := ⟨[some (false, .int n), some (false, .int v), some (false, .int 1)], c⟩) (by simp [isPk, isV, callD, anyO, r.sh])).trans ?_
  simp [isPk, s1, rt]
theorem cmp_rt : cmpD .eq (rt n v) (rt n v) = some true := by
  simp [rt, cmpD, pl, eqD, eqDs]
theorem tk2 {C : Cl} {c : Cells} {xs : List (Option (Bool × Q.D))} (h0 : ∀ i, C 0 [.int i] c = .ok (false, .bl true) c) (hl : xs.length = 8) :
    ev C (.bi .all [.lc (.call 0 [.v 9]) (.n 9) .seq [.ix (.v 0) (.c (.int 1))] none [9]]) ⟨some (false, ln D n v p) :: xs ++ [none], c⟩ = .ok (false, .bl true) ⟨some (false, ln D n v p) :: xs ++ [none], c⟩ := by
  match xs, hl with
  | [x1, x2, x3, x4, x5, x6, x7, x8], _ =>
    have e : ev C (.lc (.call 0 [.v 9]) (.n 9) .seq [.ix (.v 0) (.c (.int 1))] none [9]) ⟨some (false, ln D n v p) :: [x1, x2, x3, x4, x5, x6, x7, x8] ++ [none], c⟩ = .ok (true, .lst (([true, true] : List Bool).map .bl)) ⟨some (false, ln D n v p) :: [x1, x2, x3, x4, x5, x6, x7, x8] ++ [none], c⟩ := by
      refine ev_lcP (s1 := ⟨[some (false, ln D n v p), x1, x2, x3, x4, x5, x6, x7, x8, none], c⟩) (fun _ => some (.bl true)) (ds := [rt n v]) (xs := [.int n, .int v]) (w := [some (false, ln D n v p), x1, x2, x3, x4, x5, x6, x7, x8, none]) (by simp [isPk, isV, ln]) rfl rfl (Nat.le_trans (show 2 ≤ 2400 by decide) (by decide)) (by simp) rfl (fun x hx => ?_) rfl
      simp only [List.mem_cons, List.not_mem_nil, or_false] at hx
      rcases hx with rfl | rfl
      · exact ⟨[some (false, ln D n v p), x1, x2, x3, x4, x5, x6, x7, x8, some (false, .int n)], rfl, rfl, .inr ⟨rfl, (false, .bl true), by simp [isPk, isV, callD, anyO, h0], rfl, rfl⟩⟩
      · exact ⟨[some (false, ln D n v p), x1, x2, x3, x4, x5, x6, x7, x8, some (false, .int v)], rfl, rfl, .inr ⟨rfl, (false, .bl true), by simp [isPk, isV, callD, anyO, h0], rfl, rfl⟩⟩
    rw [ev_bi, evA_cons, e]
    simp only [R.b_ok, isPk, Bool.and_false, Bool.false_and, if_false, Bool.false_eq_true, evA_nil, bi_all, R.of_some]
    rfl
def x5 (n v : Int) (P : Nat → Int) (D : Int) : Nat → Option (Bool × Q.D)
  | 0 => none
  | j + 1 => some (false, .int (I n v (sq n v P D j)))
def x6 (n v p : Int) (P : Nat → Int) (D : Int) : Nat → Option (Bool × Q.D)
  | 0 => none
  | j + 1 => some (false, .int (min p (sq n v P D j + I n v (sq n v P D j))))
theorem takes_loan (l : Lok n v D p) (R1 : Run n v (cP p) D M) (hI : ∀ j, j < M → I n v (sq n v (cP p) D j) < p) (k : Nat) (c : Cells) : call T (k + 5) 26 [ln D n v p, .lst (rows n v (cP p) D M)] c = .ok (false, .bl true) c := by
  let L : Q.D := ln D n v p
  let W : Q.D := .lst (rows n v (cP p) D M)
  let s0 : S := ⟨[some (false, L), some (false, W), none, none, none, none, none, none, none, none], c⟩
  let st : Nat → S := fun j => ⟨[some (false, L), some (false, W), some (true, .lst (rows n v (cP p) D j)), some (false, .int (sq n v (cP p) D j)), some (false, .int p), x5 n v (cP p) D j, x6 n v p (cP p) D j, some (false, .int n), some (false, .int v), none], c⟩
  have h1 := l.r.n0
  have h2 := l.r.v0
  have h3 := l.r.le
  have h4 := l.r.vs
  have w1 : ∀ c, call T (k + 4) 1 [.int D, .int 0, .int 1000000000] c = .ok (false, .bl true) c := fun c => is_within_t (k + 2) l.d0 l.d1 c
  have w2 : ∀ c, call T (k + 4) 1 [.int p, .int 1, .int 1000000000] c = .ok (false, .bl true) c := fun c => is_within_t (k + 2) l.p0 l.p1 c
  have ck : ∀ c, call T (k + 4) 2 [.bl true] c = .ok (false, .non) c := fun c => check (k + 3) c
  have rc : ∀ c, call T (k + 4) 4 [.int n, .int v] c = .ok (false, rt n v) c := fun c => ratio l.r (k + 2) c
  refine call_ret (b := e26) (s := st M) rfl rfl ?_
  refine (xes_nx (s1 := s0) (by simp [s0, L, W, isPk, isV, callD, anyO, w1, ck, ln, isD])).trans ?_
  refine (xes_nx (s1 := s0) ?_).trans ?_
  · have e := tk2 (C := call T (k + 4)) (c := c) (n := n) (v := v) (p := p) (D := D) (xs := [some (false, W), none, none, none, none, none, none, none]) (fun i => is_integer (k + 3) i c) rfl
    have e : ev (call T (k + 4)) (.bi .all [.lc (.call 0 [.v 9]) (.n 9) .seq [.ix (.v 0) (.c (.int 1))] none [9]]) s0 = .ok (false, .bl true) s0 := e
    have e2 : ev (call T (k + 4)) (.isi (.ix (.v 0) (.c (.int 1))) .tup) s0 = .ok (false, .bl true) s0 := by simp [s0, L, ln, rt, isD]
    have e3 : ev (call T (k + 4)) (.cmp .eq (.bi .len [.ix (.v 0) (.c (.int 1))]) (.c (.int 2))) s0 = .ok (false, .bl true) s0 := by simp [s0, L, ln, rt, isPk, isV]
    rw [xe_expr, ev_call, evA_cons, ev_and, e2]
    simp only [R.b_ok, tru_bl, if_true]
    rw [ev_and, e3]
    simp only [R.b_ok, tru_bl, if_true]
    rw [e]
    simp [isPk, isV, callD, anyO, ck, s0]
  refine (xes_nx (s1 := s0) ?_).trans ?_
  · have hcm := cmp_rt (n := n) (v := v)
    simp only [rt] at rc hcm
    simp [s0, L, W, isPk, isV, callD, anyO, ck, ln, rt, h1, h2, h3, rc, hcm]
  refine (xes_nx (s1 := s0) (by simp [s0, L, W, isPk, isV, callD, anyO, w2, ck, ln])).trans ?_
  refine (xes_nx (s1 := ⟨[some (false, L), some (false, W), none, some (false, .int D), some (false, .int p), none, none, some (false, .int n), some (false, .int v), none], c⟩) (by simp [s0, L, W, isPk, ln, rt, asg, asgs])).trans ?_
  refine (xes_nx (s1 := st 0) (by simp [st, isPk, rows, x5, x6, sq])).trans ?_
  refine (xes_nx (s1 := st M) ?_).trans ?_
  · rw [xe_whl]
    refine whl_iter (M := M) (fun j hj => ⟨?_, .inl ?_⟩) ?_ (Nat.lt_of_le_of_lt R1.few (by decide))
    · have := R1.pos j hj
      simp [st, this]
    · have hd := R1.small j (Nat.le_of_lt hj)
      have hi := hI j hj
      have sn : smI n = true := sml.sm (k := 10) (by unfold sml; omega) (by decide)
      have sv : smI v = true := sml.sm (k := 10) (by unfold sml; omega) (by decide)
      have sv2 : smI (2 * v) = true := sml.sm (k := 11) (by unfold sml; omega) (by decide)
      have sd : smI (sq n v (cP p) D j) = true := hd.sm (by decide)
      have sd2 : smI (2 * sq n v (cP p) D j) = true := hd.two.sm (by decide)
      have h5 : 0 < 2 * v := by omega
      have hm := R1.few
      have hl : ¬ ((j : Int) = 2400) := by omega
      have hlim : j < lim := Nat.lt_trans (Nat.lt_of_lt_of_le hj hm) (by decide)
      have hnp : ¬ (p ≤ I n v (sq n v (cP p) D j)) := by omega
      let d := sq n v (cP p) D j
      let i := I n v d
      let m := min p (d + i)
      have e1 : xe (call T (k + 4)) (.set 5 (.bin .fdiv (.bin .add (.bin .mul (.bin .mul (.c (.int 2)) (.v 3)) (.v 7)) (.v 8)) (.bin .mul (.c (.int 2)) (.v 8)))) (st j) = .ok .nx ⟨[some (false, L), some (false, W), some (true, .lst (rows n v (cP p) D j)), some (false, .int d), some (false, .int p), some (false, .int i), x6 n v p (cP p) D j, some (false, .int n), some (false, .int v), none], c⟩ := by
        simp [st, isPk, sm2, sn, sv, sv2, sd, sd2, h5, d, i, I]
      have e2 : xe (call T (k + 4)) (.set 6 (.bi .min [.v 4, .bin .add (.v 3) (.v 5)])) ⟨[some (false, L), some (false, W), some (true, .lst (rows n v (cP p) D j)), some (false, .int d), some (false, .int p), some (false, .int i), x6 n v p (cP p) D j, some (false, .int n), some (false, .int v), none], c⟩ = .ok .nx ⟨[some (false, L), some (false, W), some (true, .lst (rows n v (cP p) D j)), some (false, .int d), some (false, .int p), some (false, .int i), some (false, .int m), some (false, .int n), some (false, .int v), none], c⟩ := by
        simp [isPk, isV, m]
      have e3 : xe (call T (k + 4)) (.ite (.or (.and (.cmp .ge (.v 5) (.v 4)) (.cmp .lt (.v 6) (.bin .add (.v 3) (.v 5)))) (.cmp .eq (.bi .len [.v 2]) (.c (.int 2400)))) [.ret (.c (.bl false))] []) ⟨[some (false, L), some (false, W), some (true, .lst (rows n v (cP p) D j)), some (false, .int d), some (false, .int p), some (false, .int i), some (false, .int m), some (false, .int n), some (false, .int v), none], c⟩ = .ok .nx ⟨[some (false, L), some (false, W), some (true, .lst (rows n v (cP p) D j)), some (false, .int d), some (false, .int p), some (false, .int i), some (false, .int m), some (false, .int n), some (false, .int v), none], c⟩ := by
        simp [isPk, isV, rows_len, hl, hnp, i, d]
      have e4 : xe (call T (k + 4)) (.aug 3 .add (.bin .sub (.v 5) (.v 6))) ⟨[some (false, L), some (false, W), some (true, .lst (rows n v (cP p) D j)), some (false, .int d), some (false, .int p), some (false, .int i), some (false, .int m), some (false, .int n), some (false, .int v), none], c⟩ = .ok .nx ⟨[some (false, L), some (false, W), some (true, .lst (rows n v (cP p) D j)), some (false, .int (sq n v (cP p) D (j + 1))), some (false, .int p), some (false, .int i), some (false, .int m), some (false, .int n), some (false, .int v), none], c⟩ := by
        have : d + (i - m) = sq n v (cP p) D (j + 1) := by
          show d + (i - m) = nx n v p d
          unfold nx
          show d + (i - m) = d + i - m
          omega
        simp [this]
      refine (xes_nx e1).trans ((xes_nx e2).trans ((xes_nx e3).trans ((xes_nx e4).trans ?_)))
      simp [isPk, rows_len, hlim, st, rows_succ, row, x5, x6, i, m, d, cP]
    · have := R1.fin
      simp [st, this]
  · have := eq_rows (n := n) (v := v) (P := cP p) (D := D) (M := M)
    simp [st, W, this]
end
end V07
end

section
set_option Elab.async false
set_option linter.all false
set_option maxRecDepth 100000
set_option maxHeartbeats 4000000
namespace V07
open Q Ek07
/-! ### what the law draws -/
def good (dr : List Q.D) : Prop := ∀ d ∈ dr, ∃ i : Int, d = .int i ∧ 0 ≤ i ∧ i < 429496730
theorem good.drop {dr : List Q.D} (h : good dr) : good dr.dropLast := fun d hd => h d (List.dropLast_subset _ hd)
theorem good.app {dr : List Q.D} (h : good dr) {i : Int} (h0 : 0 ≤ i) (h1 : i < 429496730) : good (dr ++ [.int i]) := fun d hd => by
  rcases List.mem_append.mp hd with x | x
  · exact h d x
  · simp at x; exact ⟨i, x, h0, h1⟩
theorem good.rev {dr : List Q.D} (h : good dr) : good dr.reverse := fun d hd => h d (List.mem_reverse.mp hd)
theorem len_cel {dr : List Q.D} : biD .len [.cel 0] [dr] = some (false, .int dr.length) := rfl
theorem law_take (k : Nat) {b : Int} (hb : 0 < b) {dr : List Q.D} (hg : good dr) : ∃ x dr', call T (k + 1) 28 [.cel 0, .int b] [dr] = .ok (false, .int x) [dr'] ∧ 0 ≤ x ∧ x < b ∧ x < 429496730 ∧ good dr' := by
  by_cases h0 : dr = []
  · subst h0
    refine ⟨0, [], ?_, by omega, hb, by omega, hg⟩
    refine call_ret (b := e28) (s := ⟨[some (false, .cel 0), some (false, .int b)], [[]]⟩) rfl rfl ?_
    simp [e28, xes_cons, isPk, isV, len_cel]
  · have hne : dr.getLast? = some (dr.getLast h0) := List.getLast?_eq_getLast h0
    obtain ⟨i, hi, h1, h2⟩ := hg _ (List.getLast_mem h0)
    rw [hi] at hne
    have hl : ¬ ((dr.length : Int) = 0) := by
      have := List.length_pos_iff.mpr h0
      omega
    refine ⟨i % b, dr.dropLast, ?_, Int.emod_nonneg _ (by omega), Int.emod_lt_of_pos _ hb, ?_, hg.drop⟩
    · refine call_ret (b := e28) (s := ⟨[some (false, .cel 0), some (false, .int b)], [dr.dropLast]⟩) rfl rfl ?_
      have e1 : xe (call T k) (.ite (.cmp .eq (.bi .len [.v 0]) (.c (.int 0))) [.ret (.c (.int 0))] []) ⟨[some (false, .cel 0), some (false, .int b)], [dr]⟩ = .ok .nx ⟨[some (false, .cel 0), some (false, .int b)], [dr]⟩ := by
        have e : ev (call T k) (.cmp .eq (.bi .len [.v 0]) (.c (.int 0))) ⟨[some (false, .cel 0), some (false, .int b)], [dr]⟩ = .ok (false, .bl false) ⟨[some (false, .cel 0), some (false, .int b)], [dr]⟩ := by
          simp only [ev_cmp, ev_bi, evA_cons, evA_nil, ev_v, ev_c, List.getElem?_cons_zero, R.b_ok, isPk, isV, Bool.and_true, Bool.false_and, if_false, Bool.false_eq_true, len_cel, R.of_some, cmp_eq_int, decide_eq_false hl]
        rw [xe_ite, e]
        simp
      have e2 : ev (call T k) (.pop 0) ⟨[some (false, .cel 0), some (false, .int b)], [dr]⟩ = .ok (false, .int i) ⟨[some (false, .cel 0), some (false, .int b)], [dr.dropLast]⟩ := by
        unfold ev
        simp [hne]
      refine (xes_nx e1).trans ?_
      rw [xes_one, xe_ret, ev_bin, ev_bi, evA_cons, e2]
      simp [isPk, hb]
    · have := Int.emod_lt_of_pos i hb
      have h3 := Int.emod_add_mul_ediv i b
      have h4 : 0 ≤ b * (i / b) := Int.mul_nonneg (by omega) (Int.ediv_nonneg h1 (by omega))
      omega
theorem law_pick (k : Nat) {ds : List Q.D} (hd : ds ≠ []) {dr : List Q.D} (hg : good dr) : ∃ x dr', call T (k + 2) 29 [.cel 0, .lst ds] [dr] = .ok (false, x) [dr'] ∧ x ∈ ds ∧ good dr' := by
  have hl : 0 < ds.length := List.length_pos_iff.mpr hd
  obtain ⟨x, dr', e, h1, h2, _, h4⟩ := law_take k (b := ds.length) (by omega) hg
  have hx : x.toNat < ds.length := by omega
  have e2 : ixD (.lst ds) (.int x) = some ds[x.toNat] := ix_lst (j := x.toNat) (by omega) (List.getElem?_eq_getElem hx)
  refine ⟨ds[x.toNat], dr', ?_, List.getElem_mem hx, h4⟩
  refine call_ret (b := e29) (s := ⟨[some (false, .cel 0), some (false, .lst ds)], [dr']⟩) rfl rfl ?_
  simp [e29, isPk, isV, callD, anyO, e, e2]
theorem law_rate (k : Nat) {dr : List Q.D} (hg : good dr) : ∃ n v dr', call T (k + 3) 31 [.cel 0] [dr] = .ok (false, rt n v) [dr'] ∧ Rok n v ∧ good dr' := by
  obtain ⟨x, dr', e, h1, h2⟩ := law_pick k (ds := [rt 1 100, rt 0 1, rt 1 240, rt 1 2, rt 1 1, rt 1 10, rt 3 200]) (by simp) hg
  have key : ∃ n v, x = rt n v ∧ Rok n v := by
    simp only [List.mem_cons, List.not_mem_nil, or_false] at h1
    rcases h1 with rfl | rfl | rfl | rfl | rfl | rfl | rfl <;> exact ⟨_, _, rfl, ⟨by decide, by decide, by decide, by decide, by decide⟩⟩
  obtain ⟨n, v, rfl, hr⟩ := key
  refine ⟨n, v, dr', ?_, hr, h2⟩
  refine call_ret (b := e31) (s := ⟨[some (false, .cel 0)], [dr']⟩) rfl rfl ?_
  simp only [rt] at e ⊢
  simp [e31, isPk, isV, callD, anyO, e]
theorem half_up {n v d : Int} (h0 : 0 < v) : d * n / v + bI (decide (v ≤ 2 * (d * n - d * n / v * v))) = I n v d := by
  unfold I
  have h1 := Int.emod_add_mul_ediv (d * n) v
  have h2 := Int.emod_nonneg (d * n) (show v ≠ 0 by omega)
  have h3 := Int.emod_lt_of_pos (d * n) h0
  have e : 2 * d * n = 2 * (d * n) := by rw [Int.mul_assoc]
  rw [e]
  generalize d * n = x at *
  have e1 : x / v * v = v * (x / v) := Int.mul_comm _ _
  rw [e1]
  generalize hq : x / v = q at *
  generalize hr : x % v = r at *
  have hx : x = r + v * q := by omega
  have e2 : 2 * x + v = (2 * r + v) + q * (2 * v) := by
    rw [hx, Int.mul_add]
    have : q * (2 * v) = 2 * (v * q) := by rw [Int.mul_comm q, Int.mul_assoc]
    omega
  rw [e2, Int.add_mul_ediv_right _ _ (by omega)]
  have e3 : 2 * (x - v * q) = 2 * r := by omega
  rw [e3]
  by_cases hc : v ≤ 2 * r
  · have : (2 * r + v) / (2 * v) = 1 := by
      apply Int.le_antisymm
      · exact Int.lt_add_one_iff.mp (Int.ediv_lt_of_lt_mul (by omega) (by omega))
      · exact (Int.le_ediv_iff_mul_le (by omega)).mpr (by omega)
    rw [this, decide_eq_true hc]
    show q + 1 = 1 + q
    omega
  · have : (2 * r + v) / (2 * v) = 0 := Int.ediv_eq_zero_of_lt (by omega) (by omega)
    rw [this, decide_eq_false hc]
    show q + 0 = 0 + q
    omega
theorem law_interest {n v d : Int} (r : Rok n v) (h0 : 0 ≤ d) (h1 : d ≤ 1000000000) (k : Nat) (c : Cells) : call T (k + 1) 32 [.int d, rt n v] c = .ok (false, .int (I n v d)) c := by
  have a0 := r.n0
  have a1 := r.v0
  have a2 := r.le
  have a3 := r.vs
  have sn : smI n = true := sml.sm (k := 10) (by unfold sml; omega) (by decide)
  have sv : smI v = true := sml.sm (k := 10) (by unfold sml; omega) (by decide)
  have sd : smI d = true := sml.sm (k := 40) (by unfold sml; omega) (by decide)
  have b0 : 0 ≤ d * n := Int.mul_nonneg h0 a0
  have b1 : d * n ≤ d * v := Int.mul_le_mul_of_nonneg_left a2 h0
  have b2 : d * n / v ≤ d := by
    have := Int.ediv_le_ediv a1 b1
    rwa [Int.mul_ediv_cancel _ (by omega)] at this
  have b3 : 0 ≤ d * n / v := Int.ediv_nonneg b0 (by omega)
  have sw : smI (d * n / v) = true := sml.sm (k := 40) (by unfold sml; omega) (by decide)
  have c1 := Int.emod_add_mul_ediv (d * n) v
  have c2 := Int.emod_nonneg (d * n) (show v ≠ 0 by omega)
  have c3 := Int.emod_lt_of_pos (d * n) a1
  have c4 : d * n - d * n / v * v = d * n % v := by
    rw [Int.mul_comm (d * n / v) v]; omega
  have sr : smI (d * n - d * n / v * v) = true := by
    rw [c4]; exact sml.sm (k := 10) (by unfold sml; omega) (by decide)
  refine call_ret (b := e32) (s := ⟨[some (false, .int d), some (false, rt n v), some (false, .int (d * n / v)), some (false, .int (d * n - d * n / v * v))], c⟩) rfl rfl ?_
  refine (xes_nx (s1 := ⟨[some (false, .int d), some (false, rt n v), some (false, .int (d * n / v)), none], c⟩) (by simp [isPk, rt, sd, sn, sv, a1])).trans ?_
  refine (xes_nx (s1 := ⟨[some (false, .int d), some (false, rt n v), some (false, .int (d * n / v)), some (false, .int (d * n - d * n / v * v))], c⟩) (by simp [isPk, rt, sd, sn, sv, sw])).trans ?_
  have := half_up (n := n) (v := v) (d := d) a1
  simp [isPk, isV, rt, sm2, sr, this]
end V07
end

section
set_option Elab.async false
set_option linter.all false
set_option maxRecDepth 100000
set_option maxHeartbeats 4000000
namespace V07
open Q Ek07
def drow (scr : Q.D) (dr : List Q.D) (seed : Int) (x3 x4 x5 : Option (Bool × Q.D)) : S := ⟨[some (false, scr), some (true, .lst dr), some (false, .int seed), x3, x4, x5], []⟩
theorem sm48271 : smI 48271 = true := sml.sm (k := 20) (by unfold sml; omega) (by decide)
theorem sm997 : smI 997 = true := sml.sm (k := 20) (by unfold sml; omega) (by decide)
theorem sm5 : smI 5 = true := sml.sm (k := 20) (by unfold sml; omega) (by decide)
theorem smSeed {s : Int} (h : 0 ≤ s) (h1 : s < 2147483647) : smI s = true := sml.sm (k := 40) (by unfold sml; omega) (by decide)
theorem pow18 {C : Cl} {s : S} : ev C (.bin .pow (.c (.int 10)) (.c (.int 18))) s = .ok (false, .int (10 ^ 18)) s := by
  rw [ev_bin]
  simp only [ev_c, R.b_ok]
  have : binD .pow (.int 10) (.int 18) = some (false, .int (10 ^ 18)) := by simp [binD]
  rw [this]
  rfl
section
variable {C : Cl} {scr : Q.D} {dr : List Q.D} {seed : Int} {x3 x4 x5 : Option (Bool × Q.D)} {num : Int}
theorem d_app {i : Int} {e : Ex} (he : ev C e (drow scr dr seed x3 x4 x5) = .ok (false, .int i) (drow scr dr seed x3 x4 x5)) (hl : dr.length < lim) : xe C (.app 1 e) (drow scr dr seed x3 x4 x5) = .ok .nx (drow scr (dr ++ [.int i]) seed x3 x4 x5) := by
  rw [xe_app, he]
  simp [drow, hl]
theorem d_in (j : Nat) (x : Q.D) (h0 : 0 ≤ num) (hg : good dr) (hl : dr.length < lim) : ∃ dr' num', (R.of (asg (.n 4) x (drow scr dr seed x3 x4 (some (false, .int num))).r) (drow scr dr seed x3 x4 (some (false, .int num)))).b (fun r s => xes C [.ite (.cmp .gt (.v 5) (.c (.int 0))) [.app 1 (.bin .mod (.bi .int [.v 5]) (.c (.int 997))), .set 5 (.bin .fdiv (.v 5) (.c (.int 997)))] []] ⟨r, s.c⟩) =
      .ok .nx (drow scr dr' seed x3 (some (false, x)) (some (false, .int num'))) ∧ 0 ≤ num' ∧ good dr' ∧ dr'.length ≤ dr.length + 1 := by
  by_cases hp : 0 < num
  · have h1 := Int.emod_nonneg num (show (997 : Int) ≠ 0 by omega)
    have h2 := Int.emod_lt_of_pos num (show (0 : Int) < 997 by omega)
    refine ⟨dr ++ [.int (num % 997)], num / 997, ?_, by omega, hg.app h1 (by omega), by simp⟩
    have e1 := d_app (C := C) (scr := scr) (dr := dr) (seed := seed) (x3 := x3) (x4 := some (false, x)) (x5 := some (false, .int num)) (i := num % 997) (e := .bin .mod (.bi .int [.v 5]) (.c (.int 997))) (by simp [drow, isPk, isV]) hl
    have e2 : xe C (.set 5 (.bin .fdiv (.v 5) (.c (.int 997)))) (drow scr (dr ++ [.int (num % 997)]) seed x3 (some (false, x)) (some (false, .int num))) = .ok .nx (drow scr (dr ++ [.int (num % 997)]) seed x3 (some (false, x)) (some (false, .int (num / 997)))) := by
      simp [drow, isPk, sm997]
    have e3 : xes C [.app 1 (.bin .mod (.bi .int [.v 5]) (.c (.int 997))), .set 5 (.bin .fdiv (.v 5) (.c (.int 997)))] (drow scr dr seed x3 (some (false, x)) (some (false, .int num))) = .ok .nx (drow scr (dr ++ [.int (num % 997)]) seed x3 (some (false, x)) (some (false, .int (num / 997)))) := (xes_nx e1).trans (by rw [xes_one, e2])
    have e0 : ev C (.cmp .gt (.v 5) (.c (.int 0))) (drow scr dr seed x3 (some (false, x)) (some (false, .int num))) = .ok (false, .bl true) (drow scr dr seed x3 (some (false, x)) (some (false, .int num))) := by simp [drow, hp]
    show xes C _ (drow scr dr seed x3 (some (false, x)) (some (false, .int num))) = _
    rw [xes_one, xe_ite, e0]
    simp only [R.b_ok, tru_bl, if_true]
    exact e3
  · refine ⟨dr, num, ?_, h0, hg, by omega⟩
    have e0 : ev C (.cmp .gt (.v 5) (.c (.int 0))) (drow scr dr seed x3 (some (false, x)) (some (false, .int num))) = .ok (false, .bl false) (drow scr dr seed x3 (some (false, x)) (some (false, .int num))) := by simp [drow, hp]
    show xes C _ (drow scr dr seed x3 (some (false, x)) (some (false, .int num))) = _
    rw [xes_one, xe_ite, e0]
    simp only [R.b_ok, tru_bl]
    rfl
theorem rngD_len {a : Int} {n : Nat} : (rngD a n).length = n := by simp [rngD]
theorem d_for60 (h0 : 0 ≤ num) (hg : good dr) (hl : dr.length < 3000000) : ∃ dr' x4' num', xe C (.for_ (.n 4) .rng [.c (.int 60)] [.ite (.cmp .gt (.v 5) (.c (.int 0))) [.app 1 (.bin .mod (.bi .int [.v 5]) (.c (.int 997))), .set 5 (.bin .fdiv (.v 5) (.c (.int 997)))] []]) (drow scr dr seed x3 x4 (some (false, .int num))) =
      .ok .nx (drow scr dr' seed x3 x4' (some (false, .int num'))) ∧ good dr' ∧ dr'.length ≤ dr.length + 60 := by
  have hf := for_inv (f := fun x s => (R.of (asg (.n 4) x s.r) s).b fun r s => xes C [.ite (.cmp .gt (.v 5) (.c (.int 0))) [.app 1 (.bin .mod (.bi .int [.v 5]) (.c (.int 997))), .set 5 (.bin .fdiv (.v 5) (.c (.int 997)))] []] ⟨r, s.c⟩)
    (I := fun i s => ∃ dr' x4' num', s = drow scr dr' seed x3 x4' (some (false, .int num')) ∧ 0 ≤ num' ∧ good dr' ∧ dr'.length ≤ dr.length + i) (xs := rngD 0 60) (i := 0) (s := drow scr dr seed x3 x4 (some (false, .int num))) ⟨dr, x4, num, rfl, h0, hg, by omega⟩ (fun k x s hk => by
      rintro ⟨dr', x4', num', rfl, a, b, d⟩
      have hk' : k < 60 := by have := (List.getElem?_eq_some_iff.mp hk).1; rwa [rngD_len] at this
      obtain ⟨dr2, num2, e, a2, b2, d2⟩ := d_in (C := C) (scr := scr) (seed := seed) (x3 := x3) (x4 := x4') k x a b (show dr'.length < 4000000 by omega)
      exact ⟨_, .inl e, dr2, _, num2, rfl, a2, b2, by omega⟩)
  obtain ⟨s', e, dr', x4', num', rfl, a, b, d⟩ := hf
  rw [rngD_len] at d
  exact ⟨dr', x4', num', (xe_for_of (ds := [.int 60]) (by simp [isPk]) (itD_rng (rng_ok (by omega) (by omega)))).trans e, b, by omega⟩
end
end V07
end

section
set_option Elab.async false
set_option linter.all false
set_option maxRecDepth 100000
set_option maxHeartbeats 4000000
namespace V07
open Q Ek07
section
variable {C : Cl} {scr : Q.D} {dr : List Q.D} {seed : Int} {x3 x4 x5 : Option (Bool × Q.D)} {num : Int}
theorem d_ite (h0 : 0 ≤ num) (hs0 : 0 ≤ seed) (hg : good dr) (hl : dr.length < 2000000) : ∃ dr' num', xe C (.ite (.cmp .lt (.v 5) (.bin .pow (.c (.int 10)) (.c (.int 18)))) [.app 1 (.bin .mod (.bi .int [.v 5]) (.c (.int 997))), .app 1 (.bin .mod (.bi .int [.v 2]) (.c (.int 65521))), .set 5 (.c (.int 0))] []) (drow scr dr seed x3 x4 (some (false, .int num))) =
    .ok .nx (drow scr dr' seed x3 x4 (some (false, .int num'))) ∧ 0 ≤ num' ∧ good dr' ∧ dr'.length ≤ dr.length + 2 := by
  have e0 : ev C (.cmp .lt (.v 5) (.bin .pow (.c (.int 10)) (.c (.int 18)))) (drow scr dr seed x3 x4 (some (false, .int num))) = .ok (false, .bl (decide (num < 10 ^ 18))) (drow scr dr seed x3 x4 (some (false, .int num))) := by
    have a : ev C (.v 5) (drow scr dr seed x3 x4 (some (false, .int num))) = .ok (false, .int num) (drow scr dr seed x3 x4 (some (false, .int num))) := rfl
    rw [ev_cmp, a]
    simp only [R.b_ok]
    rw [pow18]
    simp only [R.b_ok, cmp_lt, R.of_some]
  by_cases hp : num < 10 ^ 18
  · have h1 := Int.emod_nonneg num (show (997 : Int) ≠ 0 by omega)
    have h2 := Int.emod_lt_of_pos num (show (0 : Int) < 997 by omega)
    have h3 := Int.emod_nonneg seed (show (65521 : Int) ≠ 0 by omega)
    have h4 := Int.emod_lt_of_pos seed (show (0 : Int) < 65521 by omega)
    refine ⟨dr ++ [.int (num % 997)] ++ [.int (seed % 65521)], 0, ?_, by omega, (hg.app h1 (by omega)).app h3 (by omega), by simp⟩
    have hl1 : dr.length < lim := Nat.lt_trans hl (by decide)
    have hl2 : (dr ++ [D.int (num % 997)]).length < lim := by
      have : (dr ++ [D.int (num % 997)]).length = dr.length + 1 := by simp
      rw [this]
      exact Nat.lt_of_lt_of_le (Nat.succ_lt_succ hl) (by decide)
    have e1 := d_app (C := C) (scr := scr) (dr := dr) (seed := seed) (x3 := x3) (x4 := x4) (x5 := some (false, .int num)) (i := num % 997) (e := .bin .mod (.bi .int [.v 5]) (.c (.int 997))) (by simp [drow, isPk, isV]) hl1
    have e2 := d_app (C := C) (scr := scr) (dr := dr ++ [.int (num % 997)]) (seed := seed) (x3 := x3) (x4 := x4) (x5 := some (false, .int num)) (i := seed % 65521) (e := .bin .mod (.bi .int [.v 2]) (.c (.int 65521))) (by simp [drow, isPk, isV]) hl2
    have e3 : xe C (.set 5 (.c (.int 0))) (drow scr (dr ++ [.int (num % 997)] ++ [.int (seed % 65521)]) seed x3 x4 (some (false, .int num))) = .ok .nx (drow scr (dr ++ [.int (num % 997)] ++ [.int (seed % 65521)]) seed x3 x4 (some (false, .int 0))) := by
      simp [drow, isPk]
    rw [xe_ite, e0, decide_eq_true hp]
    simp only [R.b_ok, tru_bl, if_true]
    rw [xes_nx e1, xes_nx e2, xes_one, e3]
  · refine ⟨dr, num, ?_, h0, hg, by omega⟩
    rw [xe_ite, e0, decide_eq_false hp]
    simp only [R.b_ok, tru_bl]
    rfl
theorem d_cell (i : Int) (hs0 : 0 ≤ seed) (hs1 : seed < 2147483647) (hg : good dr) (hl : dr.length < 1000000) : ∃ dr' seed' x4' x5', (R.of (asg (.n 3) (.int i) (drow scr dr seed x3 x4 x5).r) (drow scr dr seed x3 x4 x5)).b (fun r s => xes C [.set 5 (.bi .abs [.bi .int [.v 3]]), .set 2 (.bin .mod (.bi .int [.bin .add (.bin .add (.bin .mul (.v 2) (.c (.int 48271))) (.v 5)) (.c (.int 1))]) (.c (.int 2147483647))), .ite (.cmp .lt (.v 5) (.bin .pow (.c (.int 10)) (.c (.int 18)))) [.app 1 (.bin .mod (.bi .int [.v 5]) (.c (.int 997))), .app 1 (.bin .mod (.bi .int [.v 2]) (.c (.int 65521))), .set 5 (.c (.int 0))] [], .for_ (.n 4) .rng [.c (.int 60)] [.ite (.cmp .gt (.v 5) (.c (.int 0))) [.app 1 (.bin .mod (.bi .int [.v 5]) (.c (.int 997))), .set 5 (.bin .fdiv (.v 5) (.c (.int 997)))] []]] ⟨r, s.c⟩) =
    .ok .nx (drow scr dr' seed' (some (false, .int i)) x4' x5') ∧ 0 ≤ seed' ∧ seed' < 2147483647 ∧ good dr' ∧ dr'.length ≤ dr.length + 62 := by
  let sd : Int := (seed * 48271 + (i.natAbs : Int) + 1) % 2147483647
  have h1 : 0 ≤ sd := Int.emod_nonneg _ (by omega)
  have h2 : sd < 2147483647 := Int.emod_lt_of_pos _ (by omega)
  have e1 : xe C (.set 5 (.bi .abs [.bi .int [.v 3]])) (drow scr dr seed (some (false, .int i)) x4 x5) = .ok .nx (drow scr dr seed (some (false, .int i)) x4 (some (false, .int (i.natAbs : Int)))) := by
    simp [drow, isPk, isV]
  have e2' : ∀ a : Int, xe C (.set 2 (.bin .mod (.bi .int [.bin .add (.bin .add (.bin .mul (.v 2) (.c (.int 48271))) (.v 5)) (.c (.int 1))]) (.c (.int 2147483647)))) (drow scr dr seed (some (false, .int i)) x4 (some (false, .int a))) = .ok .nx (drow scr dr ((seed * 48271 + a + 1) % 2147483647) (some (false, .int i)) x4 (some (false, .int a))) := fun a => by
    simp [drow, isPk, isV, sm48271, smSeed hs0 hs1]
  have e2 := e2' (i.natAbs : Int)
  obtain ⟨dr1, n1, e3, a3, b3, c3⟩ := d_ite (C := C) (scr := scr) (dr := dr) (seed := sd) (x3 := some (false, .int i)) (x4 := x4) (num := (i.natAbs : Int)) (Int.natCast_nonneg _) h1 hg (by omega)
  obtain ⟨dr2, x4', n2, e4, b4, c4⟩ := d_for60 (C := C) (scr := scr) (dr := dr1) (seed := sd) (x3 := some (false, .int i)) (x4 := x4) (num := n1) a3 b3 (by omega)
  refine ⟨dr2, sd, x4', some (false, .int n2), ?_, h1, h2, b4, by omega⟩
  show xes C _ (drow scr dr seed (some (false, .int i)) x4 x5) = _
  rw [xes_nx e1, xes_nx e2, xes_nx e3, xes_one, e4]
theorem d_for1600 (hs0 : 0 ≤ seed) (hs1 : seed < 2147483647) (hg : good dr) (hl : dr.length < 1000000) : ∃ dr' seed' x4', xe C (.for_ (.n 4) .rng [.c (.int 1600)] [.set 2 (.bin .mod (.bi .int [.bin .add (.bin .mul (.v 2) (.c (.int 48271))) (.c (.int 69621))]) (.c (.int 2147483647))), .app 1 (.bin .fdiv (.v 2) (.c (.int 5)))]) (drow scr dr seed x3 x4 x5) =
      .ok .nx (drow scr dr' seed' x3 x4' x5) ∧ good dr' := by
  have hf := for_inv (f := fun x s => (R.of (asg (.n 4) x s.r) s).b fun r s => xes C [.set 2 (.bin .mod (.bi .int [.bin .add (.bin .mul (.v 2) (.c (.int 48271))) (.c (.int 69621))]) (.c (.int 2147483647))), .app 1 (.bin .fdiv (.v 2) (.c (.int 5)))] ⟨r, s.c⟩)
    (I := fun i s => ∃ dr' seed' x4', s = drow scr dr' seed' x3 x4' x5 ∧ 0 ≤ seed' ∧ seed' < 2147483647 ∧ good dr' ∧ dr'.length ≤ dr.length + i) (xs := rngD 0 1600) (i := 0) (s := drow scr dr seed x3 x4 x5) ⟨dr, seed, x4, rfl, hs0, hs1, hg, by omega⟩ (fun k x s hk => by
      rintro ⟨dr', sd, x4', rfl, a, b, d, e⟩
      have hk' : k < 1600 := by have := (List.getElem?_eq_some_iff.mp hk).1; rwa [rngD_len] at this
      let sd' : Int := (sd * 48271 + 69621) % 2147483647
      have h1 : 0 ≤ sd' := Int.emod_nonneg _ (by omega)
      have h2 : sd' < 2147483647 := Int.emod_lt_of_pos _ (by omega)
      have e1 : xe C (.set 2 (.bin .mod (.bi .int [.bin .add (.bin .mul (.v 2) (.c (.int 48271))) (.c (.int 69621))]) (.c (.int 2147483647)))) (drow scr dr' sd x3 (some (false, x)) x5) = .ok .nx (drow scr dr' sd' x3 (some (false, x)) x5) := by
        simp [drow, isPk, isV, sm48271, smSeed a b, sd']
      have e2 := d_app (C := C) (scr := scr) (dr := dr') (seed := sd') (x3 := x3) (x4 := some (false, x)) (x5 := x5) (i := sd' / 5) (e := .bin .fdiv (.v 2) (.c (.int 5))) (by simp [drow, isPk, isV, sm5]) (Nat.lt_trans (show dr'.length < 2000000 by omega) (by decide))
      refine ⟨drow scr (dr' ++ [.int (sd' / 5)]) sd' x3 (some (false, x)) x5, .inl ?_, _, sd', _, rfl, h1, h2, d.app (by omega) (by omega), by simp; omega⟩
      show xes C _ (drow scr dr' sd x3 (some (false, x)) x5) = _
      rw [xes_nx e1, xes_one, e2])
  obtain ⟨s', e, dr', sd, x4', rfl, a, b, d, f⟩ := hf
  exact ⟨dr', sd, x4', (xe_for_of (ds := [.int 1600]) (by simp [isPk]) (itD_rng (rng_ok (by omega) (by omega)))).trans e, d⟩
end
theorem law_draws (k : Nat) (ns : List Int) (h63 : ns.length ≤ 63) : ∃ dr, call T (k + 1) 27 [.lst (ns.map .int)] [] = .ok (true, .lst dr) [] ∧ good dr := by
  let C := call T k
  let scr : Q.D := .lst (ns.map .int)
  have hf := for_inv (f := fun x s => (R.of (asg (.n 3) x s.r) s).b fun r s => xes C [.set 5 (.bi .abs [.bi .int [.v 3]]), .set 2 (.bin .mod (.bi .int [.bin .add (.bin .add (.bin .mul (.v 2) (.c (.int 48271))) (.v 5)) (.c (.int 1))]) (.c (.int 2147483647))), .ite (.cmp .lt (.v 5) (.bin .pow (.c (.int 10)) (.c (.int 18)))) [.app 1 (.bin .mod (.bi .int [.v 5]) (.c (.int 997))), .app 1 (.bin .mod (.bi .int [.v 2]) (.c (.int 65521))), .set 5 (.c (.int 0))] [], .for_ (.n 4) .rng [.c (.int 60)] [.ite (.cmp .gt (.v 5) (.c (.int 0))) [.app 1 (.bin .mod (.bi .int [.v 5]) (.c (.int 997))), .set 5 (.bin .fdiv (.v 5) (.c (.int 997)))] []]] ⟨r, s.c⟩)
    (I := fun i s => ∃ dr' seed' x3 x4 x5, s = drow scr dr' seed' x3 x4 x5 ∧ 0 ≤ seed' ∧ seed' < 2147483647 ∧ good dr' ∧ dr'.length ≤ 62 * i) (xs := ns.map .int) (i := 0) (s := drow scr [] 11 none none none) ⟨[], 11, none, none, none, rfl, by omega, by omega, fun d hd => (by cases hd), by simp⟩ (fun k x s hk => by
      rintro ⟨dr', sd, x3, x4, x5, rfl, a, b, d, e⟩
      have hk' : k < 63 := by have := (List.getElem?_eq_some_iff.mp hk).1; simp at this; omega
      rw [List.getElem?_map] at hk
      cases hn : ns[k]? with
      | none => rw [hn] at hk; cases hk
      | some i =>
        rw [hn] at hk
        cases hk
        obtain ⟨dr2, sd2, x42, x52, e2, a2, b2, d2, f2⟩ := d_cell (C := C) (scr := scr) (dr := dr') (seed := sd) (x3 := x3) (x4 := x4) (x5 := x5) i a b d (by omega)
        exact ⟨_, .inl e2, dr2, sd2, _, x42, x52, rfl, a2, b2, d2, by omega⟩)
  obtain ⟨s', e, dr1, sd, x3, x4, x5, rfl, a, b, d, f⟩ := hf
  rw [List.length_map] at f
  obtain ⟨dr2, sd2, x42, e2, d2⟩ := d_for1600 (C := C) (scr := scr) (dr := dr1) (seed := sd) (x3 := x3) (x4 := x4) (x5 := x5) a b d (by omega)
  refine ⟨dr2.reverse, ?_, d2.rev⟩
  refine call_ret (b := e27) (s := drow scr dr2 sd2 x3 x42 x5) rfl rfl ?_
  refine (xes_nx (s1 := ⟨[some (false, scr), some (true, .lst []), none, none, none, none], []⟩) (by simp [isPk, scr])).trans ?_
  refine (xes_nx (s1 := drow scr [] 11 none none none) (by simp [isPk, drow])).trans ?_
  refine (xes_nx (s1 := drow scr dr1 sd x3 x4 x5) ((xe_for_of (ds := [scr]) (by simp [drow, isPk]) rfl).trans e)).trans ?_
  refine (xes_nx e2).trans ?_
  simp [drow]
end V07
end

section
set_option Elab.async false
set_option linter.all false
set_option maxRecDepth 100000
set_option maxHeartbeats 4000000
namespace V07
open Q Ek07
/-! ### the law, statement by statement -/
def CC : Cl := call T 11
abbrev Sl (r : Row) (i : Nat) (d : Q.D) : Prop := r[i]? = some (some (false, d))
theorem Sl.ne {r : Row} {i j : Nat} {d : Q.D} {x : Option (Bool × Q.D)} (h : Sl r i d) (n : j ≠ i) : Sl (r.set j x) i d := by
  unfold Sl; rw [List.getElem?_set_ne n]; exact h
theorem Sl.at {r : Row} {j : Nat} {d : Q.D} (h : j < r.length) : Sl (r.set j (some (false, d))) j d := List.getElem?_set_self h
theorem p9 {C : Cl} {s : S} : ev C (.bin .pow (.c (.int 10)) (.c (.int 9))) s = .ok (false, .int 1000000000) s := by
  rw [ev_bin]
  simp only [ev_c, R.b_ok]
  have : binD .pow (.int 10) (.int 9) = some (false, .int 1000000000) := by simp [binD]
  rw [this]; rfl
theorem p6 {C : Cl} {s : S} : ev C (.bin .pow (.c (.int 10)) (.c (.int 6))) s = .ok (false, .int 1000000) s := by
  rw [ev_bin]
  simp only [ev_c, R.b_ok]
  have : binD .pow (.int 10) (.int 6) = some (false, .int 1000000) := by simp [binD]
  rw [this]; rfl
section
variable {C : Cl} {r : Row} {c c' : Cells} {a b e : Ex} {s s1 : S} {o : Bool} {x y : Q.D} {i : Nat}
theorem or_no (h : ev C a s = .ok (o, .bl false) s1) : ev C (.or a b) s = ev C b s1 := by rw [ev_or, h]; rfl
theorem and_no (h : ev C a s = .ok (o, .bl false) s1) : ev C (.and a b) s = .ok (o, .bl false) s1 := by rw [ev_and, h]; rfl
theorem and_yes (h : ev C a s = .ok (o, .bl true) s1) : ev C (.and a b) s = ev C b s1 := by rw [ev_and, h]; rfl
theorem not_of {t : Bool} (h : ev C a s = .ok (o, .bl t) s1) : ev C (.not a) s = .ok (false, .bl (!t)) s1 := by rw [ev_not, h]; rfl
theorem ite_no {xs : List Sx} (h : ev C a s = .ok (o, .bl false) s1) : xe C (.ite a xs []) s = .ok .nx s1 := by rw [xe_ite, h]; rfl
theorem ite_yes {xs ys : List Sx} (h : ev C a s = .ok (o, .bl true) s1) : xe C (.ite a xs ys) s = xes C xs s1 := by rw [xe_ite, h]; rfl
theorem cmp_of {p : Cm} {t : Bool} {o2 : Bool} {s2 : S} (h : ev C a s = .ok (o, x) s1) (h2 : ev C b s1 = .ok (o2, y) s2) (h3 : cmpD p x y = some t) : ev C (.cmp p a b) s = .ok (false, .bl t) s2 := by
  rw [ev_cmp, h]
  simp only [R.b_ok]
  rw [h2]
  simp only [R.b_ok, h3, R.of_some]
theorem bin_of {p : Op} {z : Bool × Q.D} {o2 : Bool} {s2 : S} (h : ev C a s = .ok (o, x) s1) (h2 : ev C b s1 = .ok (o2, y) s2) (h3 : binD p x y = some z) : ev C (.bin p a b) s = .ok z s2 := by
  rw [ev_bin, h]
  simp only [R.b_ok]
  rw [h2]
  simp only [R.b_ok, h3, R.of_some]
theorem set_of1 (h : ev C e s = .ok (o, x) s1) (hp : (o && isPk e) = false) : xe C (.set i e) s = .ok .nx ⟨s1.r.set i (some (false, x)), s1.c⟩ := by
  rw [xe_set, h]
  simp only [R.b_ok, hp]
  rfl
/-- a take -/
theorem tk_of {r : Row} {bnd : Ex} {bv : Int} {dr : List Q.D} (h1 : Sl r 1 (.cel 0)) (hg : good dr) (hb : ev CC bnd ⟨r, [dr]⟩ = .ok (false, .int bv) ⟨r, [dr]⟩) (hp : 0 < bv) (han : anyO [.v 1, bnd] r = false) : ∃ x dr', ev CC (.call 28 [.v 1, bnd]) ⟨r, [dr]⟩ = .ok (false, .int x) ⟨r, [dr']⟩ ∧ 0 ≤ x ∧ x < bv ∧ x < 429496730 ∧ good dr' := by
  obtain ⟨x, dr', e, q⟩ := law_take 10 hp hg
  have e : CC 28 [.cel 0, .int bv] [dr] = .ok (false, .int x) [dr'] := e
  refine ⟨x, dr', ?_, q⟩
  rw [ev_call, evA_cons, ev_v]
  simp only [h1, R.b_ok, isPk, isV, Bool.and_true, Bool.false_and, Bool.false_eq_true, if_false]
  rw [evA_cons, hb]
  simp only [R.b_ok, Bool.false_and, Bool.false_eq_true, if_false, evA_nil, callD, e, han]
theorem any1 {bv : Q.D} (h1 : Sl r 1 (.cel 0)) : anyO [.v 1, .c bv] r = false := by simp [anyO, h1]
/-- calls of one loan -/
theorem call1 {f j : Nat} (h : Sl r j x) (hc : CC f [x] c = .ok (o, y) c) : ev CC (.call f [.v j]) ⟨r, c⟩ = .ok (o, y) ⟨r, c⟩ := by
  simp [isPk, isV, callD, anyO, h, hc]
theorem call2 {f j k : Nat} {z : Q.D} (h : Sl r j x) (h2 : Sl r k z) (hc : CC f [x, z] c = .ok (o, y) c) : ev CC (.call f [.v j, .v k]) ⟨r, c⟩ = .ok (o, y) ⟨r, c⟩ := by
  simp [isPk, isV, callD, anyO, h, h2, hc]
theorem evS {j : Nat} (h : Sl r j x) : ev C (.v j) ⟨r, c⟩ = .ok (false, x) ⟨r, c⟩ := by simp [h]
end
def NoO (r : Row) : Prop := ∀ (j : Nat) (d : Q.D), r[j]? ≠ some (some (true, d))
theorem NoO.set {r : Row} (h : NoO r) {j : Nat} {x : Q.D} : NoO (r.set j (some (false, x))) := fun i d e => by
  by_cases y : j = i
  · subst y
    by_cases z : j < r.length
    · rw [List.getElem?_set_self z] at e; cases e
    · rw [List.getElem?_eq_none (by simpa using Nat.le_of_not_lt z)] at e; cases e
  · rw [List.getElem?_set_ne y] at e; exact h i d e
theorem notOwn_of' {r : Row} {i : Nat} (h : ∀ d, r[i]? ≠ some (some (true, d))) : notOwn [i] r = true := by
  show (match r[i]? with | some (some (true, _)) => false | _ => notOwn [] r) = true
  split
  · rename_i d e; exact absurd e (h d)
  · rfl
theorem s0 {r : Row} {dr : List Q.D} (h1 : Sl r 1 (.cel 0)) (hl : r.length = 25) (hg : good dr) : ∃ D n v dr', xe CC (.par [(15, false), (16, false)] [.bin .add (.c (.int 1)) (.call 29 [.v 1, .lst [.call 28 [.v 1, .bin .pow (.c (.int 10)) (.c (.int 9))], .call 28 [.v 1, .c (.int 997)], .call 28 [.v 1, .bin .pow (.c (.int 10)) (.c (.int 6))]]]), .call 31 [.v 1]]) ⟨r, [dr]⟩ =
    .ok .nx ⟨(r.set 15 (some (false, .int D))).set 16 (some (false, rt n v)), [dr']⟩ ∧ 1 ≤ D ∧ D ≤ 429496730 ∧ Rok n v ∧ good dr' := by
  obtain ⟨a, d1, e1, a1, a2, a3, g1⟩ := tk_of (r := r) h1 hg (p9 (s := ⟨r, [dr]⟩)) (by omega) (by simp [anyO, h1])
  obtain ⟨b, d2, e2, b1, b2, b3, g2⟩ := tk_of (r := r) (bnd := .c (.int 997)) (bv := 997) h1 g1 rfl (by omega) (any1 h1)
  obtain ⟨d, d3, e3, c1, c2, c3, g3⟩ := tk_of (r := r) h1 g2 (p6 (s := ⟨r, [d2]⟩)) (by omega) (by simp [anyO, h1])
  obtain ⟨x, d4, e4, hx, g4⟩ := law_pick 9 (ds := [.int a, .int b, .int d]) (by simp) g3
  have e4 : CC 29 [.cel 0, .lst [.int a, .int b, .int d]] [d3] = .ok (false, x) [d4] := e4
  obtain ⟨n, v, d5, e5, hr, g5⟩ := law_rate 8 g4
  have e5 : CC 31 [.cel 0] [d4] = .ok (false, rt n v) [d5] := e5
  have key : ∃ D : Int, x = .int D ∧ 0 ≤ D ∧ D < 429496730 := by
    simp only [List.mem_cons, List.not_mem_nil, or_false] at hx
    rcases hx with rfl | rfl | rfl
    · exact ⟨_, rfl, a1, a3⟩
    · exact ⟨_, rfl, b1, b3⟩
    · exact ⟨_, rfl, c1, c3⟩
  obtain ⟨D, rfl, hD0, hD1⟩ := key
  have el : evF CC [.call 28 [.v 1, .bin .pow (.c (.int 10)) (.c (.int 9))], .call 28 [.v 1, .c (.int 997)], .call 28 [.v 1, .bin .pow (.c (.int 10)) (.c (.int 6))]] ⟨r, [dr]⟩ = .ok [.int a, .int b, .int d] ⟨r, [d3]⟩ := by
    rw [evF_cons, e1]
    simp only [R.b_ok, Bool.false_and, Bool.false_eq_true, if_false]
    rw [evF_cons, e2]
    simp only [R.b_ok, Bool.false_and, Bool.false_eq_true, if_false]
    rw [evF_cons, e3]
    simp only [R.b_ok, Bool.false_and, Bool.false_eq_true, if_false, evF_nil]
  have ep : ev CC (.call 29 [.v 1, .lst [.call 28 [.v 1, .bin .pow (.c (.int 10)) (.c (.int 9))], .call 28 [.v 1, .c (.int 997)], .call 28 [.v 1, .bin .pow (.c (.int 10)) (.c (.int 6))]]]) ⟨r, [dr]⟩ = .ok (false, .int D) ⟨r, [d4]⟩ := by
    rw [ev_call, evA_cons, evS h1]
    simp only [R.b_ok, Bool.false_and, Bool.false_eq_true, if_false]
    rw [evA_cons, ev_lst, el]
    simp only [R.b_ok, isPk, isV, Bool.and_false, Bool.false_and, Bool.false_eq_true, if_false, evA_nil, callD, e4, anyO, h1]
  refine ⟨1 + D, n, v, d5, ?_, by omega, by omega, hr, g5⟩
  have eb : ev CC (.bin .add (.c (.int 1)) (.call 29 [.v 1, .lst [.call 28 [.v 1, .bin .pow (.c (.int 10)) (.c (.int 9))], .call 28 [.v 1, .c (.int 997)], .call 28 [.v 1, .bin .pow (.c (.int 10)) (.c (.int 6))]]])) ⟨r, [dr]⟩ = .ok (false, .int (1 + D)) ⟨r, [d4]⟩ := bin_of ev_c ep rfl
  have er : ev CC (.call 31 [.v 1]) ⟨r, [d4]⟩ = .ok (false, rt n v) ⟨r, [d5]⟩ := by
    simp [isPk, isV, callD, anyO, h1, e5]
  rw [xe_par, evP_cons, eb]
  simp only [R.b_ok, Bool.false_and, Bool.false_eq_true, if_false]
  rw [evP_cons, er]
  simp only [R.b_ok, Bool.false_and, Bool.false_eq_true, if_false, evP_nil, parR, R.of_some]
end V07
end

section
set_option Elab.async false
set_option linter.all false
set_option maxRecDepth 100000
set_option maxHeartbeats 4000000
namespace V07
open Q Ek07
theorem s1 {r : Row} {c : Cells} {n v D : Int} (h15 : Sl r 15 (.int D)) (h16 : Sl r 16 (rt n v)) (hr : Rok n v) (h0 : 0 ≤ D) (h1 : D ≤ 1000000000) : xe CC (.set 3 (.call 32 [.v 15, .v 16])) ⟨r, c⟩ = .ok .nx ⟨r.set 3 (some (false, .int (I n v D))), c⟩ :=
  set_of1 (call2 h15 h16 (law_interest hr h0 h1 10 c)) rfl
theorem s2 {r : Row} {dr : List Q.D} {n v D F : Int} (h1 : Sl r 1 (.cel 0)) (hg : good dr) (h15 : Sl r 15 (.int D)) (h16 : Sl r 16 (rt n v)) (h3 : Sl r 3 (.int F)) : ∃ x dr', xe CC (.set 4 (.tup [.v 15, .v 16, .bi .max [.c (.int 1), .bin .sub (.v 3) (.call 28 [.v 1, .c (.int 9)])]])) ⟨r, [dr]⟩ = .ok .nx ⟨r.set 4 (some (false, ln D n v (max 1 (F - x)))), [dr']⟩ ∧ 0 ≤ x ∧ good dr' := by
  obtain ⟨x, d1, e1, a1, a2, a3, g1⟩ := tk_of (r := r) (bnd := .c (.int 9)) (bv := 9) h1 hg rfl (by omega) (any1 h1)
  have e2 : ev CC (.bin .sub (.v 3) (.call 28 [.v 1, .c (.int 9)])) ⟨r, [dr]⟩ = .ok (false, .int (F - x)) ⟨r, [d1]⟩ := bin_of (evS h3) e1 rfl
  have e3 : ev CC (.bi .max [.c (.int 1), .bin .sub (.v 3) (.call 28 [.v 1, .c (.int 9)])]) ⟨r, [dr]⟩ = .ok (false, .int (max 1 (F - x))) ⟨r, [d1]⟩ := by
    rw [ev_bi, evA_cons, ev_c]
    simp only [R.b_ok, Bool.false_and, Bool.false_eq_true, if_false]
    rw [evA_cons, e2]
    simp only [R.b_ok, Bool.false_and, Bool.false_eq_true, if_false, evA_nil, bi_max, R.of_some]
  refine ⟨x, d1, set_of1 (s1 := ⟨r, [d1]⟩) (o := false) (x := ln D n v (max 1 (F - x))) ?_ rfl, a1, g1⟩
  rw [ev_tup, evF_cons, evS h15]
  simp only [R.b_ok, Bool.false_and, Bool.false_eq_true, if_false]
  rw [evF_cons, evS h16]
  simp only [R.b_ok, Bool.false_and, Bool.false_eq_true, if_false]
  rw [evF_cons, e3]
  simp only [R.b_ok, Bool.false_and, Bool.false_eq_true, if_false, evF_nil]
  rfl
theorem ix2 {C : Cl} {r : Row} {c : Cells} {n v D q : Int} {j : Nat} (h4 : Sl r j (ln D n v q)) : ev C (.ix (.v j) (.c (.int 2))) ⟨r, c⟩ = .ok (false, .int q) ⟨r, c⟩ := by
  simp [h4, ln]
section
variable {r : Row} {c : Cells} {n v D q : Int} {dr : List Q.D}
theorem s3 (h4 : Sl r 4 (ln D n v q)) (h3 : Sl r 3 (.int (I n v D))) (l : Lok n v D q) (hD : 0 < D) : xe CC (.ite (.or (.and (.not (.call 22 [.v 4])) (.cmp .le (.ix (.v 4) (.c (.int 2))) (.v 3))) (.cmp .ne (.call 22 [.v 4]) (.cmp .le (.ix (.v 4) (.c (.int 2))) (.v 3)))) [.ret (.c (.bl false))] []) ⟨r, c⟩ = .ok .nx ⟨r, c⟩ := by
  have e1 : ev CC (.call 22 [.v 4]) ⟨r, c⟩ = .ok (false, .bl (decide (q ≤ I n v D))) ⟨r, c⟩ := by
    have := is_never l 6 c
    rw [decide_eq_true hD, Bool.true_and] at this
    exact call1 h4 this
  have e2 : ev CC (.cmp .le (.ix (.v 4) (.c (.int 2))) (.v 3)) ⟨r, c⟩ = .ok (false, .bl (decide (q ≤ I n v D))) ⟨r, c⟩ := cmp_of (ix2 h4) (evS h3) cmp_le
  have e3 : ev CC (.cmp .ne (.call 22 [.v 4]) (.cmp .le (.ix (.v 4) (.c (.int 2))) (.v 3))) ⟨r, c⟩ = .ok (false, .bl false) ⟨r, c⟩ := by
    refine cmp_of e1 e2 ?_
    rw [cmp_ne_bl, bne_self_eq_false]
  refine ite_no (o := false) ?_
  by_cases hq : q ≤ I n v D
  · rw [decide_eq_true hq] at e1
    rw [or_no (and_no (not_of e1)), e3]
  · rw [decide_eq_false hq] at e1 e2
    rw [or_no ((and_yes (not_of e1)).trans e2), e3]
theorem never_up (hr : Rok n v) (h0 : 0 ≤ D) (hq : q ≤ I n v D) : ∀ k, D ≤ sq n v (cP q) D k ∧ sq n v (cP q) D k ≤ sq n v (cP q) D (k + 1)
  | 0 => by
    have e : sq n v (cP q) D 1 = max 0 (D + I n v D - q) := nx_max
    exact ⟨Int.le_refl _, by rw [e]; show D ≤ _; omega⟩
  | k + 1 => by
    obtain ⟨a, b⟩ := never_up hr h0 hq k
    have e : sq n v (cP q) D (k + 2) = max 0 (sq n v (cP q) D (k + 1) + I n v (sq n v (cP q) D (k + 1)) - q) := nx_max
    have := I_mono hr (show D ≤ sq n v (cP q) D (k + 1) by omega)
    exact ⟨by omega, by rw [e]; omega⟩
theorem da_of {j j2 : Nat} {m : Nat} (h4 : Sl r j (ln D n v q)) (h17 : Sl r j2 (.int (m : Int))) (l : Lok n v D q) (hm : m ≤ 2000) : ev CC (.call 18 [.v j, .v j2]) ⟨r, c⟩ = .ok (false, .int (sq n v (cP q) D m)) ⟨r, c⟩ := by
  have h0 := l.p0
  have hs : sml 40 D := by have := l.d0; have := l.d1; unfold sml; omega
  exact call2 h4 h17 (debt_after l (by omega) (fun k hk => Q.sml.mono (sq_grow l.r l.d0 (fun _ => (show 0 ≤ q by omega)) hs k) (by omega)) 6 c)
theorem da_ofE {j : Nat} {m : Nat} {e : Ex} (h4 : Sl r j (ln D n v q)) (he : ev CC e ⟨r, c⟩ = .ok (false, .int (m : Int)) ⟨r, c⟩) (ha : anyO [.v j, e] r = false) (l : Lok n v D q) (hm : m ≤ 2000) : ev CC (.call 18 [.v j, e]) ⟨r, c⟩ = .ok (false, .int (sq n v (cP q) D m)) ⟨r, c⟩ := by
  have h0 := l.p0
  have hs : sml 40 D := by have := l.d0; have := l.d1; unfold sml; omega
  have hc : CC 18 [ln D n v q, .int (m : Int)] c = _ := debt_after l (by omega) (fun k hk => Q.sml.mono (sq_grow l.r l.d0 (fun _ => (show 0 ≤ q by omega)) hs k) (by omega)) 6 c
  rw [ev_call, evA_cons, evS h4]
  simp only [R.b_ok, Bool.false_and, Bool.false_eq_true, if_false]
  rw [evA_cons, he]
  simp only [R.b_ok, Bool.false_and, Bool.false_eq_true, if_false, evA_nil, callD]
  rw [hc]
  simp only [R.b_ok, ha, Bool.false_and, Bool.false_eq_true, if_false]
theorem s4 (h1 : Sl r 1 (.cel 0)) (hg : good dr) (hl : r.length = 25) (h4 : Sl r 4 (ln D n v q)) (h15 : Sl r 15 (.int D)) (l : Lok n v D q) (hD : 0 < D) : ∃ x17 dr', xe CC (.ite (.call 22 [.v 4]) [.set 17 (.call 28 [.v 1, .c (.int 20)]), .ite (.or (.cmp .isn (.call 14 [.v 4]) (.c .non)) (.or (.cmp .lt (.call 18 [.v 4, .v 17]) (.v 15)) (.cmp .lt (.call 18 [.v 4, .bin .add (.v 17) (.c (.int 1))]) (.call 18 [.v 4, .v 17])))) [.ret (.c (.bl false))] []] []) ⟨r, [dr]⟩ = .ok .nx ⟨r.set 17 x17, [dr']⟩ ∧ good dr' ∧ (NoO r → NoO (r.set 17 x17)) := by
  have e1 : ev CC (.call 22 [.v 4]) ⟨r, [dr]⟩ = .ok (false, .bl (decide (q ≤ I n v D))) ⟨r, [dr]⟩ := by
    have := is_never l 6 [dr]
    rw [decide_eq_true hD, Bool.true_and] at this
    exact call1 h4 this
  by_cases hq : q ≤ I n v D
  · obtain ⟨x, d1, e2, a1, a2, a3, g1⟩ := tk_of (r := r) (bnd := .c (.int 20)) (bv := 20) h1 hg rfl (by omega) (any1 h1)
    refine ⟨some (false, .int x), d1, ?_, g1, fun h => h.set⟩
    rw [decide_eq_true hq] at e1
    rw [ite_yes e1, xes_nx (set_of1 e2 rfl), xes_one]
    obtain ⟨m, rfl⟩ : ∃ m : Nat, x = (m : Int) := ⟨x.toNat, by omega⟩
    have h4' : Sl (r.set 17 (some (false, .int (m : Int)))) 4 (ln D n v q) := h4.ne (by omega)
    have h15' : Sl (r.set 17 (some (false, .int (m : Int)))) 15 (.int D) := h15.ne (by omega)
    have h17' : Sl (r.set 17 (some (false, .int (m : Int)))) 17 (.int (m : Int)) := Sl.at (by omega)
    have b1 := da_of (c := [d1]) h4' h17' l (by omega)
    have b2 := da_ofE (c := [d1]) (e := .bin .add (.v 17) (.c (.int 1))) (m := m + 1) h4' (bin_of (evS h17') ev_c (by rw [binD_add]; rfl)) (by simp only [anyO, h4']) l (by omega)
    have b3 : ev CC (.call 14 [.v 4]) ⟨r.set 17 (some (false, .int (m : Int))), [d1]⟩ = .ok (false, .non) ⟨r.set 17 (some (false, .int (m : Int))), [d1]⟩ := call1 h4' (months_none l hD hq 6 [d1])
    obtain ⟨u1, u2⟩ := never_up l.r (by omega) hq m
    refine ite_no (o := false) ?_
    rw [or_no (cmp_of b3 ev_c (by rw [cmp_isn_non]; rfl)), or_no (cmp_of b1 (evS h15') (by rw [cmp_lt, decide_eq_false (by omega)]))]
    exact cmp_of b2 b1 (by rw [cmp_lt, decide_eq_false (by omega)])
  · refine ⟨r[17]'(by omega), dr, ?_, hg, fun h => by rw [List.set_getElem_self]; exact h⟩
    rw [decide_eq_false hq] at e1
    rw [xe_ite, e1, List.set_getElem_self]
    rfl
end
end V07
end

section
set_option Elab.async false
set_option linter.all false
set_option maxRecDepth 100000
set_option maxHeartbeats 4000000
namespace V07
open Q Ek07
theorem sm3 : smI 3 = true := sml.sm (k := 20) (by unfold sml; omega) (by decide)
theorem sm40 : smI 40 = true := sml.sm (k := 20) (by unfold sml; omega) (by decide)
theorem sm200 : smI 200 = true := sml.sm (k := 20) (by unfold sml; omega) (by decide)
section
variable {r : Row} {c : Cells} {n v D q F p : Int} {dr : List Q.D} {M : Nat}
theorem s5 (h1 : Sl r 1 (.cel 0)) (hg : good dr) (h15 : Sl r 15 (.int D)) (h3 : Sl r 3 (.int F)) (hD0 : 1 ≤ D) (hD1 : D ≤ 429496730) (hF0 : 0 ≤ F) (hF : F ≤ D) : ∃ y dr', xe CC (.set 5 (.bi .min [.bin .pow (.c (.int 10)) (.c (.int 9)), .bin .add (.bin .add (.v 3) (.c (.int 1))) (.call 29 [.v 1, .lst [.bin .fdiv (.v 15) (.c (.int 3)), .bin .add (.bin .fdiv (.v 15) (.c (.int 40))) (.c (.int 1)), .bin .add (.call 28 [.v 1, .c (.int 1000)]) (.bin .fdiv (.v 15) (.c (.int 200)))]])])) ⟨r, [dr]⟩ = .ok .nx ⟨r.set 5 (some (false, .int (F + 1 + y))), [dr']⟩ ∧
    0 ≤ y ∧ y ≤ 150000000 ∧ D ≤ (1 + y) * 200 ∧ good dr' := by
  have e1 : ev CC (.bin .fdiv (.v 15) (.c (.int 3))) ⟨r, [dr]⟩ = .ok (false, .int (D / 3)) ⟨r, [dr]⟩ := bin_of (evS h15) ev_c (by simp [sm3])
  have e2 : ev CC (.bin .add (.bin .fdiv (.v 15) (.c (.int 40))) (.c (.int 1))) ⟨r, [dr]⟩ = .ok (false, .int (D / 40 + 1)) ⟨r, [dr]⟩ := bin_of (bin_of (z := (false, .int (D / 40))) (evS h15) ev_c (by simp [sm40])) ev_c rfl
  obtain ⟨x, d1, e3, a1, a2, a3, g1⟩ := tk_of (r := r) (bnd := .c (.int 1000)) (bv := 1000) h1 hg rfl (by omega) (any1 h1)
  have e4 : ev CC (.bin .add (.call 28 [.v 1, .c (.int 1000)]) (.bin .fdiv (.v 15) (.c (.int 200)))) ⟨r, [dr]⟩ = .ok (false, .int (x + D / 200)) ⟨r, [d1]⟩ := bin_of e3 (bin_of (z := (false, .int (D / 200))) (evS h15) ev_c (by simp [sm200])) rfl
  obtain ⟨w, d2, e5, hw, g2⟩ := law_pick 9 (ds := [.int (D / 3), .int (D / 40 + 1), .int (x + D / 200)]) (by simp) g1
  have e5 : CC 29 [.cel 0, .lst [.int (D / 3), .int (D / 40 + 1), .int (x + D / 200)]] [d1] = .ok (false, w) [d2] := e5
  have key : ∃ y : Int, w = .int y ∧ 0 ≤ y ∧ y ≤ 150000000 ∧ D ≤ (1 + y) * 200 := by
    simp only [List.mem_cons, List.not_mem_nil, or_false] at hw
    rcases hw with rfl | rfl | rfl
    · exact ⟨_, rfl, by omega, by omega, by omega⟩
    · exact ⟨_, rfl, by omega, by omega, by omega⟩
    · exact ⟨_, rfl, by omega, by omega, by omega⟩
  obtain ⟨y, rfl, y0, y1, y2⟩ := key
  have el : evF CC [.bin .fdiv (.v 15) (.c (.int 3)), .bin .add (.bin .fdiv (.v 15) (.c (.int 40))) (.c (.int 1)), .bin .add (.call 28 [.v 1, .c (.int 1000)]) (.bin .fdiv (.v 15) (.c (.int 200)))] ⟨r, [dr]⟩ = .ok [.int (D / 3), .int (D / 40 + 1), .int (x + D / 200)] ⟨r, [d1]⟩ := by
    rw [evF_cons, e1]
    simp only [R.b_ok, Bool.false_and, Bool.false_eq_true, if_false]
    rw [evF_cons, e2]
    simp only [R.b_ok, Bool.false_and, Bool.false_eq_true, if_false]
    rw [evF_cons, e4]
    simp only [R.b_ok, Bool.false_and, Bool.false_eq_true, if_false, evF_nil]
  have ep : ev CC (.call 29 [.v 1, .lst [.bin .fdiv (.v 15) (.c (.int 3)), .bin .add (.bin .fdiv (.v 15) (.c (.int 40))) (.c (.int 1)), .bin .add (.call 28 [.v 1, .c (.int 1000)]) (.bin .fdiv (.v 15) (.c (.int 200)))]]) ⟨r, [dr]⟩ = .ok (false, .int y) ⟨r, [d2]⟩ := by
    rw [ev_call, evA_cons, evS h1]
    simp only [R.b_ok, Bool.false_and, Bool.false_eq_true, if_false]
    rw [evA_cons, ev_lst, el]
    simp only [R.b_ok, isPk, isV, Bool.and_false, Bool.false_and, Bool.false_eq_true, if_false, evA_nil, callD, e5, anyO, h1]
  have eq : ev CC (.bin .add (.bin .add (.v 3) (.c (.int 1))) (.call 29 [.v 1, .lst [.bin .fdiv (.v 15) (.c (.int 3)), .bin .add (.bin .fdiv (.v 15) (.c (.int 40))) (.c (.int 1)), .bin .add (.call 28 [.v 1, .c (.int 1000)]) (.bin .fdiv (.v 15) (.c (.int 200)))]])) ⟨r, [dr]⟩ = .ok (false, .int (F + 1 + y)) ⟨r, [d2]⟩ := bin_of (bin_of (z := (false, .int (F + 1))) (evS h3) ev_c rfl) ep rfl
  refine ⟨y, d2, set_of1 (s1 := ⟨r, [d2]⟩) (o := false) (x := .int (F + 1 + y)) ?_ rfl, y0, y1, y2, g2⟩
  rw [ev_bi, evA_cons, p9]
  simp only [R.b_ok, Bool.false_and, Bool.false_eq_true, if_false]
  rw [evA_cons, eq]
  have hmin : min (1000000000 : Int) (F + 1 + y) = F + 1 + y := by omega
  simp only [R.b_ok, Bool.false_and, Bool.false_eq_true, if_false, evA_nil, bi_min, R.of_some, hmin]
theorem s6 (h15 : Sl r 15 (.int D)) (h16 : Sl r 16 (rt n v)) (h5 : Sl r 5 (.int p)) : xe CC (.set 6 (.tup [.v 15, .v 16, .v 5])) ⟨r, c⟩ = .ok .nx ⟨r.set 6 (some (false, ln D n v p)), c⟩ := by
  refine set_of1 (s1 := ⟨r, c⟩) (o := false) (x := ln D n v p) ?_ rfl
  simp [isPk, h15, h16, h5, ln]
theorem s7 (h6 : Sl r 6 (ln D n v p)) (l : Lok n v D p) (hn : I n v D < p) : xe CC (.ite (.or (.cmp .isn (.call 7 [.v 6]) (.c (.bl true))) (.call 22 [.v 6])) [.ret (.c (.bl false))] []) ⟨r, c⟩ = .ok .nx ⟨r, c⟩ := by
  have e1 : ev CC (.call 7 [.v 6]) ⟨r, c⟩ = .ok (false, .bl true) ⟨r, c⟩ := call1 h6 (is_loan l.r l.d0 l.d1 l.p0 l.p1 8 c)
  have e2 : ev CC (.call 22 [.v 6]) ⟨r, c⟩ = .ok (false, .bl false) ⟨r, c⟩ := by
    have := is_never l 6 c
    rw [decide_eq_false (show ¬ p ≤ I n v D by omega), Bool.and_false] at this
    exact call1 h6 this
  refine ite_no (o := false) ?_
  rw [or_no (cmp_of e1 ev_c cmp_isn_bl), e2]
theorem s8 (h6 : Sl r 6 (ln D n v p)) (l : Lok n v D p) (R1 : Run n v (cP p) D M) (hn : I n v D < p) : xe CC (.unp (.t [.n 12, .n 18, .n 19]) (.tup [.call 13 [.v 6], .call 14 [.v 6], .call 15 [.v 6]])) ⟨r, c⟩ =
    .ok .nx ⟨((r.set 12 (some (false, .lst (rows n v (cP p) D M)))).set 18 (some (false, .int (M : Nat)))).set 19 (some (false, .int (sumI n v (cP p) D M))), c⟩ := by
  have e1 : ev CC (.call 13 [.v 6]) ⟨r, c⟩ = .ok (true, .lst (rows n v (cP p) D M)) ⟨r, c⟩ := call1 h6 (row_of_loan l R1 (fun _ => hn) 6 c)
  have e2 : ev CC (.call 14 [.v 6]) ⟨r, c⟩ = .ok (false, .int (M : Nat)) ⟨r, c⟩ := call1 h6 (months_of l R1 (fun _ => hn) 6 c)
  have e3 : ev CC (.call 15 [.v 6]) ⟨r, c⟩ = .ok (false, .int (sumI n v (cP p) D M)) ⟨r, c⟩ := call1 h6 (all_interest l R1 (fun _ => hn) 6 c)
  have ht : ev CC (.tup [.call 13 [.v 6], .call 14 [.v 6], .call 15 [.v 6]]) ⟨r, c⟩ = .ok (false, .tup [.lst (rows n v (cP p) D M), .int (M : Nat), .int (sumI n v (cP p) D M)]) ⟨r, c⟩ := by
    rw [ev_tup, evF_cons, e1]
    simp only [R.b_ok, isPk, Bool.and_false, Bool.false_eq_true, if_false]
    rw [evF_cons, e2]
    simp only [R.b_ok, isPk, Bool.and_false, Bool.false_eq_true, if_false]
    rw [evF_cons, e3]
    simp only [R.b_ok, isPk, Bool.and_false, Bool.false_eq_true, if_false, evF_nil]
  rw [xe_unp, ht]
  rfl
/-- a column of rows -/
theorem col {P : Nat → Int} {t : Nat} {f : Nat → Int} (h12 : Sl r 12 (.lst (rows n v P D M))) (hl : r.length = 25) (h24 : ∀ d, r[24]? ≠ some (some (true, d))) (hM : M ≤ 2400) (hf : ∀ k, ixD (row n v P D k) (.int (t : Nat)) = some (.int (f k))) :
    ev CC (.lc (.ix (.v 24) (.c (.int (t : Nat)))) (.n 24) .seq [.v 12] none [24]) ⟨r, c⟩ = .ok (true, .lst ((List.range M).map fun k => .int (f k))) ⟨r, c⟩ := by
  have hz : fzD [.v 12] r = r := by simp only [fzD, h12]
  have := ev_lcP (C := CC) (e := .ix (.v 24) (.c (.int (t : Nat)))) (t := .n 24) (k := .seq) (its := [.v 12]) (cond := none) (own := [24]) (s := ⟨r, c⟩) (s1 := ⟨r, c⟩) (w := r.set 24 none) (fun d => ixD d (.int (t : Nat))) (ds := [.lst (rows n v P D M)]) (xs := rows n v P D M) (ys := (List.range M).map fun k => .int (f k)) (by simp [h12, isPk, isV]) rfl ?_ (lim_M hM) (by simp; omega) (by rw [hz]; rfl) (fun x hx => ?_) (rows_fm hf)
  · rw [hz] at this; exact this
  · rw [Bool.and_eq_true]
    refine ⟨by decide, notOwn_of' (fun d => h24 d)⟩
  · obtain ⟨j, hj, rfl⟩ := mem_rows hx
    refine ⟨(r.set 24 none).set 24 (some (false, row n v P D j)), rfl, ?_, .inr ⟨rfl, (false, .int (f j)), ?_, rfl, hf j⟩⟩
    · show ((r.set 24 none).set 24 _).set 24 none = _
      rw [List.set_set, List.set_set]
    · rw [ev_ix]
      have : ((r.set 24 none).set 24 (some (false, row n v P D j)))[24]? = some (some (false, row n v P D j)) := List.getElem?_set_self (by simp; omega)
      simp only [ev_v, this, R.b_ok, ev_c, hf j, R.of_some]
end
end V07
end

section
set_option Elab.async false
set_option linter.all false
set_option maxRecDepth 100000
set_option maxHeartbeats 4000000
namespace V07
open Q Ek07
def lefts (n v : Int) (P : Nat → Int) (D : Int) (M : Nat) : List Q.D := (List.range (M + 1)).map fun k => .int (sq n v P D k)
section
variable {r : Row} {c : Cells} {n v D q F p : Int} {dr : List Q.D} {M : Nat} {P : Nat → Int} {e : Ex}
theorem ixR {j k : Nat} {o : Bool} (h12 : Sl r j (.lst (rows n v P D M))) (he : ev CC e ⟨r, c⟩ = .ok (o, .int (k : Nat)) ⟨r, c⟩) (hk : k < M) : ev CC (.ix (.v j) e) ⟨r, c⟩ = .ok (false, row n v P D k) ⟨r, c⟩ := by
  have : ixD (.lst (rows n v P D M)) (.int (k : Nat)) = some (row n v P D k) := ix_lst (j := k) rfl (by simp [rows, hk])
  rw [ev_ix, evS h12]
  simp only [R.b_ok]
  rw [he]
  simp only [R.b_ok, this, R.of_some]
theorem ixL {j k : Nat} {o : Bool} (h7 : Sl r j (.lst (lefts n v P D M))) (he : ev CC e ⟨r, c⟩ = .ok (o, .int (k : Nat)) ⟨r, c⟩) (hk : k ≤ M) : ev CC (.ix (.v j) e) ⟨r, c⟩ = .ok (false, .int (sq n v P D k)) ⟨r, c⟩ := by
  have : ixD (.lst (lefts n v P D M)) (.int (k : Nat)) = some (.int (sq n v P D k)) := ix_lst (j := k) rfl (by simp [lefts, show k < M + 1 by omega])
  rw [ev_ix, evS h7]
  simp only [R.b_ok]
  rw [he]
  simp only [R.b_ok, this, R.of_some]
theorem ixC {s : S} {k : Nat} {o : Bool} (he : ev CC e s = .ok (o, row n v P D k) s) : ev CC (.ix e (.c (.int 0))) s = .ok (false, .int (I n v (sq n v P D k))) s ∧ ev CC (.ix e (.c (.int 1))) s = .ok (false, .int (min (P k) (sq n v P D k + I n v (sq n v P D k)))) s ∧ ev CC (.ix e (.c (.int 2))) s = .ok (false, .int (sq n v P D (k + 1))) s := by
  refine ⟨?_, ?_, ?_⟩ <;> (rw [ev_ix, he]; simp [row])
theorem natE {e : Ex} {s : S} {i : Int} {k : Nat} {o : Bool} (h : ev CC e s = .ok (o, .int i) s) (hi : i = (k : Nat)) : ev CC e s = .ok (o, .int (k : Nat)) s := by rw [h, hi]
theorem sum0 (h12 : Sl r 12 (.lst (rows n v P D M))) (hl : r.length = 25) (h24 : ∀ d, r[24]? ≠ some (some (true, d))) (hM : M ≤ 2400) : ev CC (.bi .sum [.lc (.ix (.v 24) (.c (.int 0))) (.n 24) .seq [.v 12] none [24]]) ⟨r, c⟩ = .ok (false, .int (sumI n v P D M)) ⟨r, c⟩ := by
  have := col (c := c) (t := 0) (f := fun k => I n v (sq n v P D k)) h12 hl h24 hM (fun k => by simp [row])
  rw [ev_bi, evA_cons, show ev CC (.lc (.ix (.v 24) (.c (.int 0))) (.n 24) .seq [.v 12] none [24]) ⟨r, c⟩ = _ from this]
  simp only [R.b_ok, isPk, Bool.and_false, Bool.false_and, Bool.false_eq_true, if_false, evA_nil, bi_sumR, R.of_some]
  rfl
theorem sum1 (h12 : Sl r 12 (.lst (rows n v P D M))) (hl : r.length = 25) (h24 : ∀ d, r[24]? ≠ some (some (true, d))) (hM : M ≤ 2400) : ev CC (.bi .sum [.lc (.ix (.v 24) (.c (.int 1))) (.n 24) .seq [.v 12] none [24]]) ⟨r, c⟩ = .ok (false, .int (sumP n v P D M)) ⟨r, c⟩ := by
  have := col (c := c) (t := 1) (f := fun k => min (P k) (sq n v P D k + I n v (sq n v P D k))) h12 hl h24 hM (fun k => by simp [row])
  rw [ev_bi, evA_cons, show ev CC (.lc (.ix (.v 24) (.c (.int 1))) (.n 24) .seq [.v 12] none [24]) ⟨r, c⟩ = _ from this]
  simp only [R.b_ok, isPk, Bool.and_false, Bool.false_and, Bool.false_eq_true, if_false, evA_nil, bi_sumR, R.of_some]
  rfl
theorem lenR {j : Nat} (h12 : Sl r j (.lst (rows n v P D M))) : ev CC (.bi .len [.v j]) ⟨r, c⟩ = .ok (false, .int (M : Nat)) ⟨r, c⟩ := by
  rw [ev_bi, evA_cons, evS h12]
  simp only [R.b_ok, Bool.false_and, Bool.false_eq_true, if_false, evA_nil, bi_lenl, rows_len, R.of_some]
theorem ne_no {i : Int} : cmpD .ne (.int i) (.int i) = some false := by rw [cmp_ne_int]; simp
theorem ne_of {i j : Int} (h : i = j) : cmpD .ne (.int i) (.int j) = some false := by rw [h]; exact ne_no
theorem row_ne {k : Nat} : cmpD .ne (row n v P D k) (row n v P D k) = some false := by
  have := eqD_row (n := n) (v := v) (P := P) (D := D) k
  have h2 := pl_row (n := n) (v := v) (P := P) (D := D) 59 k
  simp only [row] at this h2 ⊢
  simp only [cmpD, this, h2]
  rfl
theorem s9 (hl : r.length = 25) (h24 : ∀ d, r[24]? ≠ some (some (true, d))) (h6 : Sl r 6 (ln D n v p)) (h12 : Sl r 12 (.lst (rows n v (cP p) D (M + 1)))) (h18 : Sl r 18 (.int ((M + 1 : Nat) : Int))) (h19 : Sl r 19 (.int (sumI n v (cP p) D (M + 1)))) (h15 : Sl r 15 (.int D)) (l : Lok n v D p) (R1 : Run n v (cP p) D (M + 1)) (hI : ∀ j, j < M + 1 → I n v (sq n v (cP p) D j) < p) :
    xe CC (.ite (.or (.cmp .ne (.bi .len [.v 12]) (.v 18)) (.or (.cmp .ne (.bi .sum [.lc (.ix (.v 24) (.c (.int 0))) (.n 24) .seq [.v 12] none [24]]) (.v 19)) (.or (.cmp .ne (.bi .sum [.lc (.ix (.v 24) (.c (.int 1))) (.n 24) .seq [.v 12] none [24]]) (.bin .add (.v 15) (.v 19))) (.or (.cmp .ne (.ix (.ix (.v 12) (.bin .sub (.v 18) (.c (.int 1)))) (.c (.int 2))) (.c (.int 0))) (.cmp .isn (.call 26 [.v 6, .v 12]) (.c (.bl true))))))) [.ret (.c (.bl false))] []) ⟨r, c⟩ = .ok .nx ⟨r, c⟩ := by
  refine ite_no (o := false) ?_
  have e1 : ev CC (.bin .sub (.v 18) (.c (.int 1))) ⟨r, c⟩ = .ok (false, .int (M : Nat)) ⟨r, c⟩ := natE (bin_of (evS h18) ev_c binD_sub) (by omega)
  have e2 := (ixC (ixR (c := c) h12 e1 (Nat.lt_succ_self M))).2.2
  rw [R1.fin] at e2
  have e3 : ev CC (.call 26 [.v 6, .v 12]) ⟨r, c⟩ = .ok (false, .bl true) ⟨r, c⟩ := call2 h6 h12 (takes_loan l R1 hI 6 c)
  rw [or_no (cmp_of (lenR h12) (evS h18) ne_no), or_no (cmp_of (sum0 h12 hl h24 R1.few) (evS h19) ne_no), or_no (cmp_of (sum1 h12 hl h24 R1.few) (bin_of (evS h15) (evS h19) binD_add) (ne_of (sumP_eq R1))), or_no (cmp_of e2 ev_c ne_no)]
  exact cmp_of e3 ev_c cmp_isn_bl
theorem s10 (hl : r.length = 25) (h24 : ∀ d, r[24]? ≠ some (some (true, d))) (h12 : Sl r 12 (.lst (rows n v P D M))) (h15 : Sl r 15 (.int D)) (hM : M ≤ 2400) : xe CC (.set 7 (.bin .add (.lst [.v 15]) (.lc (.ix (.v 24) (.c (.int 2))) (.n 24) .seq [.v 12] none [24]))) ⟨r, c⟩ = .ok .nx ⟨r.set 7 (some (false, .lst (lefts n v P D M))), c⟩ := by
  have h2 := col (c := c) (t := 2) (f := fun k => sq n v P D (k + 1)) h12 hl h24 hM (fun k => by simp [row])
  have e1 : ev CC (.lst [.v 15]) ⟨r, c⟩ = .ok (true, .lst [.int D]) ⟨r, c⟩ := by
    rw [ev_lst, evF_cons, evS h15]
    simp only [R.b_ok, Bool.false_and, Bool.false_eq_true, if_false, evF_nil]
  have hlim : [D].length + ((List.range M).map fun k => Q.D.int (sq n v P D (k + 1))).length ≤ lim := by
    rw [List.length_map, List.length_range]
    exact Nat.le_trans (show 1 + M ≤ 3000 by omega) (by decide)
  have e3 : lefts n v P D M = [.int D] ++ (List.range M).map fun k => .int (sq n v P D (k + 1)) := by
    unfold lefts
    rw [List.range_succ_eq_map, List.map_cons, List.map_map]
    rfl
  have hb : binD .add (.lst [.int D]) (.lst ((List.range M).map fun k => .int (sq n v P D (k + 1)))) = some (true, .lst (lefts n v P D M)) := by
    rw [e3]
    exact if_pos hlim
  exact set_of1 (s1 := ⟨r, c⟩) (o := true) (bin_of e1 h2 hb) rfl
/-- alike but at some places -/
def Agr (js : List Nat) (r r' : Row) : Prop := r'.length = r.length ∧ ∀ j, j ∉ js → r'[j]? = r[j]?
theorem Agr.sl {js : List Nat} {r r' : Row} {i : Nat} {d : Q.D} (h : Agr js r r') (s : Sl r i d) (n : i ∉ js) : Sl r' i d := (h.2 i n).trans s
theorem s11 (hN : NoO r) (hl : r.length = 25) (h12 : Sl r 12 (.lst (rows n v (cP p) D M))) (h7 : Sl r 7 (.lst (lefts n v (cP p) D M))) (h16 : Sl r 16 (rt n v)) (h5 : Sl r 5 (.int p)) (h18 : Sl r 18 (.int (M : Nat))) (R1 : Run n v (cP p) D M) (hD : D ≤ 1000000000) (hle : ∀ j, sq n v (cP p) D j ≤ D) (hI : ∀ j, j < M → I n v (sq n v (cP p) D j) < p) :
    ∃ r', xe CC (.for_ (.n 8) .rng [.v 18] [.set 11 (.call 32 [.ix (.v 7) (.v 8), .v 16]), .ite (.or (.cmp .ne (.ix (.v 12) (.v 8)) (.tup [.v 11, .bi .min [.v 5, .bin .add (.ix (.v 7) (.v 8)) (.v 11)], .ix (.v 7) (.bin .add (.v 8) (.c (.int 1)))])) (.or (.cmp .ne (.ix (.v 7) (.bin .add (.v 8) (.c (.int 1)))) (.bin .sub (.bin .add (.ix (.v 7) (.v 8)) (.v 11)) (.ix (.ix (.v 12) (.v 8)) (.c (.int 1))))) (.cmp .ge (.ix (.v 7) (.bin .add (.v 8) (.c (.int 1)))) (.ix (.v 7) (.v 8))))) [.ret (.c (.bl false))] []]) ⟨r, c⟩ = .ok .nx ⟨r', c⟩ ∧ Agr [8, 11] r r' ∧ NoO r' := by
  have hf := for_inv (f := fun x s => (R.of (asg (.n 8) x s.r) s).b fun r s => xes CC [.set 11 (.call 32 [.ix (.v 7) (.v 8), .v 16]), .ite (.or (.cmp .ne (.ix (.v 12) (.v 8)) (.tup [.v 11, .bi .min [.v 5, .bin .add (.ix (.v 7) (.v 8)) (.v 11)], .ix (.v 7) (.bin .add (.v 8) (.c (.int 1)))])) (.or (.cmp .ne (.ix (.v 7) (.bin .add (.v 8) (.c (.int 1)))) (.bin .sub (.bin .add (.ix (.v 7) (.v 8)) (.v 11)) (.ix (.ix (.v 12) (.v 8)) (.c (.int 1))))) (.cmp .ge (.ix (.v 7) (.bin .add (.v 8) (.c (.int 1)))) (.ix (.v 7) (.v 8))))) [.ret (.c (.bl false))] []] ⟨r, s.c⟩)
    (I := fun i s => s.c = c ∧ Agr [8, 11] r s.r ∧ NoO s.r) (xs := rngD 0 M) (i := 0) (s := ⟨r, c⟩) ⟨rfl, ⟨rfl, fun _ _ => rfl⟩, hN⟩ (fun k x s hk => by
      obtain ⟨rs, cs⟩ := s
      rintro ⟨rfl, hA, hNs⟩
      have hk' : k < M := by have := (List.getElem?_eq_some_iff.mp hk).1; rwa [rngD_len] at this
      have hx : x = .int (k : Nat) := by
        have : (rngD 0 M)[k]? = some (.int (k : Nat)) := by simp [rngD, hk']
        rw [hk] at this; exact Option.some.inj this
      subst hx
      have hA1 : rs.length = r.length := hA.1
      let ra := rs.set 8 (some (false, .int (k : Nat)))
      have a8 : Sl ra 8 (.int (k : Nat)) := Sl.at (by omega)
      have a7 : Sl ra 7 (.lst (lefts n v (cP p) D M)) := (hA.sl h7 (by decide)).ne (by decide)
      have a12 : Sl ra 12 (.lst (rows n v (cP p) D M)) := (hA.sl h12 (by decide)).ne (by decide)
      have a16 : Sl ra 16 (rt n v) := (hA.sl h16 (by decide)).ne (by decide)
      have a5 : Sl ra 5 (.int p) := (hA.sl h5 (by decide)).ne (by decide)
      let d := sq n v (cP p) D k
      have hd0 : 0 < d := R1.pos k hk'
      have hd1 : d ≤ D := hle k
      have e1 : ev CC (.ix (.v 7) (.v 8)) ⟨ra, cs⟩ = .ok (false, .int d) ⟨ra, cs⟩ := ixL a7 (evS a8) (Nat.le_of_lt hk')
      have ec : CC 32 [.int d, rt n v] cs = .ok (false, .int (I n v d)) cs := law_interest R1.r (by omega) (by omega) 10 cs
      have e2 : ev CC (.call 32 [.ix (.v 7) (.v 8), .v 16]) ⟨ra, cs⟩ = .ok (false, .int (I n v d)) ⟨ra, cs⟩ := by
        rw [ev_call, evA_cons, e1]
        simp only [R.b_ok, Bool.false_and, Bool.false_eq_true, if_false]
        rw [evA_cons, evS a16]
        simp only [R.b_ok, Bool.false_and, Bool.false_eq_true, if_false, evA_nil, callD, ec, anyO, a16]
      let rb := ra.set 11 (some (false, .int (I n v d)))
      have b11 : Sl rb 11 (.int (I n v d)) := Sl.at (by simp [ra]; omega)
      have b8 : Sl rb 8 (.int (k : Nat)) := a8.ne (by decide)
      have b7 : Sl rb 7 (.lst (lefts n v (cP p) D M)) := a7.ne (by decide)
      have b12 : Sl rb 12 (.lst (rows n v (cP p) D M)) := a12.ne (by decide)
      have b5 : Sl rb 5 (.int p) := a5.ne (by decide)
      have f1 : ev CC (.ix (.v 7) (.v 8)) ⟨rb, cs⟩ = .ok (false, .int d) ⟨rb, cs⟩ := ixL b7 (evS b8) (Nat.le_of_lt hk')
      have f2 : ev CC (.ix (.v 7) (.bin .add (.v 8) (.c (.int 1)))) ⟨rb, cs⟩ = .ok (false, .int (sq n v (cP p) D (k + 1))) ⟨rb, cs⟩ := ixL b7 (natE (k := k + 1) (bin_of (evS b8) ev_c binD_add) (by omega)) hk'
      have f3 : ev CC (.ix (.v 12) (.v 8)) ⟨rb, cs⟩ = .ok (false, row n v (cP p) D k) ⟨rb, cs⟩ := ixR b12 (evS b8) hk'
      have f4 : ev CC (.bin .add (.ix (.v 7) (.v 8)) (.v 11)) ⟨rb, cs⟩ = .ok (false, .int (d + I n v d)) ⟨rb, cs⟩ := bin_of f1 (evS b11) binD_add
      have f5 : ev CC (.bi .min [.v 5, .bin .add (.ix (.v 7) (.v 8)) (.v 11)]) ⟨rb, cs⟩ = .ok (false, .int (min p (d + I n v d))) ⟨rb, cs⟩ := by
        rw [ev_bi, evA_cons, evS b5]
        simp only [R.b_ok, Bool.false_and, Bool.false_eq_true, if_false]
        rw [evA_cons, f4]
        simp only [R.b_ok, Bool.false_and, Bool.false_eq_true, if_false, evA_nil, bi_min, R.of_some]
      have f6 : ev CC (.tup [.v 11, .bi .min [.v 5, .bin .add (.ix (.v 7) (.v 8)) (.v 11)], .ix (.v 7) (.bin .add (.v 8) (.c (.int 1)))]) ⟨rb, cs⟩ = .ok (false, row n v (cP p) D k) ⟨rb, cs⟩ := by
        rw [ev_tup, evF_cons, evS b11]
        simp only [R.b_ok, Bool.false_and, Bool.false_eq_true, if_false]
        rw [evF_cons, f5]
        simp only [R.b_ok, Bool.false_and, Bool.false_eq_true, if_false]
        rw [evF_cons, f2]
        simp only [R.b_ok, Bool.false_and, Bool.false_eq_true, if_false, evF_nil]
        rfl
      have hsq : sq n v (cP p) D (k + 1) = d + I n v d - min p (d + I n v d) := rfl
      have hi := hI k hk'
      refine ⟨⟨rb, cs⟩, .inl ?_, rfl, ⟨by simp [rb, ra, hA1], fun j hj => ?_⟩, hNs.set.set⟩
      · show xes CC _ ⟨ra, cs⟩ = _
        rw [xes_nx (set_of1 e2 rfl), xes_one]
        refine ite_no (o := false) ?_
        rw [or_no (cmp_of f3 f6 row_ne), or_no (cmp_of f2 (bin_of f4 (ixC f3).2.1 binD_sub) (ne_of hsq))]
        refine cmp_of f2 f1 ?_
        rw [cmp_ge, decide_eq_false]
        rw [hsq]
        show ¬ d ≤ _
        have : I n v d < p := hi
        have := I_nonneg R1.r (show 0 ≤ d by omega)
        omega
      · simp only [List.mem_cons, List.not_mem_nil, or_false, not_or] at hj
        show (ra.set 11 _)[j]? = _
        rw [List.getElem?_set_ne (by omega), List.getElem?_set_ne (by omega)]
        exact hA.2 j (by simp; omega))
  obtain ⟨⟨r', c'⟩, e, rfl, hA, hN'⟩ := hf
  refine ⟨r', ?_, hA, hN'⟩
  refine (xe_for_of (s1 := ⟨r, c'⟩) (ds := [.int (M : Nat)]) (by simp [isPk, h18]) (itD_rng (rng_ok (Int.natCast_nonneg M) (by have := R1.few; omega)))).trans ?_
  rw [Int.toNat_natCast]
  exact e
end
end V07
end

section
set_option Elab.async false
set_option linter.all false
set_option maxRecDepth 100000
set_option maxHeartbeats 4000000
namespace V07
open Q Ek07
theorem half_ex {n v : Int} {P : Nat → Int} {D : Int} {M : Nat} (hD : 0 ≤ D) (hz : sq n v P D (M + 1) = 0) : ∃ H, Half n v P D (M + 1) H := by
  have : ∀ K, 2 * sq n v P D (K + 1) ≤ D → ∃ H, H ≤ K ∧ 2 * sq n v P D (H + 1) ≤ D ∧ ∀ k, k < H → D < 2 * sq n v P D (k + 1) := by
    intro K
    induction K using Nat.strongRecOn with
    | _ K ih =>
      intro hK
      by_cases hall : ∃ k, k < K ∧ 2 * sq n v P D (k + 1) ≤ D
      · obtain ⟨k, hk, h⟩ := hall
        obtain ⟨H, h1, h2, h3⟩ := ih k hk h
        exact ⟨H, by omega, h2, h3⟩
      · refine ⟨K, Nat.le_refl _, hK, fun j hj => ?_⟩
        have : ¬ 2 * sq n v P D (j + 1) ≤ D := fun e => hall ⟨j, hj, e⟩
        omega
  obtain ⟨H, h1, h2, h3⟩ := this M (by omega)
  exact ⟨H, by omega, h2, h3⟩
section
variable {r : Row} {c : Cells} {n v D q F p p2 : Int} {dr : List Q.D} {M M2 : Nat} {P : Nat → Int} {e : Ex}
theorem tkset {i : Nat} {bnd : Ex} {bv : Int} (h1 : Sl r 1 (.cel 0)) (hg : good dr) (hb : ∀ c, ev CC bnd ⟨r, c⟩ = .ok (false, .int bv) ⟨r, c⟩) (hp : 0 < bv) (han : anyO [.v 1, bnd] r = false) : ∃ (x : Nat) (dr' : List Q.D), xe CC (.set i (.call 28 [.v 1, bnd])) ⟨r, [dr]⟩ = .ok .nx ⟨r.set i (some (false, .int (x : Int))), [dr']⟩ ∧ (x : Int) < bv ∧ good dr' := by
  obtain ⟨x, d1, e1, a1, a2, a3, g1⟩ := tk_of h1 hg (hb _) hp han
  obtain ⟨m, rfl⟩ : ∃ m : Nat, x = (m : Int) := ⟨x.toNat, by omega⟩
  exact ⟨m, d1, set_of1 e1 rfl, a2, g1⟩
theorem s13 {H : Nat} (h6 : Sl r 6 (ln D n v p)) (l : Lok n v D p) (R1 : Run n v (cP p) D M) (hn : I n v D < p) (hh : Half n v (cP p) D M H) : xe CC (.set 10 (.call 24 [.v 6])) ⟨r, c⟩ = .ok .nx ⟨r.set 10 (some (false, .int (H : Nat))), c⟩ := set_of1 (call1 h6 (halved_at l R1 hh (fun _ => hn) 6 c)) rfl
theorem s14 {H a : Nat} (h6 : Sl r 6 (ln D n v p)) (h9 : Sl r 9 (.int (a : Nat))) (h18 : Sl r 18 (.int ((M + 1 : Nat) : Int))) (h7 : Sl r 7 (.lst (lefts n v (cP p) D (M + 1)))) (h12 : Sl r 12 (.lst (rows n v (cP p) D (M + 1)))) (h10 : Sl r 10 (.int (H : Nat))) (h15 : Sl r 15 (.int D)) (l : Lok n v D p) (R1 : Run n v (cP p) D (M + 1)) (hn : I n v D < p) (hh : Half n v (cP p) D (M + 1) H) (hM : M ≤ 200) (ha : a ≤ 1000) :
    xe CC (.ite (.or (.cmp .ne (.call 18 [.v 6, .v 9]) (.ix (.v 7) (.bi .min [.v 9, .v 18]))) (.or (.cmp .ne (.call 23 [.v 6]) (.ix (.ix (.v 12) (.bin .sub (.v 18) (.c (.int 1)))) (.c (.int 1)))) (.or (.cmp .gt (.bin .mul (.c (.int 2)) (.ix (.v 7) (.bin .add (.v 10) (.c (.int 1))))) (.v 15)) (.and (.cmp .gt (.v 10) (.c (.int 0))) (.cmp .le (.bin .mul (.c (.int 2)) (.ix (.v 7) (.v 10))) (.v 15)))))) [.ret (.c (.bl false))] []) ⟨r, c⟩ = .ok .nx ⟨r, c⟩ := by
  have hp0 : 0 ≤ p := by have := l.p0; omega
  have e1 := da_of (c := c) h6 h9 l (by omega)
  have e2 : ev CC (.bi .min [.v 9, .v 18]) ⟨r, c⟩ = .ok (false, .int ((min a (M + 1) : Nat) : Int)) ⟨r, c⟩ := by
    rw [ev_bi, evA_cons, evS h9]
    simp only [R.b_ok, Bool.false_and, Bool.false_eq_true, if_false]
    rw [evA_cons, evS h18]
    simp only [R.b_ok, Bool.false_and, Bool.false_eq_true, if_false, evA_nil, bi_min, R.of_some]
    have : min (a : Int) ((M + 1 : Nat) : Int) = ((min a (M + 1) : Nat) : Int) := by omega
    rw [this]
  have e3 := ixL (c := c) h7 e2 (by omega)
  have hm : sq n v (cP p) D a = sq n v (cP p) D (min a (M + 1)) := by
    by_cases x : a ≤ M + 1
    · rw [Nat.min_eq_left x]
    · rw [Nat.min_eq_right (by omega), R1.fin]
      have := sq_after (n := n) (v := v) (P := cP p) (D := D) R1.r (fun _ => hp0) R1.fin (a - (M + 1))
      rwa [show M + 1 + (a - (M + 1)) = a by omega] at this
  have e4 : ev CC (.call 23 [.v 6]) ⟨r, c⟩ = .ok (false, .int (min p (sq n v (cP p) D M + I n v (sq n v (cP p) D M)))) ⟨r, c⟩ := call1 h6 (last_payment l R1 (fun _ => hn) 6 c)
  have e5 : ev CC (.bin .sub (.v 18) (.c (.int 1))) ⟨r, c⟩ = .ok (false, .int (M : Nat)) ⟨r, c⟩ := natE (bin_of (evS h18) ev_c binD_sub) (by omega)
  have e6 := (ixC (ixR (c := c) h12 e5 (Nat.lt_succ_self M))).2.1
  have hlt := hh.lt
  have e7 : ev CC (.ix (.v 7) (.bin .add (.v 10) (.c (.int 1)))) ⟨r, c⟩ = .ok (false, .int (sq n v (cP p) D (H + 1))) ⟨r, c⟩ := ixL (c := c) h7 (natE (k := H + 1) (bin_of (evS h10) ev_c binD_add) (by omega)) (by omega)
  have b1 : binD .mul (.int 2) (.int (sq n v (cP p) D (H + 1))) = some (false, .int (2 * sq n v (cP p) D (H + 1))) := by rw [binD_mul, sm2, (R1.small (H + 1) (by omega)).sm (by decide)]; rfl
  have b2 : binD .mul (.int 2) (.int (sq n v (cP p) D H)) = some (false, .int (2 * sq n v (cP p) D H)) := by rw [binD_mul, sm2, (R1.small H (by omega)).sm (by decide)]; rfl
  have g1 : smI (sq n v (cP p) D (H + 1)) = true := (R1.small (H + 1) (by omega)).sm (by decide)
  have g2 : smI (sq n v (cP p) D H) = true := (R1.small H (by omega)).sm (by decide)
  have e8 : ev CC (.bin .mul (.c (.int 2)) (.ix (.v 7) (.bin .add (.v 10) (.c (.int 1))))) ⟨r, c⟩ = .ok (false, .int (2 * sq n v (cP p) D (H + 1))) ⟨r, c⟩ := bin_of ev_c e7 b1
  have e9 : ev CC (.bin .mul (.c (.int 2)) (.ix (.v 7) (.v 10))) ⟨r, c⟩ = .ok (false, .int (2 * sq n v (cP p) D H)) ⟨r, c⟩ := bin_of ev_c (ixL h7 (evS h10) (by omega)) b2
  refine ite_no (o := false) ?_
  have hz := hh.z
  rw [or_no (cmp_of e1 e3 (ne_of hm)), or_no (cmp_of e4 e6 ne_no), or_no (cmp_of e8 (evS h15) (by rw [cmp_gt, decide_eq_false (by omega)]))]
  by_cases h0 : 0 < H
  · have := hh.first (H - 1) (by omega)
    rw [show H - 1 + 1 = H by omega] at this
    rw [and_yes (cmp_of (evS h10) ev_c (by rw [cmp_gt, decide_eq_true (by omega)]))]
    exact cmp_of e9 (evS h15) (by rw [cmp_le, decide_eq_false (by omega)])
  · exact and_no (cmp_of (evS h10) ev_c (by rw [cmp_gt, decide_eq_false (by omega)]))
theorem s15 (h1 : Sl r 1 (.cel 0)) (hg : good dr) (h15 : Sl r 15 (.int D)) (h16 : Sl r 16 (rt n v)) (h5 : Sl r 5 (.int p)) (hp : p ≤ 900000000) : ∃ z dr', xe CC (.set 11 (.tup [.v 15, .v 16, .bi .min [.bin .pow (.c (.int 10)) (.c (.int 9)), .bin .add (.bin .add (.v 5) (.c (.int 1))) (.call 28 [.v 1, .c (.int 500)])]])) ⟨r, [dr]⟩ = .ok .nx ⟨r.set 11 (some (false, ln D n v (p + 1 + z))), [dr']⟩ ∧ 0 ≤ z ∧ z < 500 ∧ good dr' := by
  obtain ⟨z, d1, e1, a1, a2, a3, g1⟩ := tk_of (r := r) (bnd := .c (.int 500)) (bv := 500) h1 hg rfl (by omega) (any1 h1)
  have e2 : ev CC (.bin .add (.bin .add (.v 5) (.c (.int 1))) (.call 28 [.v 1, .c (.int 500)])) ⟨r, [dr]⟩ = .ok (false, .int (p + 1 + z)) ⟨r, [d1]⟩ := bin_of (bin_of (z := (false, .int (p + 1))) (evS h5) ev_c rfl) e1 rfl
  have e3 : ev CC (.bi .min [.bin .pow (.c (.int 10)) (.c (.int 9)), .bin .add (.bin .add (.v 5) (.c (.int 1))) (.call 28 [.v 1, .c (.int 500)])]) ⟨r, [dr]⟩ = .ok (false, .int (p + 1 + z)) ⟨r, [d1]⟩ := by
    rw [ev_bi, evA_cons, p9]
    simp only [R.b_ok, Bool.false_and, Bool.false_eq_true, if_false]
    rw [evA_cons, e2]
    have hmin : min (1000000000 : Int) (p + 1 + z) = p + 1 + z := by omega
    simp only [R.b_ok, Bool.false_and, Bool.false_eq_true, if_false, evA_nil, bi_min, R.of_some, hmin]
  refine ⟨z, d1, set_of1 (s1 := ⟨r, [d1]⟩) (o := false) (x := ln D n v (p + 1 + z)) ?_ rfl, a1, a2, g1⟩
  rw [ev_tup, evF_cons, evS h15]
  simp only [R.b_ok, Bool.false_and, Bool.false_eq_true, if_false]
  rw [evF_cons, evS h16]
  simp only [R.b_ok, Bool.false_and, Bool.false_eq_true, if_false]
  rw [evF_cons, e3]
  simp only [R.b_ok, Bool.false_and, Bool.false_eq_true, if_false, evF_nil]
  rfl
theorem s16 (h6 : Sl r 6 (ln D n v p)) (h11 : Sl r 11 (ln D n v p2)) (h18 : Sl r 18 (.int (M : Nat))) (h19 : Sl r 19 (.int (sumI n v (cP p) D M))) (l : Lok n v D p) (l2 : Lok n v D p2) (R1 : Run n v (cP p) D M) (R2 : Run n v (cP p2) D M2) (hn : I n v D < p) (hp : p ≤ p2) :
    xe CC (.ite (.or (.cmp .gt (.call 14 [.v 11]) (.v 18)) (.or (.cmp .gt (.call 15 [.v 11]) (.v 19)) (.or (.cmp .ne (.call 25 [.v 6, .v 11]) (.bi .int [.cmp .lt (.call 15 [.v 11]) (.v 19)])) (.cmp .ne (.call 25 [.v 11, .v 6]) (.bi .int [.cmp .gt (.call 15 [.v 11]) (.v 19)]))))) [.ret (.c (.bl false))] []) ⟨r, c⟩ = .ok .nx ⟨r, c⟩ := by
  have hn2 : I n v D < p2 := by omega
  have hp0 : 0 ≤ p := by have := l.p0; omega
  have e1 : ev CC (.call 14 [.v 11]) ⟨r, c⟩ = .ok (false, .int (M2 : Nat)) ⟨r, c⟩ := call1 h11 (months_of l2 R2 (fun _ => hn2) 6 c)
  have e2 : ev CC (.call 15 [.v 11]) ⟨r, c⟩ = .ok (false, .int (sumI n v (cP p2) D M2)) ⟨r, c⟩ := call1 h11 (all_interest l2 R2 (fun _ => hn2) 6 c)
  have e3 : ev CC (.call 25 [.v 6, .v 11]) ⟨r, c⟩ = _ := call2 h6 h11 (cheaper_of l l2 R1 R2 (fun _ => hn) (fun _ => hn2) 6 c)
  have e4 : ev CC (.call 25 [.v 11, .v 6]) ⟨r, c⟩ = _ := call2 h11 h6 (cheaper_of l2 l R2 R1 (fun _ => hn2) (fun _ => hn) 6 c)
  have k1 := Run.le l.r l.d0 R1 R2 (fun _ => hp)
  have k2 : sumI n v (cP p2) D M2 ≤ sumI n v (cP p) D M := sumI_le l.r (fun _ => hp0) (fun _ => (show 0 ≤ p2 by omega)) R1 R2 (sq_mono l.r (Int.le_refl D) (fun _ => hp))
  have k3 := sumP_eq R1
  have k4 := sumP_eq R2
  have e5 : ev CC (.bi .int [.cmp .lt (.call 15 [.v 11]) (.v 19)]) ⟨r, c⟩ = .ok (false, .int (bI (decide (sumI n v (cP p2) D M2 < sumI n v (cP p) D M)))) ⟨r, c⟩ := by
    rw [ev_bi, evA_cons, cmp_of e2 (evS h19) cmp_lt]
    simp only [R.b_ok, Bool.false_and, Bool.false_eq_true, if_false, evA_nil, bi_intb, R.of_some]
  have e6 : ev CC (.bi .int [.cmp .gt (.call 15 [.v 11]) (.v 19)]) ⟨r, c⟩ = .ok (false, .int (bI (decide (sumI n v (cP p) D M < sumI n v (cP p2) D M2)))) ⟨r, c⟩ := by
    rw [ev_bi, evA_cons, cmp_of e2 (evS h19) cmp_gt]
    simp only [R.b_ok, Bool.false_and, Bool.false_eq_true, if_false, evA_nil, bi_intb, R.of_some]
  refine ite_no (o := false) ?_
  rw [or_no (cmp_of e1 (evS h18) (by rw [cmp_gt, decide_eq_false (by omega)])), or_no (cmp_of e2 (evS h19) (by rw [cmp_gt, decide_eq_false (by omega)])), or_no (cmp_of e3 e5 (ne_of ?_))]
  · refine cmp_of e4 e6 (ne_of ?_)
    by_cases x : sumI n v (cP p) D M < sumI n v (cP p2) D M2
    · omega
    · rw [if_pos (by omega), decide_eq_false x]; rfl
  · by_cases x : sumI n v (cP p2) D M2 < sumI n v (cP p) D M
    · rw [if_neg (by omega), decide_eq_true x]; rfl
    · rw [if_pos (by omega), decide_eq_false x]; rfl
end
end V07
end

section
set_option Elab.async false
set_option linter.all false
set_option maxRecDepth 100000
set_option maxHeartbeats 4000000
namespace V07
open Q Ek07
/-! extra pence, in numbers -/
def E1 (a b : Int) : Nat → Int := fun k => if (k : Int) = a then b else 0
def E2 (a b a2 b2 : Int) : Nat → Int := fun k => if (k : Int) = a then b else if (k : Int) = a2 then b2 else 0
theorem Eok0 : Eok [] (fun _ => 0) := ⟨fun p h => (by cases h), by decide, fun k => rfl, fun k => Int.le_refl _⟩
theorem Eok1 {a b : Int} (ha : 0 ≤ a) (hb : 0 ≤ b) : Eok [(a, b)] (E1 a b) := by
  refine ⟨fun p h => ?_, by simp, fun k => ?_, fun k => ?_⟩
  · simp at h; subst h; exact ⟨ha, hb⟩
  · simp only [ex, List.map_cons, List.map_nil, getD, eqK, E1]
    by_cases h : (k : Int) = a
    · subst h; simp
    · have : ¬ a = (k : Int) := fun e => h e.symm
      simp [this, h]
  · unfold E1; split <;> omega
theorem Eok2 {a b a2 b2 : Int} (ha : 0 ≤ a) (hb : 0 ≤ b) (ha2 : 0 ≤ a2) (hb2 : 0 ≤ b2) : Eok [(a, b), (a2, b2)] (E2 a b a2 b2) := by
  refine ⟨fun p h => ?_, by simp, fun k => ?_, fun k => ?_⟩
  · simp at h
    rcases h with rfl | rfl
    · exact ⟨ha, hb⟩
    · exact ⟨ha2, hb2⟩
  · simp only [ex, List.map_cons, List.map_nil, getD, eqK, E2]
    by_cases h : (k : Int) = a
    · subst h; simp
    · have h' : ¬ a = (k : Int) := fun e => h e.symm
      by_cases g : (k : Int) = a2
      · subst g; simp [h', h]
      · have g' : ¬ a2 = (k : Int) := fun e => g e.symm
        simp [h', h, g, g']
  · unfold E2; split
    · exact hb
    · split <;> omega
section
variable {r : Row} {c : Cells} {n v D q F p p2 : Int} {dr : List Q.D} {M M2 : Nat} {P : Nat → Int} {e : Ex}
theorem tkE {bnd : Ex} {bv : Int} (h1 : Sl r 1 (.cel 0)) (hg : good dr) (hb : ∀ c, ev CC bnd ⟨r, c⟩ = .ok (false, .int bv) ⟨r, c⟩) (hp : 0 < bv) (han : anyO [.v 1, bnd] r = false) : ∃ (x : Nat) (dr' : List Q.D), ev CC (.call 28 [.v 1, bnd]) ⟨r, [dr]⟩ = .ok (false, .int (x : Int)) ⟨r, [dr']⟩ ∧ (x : Int) < bv ∧ good dr' := by
  obtain ⟨x, d1, e1, a1, a2, a3, g1⟩ := tk_of h1 hg (hb _) hp han
  obtain ⟨m, rfl⟩ : ∃ m : Nat, x = (m : Int) := ⟨x.toNat, by omega⟩
  exact ⟨m, d1, e1, a2, g1⟩
theorem sm4 : smI 4 = true := sml.sm (k := 20) (by unfold sml; omega) (by decide)
theorem s17 (h1 : Sl r 1 (.cel 0)) (hg : good dr) (h15 : Sl r 15 (.int D)) (h18 : Sl r 18 (.int (M : Nat))) (hM : 0 < M) : ∃ (pe day : Nat) (dr' : List Q.D), xe CC (.par [(20, false), (21, false)] [.bin .add (.c (.int 1)) (.call 28 [.v 1, .bi .max [.c (.int 1), .bin .fdiv (.v 15) (.c (.int 4))]]), .call 28 [.v 1, .v 18]]) ⟨r, [dr]⟩ =
    .ok .nx ⟨(r.set 20 (some (false, .int (pe : Int)))).set 21 (some (false, .int (day : Int))), [dr']⟩ ∧ 1 ≤ pe ∧ day < M ∧ good dr' := by
  have e0 : ∀ c, ev CC (.bi .max [.c (.int 1), .bin .fdiv (.v 15) (.c (.int 4))]) ⟨r, c⟩ = .ok (false, .int (max 1 (D / 4))) ⟨r, c⟩ := fun c => by
    have : ev CC (.bin .fdiv (.v 15) (.c (.int 4))) ⟨r, c⟩ = .ok (false, .int (D / 4)) ⟨r, c⟩ := bin_of (evS h15) ev_c (by rw [binD_fdiv, sm4]; rfl)
    rw [ev_bi, evA_cons, ev_c]
    simp only [R.b_ok, Bool.false_and, Bool.false_eq_true, if_false]
    rw [evA_cons, this]
    simp only [R.b_ok, Bool.false_and, Bool.false_eq_true, if_false, evA_nil, bi_max, R.of_some]
  obtain ⟨x, d1, e1, a1, g1⟩ := tkE h1 hg e0 (by omega) (by simp only [anyO, h1])
  obtain ⟨y, d2, e2, a2, g2⟩ := tkE (bnd := .v 18) (bv := (M : Nat)) h1 g1 (fun c => evS h18) (by omega) (by simp only [anyO, h1, h18])
  have e3 : ev CC (.bin .add (.c (.int 1)) (.call 28 [.v 1, .bi .max [.c (.int 1), .bin .fdiv (.v 15) (.c (.int 4))]])) ⟨r, [dr]⟩ = .ok (false, .int ((x + 1 : Nat) : Int)) ⟨r, [d1]⟩ := by
    have := bin_of (p := .add) (b := .call 28 [.v 1, .bi .max [.c (.int 1), .bin .fdiv (.v 15) (.c (.int 4))]]) (C := CC) (a := .c (.int 1)) (s1 := ⟨r, [dr]⟩) ev_c e1 binD_add
    rw [this]
    have : (1 : Int) + (x : Int) = ((x + 1 : Nat) : Int) := by omega
    rw [this]
  refine ⟨x + 1, y, d2, ?_, by omega, by omega, g2⟩
  rw [xe_par, evP_cons, e3]
  simp only [R.b_ok, Bool.false_and, Bool.false_eq_true, if_false]
  rw [evP_cons, e2]
  simp only [R.b_ok, Bool.false_and, Bool.false_eq_true, if_false, evP_nil, parR, R.of_some]
theorem s18 {pe day : Nat} (h20 : Sl r 20 (.int (pe : Int))) (h21 : Sl r 21 (.int (day : Int))) (h18 : Sl r 18 (.int (M : Nat))) (hd : day < M) : xe CC (.par [(22, false), (23, false)] [.dct [.v 21, .v 20, .bin .add (.v 18) (.c (.int 3)), .c (.int 5)], .dct [.bi .max [.c (.int 0), .bin .sub (.v 21) (.c (.int 1))], .v 20]]) ⟨r, c⟩ =
    .ok .nx ⟨(r.set 22 (some (false, .dct (ex [((day : Int), (pe : Int)), ((M : Int) + 3, 5)])))).set 23 (some (false, .dct (ex [(max 0 ((day : Int) - 1), (pe : Int))]))), c⟩ := by
  have e1 : ev CC (.bin .add (.v 18) (.c (.int 3))) ⟨r, c⟩ = .ok (false, .int ((M : Int) + 3)) ⟨r, c⟩ := bin_of (evS h18) ev_c binD_add
  have e2 : ev CC (.bi .max [.c (.int 0), .bin .sub (.v 21) (.c (.int 1))]) ⟨r, c⟩ = .ok (false, .int (max 0 ((day : Int) - 1))) ⟨r, c⟩ := by
    have : ev CC (.bin .sub (.v 21) (.c (.int 1))) ⟨r, c⟩ = .ok (false, .int ((day : Int) - 1)) ⟨r, c⟩ := bin_of (evS h21) ev_c binD_sub
    rw [ev_bi, evA_cons, ev_c]
    simp only [R.b_ok, Bool.false_and, Bool.false_eq_true, if_false]
    rw [evA_cons, this]
    simp only [R.b_ok, Bool.false_and, Bool.false_eq_true, if_false, evA_nil, bi_max, R.of_some]
  have k1 : eqK (.int (day : Int)) (.int ((M : Int) + 3)) = false := by
    simp only [eqK]
    have : ¬ ((day : Int) = (M : Int) + 3) := by omega
    simp [this]
  have f1 : evF CC [.v 21, .v 20, .bin .add (.v 18) (.c (.int 3)), .c (.int 5)] ⟨r, c⟩ = .ok [.int (day : Int), .int (pe : Int), .int ((M : Int) + 3), .int 5] ⟨r, c⟩ := by
    rw [evF_cons, evS h21]
    simp only [R.b_ok, Bool.false_and, Bool.false_eq_true, if_false]
    rw [evF_cons, evS h20]
    simp only [R.b_ok, Bool.false_and, Bool.false_eq_true, if_false]
    rw [evF_cons, e1]
    simp only [R.b_ok, Bool.false_and, Bool.false_eq_true, if_false, evF_cons, ev_c, evF_nil]
  have m1 : mkD [.int (day : Int), .int (pe : Int), .int ((M : Int) + 3), .int 5] [] = some (ex [((day : Int), (pe : Int)), ((M : Int) + 3, 5)]) := by
    simp [mkD, isKey, putD, k1, ex]
  have g1 : ev CC (.dct [.v 21, .v 20, .bin .add (.v 18) (.c (.int 3)), .c (.int 5)]) ⟨r, c⟩ = .ok (true, .dct (ex [((day : Int), (pe : Int)), ((M : Int) + 3, 5)])) ⟨r, c⟩ := by
    rw [ev_dct, f1]
    simp only [R.b_ok, m1, R.of_some]
  have f2 : evF CC [.bi .max [.c (.int 0), .bin .sub (.v 21) (.c (.int 1))], .v 20] ⟨r, c⟩ = .ok [.int (max 0 ((day : Int) - 1)), .int (pe : Int)] ⟨r, c⟩ := by
    rw [evF_cons, e2]
    simp only [R.b_ok, Bool.false_and, Bool.false_eq_true, if_false]
    rw [evF_cons, evS h20]
    simp only [R.b_ok, Bool.false_and, Bool.false_eq_true, if_false, evF_nil]
  have m2 : mkD [.int (max 0 ((day : Int) - 1)), .int (pe : Int)] [] = some (ex [(max 0 ((day : Int) - 1), (pe : Int))]) := by
    simp [mkD, isKey, putD, ex]
  have g2 : ev CC (.dct [.bi .max [.c (.int 0), .bin .sub (.v 21) (.c (.int 1))], .v 20]) ⟨r, c⟩ = .ok (true, .dct (ex [(max 0 ((day : Int) - 1), (pe : Int))])) ⟨r, c⟩ := by
    rw [ev_dct, f2]
    simp only [R.b_ok, m2, R.of_some]
  rw [xe_par, evP_cons, g1]
  simp only [R.b_ok, isPk, Bool.and_false, Bool.false_eq_true, if_false]
  rw [evP_cons, g2]
  simp only [R.b_ok, isPk, Bool.and_false, Bool.false_eq_true, if_false, evP_nil, parR, R.of_some, Bool.false_and]
theorem s19 {es : List (Int × Int)} {E : Nat → Int} (h6 : Sl r 6 (ln D n v p)) (h22 : Sl r 22 (.dct (ex es))) (l : Lok n v D p) (he : Eok es E) (R2 : Run n v (fun k => p + E k) D M2) (hn : I n v D < p) : xe CC (.set 12 (.call 20 [.v 6, .v 22])) ⟨r, c⟩ = .ok .nx ⟨r.set 12 (some (false, .lst (rows n v (fun k => p + E k) D M2))), c⟩ :=
  set_of1 (call2 h6 h22 (row_with l he R2 (fun _ => hn) 5 c)) rfl
theorem s20 (hl : r.length = 25) (h24 : ∀ d, r[24]? ≠ some (some (true, d))) (h12 : Sl r 12 (.lst (rows n v P D (M2 + 1)))) (h15 : Sl r 15 (.int D)) (h18 : Sl r 18 (.int (M : Nat))) (R2 : Run n v P D (M2 + 1)) (hle : M2 + 1 ≤ M) :
    xe CC (.ite (.or (.cmp .ne (.bi .sum [.lc (.ix (.v 24) (.c (.int 1))) (.n 24) .seq [.v 12] none [24]]) (.bin .add (.v 15) (.bi .sum [.lc (.ix (.v 24) (.c (.int 0))) (.n 24) .seq [.v 12] none [24]]))) (.or (.cmp .gt (.bi .len [.v 12]) (.v 18)) (.cmp .ne (.ix (.ix (.v 12) (.bin .sub (.bi .len [.v 12]) (.c (.int 1)))) (.c (.int 2))) (.c (.int 0))))) [.ret (.c (.bl false))] []) ⟨r, c⟩ = .ok .nx ⟨r, c⟩ := by
  have e1 : ev CC (.bin .sub (.bi .len [.v 12]) (.c (.int 1))) ⟨r, c⟩ = .ok (false, .int (M2 : Nat)) ⟨r, c⟩ := natE (bin_of (lenR h12) ev_c binD_sub) (by omega)
  have e2 := (ixC (ixR (c := c) h12 e1 (Nat.lt_succ_self M2))).2.2
  rw [R2.fin] at e2
  refine ite_no (o := false) ?_
  rw [or_no (cmp_of (sum1 h12 hl h24 R2.few) (bin_of (evS h15) (sum0 h12 hl h24 R2.few) binD_add) (ne_of (sumP_eq R2))), or_no (cmp_of (lenR h12) (evS h18) (by rw [cmp_gt, decide_eq_false (by omega)]))]
  exact cmp_of e2 ev_c ne_no
end
end V07
end

section
set_option Elab.async false
set_option linter.all false
set_option maxRecDepth 100000
set_option maxHeartbeats 4000000
namespace V07
open Q Ek07
section
variable {r : Row} {c : Cells} {n v D q F p p2 : Int} {dr : List Q.D} {M M2 : Nat} {P P' : Nat → Int} {e : Ex}
theorem callD1 {f j : Nat} {x y : Q.D} {o : Bool} {ed : Ex} {ds : List (Q.D × Q.D)} (h : Sl r j x) (hd : ev CC ed ⟨r, c⟩ = .ok (true, .dct ds) ⟨r, c⟩) (hpk : isPk ed = false) (ha : anyO [.v j, ed] r = false) (hc : CC f [x, .dct ds] c = .ok (o, y) c) : ev CC (.call f [.v j, ed]) ⟨r, c⟩ = .ok (o, y) ⟨r, c⟩ := by
  rw [ev_call, evA_cons, evS h]
  simp only [R.b_ok, Bool.false_and, Bool.false_eq_true, if_false]
  rw [evA_cons, hd]
  simp only [R.b_ok, hpk, Bool.and_false, Bool.false_and, Bool.false_eq_true, if_false, evA_nil, callD, hc, ha]
theorem ev_d0 : ev CC (.dct []) ⟨r, c⟩ = .ok (true, .dct (ex [])) ⟨r, c⟩ := rfl
theorem Run.z (h : Run n v (cP p) D M) : Run n v (fun k => p + (fun _ => 0 : Nat → Int) k) D M := by rw [cP_eq]; exact h
theorem sums_z : sumI n v (fun k => p + (fun _ => 0 : Nat → Int) k) D M = sumI n v (cP p) D M := by rw [cP_eq]
theorem lst_ne {l : List Q.D} (h : pl 60 (.lst l) = true) (h2 : eqD (.lst l) (.lst l) = true) : cmpD .ne (.lst l) (.lst l) = some false := by
  show (if (pl 60 (.lst l) && pl 60 (.lst l)) = true then some (!eqD (.lst l) (.lst l)) else none) = _
  rw [h, h2]; rfl
theorem rows_ne : cmpD .ne (.lst (rows n v P D M)) (.lst (rows n v P D M)) = some false := by
  refine lst_ne (pl_rows 58) ?_
  unfold eqD
  exact eqDs_self _ fun x hx => by obtain ⟨k, _, rfl⟩ := mem_rows hx; exact eqD_row k
theorem s21 {es : List (Int × Int)} {E : Nat → Int} (hl : r.length = 25) (h24 : ∀ d, r[24]? ≠ some (some (true, d))) (h6 : Sl r 6 (ln D n v p)) (h22 : Sl r 22 (.dct (ex es))) (h19 : Sl r 19 (.int (sumI n v (cP p) D M))) (h12 : Sl r 12 (.lst (rows n v (fun k => p + E k) D M2))) (l : Lok n v D p) (he : Eok es E) (R1 : Run n v (cP p) D M) (R2 : Run n v (fun k => p + E k) D M2) (hn : I n v D < p) :
    xe CC (.ite (.or (.cmp .ne (.call 21 [.v 6, .v 22]) (.bin .sub (.v 19) (.bi .sum [.lc (.ix (.v 24) (.c (.int 0))) (.n 24) .seq [.v 12] none [24]]))) (.or (.cmp .lt (.call 21 [.v 6, .v 22]) (.c (.int 0))) (.or (.cmp .ne (.call 21 [.v 6, .dct []]) (.c (.int 0))) (.cmp .ne (.call 20 [.v 6, .dct []]) (.call 13 [.v 6]))))) [.ret (.c (.bl false))] []) ⟨r, c⟩ = .ok .nx ⟨r, c⟩ := by
  have hp0 : 0 ≤ p := by have := l.p0; omega
  have e1 : ev CC (.call 21 [.v 6, .v 22]) ⟨r, c⟩ = .ok (false, .int (sumI n v (cP p) D M - sumI n v (fun k => p + E k) D M2)) ⟨r, c⟩ := call2 h6 h22 (saved_by l he R1 R2 (fun _ => hn) 5 c)
  have k2 : sumI n v (fun k => p + E k) D M2 ≤ sumI n v (cP p) D M := sumI_le l.r (fun _ => hp0) (fun k => by have := he.nn k; omega) R1 R2 (sq_mono l.r (Int.le_refl D) (fun k => by have := he.nn k; show p ≤ p + E k; omega))
  have e2 : ev CC (.call 21 [.v 6, .dct []]) ⟨r, c⟩ = .ok (false, .int (sumI n v (cP p) D M - sumI n v (cP p) D M)) ⟨r, c⟩ := by
    have := saved_by l Eok0 R1 R1.z (fun _ => hn) 5 c
    rw [sums_z] at this
    exact callD1 h6 ev_d0 rfl (by simp only [anyO, h6]) this
  have e3 : ev CC (.call 20 [.v 6, .dct []]) ⟨r, c⟩ = .ok (true, .lst (rows n v (cP p) D M)) ⟨r, c⟩ := by
    have := row_with l Eok0 R1.z (fun _ => hn) 5 c
    rw [cP_eq] at this
    exact callD1 h6 ev_d0 rfl (by simp only [anyO, h6]) this
  have e4 : ev CC (.call 13 [.v 6]) ⟨r, c⟩ = .ok (true, .lst (rows n v (cP p) D M)) ⟨r, c⟩ := call1 h6 (row_of_loan l R1 (fun _ => hn) 6 c)
  refine ite_no (o := false) ?_
  rw [or_no (cmp_of e1 (bin_of (evS h19) (sum0 h12 hl h24 R2.few) binD_sub) ne_no), or_no (cmp_of e1 ev_c (by rw [cmp_lt, decide_eq_false (by omega)])), or_no (cmp_of e2 ev_c (ne_of (by omega)))]
  exact cmp_of e3 e4 rows_ne
/-- alike up to a day -/
theorem sq_same {d : Nat} (h : ∀ k, k < d → P k = P' k) : ∀ k, k ≤ d → sq n v P D k = sq n v P' D k
  | 0, _ => rfl
  | k + 1, hk => by
    show nx n v (P k) (sq n v P D k) = nx n v (P' k) (sq n v P' D k)
    rw [sq_same h k (by omega), h k (by omega)]
theorem row_same {d : Nat} (h : ∀ k, k < d → P k = P' k) {k : Nat} (hk : k < d) : row n v P D k = row n v P' D k := by
  unfold row
  rw [sq_same h k (by omega), sq_same h (k + 1) (by omega), h k hk]
theorem s22 {pe day : Nat} {E : Nat → Int} (hl : r.length = 25) (h8 : ∀ d, r[8]? ≠ some (some (true, d))) (h6 : Sl r 6 (ln D n v p)) (h12 : Sl r 12 (.lst (rows n v (fun k => p + E k) D M2))) (h21 : Sl r 21 (.int (day : Int))) (h20 : Sl r 20 (.int (pe : Int))) (h5 : Sl r 5 (.int p)) (h7 : Sl r 7 (.lst (lefts n v (cP p) D M))) (l : Lok n v D p) (R1 : Run n v (cP p) D M) (R2 : Run n v (fun k => p + E k) D M2) (hn : I n v D < p) (hle : M2 ≤ M) (hE : ∀ k, k < day → E k = 0) (hE2 : E day = pe) (hM : M ≤ 200) :
    xe CC (.ite (.or (.cmp .ne (.lc (.v 8) (.n 8) .rng [.bi .min [.v 21, .bi .len [.v 12]]] (some (.cmp .ne (.ix (.v 12) (.v 8)) (.ix (.call 13 [.v 6]) (.v 8)))) [8]) (.lst [])) (.and (.cmp .lt (.v 21) (.bi .len [.v 12])) (.cmp .ne (.ix (.ix (.v 12) (.v 21)) (.c (.int 1))) (.bi .min [.bin .add (.v 5) (.v 20), .bin .add (.ix (.v 7) (.v 21)) (.ix (.ix (.v 12) (.v 21)) (.c (.int 0)))])))) [.ret (.c (.bl false))] []) ⟨r, c⟩ = .ok .nx ⟨r, c⟩ := by
  have hsame : ∀ k, k < day → (fun k => p + E k) k = cP p k := fun k hk => by show p + E k = p; rw [hE k hk]; omega
  have e0 : ev CC (.bi .min [.v 21, .bi .len [.v 12]]) ⟨r, c⟩ = .ok (false, .int ((min day M2 : Nat) : Int)) ⟨r, c⟩ := by
    rw [ev_bi, evA_cons, evS h21]
    simp only [R.b_ok, Bool.false_and, Bool.false_eq_true, if_false]
    rw [evA_cons, lenR h12]
    simp only [R.b_ok, Bool.false_and, Bool.false_eq_true, if_false, evA_nil, bi_min, R.of_some]
    have : min (day : Int) ((M2 : Nat) : Int) = ((min day M2 : Nat) : Int) := by omega
    rw [this]
  have eA : evA CC [.bi .min [.v 21, .bi .len [.v 12]]] ⟨r, c⟩ = .ok [.int ((min day M2 : Nat) : Int)] ⟨r, c⟩ := by
    rw [evA_cons, e0]
    simp only [R.b_ok, Bool.false_and, Bool.false_eq_true, if_false, evA_nil]
  have elc : ev CC (.lc (.v 8) (.n 8) .rng [.bi .min [.v 21, .bi .len [.v 12]]] (some (.cmp .ne (.ix (.v 12) (.v 8)) (.ix (.call 13 [.v 6]) (.v 8)))) [8]) ⟨r, c⟩ = .ok (true, .lst []) ⟨r, c⟩ := by
    refine ev_lcP (s1 := ⟨r, c⟩) (w := r.set 8 none) (fun _ => none) (ds := [.int ((min day M2 : Nat) : Int)]) (xs := rngD 0 (min day M2)) (ys := []) eA ((itD_rng (rng_ok (Int.natCast_nonneg _) (by omega))).trans (by rw [Int.toNat_natCast])) ?_ (by rw [rngD_len]; exact Nat.le_trans (show min day M2 ≤ 200 by omega) (by decide)) (by simp; omega) rfl (fun x hx => ?_) ?_
    · rw [Bool.and_eq_true]
      exact ⟨by decide, notOwn_of' h8⟩
    · obtain ⟨k, hk, rfl⟩ := List.mem_map.mp hx
      have hk := List.mem_range.mp hk
      let ra := (r.set 8 none).set 8 (some (false, Q.D.int (0 + (k : Nat))))
      have a8 : Sl ra 8 (.int (k : Nat)) := by
        have : Sl ra 8 (.int (0 + (k : Nat))) := Sl.at (by simp; omega)
        rwa [Int.zero_add] at this
      have a12 : Sl ra 12 (.lst (rows n v (fun k => p + E k) D M2)) := (h12.ne (by decide)).ne (by decide)
      have a6 : Sl ra 6 (ln D n v p) := (h6.ne (by decide)).ne (by decide)
      refine ⟨ra, rfl, ?_, .inl ⟨?_, rfl⟩⟩
      · show ((r.set 8 none).set 8 _).set 8 none = _
        rw [List.set_set, List.set_set]
      · have b1 : ev CC (.ix (.v 12) (.v 8)) ⟨ra, c⟩ = .ok (false, row n v (fun k => p + E k) D k) ⟨ra, c⟩ := ixR a12 (evS a8) (by omega)
        have b2 : ev CC (.call 13 [.v 6]) ⟨ra, c⟩ = .ok (true, .lst (rows n v (cP p) D M)) ⟨ra, c⟩ := call1 a6 (row_of_loan l R1 (fun _ => hn) 6 c)
        have b3 : ev CC (.ix (.call 13 [.v 6]) (.v 8)) ⟨ra, c⟩ = .ok (false, row n v (cP p) D k) ⟨ra, c⟩ := by
          have hix : ixD (.lst (rows n v (cP p) D M)) (.int (k : Nat)) = some (row n v (cP p) D k) := ix_lst (j := k) rfl (by simp [rows, show k < M by omega])
          rw [ev_ix, b2]
          simp only [R.b_ok]
          rw [evS a8]
          simp only [R.b_ok, hix, R.of_some]
        rw [row_same hsame (show k < day by omega)] at b1
        rw [evT_some, cmp_of b1 b3 row_ne]
        rfl
    · rw [List.filterMap_eq_nil_iff]; intro _ _; rfl
  have enil : ev CC (.lst []) ⟨r, c⟩ = .ok (true, .lst []) ⟨r, c⟩ := rfl
  refine ite_no (o := false) ?_
  rw [or_no (cmp_of elc enil (lst_ne (by simp [pl]) (by simp [eqD, eqDs])))]
  by_cases hd : day < M2
  · have f1 := ixC (ixR (c := c) h12 (evS h21) hd)
    have f2 := ixL (c := c) h7 (evS h21) (by omega)
    have f3 : ev CC (.bi .min [.bin .add (.v 5) (.v 20), .bin .add (.ix (.v 7) (.v 21)) (.ix (.ix (.v 12) (.v 21)) (.c (.int 0)))]) ⟨r, c⟩ = .ok (false, .int (min (p + pe) (sq n v (cP p) D day + I n v (sq n v (fun k => p + E k) D day)))) ⟨r, c⟩ := by
      rw [ev_bi, evA_cons, bin_of (evS h5) (evS h20) binD_add]
      simp only [R.b_ok, Bool.false_and, Bool.false_eq_true, if_false]
      rw [evA_cons, bin_of f2 f1.1 binD_add]
      simp only [R.b_ok, Bool.false_and, Bool.false_eq_true, if_false, evA_nil, bi_min, R.of_some]
    rw [and_yes (cmp_of (evS h21) (lenR h12) (by rw [cmp_lt, decide_eq_true (by omega)]))]
    refine cmp_of f1.2.1 f3 (ne_of ?_)
    rw [sq_same hsame day (Nat.le_refl _), hE2]
  · exact and_no (cmp_of (evS h21) (lenR h12) (by rw [cmp_lt, decide_eq_false (by omega)]))
end
end V07
end

section
set_option Elab.async false
set_option linter.all false
set_option maxRecDepth 100000
set_option maxHeartbeats 4000000
namespace V07
open Q Ek07
section
variable {r : Row} {c : Cells} {n v D q F p p2 : Int} {dr : List Q.D} {M M2 : Nat} {P P' : Nat → Int} {e : Ex}
theorem E1_at {s : Nat} {b : Int} : E1 (s : Int) b s = b := if_pos rfl
theorem E1_ne {s k : Nat} {b : Int} (h : k ≠ s) : E1 (s : Int) b k = 0 := if_neg (by omega)
/-- the sooner, the less -/
theorem sq_sooner (hr : Rok n v) (hp : 0 ≤ p) {b : Int} (hb : 0 ≤ b) (s : Nat) (k : Nat) : sq n v (fun k => p + E1 (s : Int) b k) D k ≤ sq n v (fun k => p + E1 ((s + 1 : Nat) : Int) b k) D k := by
  have same : ∀ k, k ≤ s → sq n v (fun k => p + E1 (s : Int) b k) D k = sq n v (fun k => p + E1 ((s + 1 : Nat) : Int) b k) D k := fun k hk => sq_same (d := s) (fun j hj => by
    show p + E1 (s : Int) b j = p + E1 ((s + 1 : Nat) : Int) b j
    rw [E1_ne (by omega), E1_ne (by omega)]) k hk
  let d := sq n v (fun k => p + E1 (s : Int) b k) D s
  have a1 : sq n v (fun k => p + E1 (s : Int) b k) D (s + 1) = nx n v (p + b) d := by
    show nx n v (p + E1 (s : Int) b s) _ = _
    rw [E1_at]
  have b1 : sq n v (fun k => p + E1 ((s + 1 : Nat) : Int) b k) D (s + 1) = nx n v p d := by
    show nx n v (p + E1 ((s + 1 : Nat) : Int) b s) (sq n v (fun k => p + E1 ((s + 1 : Nat) : Int) b k) D s) = _
    rw [E1_ne (by omega), ← same s (Nat.le_refl _), Int.add_zero]
  have a2 : sq n v (fun k => p + E1 (s : Int) b k) D (s + 2) = nx n v p (nx n v (p + b) d) := by
    show nx n v (p + E1 (s : Int) b (s + 1)) (sq n v (fun k => p + E1 (s : Int) b k) D (s + 1)) = _
    rw [E1_ne (by omega), a1, Int.add_zero]
  have b2 : sq n v (fun k => p + E1 ((s + 1 : Nat) : Int) b k) D (s + 2) = nx n v (p + b) (nx n v p d) := by
    show nx n v (p + E1 ((s + 1 : Nat) : Int) b (s + 1)) (sq n v (fun k => p + E1 ((s + 1 : Nat) : Int) b k) D (s + 1)) = _
    rw [E1_at, b1]
  have two : nx n v p (nx n v (p + b) d) ≤ nx n v (p + b) (nx n v p d) := by
    have h1 : nx n v (p + b) d = max 0 (d + I n v d - (p + b)) := nx_max
    have h2 : nx n v p d = max 0 (d + I n v d - p) := nx_max
    by_cases hz : nx n v (p + b) d = 0
    · rw [hz, nx_zero hr hp]; exact nx_nonneg
    · have h3 : nx n v p d = nx n v (p + b) d + b := by omega
      have h4 := I_mono hr (show nx n v (p + b) d ≤ nx n v p d by omega)
      have e1 : nx n v p (nx n v (p + b) d) = max 0 (nx n v (p + b) d + I n v (nx n v (p + b) d) - p) := nx_max
      have e2 : nx n v (p + b) (nx n v p d) = max 0 (nx n v p d + I n v (nx n v p d) - (p + b)) := nx_max
      rw [e1, e2]
      omega
  have rest : ∀ j, sq n v (fun k => p + E1 (s : Int) b k) D (s + 2 + j) ≤ sq n v (fun k => p + E1 ((s + 1 : Nat) : Int) b k) D (s + 2 + j) := by
    intro j
    induction j with
    | zero => rw [Nat.add_zero, a2, b2]; exact two
    | succ j ih =>
      show nx n v (p + E1 (s : Int) b (s + 2 + j)) _ ≤ nx n v (p + E1 ((s + 1 : Nat) : Int) b (s + 2 + j)) _
      rw [E1_ne (by omega), E1_ne (by omega)]
      exact nx_mono hr ih (Int.le_refl _)
  by_cases h1 : k ≤ s
  · rw [same k h1]; exact Int.le_refl _
  · by_cases h2 : k = s + 1
    · rw [h2, a1, b1]; exact nx_mono hr (Int.le_refl _) (by omega)
    · have := rest (k - (s + 2))
      rwa [show s + 2 + (k - (s + 2)) = k by omega] at this
theorem s23 {pe day : Nat} {Ms Md : Nat} (h6 : Sl r 6 (ln D n v p)) (h23 : Sl r 23 (.dct (ex [(max 0 ((day : Int) - 1), (pe : Int))]))) (h21 : Sl r 21 (.int (day : Int))) (h20 : Sl r 20 (.int (pe : Int))) (l : Lok n v D p) (R1 : Run n v (cP p) D M) (hn : I n v D < p)
    (Rs : Run n v (fun k => p + E1 (max 0 ((day : Int) - 1)) pe k) D Ms) (Rd : Run n v (fun k => p + E1 (day : Int) pe k) D Md) :
    xe CC (.ite (.cmp .lt (.call 21 [.v 6, .v 23]) (.call 21 [.v 6, .dct [.v 21, .v 20]])) [.ret (.c (.bl false))] []) ⟨r, c⟩ = .ok .nx ⟨r, c⟩ := by
  have hp0 : 0 ≤ p := by have := l.p0; omega
  have ks := Eok1 (a := max 0 ((day : Int) - 1)) (b := (pe : Int)) (by omega) (by omega)
  have kd := Eok1 (a := (day : Int)) (b := (pe : Int)) (by omega) (by omega)
  have e1 : ev CC (.call 21 [.v 6, .v 23]) ⟨r, c⟩ = .ok (false, .int (sumI n v (cP p) D M - sumI n v (fun k => p + E1 (max 0 ((day : Int) - 1)) pe k) D Ms)) ⟨r, c⟩ := call2 h6 h23 (saved_by l ks R1 Rs (fun _ => hn) 5 c)
  have ed : ev CC (.dct [.v 21, .v 20]) ⟨r, c⟩ = .ok (true, .dct (ex [((day : Int), (pe : Int))])) ⟨r, c⟩ := by
    rw [ev_dct, evF_cons, evS h21]
    simp only [R.b_ok, Bool.false_and, Bool.false_eq_true, if_false]
    rw [evF_cons, evS h20]
    simp only [R.b_ok, Bool.false_and, Bool.false_eq_true, if_false, evF_nil]
    simp [mkD, isKey, putD, ex]
  have e2 : ev CC (.call 21 [.v 6, .dct [.v 21, .v 20]]) ⟨r, c⟩ = .ok (false, .int (sumI n v (cP p) D M - sumI n v (fun k => p + E1 (day : Int) pe k) D Md)) ⟨r, c⟩ := callD1 h6 ed rfl (by simp only [anyO, h6]) (saved_by l kd R1 Rd (fun _ => hn) 5 c)
  have key : sumI n v (fun k => p + E1 (max 0 ((day : Int) - 1)) pe k) D Ms ≤ sumI n v (fun k => p + E1 (day : Int) pe k) D Md := by
    refine sumI_le l.r (fun k => by have := kd.nn k; omega) (fun k => by have := ks.nn k; omega) Rd Rs (fun k => ?_)
    cases day with
    | zero => exact Int.le_refl _
    | succ s =>
      rw [show max 0 (((s + 1 : Nat) : Int) - 1) = (s : Int) by omega]
      exact sq_sooner l.r hp0 (by omega) s k
  exact ite_no (cmp_of e1 e2 (by rw [cmp_lt, decide_eq_false (by omega)]))
theorem s24 (h1 : Sl r 1 (.cel 0)) (hg : good dr) : ∃ (t : Nat) (dr' : List Q.D), xe CC (.set 13 (.bin .add (.c (.int 1)) (.call 28 [.v 1, .c (.int 600)]))) ⟨r, [dr]⟩ = .ok .nx ⟨r.set 13 (some (false, .int (t : Int))), [dr']⟩ ∧ 1 ≤ t ∧ t ≤ 600 ∧ good dr' := by
  obtain ⟨x, d1, e1, a1, g1⟩ := tkE (bnd := .c (.int 600)) (bv := 600) h1 hg (fun c => rfl) (by omega) (any1 h1)
  refine ⟨x + 1, d1, set_of1 (s1 := ⟨r, [d1]⟩) (o := false) (x := .int ((x + 1 : Nat) : Int)) ?_ rfl, by omega, by omega, g1⟩
  have e2 : ev CC (.bin .add (.c (.int 1)) (.call 28 [.v 1, .c (.int 600)])) ⟨r, [dr]⟩ = .ok (false, .int (1 + (x : Int))) ⟨r, [d1]⟩ := bin_of ev_c e1 binD_add
  rw [show (1 : Int) + (x : Int) = ((x + 1 : Nat) : Int) by omega] at e2
  exact e2
theorem lp_of {m : Nat} {e : Ex} (h15 : Sl r 15 (.int D)) (h16 : Sl r 16 (rt n v)) (he : ev CC e ⟨r, c⟩ = .ok (false, .int (m : Int)) ⟨r, c⟩) (ha : anyO [.v 15, .v 16, e] r = false) (hr : Rok n v) (d0 : 1 ≤ D) (d1 : D ≤ 1000000000) (m0 : 1 ≤ m) (m1 : m ≤ 600) : ∃ L, Least n v D m L ∧ ev CC (.call 17 [.v 15, .v 16, e]) ⟨r, c⟩ = .ok (false, .int L) ⟨r, c⟩ := by
  obtain ⟨L, hL, hc⟩ := least_pay hr d0 d1 m0 m1 6 c
  have hc : CC 17 [.int D, rt n v, .int (m : Int)] c = .ok (false, .int L) c := hc
  refine ⟨L, hL, ?_⟩
  rw [ev_call, evA_cons, evS h15]
  simp only [R.b_ok, Bool.false_and, Bool.false_eq_true, if_false]
  rw [evA_cons, evS h16]
  simp only [R.b_ok, Bool.false_and, Bool.false_eq_true, if_false]
  rw [evA_cons, he]
  simp only [R.b_ok, Bool.false_and, Bool.false_eq_true, if_false, evA_nil, callD, hc, ha]
theorem da_tup {a : Nat} {ep : Ex} (h13 : Sl r 13 (.int (a : Int))) (h15 : Sl r 15 (.int D)) (h16 : Sl r 16 (rt n v)) (hep : ev CC ep ⟨r, c⟩ = .ok (false, .int q) ⟨r, c⟩) (l : Lok n v D q) (ha : a ≤ 1000) : ev CC (.call 18 [.tup [.v 15, .v 16, ep], .v 13]) ⟨r, c⟩ = .ok (false, .int (sq n v (cP q) D a)) ⟨r, c⟩ := by
  have h0 := l.p0
  have hs : sml 40 D := by have := l.d0; have := l.d1; unfold sml; omega
  have hc : CC 18 [ln D n v q, .int (a : Int)] c = _ := debt_after l (by omega) (fun k hk => Q.sml.mono (sq_grow l.r l.d0 (fun _ => (show 0 ≤ q by omega)) hs k) (by omega)) 6 c
  have et : ev CC (.tup [.v 15, .v 16, ep]) ⟨r, c⟩ = .ok (false, ln D n v q) ⟨r, c⟩ := by
    rw [ev_tup, evF_cons, evS h15]
    simp only [R.b_ok, Bool.false_and, Bool.false_eq_true, if_false]
    rw [evF_cons, evS h16]
    simp only [R.b_ok, Bool.false_and, Bool.false_eq_true, if_false]
    rw [evF_cons, hep]
    simp only [R.b_ok, Bool.false_and, Bool.false_eq_true, if_false, evF_nil]
    rfl
  rw [ev_call, evA_cons, et]
  simp only [R.b_ok, Bool.false_and, Bool.false_eq_true, if_false]
  rw [evA_cons, evS h13]
  simp only [R.b_ok, Bool.false_and, Bool.false_eq_true, if_false, evA_nil, callD]
  rw [hc]
  simp only [R.b_ok, anyO, h13, Bool.false_and, Bool.false_eq_true, if_false]
theorem s26 {t : Nat} {L : Int} (h13 : Sl r 13 (.int (t : Int))) (h14 : Sl r 14 (.int L)) (h15 : Sl r 15 (.int D)) (h16 : Sl r 16 (rt n v)) (hL : Least n v D t L) (hr : Rok n v) (d0 : 1 ≤ D) (d1 : D ≤ 429496730) (t1 : t ≤ 600) :
    xe CC (.ite (.or (.cmp .lt (.v 14) (.c (.int 1))) (.or (.and (.cmp .ne (.call 18 [.tup [.v 15, .v 16, .bi .min [.bin .pow (.c (.int 10)) (.c (.int 9)), .v 14]], .v 13]) (.c (.int 0))) (.cmp .le (.v 14) (.bin .pow (.c (.int 10)) (.c (.int 9))))) (.and (.cmp .gt (.v 14) (.c (.int 1))) (.and (.cmp .le (.v 14) (.bin .pow (.c (.int 10)) (.c (.int 9)))) (.cmp .eq (.call 18 [.tup [.v 15, .v 16, .bin .sub (.v 14) (.c (.int 1))], .v 13]) (.c (.int 0))))))) [.ret (.c (.bl false))] []) ⟨r, c⟩ = .ok .nx ⟨r, c⟩ := by
  have a1 := hL.l1
  have a2 := hL.le
  have a3 := I_le hr (show 0 ≤ D by omega)
  have e0 : ev CC (.bi .min [.bin .pow (.c (.int 10)) (.c (.int 9)), .v 14]) ⟨r, c⟩ = .ok (false, .int L) ⟨r, c⟩ := by
    rw [ev_bi, evA_cons, p9]
    simp only [R.b_ok, Bool.false_and, Bool.false_eq_true, if_false]
    rw [evA_cons, evS h14]
    have hmin : min (1000000000 : Int) L = L := by omega
    simp only [R.b_ok, Bool.false_and, Bool.false_eq_true, if_false, evA_nil, bi_min, R.of_some, hmin]
  have l1 : Lok n v D L := ⟨hr, by omega, by omega, a1, by omega⟩
  have e1 := da_tup (c := c) h13 h15 h16 e0 l1 (by omega)
  rw [hL.z] at e1
  refine ite_no (o := false) ?_
  rw [or_no (cmp_of (evS h14) ev_c (by rw [cmp_lt, decide_eq_false (by omega)])), or_no (and_no (cmp_of e1 ev_c ne_no))]
  by_cases hc : 1 < L
  · have l2 : Lok n v D (L - 1) := ⟨hr, by omega, by omega, by omega, by omega⟩
    have e2 := da_tup (c := c) (q := L - 1) h13 h15 h16 (bin_of (evS h14) ev_c binD_sub) l2 (by omega)
    have hz := hL.min (L - 1) (by omega) (by omega)
    rw [and_yes (cmp_of (evS h14) ev_c (by rw [cmp_gt, decide_eq_true hc])), and_yes (cmp_of (evS h14) p9 (by rw [cmp_le, decide_eq_true (by omega)]))]
    exact cmp_of e2 ev_c (by rw [cmp_eq_int, decide_eq_false hz])
  · exact and_no (cmp_of (evS h14) ev_c (by rw [cmp_gt, decide_eq_false hc]))
theorem s27 {t : Nat} {L : Int} (h3 : Sl r 3 (.int (I n v D))) (h13 : Sl r 13 (.int (t : Int))) (h14 : Sl r 14 (.int L)) (h15 : Sl r 15 (.int D)) (h16 : Sl r 16 (rt n v)) (hL : Least n v D t L) (hr : Rok n v) (d0 : 1 ≤ D) (d1 : D ≤ 429496730) (t0 : 1 ≤ t) :
    xe CC (.ite (.or (.and (.cmp .lt (.v 13) (.c (.int 600))) (.cmp .gt (.call 17 [.v 15, .v 16, .bin .add (.v 13) (.c (.int 1))]) (.v 14))) (.cmp .ne (.call 17 [.v 15, .v 16, .c (.int 1)]) (.bin .add (.v 15) (.v 3)))) [.ret (.c (.bl false))] []) ⟨r, c⟩ = .ok .nx ⟨r, c⟩ := by
  have a1 := hL.l1
  obtain ⟨L1, hL1, e1⟩ := lp_of (c := c) (m := 1) (e := .c (.int 1)) h15 h16 rfl (by simp only [anyO, h15, h16]) hr d0 (by omega) (by omega) (by omega)
  have k1 : L1 = D + I n v D := by
    have h1 := hL1.z
    have h2 : sq n v (cP L1) D 1 = max 0 (D + I n v D - L1) := nx_max
    have h3 := hL1.le
    omega
  have e2 : ev CC (.cmp .ne (.call 17 [.v 15, .v 16, .c (.int 1)]) (.bin .add (.v 15) (.v 3))) ⟨r, c⟩ = .ok (false, .bl false) ⟨r, c⟩ := cmp_of e1 (bin_of (evS h15) (evS h3) binD_add) (ne_of k1)
  refine ite_no (o := false) ?_
  by_cases ht : t < 600
  · obtain ⟨L2, hL2, e3⟩ := lp_of (c := c) (m := t + 1) (e := .bin .add (.v 13) (.c (.int 1))) h15 h16 (natE (bin_of (evS h13) ev_c binD_add) (by omega)) (by simp only [anyO, h15, h16]) hr d0 (by omega) (by omega) (by omega)
    have k2 : L2 ≤ L := by
      by_cases hlt : L < L2
      · have hz : sq n v (cP L) D (t + 1) = 0 := sq_after hr (fun _ => (show 0 ≤ L by omega)) hL.z 1
        exact absurd hz (hL2.min L a1 hlt)
      · omega
    rw [or_no ((and_yes (cmp_of (evS h13) ev_c (by rw [cmp_lt, decide_eq_true (by omega)]))).trans (cmp_of e3 (evS h14) (by rw [cmp_gt, decide_eq_false (by omega)]))), e2]
  · rw [or_no (and_no (cmp_of (evS h13) ev_c (by rw [cmp_lt, decide_eq_false (by omega)]))), e2]
end
end V07
end

section
set_option Elab.async false
set_option linter.all false
set_option maxRecDepth 100000
set_option maxHeartbeats 4000000
namespace V07
open Q Ek07
def body : List Sx := [
  .par [(15, false), (16, false)] [.bin .add (.c (.int 1)) (.call 29 [.v 1, .lst [.call 28 [.v 1, .bin .pow (.c (.int 10)) (.c (.int 9))], .call 28 [.v 1, .c (.int 997)], .call 28 [.v 1, .bin .pow (.c (.int 10)) (.c (.int 6))]]]), .call 31 [.v 1]],
  .set 3 (.call 32 [.v 15, .v 16]),
  .set 4 (.tup [.v 15, .v 16, .bi .max [.c (.int 1), .bin .sub (.v 3) (.call 28 [.v 1, .c (.int 9)])]]),
  .ite (.or (.and (.not (.call 22 [.v 4])) (.cmp .le (.ix (.v 4) (.c (.int 2))) (.v 3))) (.cmp .ne (.call 22 [.v 4]) (.cmp .le (.ix (.v 4) (.c (.int 2))) (.v 3)))) [.ret (.c (.bl false))] [],
  .ite (.call 22 [.v 4]) [.set 17 (.call 28 [.v 1, .c (.int 20)]), .ite (.or (.cmp .isn (.call 14 [.v 4]) (.c .non)) (.or (.cmp .lt (.call 18 [.v 4, .v 17]) (.v 15)) (.cmp .lt (.call 18 [.v 4, .bin .add (.v 17) (.c (.int 1))]) (.call 18 [.v 4, .v 17])))) [.ret (.c (.bl false))] []] [],
  .set 5 (.bi .min [.bin .pow (.c (.int 10)) (.c (.int 9)), .bin .add (.bin .add (.v 3) (.c (.int 1))) (.call 29 [.v 1, .lst [.bin .fdiv (.v 15) (.c (.int 3)), .bin .add (.bin .fdiv (.v 15) (.c (.int 40))) (.c (.int 1)), .bin .add (.call 28 [.v 1, .c (.int 1000)]) (.bin .fdiv (.v 15) (.c (.int 200)))]])]),
  .set 6 (.tup [.v 15, .v 16, .v 5]),
  .ite (.or (.cmp .isn (.call 7 [.v 6]) (.c (.bl true))) (.call 22 [.v 6])) [.ret (.c (.bl false))] [],
  .unp (.t [.n 12, .n 18, .n 19]) (.tup [.call 13 [.v 6], .call 14 [.v 6], .call 15 [.v 6]]),
  .ite (.or (.cmp .ne (.bi .len [.v 12]) (.v 18)) (.or (.cmp .ne (.bi .sum [.lc (.ix (.v 24) (.c (.int 0))) (.n 24) .seq [.v 12] none [24]]) (.v 19)) (.or (.cmp .ne (.bi .sum [.lc (.ix (.v 24) (.c (.int 1))) (.n 24) .seq [.v 12] none [24]]) (.bin .add (.v 15) (.v 19))) (.or (.cmp .ne (.ix (.ix (.v 12) (.bin .sub (.v 18) (.c (.int 1)))) (.c (.int 2))) (.c (.int 0))) (.cmp .isn (.call 26 [.v 6, .v 12]) (.c (.bl true))))))) [.ret (.c (.bl false))] [],
  .set 7 (.bin .add (.lst [.v 15]) (.lc (.ix (.v 24) (.c (.int 2))) (.n 24) .seq [.v 12] none [24])),
  .for_ (.n 8) .rng [.v 18] [.set 11 (.call 32 [.ix (.v 7) (.v 8), .v 16]), .ite (.or (.cmp .ne (.ix (.v 12) (.v 8)) (.tup [.v 11, .bi .min [.v 5, .bin .add (.ix (.v 7) (.v 8)) (.v 11)], .ix (.v 7) (.bin .add (.v 8) (.c (.int 1)))])) (.or (.cmp .ne (.ix (.v 7) (.bin .add (.v 8) (.c (.int 1)))) (.bin .sub (.bin .add (.ix (.v 7) (.v 8)) (.v 11)) (.ix (.ix (.v 12) (.v 8)) (.c (.int 1))))) (.cmp .ge (.ix (.v 7) (.bin .add (.v 8) (.c (.int 1)))) (.ix (.v 7) (.v 8))))) [.ret (.c (.bl false))] []],
  .set 9 (.call 28 [.v 1, .bin .add (.v 18) (.c (.int 5))]),
  .set 10 (.call 24 [.v 6]),
  .ite (.or (.cmp .ne (.call 18 [.v 6, .v 9]) (.ix (.v 7) (.bi .min [.v 9, .v 18]))) (.or (.cmp .ne (.call 23 [.v 6]) (.ix (.ix (.v 12) (.bin .sub (.v 18) (.c (.int 1)))) (.c (.int 1)))) (.or (.cmp .gt (.bin .mul (.c (.int 2)) (.ix (.v 7) (.bin .add (.v 10) (.c (.int 1))))) (.v 15)) (.and (.cmp .gt (.v 10) (.c (.int 0))) (.cmp .le (.bin .mul (.c (.int 2)) (.ix (.v 7) (.v 10))) (.v 15)))))) [.ret (.c (.bl false))] [],
  .set 11 (.tup [.v 15, .v 16, .bi .min [.bin .pow (.c (.int 10)) (.c (.int 9)), .bin .add (.bin .add (.v 5) (.c (.int 1))) (.call 28 [.v 1, .c (.int 500)])]]),
  .ite (.or (.cmp .gt (.call 14 [.v 11]) (.v 18)) (.or (.cmp .gt (.call 15 [.v 11]) (.v 19)) (.or (.cmp .ne (.call 25 [.v 6, .v 11]) (.bi .int [.cmp .lt (.call 15 [.v 11]) (.v 19)])) (.cmp .ne (.call 25 [.v 11, .v 6]) (.bi .int [.cmp .gt (.call 15 [.v 11]) (.v 19)]))))) [.ret (.c (.bl false))] [],
  .par [(20, false), (21, false)] [.bin .add (.c (.int 1)) (.call 28 [.v 1, .bi .max [.c (.int 1), .bin .fdiv (.v 15) (.c (.int 4))]]), .call 28 [.v 1, .v 18]],
  .par [(22, false), (23, false)] [.dct [.v 21, .v 20, .bin .add (.v 18) (.c (.int 3)), .c (.int 5)], .dct [.bi .max [.c (.int 0), .bin .sub (.v 21) (.c (.int 1))], .v 20]],
  .set 12 (.call 20 [.v 6, .v 22]),
  .ite (.or (.cmp .ne (.bi .sum [.lc (.ix (.v 24) (.c (.int 1))) (.n 24) .seq [.v 12] none [24]]) (.bin .add (.v 15) (.bi .sum [.lc (.ix (.v 24) (.c (.int 0))) (.n 24) .seq [.v 12] none [24]]))) (.or (.cmp .gt (.bi .len [.v 12]) (.v 18)) (.cmp .ne (.ix (.ix (.v 12) (.bin .sub (.bi .len [.v 12]) (.c (.int 1)))) (.c (.int 2))) (.c (.int 0))))) [.ret (.c (.bl false))] [],
  .ite (.or (.cmp .ne (.call 21 [.v 6, .v 22]) (.bin .sub (.v 19) (.bi .sum [.lc (.ix (.v 24) (.c (.int 0))) (.n 24) .seq [.v 12] none [24]]))) (.or (.cmp .lt (.call 21 [.v 6, .v 22]) (.c (.int 0))) (.or (.cmp .ne (.call 21 [.v 6, .dct []]) (.c (.int 0))) (.cmp .ne (.call 20 [.v 6, .dct []]) (.call 13 [.v 6]))))) [.ret (.c (.bl false))] [],
  .ite (.or (.cmp .ne (.lc (.v 8) (.n 8) .rng [.bi .min [.v 21, .bi .len [.v 12]]] (some (.cmp .ne (.ix (.v 12) (.v 8)) (.ix (.call 13 [.v 6]) (.v 8)))) [8]) (.lst [])) (.and (.cmp .lt (.v 21) (.bi .len [.v 12])) (.cmp .ne (.ix (.ix (.v 12) (.v 21)) (.c (.int 1))) (.bi .min [.bin .add (.v 5) (.v 20), .bin .add (.ix (.v 7) (.v 21)) (.ix (.ix (.v 12) (.v 21)) (.c (.int 0)))])))) [.ret (.c (.bl false))] [],
  .ite (.cmp .lt (.call 21 [.v 6, .v 23]) (.call 21 [.v 6, .dct [.v 21, .v 20]])) [.ret (.c (.bl false))] [],
  .set 13 (.bin .add (.c (.int 1)) (.call 28 [.v 1, .c (.int 600)])),
  .set 14 (.call 17 [.v 15, .v 16, .v 13]),
  .ite (.or (.cmp .lt (.v 14) (.c (.int 1))) (.or (.and (.cmp .ne (.call 18 [.tup [.v 15, .v 16, .bi .min [.bin .pow (.c (.int 10)) (.c (.int 9)), .v 14]], .v 13]) (.c (.int 0))) (.cmp .le (.v 14) (.bin .pow (.c (.int 10)) (.c (.int 9))))) (.and (.cmp .gt (.v 14) (.c (.int 1))) (.and (.cmp .le (.v 14) (.bin .pow (.c (.int 10)) (.c (.int 9)))) (.cmp .eq (.call 18 [.tup [.v 15, .v 16, .bin .sub (.v 14) (.c (.int 1))], .v 13]) (.c (.int 0))))))) [.ret (.c (.bl false))] [],
  .ite (.or (.and (.cmp .lt (.v 13) (.c (.int 600))) (.cmp .gt (.call 17 [.v 15, .v 16, .bin .add (.v 13) (.c (.int 1))]) (.v 14))) (.cmp .ne (.call 17 [.v 15, .v 16, .c (.int 1)]) (.bin .add (.v 15) (.v 3)))) [.ret (.c (.bl false))] []]
theorem turn {r0 : Row} {d0 : List Q.D} (f1_0 : Sl r0 1 (.cel 0)) (L0 : r0.length = 25) (N0 : NoO r0) (G0 : good d0) : ∃ r' dr', xes CC body ⟨r0, [d0]⟩ = .ok .nx ⟨r', [dr']⟩ ∧ Sl r' 1 (.cel 0) ∧ r'.length = 25 ∧ NoO r' ∧ good dr' := by
  obtain ⟨D, n, v, d1, e1, D0, D1, hr, G1⟩ := s0 f1_0 L0 G0
  obtain ⟨r1, hr1⟩ : ∃ x, x = (r0.set 15 (some (false, .int D))).set 16 (some (false, rt n v)) := ⟨_, rfl⟩
  rw [← hr1] at e1
  have L1 : r1.length = 25 := by rw [hr1]; simp [L0]
  have N1 : NoO r1 := by rw [hr1]; exact N0.set.set
  have f1_1 : Sl r1 1 (.cel 0) := by rw [hr1]; exact (Sl.ne (Sl.ne f1_0 (by decide)) (by decide))
  have f15_1 : Sl r1 15 (.int D) := by rw [hr1]; exact (Sl.ne (Sl.at (by simp [L0])) (by decide))
  have f16_1 : Sl r1 16 (rt n v) := by rw [hr1]; exact (Sl.at (by simp [L0]))
  have e2 := s1 (c := [d1]) f15_1 f16_1 hr (by omega) (by omega)
  obtain ⟨r2, hr2⟩ : ∃ x, x = r1.set 3 (some (false, .int (I n v D))) := ⟨_, rfl⟩
  rw [← hr2] at e2
  have L2 : r2.length = 25 := by rw [hr2]; simp [L1]
  have N2 : NoO r2 := by rw [hr2]; exact N1.set
  have f1_2 : Sl r2 1 (.cel 0) := by rw [hr2]; exact (Sl.ne f1_1 (by decide))
  have f15_2 : Sl r2 15 (.int D) := by rw [hr2]; exact (Sl.ne f15_1 (by decide))
  have f16_2 : Sl r2 16 (rt n v) := by rw [hr2]; exact (Sl.ne f16_1 (by decide))
  have f3_2 : Sl r2 3 (.int (I n v D)) := by rw [hr2]; exact (Sl.at (by simp [L1]))
  have I0 := I_nonneg hr (show 0 ≤ D by omega)
  have I1 := I_le hr (show 0 ≤ D by omega)
  obtain ⟨x2, d2, e3, x20, G2⟩ := s2 f1_2 G1 f15_2 f16_2 f3_2
  obtain ⟨q, hq⟩ : ∃ q, q = max 1 (I n v D - x2) := ⟨_, rfl⟩
  rw [← hq] at e3
  obtain ⟨r3, hr3⟩ : ∃ x, x = r2.set 4 (some (false, ln D n v q)) := ⟨_, rfl⟩
  rw [← hr3] at e3
  have L3 : r3.length = 25 := by rw [hr3]; simp [L2]
  have N3 : NoO r3 := by rw [hr3]; exact N2.set
  have f1_3 : Sl r3 1 (.cel 0) := by rw [hr3]; exact (Sl.ne f1_2 (by decide))
  have f15_3 : Sl r3 15 (.int D) := by rw [hr3]; exact (Sl.ne f15_2 (by decide))
  have f16_3 : Sl r3 16 (rt n v) := by rw [hr3]; exact (Sl.ne f16_2 (by decide))
  have f3_3 : Sl r3 3 (.int (I n v D)) := by rw [hr3]; exact (Sl.ne f3_2 (by decide))
  have f4_3 : Sl r3 4 (ln D n v q) := by rw [hr3]; exact (Sl.at (by simp [L2]))
  have lq : Lok n v D q := ⟨hr, by omega, by omega, by omega, by omega⟩
  have c3 := s3 (c := [d2]) f4_3 f3_3 lq (by omega)
  obtain ⟨x17, d4, e4, G4, N17⟩ := s4 f1_3 G2 L3 f4_3 f15_3 lq (by omega)
  obtain ⟨r4, hr4⟩ : ∃ x, x = r3.set 17 x17 := ⟨_, rfl⟩
  rw [← hr4] at e4
  have L4 : r4.length = 25 := by rw [hr4]; simp [L3]
  have N4 : NoO r4 := by rw [hr4]; exact N17 N3
  have f1_4 : Sl r4 1 (.cel 0) := by rw [hr4]; exact (Sl.ne f1_3 (by decide))
  have f15_4 : Sl r4 15 (.int D) := by rw [hr4]; exact (Sl.ne f15_3 (by decide))
  have f16_4 : Sl r4 16 (rt n v) := by rw [hr4]; exact (Sl.ne f16_3 (by decide))
  have f3_4 : Sl r4 3 (.int (I n v D)) := by rw [hr4]; exact (Sl.ne f3_3 (by decide))
  have f4_4 : Sl r4 4 (ln D n v q) := by rw [hr4]; exact (Sl.ne f4_3 (by decide))
  obtain ⟨y, d5, e5, y0, y1, y2, G5⟩ := s5 f1_4 G4 f15_4 f3_4 D0 D1 I0 I1
  obtain ⟨p, hp⟩ : ∃ p, p = I n v D + 1 + y := ⟨_, rfl⟩
  rw [← hp] at e5
  obtain ⟨r5, hr5⟩ : ∃ x, x = r4.set 5 (some (false, .int p)) := ⟨_, rfl⟩
  rw [← hr5] at e5
  have L5 : r5.length = 25 := by rw [hr5]; simp [L4]
  have N5 : NoO r5 := by rw [hr5]; exact N4.set
  have f1_5 : Sl r5 1 (.cel 0) := by rw [hr5]; exact (Sl.ne f1_4 (by decide))
  have f15_5 : Sl r5 15 (.int D) := by rw [hr5]; exact (Sl.ne f15_4 (by decide))
  have f16_5 : Sl r5 16 (rt n v) := by rw [hr5]; exact (Sl.ne f16_4 (by decide))
  have f3_5 : Sl r5 3 (.int (I n v D)) := by rw [hr5]; exact (Sl.ne f3_4 (by decide))
  have f4_5 : Sl r5 4 (ln D n v q) := by rw [hr5]; exact (Sl.ne f4_4 (by decide))
  have f5_5 : Sl r5 5 (.int p) := by rw [hr5]; exact (Sl.at (by simp [L4]))
  have e6 := s6 (c := [d5]) f15_5 f16_5 f5_5
  obtain ⟨r6, hr6⟩ : ∃ x, x = r5.set 6 (some (false, ln D n v p)) := ⟨_, rfl⟩
  rw [← hr6] at e6
  have L6 : r6.length = 25 := by rw [hr6]; simp [L5]
  have N6 : NoO r6 := by rw [hr6]; exact N5.set
  have f1_6 : Sl r6 1 (.cel 0) := by rw [hr6]; exact (Sl.ne f1_5 (by decide))
  have f15_6 : Sl r6 15 (.int D) := by rw [hr6]; exact (Sl.ne f15_5 (by decide))
  have f16_6 : Sl r6 16 (rt n v) := by rw [hr6]; exact (Sl.ne f16_5 (by decide))
  have f3_6 : Sl r6 3 (.int (I n v D)) := by rw [hr6]; exact (Sl.ne f3_5 (by decide))
  have f4_6 : Sl r6 4 (ln D n v q) := by rw [hr6]; exact (Sl.ne f4_5 (by decide))
  have f5_6 : Sl r6 5 (.int p) := by rw [hr6]; exact (Sl.ne f5_5 (by decide))
  have f6_6 : Sl r6 6 (ln D n v p) := by rw [hr6]; exact (Sl.at (by simp [L5]))
  have l : Lok n v D p := ⟨hr, by omega, by omega, by omega, by omega⟩
  have hn : I n v D < p := by omega
  have hp0 : 0 ≤ p := by omega
  have c7 := s7 (c := [d5]) f6_6 l hn
  obtain ⟨M0, hM0, R0⟩ := run_of (P := cP p) (b := 1 + y) hr (show 0 ≤ D by omega) (by omega) (fun _ => (show I n v D + (1 + y) ≤ p by omega)) (by omega) y2
  obtain ⟨M, rfl⟩ : ∃ M, M0 = M + 1 := ⟨M0 - 1, by
    have : M0 ≠ 0 := fun h => by subst h; have := R0.fin; simp only [sq] at this; omega
    omega⟩
  have hfall : ∀ j, sq n v (cP p) D j ≤ D := fun j => (sq_fall (b := 1 + y) hr (show 0 ≤ D by omega) (fun _ => (show I n v D + (1 + y) ≤ p by omega)) (by omega) j).2
  have hI : ∀ j, j < M + 1 → I n v (sq n v (cP p) D j) < p := fun j _ => by have := I_mono hr (hfall j); omega
  have e7 := s8 (c := [d5]) f6_6 l R0 hn
  obtain ⟨r7, hr7⟩ : ∃ x, x = ((r6.set 12 (some (false, .lst (rows n v (cP p) D (M + 1))))).set 18 (some (false, .int ((M + 1 : Nat) : Int)))).set 19 (some (false, .int (sumI n v (cP p) D (M + 1)))) := ⟨_, rfl⟩
  rw [← hr7] at e7
  have L7 : r7.length = 25 := by rw [hr7]; simp [L6]
  have N7 : NoO r7 := by rw [hr7]; exact N6.set.set.set
  have f1_7 : Sl r7 1 (.cel 0) := by rw [hr7]; exact (Sl.ne (Sl.ne (Sl.ne f1_6 (by decide)) (by decide)) (by decide))
  have f15_7 : Sl r7 15 (.int D) := by rw [hr7]; exact (Sl.ne (Sl.ne (Sl.ne f15_6 (by decide)) (by decide)) (by decide))
  have f16_7 : Sl r7 16 (rt n v) := by rw [hr7]; exact (Sl.ne (Sl.ne (Sl.ne f16_6 (by decide)) (by decide)) (by decide))
  have f3_7 : Sl r7 3 (.int (I n v D)) := by rw [hr7]; exact (Sl.ne (Sl.ne (Sl.ne f3_6 (by decide)) (by decide)) (by decide))
  have f4_7 : Sl r7 4 (ln D n v q) := by rw [hr7]; exact (Sl.ne (Sl.ne (Sl.ne f4_6 (by decide)) (by decide)) (by decide))
  have f5_7 : Sl r7 5 (.int p) := by rw [hr7]; exact (Sl.ne (Sl.ne (Sl.ne f5_6 (by decide)) (by decide)) (by decide))
  have f6_7 : Sl r7 6 (ln D n v p) := by rw [hr7]; exact (Sl.ne (Sl.ne (Sl.ne f6_6 (by decide)) (by decide)) (by decide))
  have f12_7 : Sl r7 12 (.lst (rows n v (cP p) D (M + 1))) := by rw [hr7]; exact (Sl.ne (Sl.ne (Sl.at (by simp [L6])) (by decide)) (by decide))
  have f18_7 : Sl r7 18 (.int ((M + 1 : Nat) : Int)) := by rw [hr7]; exact (Sl.ne (Sl.at (by simp [L6])) (by decide))
  have f19_7 : Sl r7 19 (.int (sumI n v (cP p) D (M + 1))) := by rw [hr7]; exact (Sl.at (by simp [L6]))
  have c9 := s9 (c := [d5]) L7 (N7 24) f6_7 f12_7 f18_7 f19_7 f15_7 l R0 hI
  have e8 := s10 (c := [d5]) L7 (N7 24) f12_7 f15_7 R0.few
  obtain ⟨r8, hr8⟩ : ∃ x, x = r7.set 7 (some (false, .lst (lefts n v (cP p) D (M + 1)))) := ⟨_, rfl⟩
  rw [← hr8] at e8
  have L8 : r8.length = 25 := by rw [hr8]; simp [L7]
  have N8 : NoO r8 := by rw [hr8]; exact N7.set
  have f1_8 : Sl r8 1 (.cel 0) := by rw [hr8]; exact (Sl.ne f1_7 (by decide))
  have f15_8 : Sl r8 15 (.int D) := by rw [hr8]; exact (Sl.ne f15_7 (by decide))
  have f16_8 : Sl r8 16 (rt n v) := by rw [hr8]; exact (Sl.ne f16_7 (by decide))
  have f3_8 : Sl r8 3 (.int (I n v D)) := by rw [hr8]; exact (Sl.ne f3_7 (by decide))
  have f4_8 : Sl r8 4 (ln D n v q) := by rw [hr8]; exact (Sl.ne f4_7 (by decide))
  have f5_8 : Sl r8 5 (.int p) := by rw [hr8]; exact (Sl.ne f5_7 (by decide))
  have f6_8 : Sl r8 6 (ln D n v p) := by rw [hr8]; exact (Sl.ne f6_7 (by decide))
  have f12_8 : Sl r8 12 (.lst (rows n v (cP p) D (M + 1))) := by rw [hr8]; exact (Sl.ne f12_7 (by decide))
  have f18_8 : Sl r8 18 (.int ((M + 1 : Nat) : Int)) := by rw [hr8]; exact (Sl.ne f18_7 (by decide))
  have f19_8 : Sl r8 19 (.int (sumI n v (cP p) D (M + 1))) := by rw [hr8]; exact (Sl.ne f19_7 (by decide))
  have f7_8 : Sl r8 7 (.lst (lefts n v (cP p) D (M + 1))) := by rw [hr8]; exact (Sl.at (by simp [L7]))
  obtain ⟨r9, e9, A9, N9⟩ := s11 (c := [d5]) N8 L8 f12_8 f7_8 f16_8 f5_8 f18_8 R0 (by omega) hfall hI
  have L9 : r9.length = 25 := A9.1.trans L8
  have f1_9 : Sl r9 1 (.cel 0) := A9.sl f1_8 (by decide)
  have f15_9 : Sl r9 15 (.int D) := A9.sl f15_8 (by decide)
  have f16_9 : Sl r9 16 (rt n v) := A9.sl f16_8 (by decide)
  have f3_9 : Sl r9 3 (.int (I n v D)) := A9.sl f3_8 (by decide)
  have f4_9 : Sl r9 4 (ln D n v q) := A9.sl f4_8 (by decide)
  have f5_9 : Sl r9 5 (.int p) := A9.sl f5_8 (by decide)
  have f6_9 : Sl r9 6 (ln D n v p) := A9.sl f6_8 (by decide)
  have f12_9 : Sl r9 12 (.lst (rows n v (cP p) D (M + 1))) := A9.sl f12_8 (by decide)
  have f18_9 : Sl r9 18 (.int ((M + 1 : Nat) : Int)) := A9.sl f18_8 (by decide)
  have f19_9 : Sl r9 19 (.int (sumI n v (cP p) D (M + 1))) := A9.sl f19_8 (by decide)
  have f7_9 : Sl r9 7 (.lst (lefts n v (cP p) D (M + 1))) := A9.sl f7_8 (by decide)
  obtain ⟨a, d6, e10, ha, G6⟩ := tkset (i := 9) (bnd := .bin .add (.v 18) (.c (.int 5))) (bv := ((M + 1 : Nat) : Int) + 5) f1_9 G5 (fun c => bin_of (evS f18_9) ev_c binD_add) (by omega) (by simp only [anyO, f1_9])
  obtain ⟨r10, hr10⟩ : ∃ x, x = r9.set 9 (some (false, .int (a : Int))) := ⟨_, rfl⟩
  rw [← hr10] at e10
  have L10 : r10.length = 25 := by rw [hr10]; simp [L9]
  have N10 : NoO r10 := by rw [hr10]; exact N9.set
  have f1_10 : Sl r10 1 (.cel 0) := by rw [hr10]; exact (Sl.ne f1_9 (by decide))
  have f15_10 : Sl r10 15 (.int D) := by rw [hr10]; exact (Sl.ne f15_9 (by decide))
  have f16_10 : Sl r10 16 (rt n v) := by rw [hr10]; exact (Sl.ne f16_9 (by decide))
  have f3_10 : Sl r10 3 (.int (I n v D)) := by rw [hr10]; exact (Sl.ne f3_9 (by decide))
  have f4_10 : Sl r10 4 (ln D n v q) := by rw [hr10]; exact (Sl.ne f4_9 (by decide))
  have f5_10 : Sl r10 5 (.int p) := by rw [hr10]; exact (Sl.ne f5_9 (by decide))
  have f6_10 : Sl r10 6 (ln D n v p) := by rw [hr10]; exact (Sl.ne f6_9 (by decide))
  have f12_10 : Sl r10 12 (.lst (rows n v (cP p) D (M + 1))) := by rw [hr10]; exact (Sl.ne f12_9 (by decide))
  have f18_10 : Sl r10 18 (.int ((M + 1 : Nat) : Int)) := by rw [hr10]; exact (Sl.ne f18_9 (by decide))
  have f19_10 : Sl r10 19 (.int (sumI n v (cP p) D (M + 1))) := by rw [hr10]; exact (Sl.ne f19_9 (by decide))
  have f7_10 : Sl r10 7 (.lst (lefts n v (cP p) D (M + 1))) := by rw [hr10]; exact (Sl.ne f7_9 (by decide))
  have f9_10 : Sl r10 9 (.int (a : Int)) := by rw [hr10]; exact (Sl.at (by simp [L9]))
  obtain ⟨H, hH⟩ := half_ex (n := n) (v := v) (P := cP p) (D := D) (M := M) (by omega) R0.fin
  have e11 := s13 (c := [d6]) f6_10 l R0 hn hH
  obtain ⟨r11, hr11⟩ : ∃ x, x = r10.set 10 (some (false, .int (H : Nat))) := ⟨_, rfl⟩
  rw [← hr11] at e11
  have L11 : r11.length = 25 := by rw [hr11]; simp [L10]
  have N11 : NoO r11 := by rw [hr11]; exact N10.set
  have f1_11 : Sl r11 1 (.cel 0) := by rw [hr11]; exact (Sl.ne f1_10 (by decide))
  have f15_11 : Sl r11 15 (.int D) := by rw [hr11]; exact (Sl.ne f15_10 (by decide))
  have f16_11 : Sl r11 16 (rt n v) := by rw [hr11]; exact (Sl.ne f16_10 (by decide))
  have f3_11 : Sl r11 3 (.int (I n v D)) := by rw [hr11]; exact (Sl.ne f3_10 (by decide))
  have f4_11 : Sl r11 4 (ln D n v q) := by rw [hr11]; exact (Sl.ne f4_10 (by decide))
  have f5_11 : Sl r11 5 (.int p) := by rw [hr11]; exact (Sl.ne f5_10 (by decide))
  have f6_11 : Sl r11 6 (ln D n v p) := by rw [hr11]; exact (Sl.ne f6_10 (by decide))
  have f12_11 : Sl r11 12 (.lst (rows n v (cP p) D (M + 1))) := by rw [hr11]; exact (Sl.ne f12_10 (by decide))
  have f18_11 : Sl r11 18 (.int ((M + 1 : Nat) : Int)) := by rw [hr11]; exact (Sl.ne f18_10 (by decide))
  have f19_11 : Sl r11 19 (.int (sumI n v (cP p) D (M + 1))) := by rw [hr11]; exact (Sl.ne f19_10 (by decide))
  have f7_11 : Sl r11 7 (.lst (lefts n v (cP p) D (M + 1))) := by rw [hr11]; exact (Sl.ne f7_10 (by decide))
  have f9_11 : Sl r11 9 (.int (a : Int)) := by rw [hr11]; exact (Sl.ne f9_10 (by decide))
  have f10_11 : Sl r11 10 (.int (H : Nat)) := by rw [hr11]; exact (Sl.at (by simp [L10]))
  have c14 := s14 (c := [d6]) f6_11 f9_11 f18_11 f7_11 f12_11 f10_11 f15_11 l R0 hn hH (by omega) (by omega)
  obtain ⟨z, d7, e12, z0, z1, G7⟩ := s15 f1_11 G6 f15_11 f16_11 f5_11 (by omega)
  obtain ⟨r12, hr12⟩ : ∃ x, x = r11.set 11 (some (false, ln D n v (p + 1 + z))) := ⟨_, rfl⟩
  rw [← hr12] at e12
  have L12 : r12.length = 25 := by rw [hr12]; simp [L11]
  have N12 : NoO r12 := by rw [hr12]; exact N11.set
  have f1_12 : Sl r12 1 (.cel 0) := by rw [hr12]; exact (Sl.ne f1_11 (by decide))
  have f15_12 : Sl r12 15 (.int D) := by rw [hr12]; exact (Sl.ne f15_11 (by decide))
  have f16_12 : Sl r12 16 (rt n v) := by rw [hr12]; exact (Sl.ne f16_11 (by decide))
  have f3_12 : Sl r12 3 (.int (I n v D)) := by rw [hr12]; exact (Sl.ne f3_11 (by decide))
  have f4_12 : Sl r12 4 (ln D n v q) := by rw [hr12]; exact (Sl.ne f4_11 (by decide))
  have f5_12 : Sl r12 5 (.int p) := by rw [hr12]; exact (Sl.ne f5_11 (by decide))
  have f6_12 : Sl r12 6 (ln D n v p) := by rw [hr12]; exact (Sl.ne f6_11 (by decide))
  have f12_12 : Sl r12 12 (.lst (rows n v (cP p) D (M + 1))) := by rw [hr12]; exact (Sl.ne f12_11 (by decide))
  have f18_12 : Sl r12 18 (.int ((M + 1 : Nat) : Int)) := by rw [hr12]; exact (Sl.ne f18_11 (by decide))
  have f19_12 : Sl r12 19 (.int (sumI n v (cP p) D (M + 1))) := by rw [hr12]; exact (Sl.ne f19_11 (by decide))
  have f7_12 : Sl r12 7 (.lst (lefts n v (cP p) D (M + 1))) := by rw [hr12]; exact (Sl.ne f7_11 (by decide))
  have f9_12 : Sl r12 9 (.int (a : Int)) := by rw [hr12]; exact (Sl.ne f9_11 (by decide))
  have f10_12 : Sl r12 10 (.int (H : Nat)) := by rw [hr12]; exact (Sl.ne f10_11 (by decide))
  have f11_12 : Sl r12 11 (ln D n v (p + 1 + z)) := by rw [hr12]; exact (Sl.at (by simp [L11]))
  have l2 : Lok n v D (p + 1 + z) := ⟨hr, by omega, by omega, by omega, by omega⟩
  obtain ⟨M2, hM2, R2⟩ := run_of (P := cP (p + 1 + z)) (b := 1 + y) hr (show 0 ≤ D by omega) (by omega) (fun _ => (show I n v D + (1 + y) ≤ p + 1 + z by omega)) (by omega) y2
  have c16 := s16 (c := [d7]) f6_12 f11_12 f18_12 f19_12 l l2 R0 R2 hn (by omega)
  obtain ⟨pe, day, d8, e13, pe1, hday, G8⟩ := s17 f1_12 G7 f15_12 f18_12 (Nat.succ_pos M)
  obtain ⟨r13, hr13⟩ : ∃ x, x = (r12.set 20 (some (false, .int (pe : Int)))).set 21 (some (false, .int (day : Int))) := ⟨_, rfl⟩
  rw [← hr13] at e13
  have L13 : r13.length = 25 := by rw [hr13]; simp [L12]
  have N13 : NoO r13 := by rw [hr13]; exact N12.set.set
  have f1_13 : Sl r13 1 (.cel 0) := by rw [hr13]; exact (Sl.ne (Sl.ne f1_12 (by decide)) (by decide))
  have f15_13 : Sl r13 15 (.int D) := by rw [hr13]; exact (Sl.ne (Sl.ne f15_12 (by decide)) (by decide))
  have f16_13 : Sl r13 16 (rt n v) := by rw [hr13]; exact (Sl.ne (Sl.ne f16_12 (by decide)) (by decide))
  have f3_13 : Sl r13 3 (.int (I n v D)) := by rw [hr13]; exact (Sl.ne (Sl.ne f3_12 (by decide)) (by decide))
  have f4_13 : Sl r13 4 (ln D n v q) := by rw [hr13]; exact (Sl.ne (Sl.ne f4_12 (by decide)) (by decide))
  have f5_13 : Sl r13 5 (.int p) := by rw [hr13]; exact (Sl.ne (Sl.ne f5_12 (by decide)) (by decide))
  have f6_13 : Sl r13 6 (ln D n v p) := by rw [hr13]; exact (Sl.ne (Sl.ne f6_12 (by decide)) (by decide))
  have f12_13 : Sl r13 12 (.lst (rows n v (cP p) D (M + 1))) := by rw [hr13]; exact (Sl.ne (Sl.ne f12_12 (by decide)) (by decide))
  have f18_13 : Sl r13 18 (.int ((M + 1 : Nat) : Int)) := by rw [hr13]; exact (Sl.ne (Sl.ne f18_12 (by decide)) (by decide))
  have f19_13 : Sl r13 19 (.int (sumI n v (cP p) D (M + 1))) := by rw [hr13]; exact (Sl.ne (Sl.ne f19_12 (by decide)) (by decide))
  have f7_13 : Sl r13 7 (.lst (lefts n v (cP p) D (M + 1))) := by rw [hr13]; exact (Sl.ne (Sl.ne f7_12 (by decide)) (by decide))
  have f9_13 : Sl r13 9 (.int (a : Int)) := by rw [hr13]; exact (Sl.ne (Sl.ne f9_12 (by decide)) (by decide))
  have f10_13 : Sl r13 10 (.int (H : Nat)) := by rw [hr13]; exact (Sl.ne (Sl.ne f10_12 (by decide)) (by decide))
  have f11_13 : Sl r13 11 (ln D n v (p + 1 + z)) := by rw [hr13]; exact (Sl.ne (Sl.ne f11_12 (by decide)) (by decide))
  have f20_13 : Sl r13 20 (.int (pe : Int)) := by rw [hr13]; exact (Sl.ne (Sl.at (by simp [L12])) (by decide))
  have f21_13 : Sl r13 21 (.int (day : Int)) := by rw [hr13]; exact (Sl.at (by simp [L12]))
  have e14 := s18 (c := [d8]) f20_13 f21_13 f18_13 hday
  obtain ⟨r14, hr14⟩ : ∃ x, x = (r13.set 22 (some (false, .dct (ex [((day : Int), (pe : Int)), (((M + 1 : Nat) : Int) + 3, 5)])))).set 23 (some (false, .dct (ex [(max 0 ((day : Int) - 1), (pe : Int))]))) := ⟨_, rfl⟩
  rw [← hr14] at e14
  have L14 : r14.length = 25 := by rw [hr14]; simp [L13]
  have N14 : NoO r14 := by rw [hr14]; exact N13.set.set
  have f1_14 : Sl r14 1 (.cel 0) := by rw [hr14]; exact (Sl.ne (Sl.ne f1_13 (by decide)) (by decide))
  have f15_14 : Sl r14 15 (.int D) := by rw [hr14]; exact (Sl.ne (Sl.ne f15_13 (by decide)) (by decide))
  have f16_14 : Sl r14 16 (rt n v) := by rw [hr14]; exact (Sl.ne (Sl.ne f16_13 (by decide)) (by decide))
  have f3_14 : Sl r14 3 (.int (I n v D)) := by rw [hr14]; exact (Sl.ne (Sl.ne f3_13 (by decide)) (by decide))
  have f4_14 : Sl r14 4 (ln D n v q) := by rw [hr14]; exact (Sl.ne (Sl.ne f4_13 (by decide)) (by decide))
  have f5_14 : Sl r14 5 (.int p) := by rw [hr14]; exact (Sl.ne (Sl.ne f5_13 (by decide)) (by decide))
  have f6_14 : Sl r14 6 (ln D n v p) := by rw [hr14]; exact (Sl.ne (Sl.ne f6_13 (by decide)) (by decide))
  have f12_14 : Sl r14 12 (.lst (rows n v (cP p) D (M + 1))) := by rw [hr14]; exact (Sl.ne (Sl.ne f12_13 (by decide)) (by decide))
  have f18_14 : Sl r14 18 (.int ((M + 1 : Nat) : Int)) := by rw [hr14]; exact (Sl.ne (Sl.ne f18_13 (by decide)) (by decide))
  have f19_14 : Sl r14 19 (.int (sumI n v (cP p) D (M + 1))) := by rw [hr14]; exact (Sl.ne (Sl.ne f19_13 (by decide)) (by decide))
  have f7_14 : Sl r14 7 (.lst (lefts n v (cP p) D (M + 1))) := by rw [hr14]; exact (Sl.ne (Sl.ne f7_13 (by decide)) (by decide))
  have f9_14 : Sl r14 9 (.int (a : Int)) := by rw [hr14]; exact (Sl.ne (Sl.ne f9_13 (by decide)) (by decide))
  have f10_14 : Sl r14 10 (.int (H : Nat)) := by rw [hr14]; exact (Sl.ne (Sl.ne f10_13 (by decide)) (by decide))
  have f11_14 : Sl r14 11 (ln D n v (p + 1 + z)) := by rw [hr14]; exact (Sl.ne (Sl.ne f11_13 (by decide)) (by decide))
  have f20_14 : Sl r14 20 (.int (pe : Int)) := by rw [hr14]; exact (Sl.ne (Sl.ne f20_13 (by decide)) (by decide))
  have f21_14 : Sl r14 21 (.int (day : Int)) := by rw [hr14]; exact (Sl.ne (Sl.ne f21_13 (by decide)) (by decide))
  have f22_14 : Sl r14 22 (.dct (ex [((day : Int), (pe : Int)), (((M + 1 : Nat) : Int) + 3, 5)])) := by rw [hr14]; exact (Sl.ne (Sl.at (by simp [L13])) (by decide))
  have f23_14 : Sl r14 23 (.dct (ex [(max 0 ((day : Int) - 1), (pe : Int))])) := by rw [hr14]; exact (Sl.at (by simp [L13]))
  obtain ⟨E, hE⟩ : ∃ E, E = E2 (day : Int) (pe : Int) (((M + 1 : Nat) : Int) + 3) 5 := ⟨_, rfl⟩
  have hEok : Eok [((day : Int), (pe : Int)), (((M + 1 : Nat) : Int) + 3, 5)] E := by rw [hE]; exact Eok2 (by omega) (by omega) (by omega) (by omega)
  have hE0 : ∀ k, k < day → E k = 0 := fun k hk => by rw [hE]; unfold E2; rw [if_neg (by omega), if_neg (by omega)]
  have hEd : E day = pe := by rw [hE]; unfold E2; rw [if_pos rfl]
  obtain ⟨M3', hM3, R3'⟩ := run_of (P := fun k => p + E k) (b := 1 + y) hr (show 0 ≤ D by omega) (by omega) (fun k => (show I n v D + (1 + y) ≤ p + E k by have := hEok.nn k; omega)) (by omega) y2
  obtain ⟨M3, rfl⟩ : ∃ M, M3' = M + 1 := ⟨M3' - 1, by
    have : M3' ≠ 0 := fun h => by subst h; have := R3'.fin; simp only [sq] at this; omega
    omega⟩
  have hle3 : M3 + 1 ≤ M + 1 := Run.le hr (show 0 ≤ D by omega) R0 R3' (fun k => (show p ≤ p + E k by have := hEok.nn k; omega))
  have e15 := s19 (c := [d8]) f6_14 f22_14 l hEok R3' hn
  obtain ⟨r15, hr15⟩ : ∃ x, x = r14.set 12 (some (false, .lst (rows n v (fun k => p + E k) D (M3 + 1)))) := ⟨_, rfl⟩
  rw [← hr15] at e15
  have L15 : r15.length = 25 := by rw [hr15]; simp [L14]
  have N15 : NoO r15 := by rw [hr15]; exact N14.set
  have f1_15 : Sl r15 1 (.cel 0) := by rw [hr15]; exact (Sl.ne f1_14 (by decide))
  have f15_15 : Sl r15 15 (.int D) := by rw [hr15]; exact (Sl.ne f15_14 (by decide))
  have f16_15 : Sl r15 16 (rt n v) := by rw [hr15]; exact (Sl.ne f16_14 (by decide))
  have f3_15 : Sl r15 3 (.int (I n v D)) := by rw [hr15]; exact (Sl.ne f3_14 (by decide))
  have f4_15 : Sl r15 4 (ln D n v q) := by rw [hr15]; exact (Sl.ne f4_14 (by decide))
  have f5_15 : Sl r15 5 (.int p) := by rw [hr15]; exact (Sl.ne f5_14 (by decide))
  have f6_15 : Sl r15 6 (ln D n v p) := by rw [hr15]; exact (Sl.ne f6_14 (by decide))
  have f18_15 : Sl r15 18 (.int ((M + 1 : Nat) : Int)) := by rw [hr15]; exact (Sl.ne f18_14 (by decide))
  have f19_15 : Sl r15 19 (.int (sumI n v (cP p) D (M + 1))) := by rw [hr15]; exact (Sl.ne f19_14 (by decide))
  have f7_15 : Sl r15 7 (.lst (lefts n v (cP p) D (M + 1))) := by rw [hr15]; exact (Sl.ne f7_14 (by decide))
  have f9_15 : Sl r15 9 (.int (a : Int)) := by rw [hr15]; exact (Sl.ne f9_14 (by decide))
  have f10_15 : Sl r15 10 (.int (H : Nat)) := by rw [hr15]; exact (Sl.ne f10_14 (by decide))
  have f11_15 : Sl r15 11 (ln D n v (p + 1 + z)) := by rw [hr15]; exact (Sl.ne f11_14 (by decide))
  have f20_15 : Sl r15 20 (.int (pe : Int)) := by rw [hr15]; exact (Sl.ne f20_14 (by decide))
  have f21_15 : Sl r15 21 (.int (day : Int)) := by rw [hr15]; exact (Sl.ne f21_14 (by decide))
  have f22_15 : Sl r15 22 (.dct (ex [((day : Int), (pe : Int)), (((M + 1 : Nat) : Int) + 3, 5)])) := by rw [hr15]; exact (Sl.ne f22_14 (by decide))
  have f23_15 : Sl r15 23 (.dct (ex [(max 0 ((day : Int) - 1), (pe : Int))])) := by rw [hr15]; exact (Sl.ne f23_14 (by decide))
  have f12_15 : Sl r15 12 (.lst (rows n v (fun k => p + E k) D (M3 + 1))) := by rw [hr15]; exact (Sl.at (by simp [L14]))
  have c20 := s20 (c := [d8]) L15 (N15 24) f12_15 f15_15 f18_15 R3' hle3
  have c21 := s21 (c := [d8]) L15 (N15 24) f6_15 f22_15 f19_15 f12_15 l hEok R0 R3' hn
  have c22 := s22 (c := [d8]) L15 (N15 8) f6_15 f12_15 f21_15 f20_15 f5_15 f7_15 l R0 R3' hn hle3 hE0 hEd (by omega)
  have ks := Eok1 (a := max 0 ((day : Int) - 1)) (b := (pe : Int)) (by omega) (by omega)
  have kd := Eok1 (a := (day : Int)) (b := (pe : Int)) (by omega) (by omega)
  obtain ⟨Ms, _, Rs⟩ := run_of (P := fun k => p + E1 (max 0 ((day : Int) - 1)) pe k) (b := 1 + y) hr (show 0 ≤ D by omega) (by omega) (fun k => (show I n v D + (1 + y) ≤ p + E1 (max 0 ((day : Int) - 1)) pe k by have := ks.nn k; omega)) (by omega) y2
  obtain ⟨Md, _, Rd⟩ := run_of (P := fun k => p + E1 (day : Int) pe k) (b := 1 + y) hr (show 0 ≤ D by omega) (by omega) (fun k => (show I n v D + (1 + y) ≤ p + E1 (day : Int) pe k by have := kd.nn k; omega)) (by omega) y2
  have c23 := s23 (c := [d8]) f6_15 f23_15 f21_15 f20_15 l R0 hn Rs Rd
  obtain ⟨t, d9, e16, t0, t1, G9⟩ := s24 f1_15 G8
  obtain ⟨r16, hr16⟩ : ∃ x, x = r15.set 13 (some (false, .int (t : Int))) := ⟨_, rfl⟩
  rw [← hr16] at e16
  have L16 : r16.length = 25 := by rw [hr16]; simp [L15]
  have N16 : NoO r16 := by rw [hr16]; exact N15.set
  have f1_16 : Sl r16 1 (.cel 0) := by rw [hr16]; exact (Sl.ne f1_15 (by decide))
  have f15_16 : Sl r16 15 (.int D) := by rw [hr16]; exact (Sl.ne f15_15 (by decide))
  have f16_16 : Sl r16 16 (rt n v) := by rw [hr16]; exact (Sl.ne f16_15 (by decide))
  have f3_16 : Sl r16 3 (.int (I n v D)) := by rw [hr16]; exact (Sl.ne f3_15 (by decide))
  have f4_16 : Sl r16 4 (ln D n v q) := by rw [hr16]; exact (Sl.ne f4_15 (by decide))
  have f5_16 : Sl r16 5 (.int p) := by rw [hr16]; exact (Sl.ne f5_15 (by decide))
  have f6_16 : Sl r16 6 (ln D n v p) := by rw [hr16]; exact (Sl.ne f6_15 (by decide))
  have f12_16 : Sl r16 12 (.lst (rows n v (fun k => p + E k) D (M3 + 1))) := by rw [hr16]; exact (Sl.ne f12_15 (by decide))
  have f18_16 : Sl r16 18 (.int ((M + 1 : Nat) : Int)) := by rw [hr16]; exact (Sl.ne f18_15 (by decide))
  have f19_16 : Sl r16 19 (.int (sumI n v (cP p) D (M + 1))) := by rw [hr16]; exact (Sl.ne f19_15 (by decide))
  have f7_16 : Sl r16 7 (.lst (lefts n v (cP p) D (M + 1))) := by rw [hr16]; exact (Sl.ne f7_15 (by decide))
  have f9_16 : Sl r16 9 (.int (a : Int)) := by rw [hr16]; exact (Sl.ne f9_15 (by decide))
  have f10_16 : Sl r16 10 (.int (H : Nat)) := by rw [hr16]; exact (Sl.ne f10_15 (by decide))
  have f11_16 : Sl r16 11 (ln D n v (p + 1 + z)) := by rw [hr16]; exact (Sl.ne f11_15 (by decide))
  have f20_16 : Sl r16 20 (.int (pe : Int)) := by rw [hr16]; exact (Sl.ne f20_15 (by decide))
  have f21_16 : Sl r16 21 (.int (day : Int)) := by rw [hr16]; exact (Sl.ne f21_15 (by decide))
  have f22_16 : Sl r16 22 (.dct (ex [((day : Int), (pe : Int)), (((M + 1 : Nat) : Int) + 3, 5)])) := by rw [hr16]; exact (Sl.ne f22_15 (by decide))
  have f23_16 : Sl r16 23 (.dct (ex [(max 0 ((day : Int) - 1), (pe : Int))])) := by rw [hr16]; exact (Sl.ne f23_15 (by decide))
  have f13_16 : Sl r16 13 (.int (t : Int)) := by rw [hr16]; exact (Sl.at (by simp [L15]))
  obtain ⟨L, hL, eL⟩ := lp_of (c := [d9]) (m := t) (e := .v 13) f15_16 f16_16 (evS f13_16) (by simp only [anyO, f15_16, f16_16, f13_16]) hr D0 (by omega) t0 t1
  have e17 := set_of1 (i := 14) eL rfl
  obtain ⟨r17, hr17⟩ : ∃ x, x = r16.set 14 (some (false, .int L)) := ⟨_, rfl⟩
  rw [← hr17] at e17
  have L17 : r17.length = 25 := by rw [hr17]; simp [L16]
  have N17 : NoO r17 := by rw [hr17]; exact N16.set
  have f1_17 : Sl r17 1 (.cel 0) := by rw [hr17]; exact (Sl.ne f1_16 (by decide))
  have f15_17 : Sl r17 15 (.int D) := by rw [hr17]; exact (Sl.ne f15_16 (by decide))
  have f16_17 : Sl r17 16 (rt n v) := by rw [hr17]; exact (Sl.ne f16_16 (by decide))
  have f3_17 : Sl r17 3 (.int (I n v D)) := by rw [hr17]; exact (Sl.ne f3_16 (by decide))
  have f4_17 : Sl r17 4 (ln D n v q) := by rw [hr17]; exact (Sl.ne f4_16 (by decide))
  have f5_17 : Sl r17 5 (.int p) := by rw [hr17]; exact (Sl.ne f5_16 (by decide))
  have f6_17 : Sl r17 6 (ln D n v p) := by rw [hr17]; exact (Sl.ne f6_16 (by decide))
  have f12_17 : Sl r17 12 (.lst (rows n v (fun k => p + E k) D (M3 + 1))) := by rw [hr17]; exact (Sl.ne f12_16 (by decide))
  have f18_17 : Sl r17 18 (.int ((M + 1 : Nat) : Int)) := by rw [hr17]; exact (Sl.ne f18_16 (by decide))
  have f19_17 : Sl r17 19 (.int (sumI n v (cP p) D (M + 1))) := by rw [hr17]; exact (Sl.ne f19_16 (by decide))
  have f7_17 : Sl r17 7 (.lst (lefts n v (cP p) D (M + 1))) := by rw [hr17]; exact (Sl.ne f7_16 (by decide))
  have f9_17 : Sl r17 9 (.int (a : Int)) := by rw [hr17]; exact (Sl.ne f9_16 (by decide))
  have f10_17 : Sl r17 10 (.int (H : Nat)) := by rw [hr17]; exact (Sl.ne f10_16 (by decide))
  have f11_17 : Sl r17 11 (ln D n v (p + 1 + z)) := by rw [hr17]; exact (Sl.ne f11_16 (by decide))
  have f20_17 : Sl r17 20 (.int (pe : Int)) := by rw [hr17]; exact (Sl.ne f20_16 (by decide))
  have f21_17 : Sl r17 21 (.int (day : Int)) := by rw [hr17]; exact (Sl.ne f21_16 (by decide))
  have f22_17 : Sl r17 22 (.dct (ex [((day : Int), (pe : Int)), (((M + 1 : Nat) : Int) + 3, 5)])) := by rw [hr17]; exact (Sl.ne f22_16 (by decide))
  have f23_17 : Sl r17 23 (.dct (ex [(max 0 ((day : Int) - 1), (pe : Int))])) := by rw [hr17]; exact (Sl.ne f23_16 (by decide))
  have f13_17 : Sl r17 13 (.int (t : Int)) := by rw [hr17]; exact (Sl.ne f13_16 (by decide))
  have f14_17 : Sl r17 14 (.int L) := by rw [hr17]; exact (Sl.at (by simp [L16]))
  have c26 := s26 (c := [d9]) f13_17 f14_17 f15_17 f16_17 hL hr D0 D1 t1
  have c27 := s27 (c := [d9]) f3_17 f13_17 f14_17 f15_17 f16_17 hL hr D0 D1 t0
  refine ⟨r17, d9, ?_, f1_17, L17, N17, G9⟩
  unfold body
  refine (xes_nx e1).trans ?_
  refine (xes_nx e2).trans ?_
  refine (xes_nx e3).trans ?_
  refine (xes_nx c3).trans ?_
  refine (xes_nx e4).trans ?_
  refine (xes_nx e5).trans ?_
  refine (xes_nx e6).trans ?_
  refine (xes_nx c7).trans ?_
  refine (xes_nx e7).trans ?_
  refine (xes_nx c9).trans ?_
  refine (xes_nx e8).trans ?_
  refine (xes_nx e9).trans ?_
  refine (xes_nx e10).trans ?_
  refine (xes_nx e11).trans ?_
  refine (xes_nx c14).trans ?_
  refine (xes_nx e12).trans ?_
  refine (xes_nx c16).trans ?_
  refine (xes_nx e13).trans ?_
  refine (xes_nx e14).trans ?_
  refine (xes_nx e15).trans ?_
  refine (xes_nx c20).trans ?_
  refine (xes_nx c21).trans ?_
  refine (xes_nx c22).trans ?_
  refine (xes_nx c23).trans ?_
  refine (xes_nx e16).trans ?_
  refine (xes_nx e17).trans ?_
  refine (xes_nx c26).trans ?_
  refine (xes_nx c27).trans ?_
  rfl
theorem law (ns : List Int) (h63 : ns.length ≤ 63) : ∃ c, call T 12 33 [.lst (ns.map .int)] [] = .ok (false, .bl true) c := by
  obtain ⟨dr, ed, gd⟩ := law_draws 10 ns h63
  have ed : CC 27 [.lst (ns.map .int)] [] = .ok (true, .lst dr) [] := ed
  let r0 : Row := some (false, .lst (ns.map .int)) :: List.replicate 24 none
  let ra : Row := r0.set 1 (some (false, .cel 0))
  have em : xe CC (.mkc 1 (.call 27 [.v 0])) ⟨r0, []⟩ = .ok .nx ⟨ra, [dr]⟩ := by
    have e1 : ev CC (.call 27 [.v 0]) ⟨r0, []⟩ = .ok (true, .lst dr) ⟨r0, []⟩ := call1 (j := 0) rfl ed
    have e2 : xe CC (.mkc 1 (.call 27 [.v 0])) ⟨r0, []⟩ = (ev CC (.call 27 [.v 0]) ⟨r0, []⟩).b fun x s => match x with
      | (true, .lst ds) => if isPk (.call 27 [.v 0]) then .bad else .ok .nx ⟨s.r.set 1 (some (false, .cel s.c.length)), s.c ++ [ds]⟩
      | _ => .bad := rfl
    rw [e2, e1]
    rfl
  have hna : NoO ra := by
    have : NoO r0 := fun j d e => by
      cases j with
      | zero => cases e
      | succ j =>
        have e : (List.replicate 24 (none : Option (Bool × Q.D)))[j]? = some (some (true, d)) := e
        rw [List.getElem?_replicate] at e
        split at e <;> cases e
    exact this.set
  have hf := for_inv (f := fun x s => (R.of (asg (.n 2) x s.r) s).b fun r s => xes CC body ⟨r, s.c⟩)
    (I := fun _ s => ∃ r dr, s = ⟨r, [dr]⟩ ∧ Sl r 1 (.cel 0) ∧ r.length = 25 ∧ NoO r ∧ good dr) (xs := rngD 0 4) (i := 0) (s := ⟨ra, [dr]⟩) ⟨ra, dr, rfl, rfl, rfl, hna, gd⟩ (fun k x s hk => by
      rintro ⟨r, dr, rfl, h1, h2, h3, h4⟩
      obtain ⟨r', dr', e, q1, q2, q3, q4⟩ := turn (r0 := r.set 2 (some (false, x))) (d0 := dr) (h1.ne (by decide)) (by simp [h2]) h3.set h4
      exact ⟨⟨r', [dr']⟩, .inl e, r', dr', rfl, q1, q2, q3, q4⟩)
  obtain ⟨s', ef, r', dr', rfl, _⟩ := hf
  refine ⟨[dr'], ?_⟩
  refine call_ret (k := 11) (b := e33) (s := ⟨r', [dr']⟩) rfl rfl ?_
  refine (xes_nx (C := call T 11) em).trans ?_
  refine (xes_nx (C := call T 11) (s1 := ⟨r', [dr']⟩) ?_).trans rfl
  exact (xe_for_of (C := CC) (xs := body) (s1 := ⟨ra, [dr]⟩) (ds := [.int 4]) rfl (itD_rng (rng_ok (by omega) (by omega)))).trans ef
end V07
end
theorem PySem.Challenge.cw_coopward_k07_whole_great_loans_holds : PySem.Challenge.rw_coopward_k07_whole_great_loans.Holds := by
  exact holds_of_k07 V07.law
