import PyProof.Rows.All
import HandS.ForMost
import HandS.Rev
import KE.KDictList
import KE.KRevIter
import HandS.Walk
import HandS.IsInst
import HandS.Style
import HandS.Wide
import HandS.Text
import HandS.TupAny
import HandS.WordsDict
import HandS.Flow
import HandS.Words
import HandS.WordsExc
import HandS.ExcCtx
import HandS.HotCalls
import HandS.HeadEnd
import HandS.Ends
import HandS.Defaults
import HandS.Star
import HandS.Deep
import HandS.TryOnly
import HandS.DictComp
import HandS.ExcIs
import HandS.HeadHook2
import HandS.HeadHook3
import HandS.HeadHook4
import KE.KStateDown
import Lean
import HandS.More
import HandS.Head0
import HandS.Head1
import HandS.Head2
import HandS.HeadHook1
import PySem.Challenge.RW_coopward_k09_whole_faults_of_share_books
import PyProof.StrLaws
section
set_option Elab.async false
set_option linter.all false
set_option maxRecDepth 100000
set_option maxHeartbeats 4000000
/-! list(reversed(a list)) -/
namespace Q
open PySem PySem.Spec PyProof.Rows L2
theorem nolen_lr : typeLookup (.type "list_reverseiterator") "__len__" = pure none := by
  rw [typeLookup_type, builtinLookup_eq_fast]; kernel_rfl
theorem hint_lr : typeLookup (.type "list_reverseiterator") "__length_hint__" = pure (some (.builtin "list_reverseiterator.__length_hint__")) := by
  rw [typeLookup_type, builtinLookup_eq_fast]; kernel_rfl
section
variable {prog : Program} {w : World} {A : Around} {E : Value → Shared → Prop} {s : Shared} {it l : Addr} {items : Array Value}
theorem hintRev {Q : Bool → Shared → Prop} (hT : s.TypeIs (.ref it) "list_reverseiterator") (h : Q false s) : wpAny (model prog w) A (Builtin.List.listLengthHint (.ref it)) Q E s := by
  unfold Builtin.List.listLengthHint
  refine wpAny_bind (wpAny_specialOf hT nolen_lr ?_)
  show wpAny _ A (specialOf (Value.ref it) (Str.ofString "__length_hint__") >>= _) _ _ _
  refine wpAny_bind (wpAny_specialOf hT hint_lr ?_)
  generalize hid : ("list_reverseiterator.__length_hint__" : String) = id0
  wp_delta
  rw [show splitId id0 = some ("list_reverseiterator", "__length_hint__") from by subst hid; decide +kernel]
  subst hid
  refine wpAny_bind (wpAny_isInstance (b := true) hT (by rw [isSubtype_type]; kernel_rfl) ?_)
  refine wpAny_ite_split (fun hab => absurd hab (by decide)) (fun _ => ?_)
  refine wpAny_ite_split (fun _ => ?_) (fun hab => absurd (by decide +kernel) hab)
  refine wpAny_ite_split (fun hab => absurd hab (by decide +kernel)) (fun _ => ?_)
  exact wpAny_pure h
def RevP (items : Array Value) : Nat → Value → Prop := fun i v => items[items.size - 1 - i]? = some v
theorem extRev {R : Result → Shared → Prop} (hh : A.handled = none) (hit : s.heap.IsRevIter it l ((items.size : Int) - 1)) (hl : s.heap.IsList l items) (hne : l ≠ it) (S : Addr) (hSr : S ≠ it) (hSd : S ≠ l) (res : Value) (c₀ : Nat)
    (hS : s.heap.get? S = some { cls := .type "list", data := .seq #[] c₀ }) (hn : items.size ≤ sizeLine)
    (hR : ∀ h' tk acc' c', (∀ b o, b ≠ S → b ≠ it → s.heap.get? b = some o → h'.get? b = some o) → h'.get? S = some { cls := .type "list", dict := none, data := .seq acc' c', slots := #[] } → ItemsOf (RevP items) acc' items.size → R (.ok (.ret res)) { s with heap := h', toks := tk }) :
    wpAny (model prog w) A.in1 (Builtin.List.listExtendWith (.ref S) (.ref it) res)
      (fun fin s' => match fin with | .done f => R (.ok f) s' | .again c' => c'.quiet = true ∧ codeAny (model prog w) A c' R s') (fun e s' => R (.error e) s') s := by
  have hSf : S ∉ [it, l] := by simp only [List.mem_cons, List.not_mem_nil, or_false, not_or]; exact ⟨hSr, hSd⟩
  have W := Walks.listRev (prog := prog) (w := w) (A := A.in1) hh it l hne items
  have key : ∀ (h : Heap) (c₁ tk : Nat), h.IsRevIter it l ((items.size : Int) - 1) → h.IsList l items → (∀ b o, b ≠ S → s.heap.get? b = some o → h.get? b = some o) →
      h.get? S = some { cls := .type "list", data := .seq #[] c₁ } → codeAny (model prog w) A (.builtin "list.extend.loop" ⟨[.ref S, .ref it, res], []⟩) R { s with heap := h, toks := tk } := by
    intro h c₁ tk h1 h2 hk hS₁
    have e0 : (items.size : Int) - 1 - ((0 : Nat) : Int) = (items.size : Int) - 1 := by omega
    refine codeAny_extend_loopS W.toS hn S hSf res items.size 0 _ #[] c₁ rfl (Nat.zero_le _) ⟨Nat.zero_le _, by rw [e0]; exact h1, h2⟩ hS₁ (ItemsOf.nil _) fun s' acc' c' hm hS' hacc => ?_
    rw [Moved.eq_with hm]
    refine hR s'.heap s'.toks acc' c' (fun b o hb hi e => hm.heap b o (fun hmem => ?_) (hk b o hb e)) hS' hacc
    rcases List.mem_cons.mp hmem with e' | hmem
    · exact hb e'
    · exact hi (List.mem_singleton.mp hmem)
  unfold Builtin.List.listExtendWith
  refine wpAny_bind (wpAny_typeOf hit.typeIs ?_)
  have h1 : Builtin.List.listSameRef (.ref S) (.ref it) = false := by simp [Builtin.List.listSameRef, hSr]
  rw [if_neg (by rw [h1]; decide)]
  refine wpAny_bind (wpAny_pyIter_revIter hit ?_)
  refine wpAny_bind (wpAny_holding (hintRev hit.typeIs ?_))
  refine wpAny_ite_split (fun _ => ?_) (fun _ => wpAny_pure ⟨plainId_quiet PySem.F.plain_extend_loop _, key _ c₀ _ hit hl (fun b o _ e => e) hS⟩)
  refine wpAny_bind (wpAny_rule ?_)
  refine wpAny_bind ?_
  show wpAny _ _ (updateSeq S (·.push .none) >>= fun _ => updateSeq S (·.pop)) _ _ _
  refine wpAny_bind (wpAny_updateSeq hS rfl ?_)
  have hS₂ := Heap.get?_update_self (Obj.mapSeq (·.push Value.none)) hS rfl
  refine wpAny_updateSeq (hz := by seq_fits) hS₂ rfl ?_
  have hS₃ := Heap.get?_update_self (Obj.mapSeq (·.pop)) hS₂ rfl
  have oth : ∀ b o, b ≠ S → s.heap.get? b = some o → ((s.heap.update S (Obj.mapSeq (·.push Value.none))).update S (Obj.mapSeq (·.pop))).get? b = some o :=
    fun b o hb e => (Heap.get?_update_other _ _ (Ne.symm hb)).trans ((Heap.get?_update_other _ _ (Ne.symm hb)).trans e)
  exact wpAny_pure ⟨plainId_quiet PySem.F.plain_extend_loop _, key _ _ _ (hit.at fun o e => oth it o hSr.symm e) (hl.at fun o e => oth l o hSd.symm e) oth hS₃⟩
theorem initRev {R : Result → Shared → Prop} (hh : A.handled = none) (hit : s.heap.IsRevIter it l ((items.size : Int) - 1)) (hl : s.heap.IsList l items) (hne : l ≠ it) (S : Addr) (hSr : S ≠ it) (hSd : S ≠ l)
    (hS : s.heap.get? S = some { cls := .type "list", data := .seq #[] }) (hn : items.size ≤ sizeLine)
    (hR : ∀ h' tk acc' c', (∀ b o, b ≠ S → b ≠ it → s.heap.get? b = some o → h'.get? b = some o) → h'.get? S = some { cls := .type "list", dict := none, data := .seq acc' c', slots := #[] } → ItemsOf (RevP items) acc' items.size → R (.ok (.ret .none)) { s with heap := h', toks := tk }) :
    wpAny (model prog w) A.in1 (Builtin.«list.__init__» ⟨[.ref S, .ref it], []⟩)
      (fun fin s' => match fin with | .done f => R (.ok f) s' | .again c' => c'.quiet = true ∧ codeAny (model prog w) A c' R s') (fun e s' => R (.error e) s') s := by
  show wpAny _ _ (do let old ← Builtin.List.listItems (.ref S); Builtin.List.listUpdate (.ref S) (fun _ => #[]); letGo old.toList.reverse; Builtin.List.listExtendWith (.ref S) (.ref it) .none) _ _ s
  refine wpAny_bind ?_
  unfold Builtin.List.listItems
  refine wpAny_bind (wpAny_seqItems hS rfl (wpAny_pure ?_))
  show wpAny _ _ (updateSeq S (fun _ => #[]) >>= fun _ => letGo (#[] : Array Value).toList.reverse >>= fun _ => Builtin.List.listExtendWith (.ref S) (.ref it) .none) _ _ s
  refine wpAny_bind (wpAny_updateSeq hS rfl ?_)
  have hS₂ := Heap.get?_update_self (Obj.mapSeq (fun _ => (#[] : Array Value))) hS rfl
  have oth : ∀ b o, b ≠ S → s.heap.get? b = some o → (s.heap.update S (Obj.mapSeq (fun _ => (#[] : Array Value)))).get? b = some o :=
    fun b o hb e => (Heap.get?_update_other _ _ (Ne.symm hb)).trans e
  refine wpAny_bind (wpAny_letGo ?_)
  refine extRev hh (hit.at fun o e => oth it o hSr.symm e) (hl.at fun o e => oth l o hSd.symm e) hne S hSr hSd .none _ hS₂ hn fun h' tk acc' c' hk hS' hacc => ?_
  exact hR h' tk acc' c' (fun b o hb hi e => hk b o hb hi (oth b o hb e)) hS' hacc
theorem callListRev {Q : Value → Shared → Prop} (hh : A.handled = none) (hit : s.heap.IsRevIter it l ((items.size : Int) - 1)) (hl : s.heap.IsList l items) (hne : l ≠ it) (hn : items.size ≤ sizeLine)
    (hQ : ∀ h' tk acc' c', (∀ b o, b ≠ it → s.heap.get? b = some o → h'.get? b = some o) → h'.get? s.heap.objs.size = some { cls := .type "list", dict := none, data := .seq acc' c', slots := #[] } → ItemsOf (RevP items) acc' items.size → Q (.ref s.heap.objs.size) { s with heap := h', toks := tk }) :
    wpAny (model prog w) A (call (.type "list") [.ref it]) Q E s := by
  refine callType_codes (Q₁ := fun obj s₁ => obj = .ref s.heap.objs.size ∧ s₁ = { s with heap := s.heap.push { cls := .type "list", data := .seq #[] } }) PySem.F.called_list (PySem.F.typeCall_list_1 _) PySem.F.entry_list_init
    (code_list_new _ ⟨rfl, rfl⟩) fun obj s₁ h₁ => ?_
  obtain ⟨rfl, rfl⟩ := h₁
  have hS : (s.heap.push { cls := .type "list", data := .seq #[] }).get? s.heap.objs.size = some { cls := .type "list", data := .seq #[] } := Heap.get?_push_size _ rfl
  have l1 : it < s.heap.objs.size := let ⟨o, ho, _⟩ := hit; Heap.lt_size ho
  have l2 : l < s.heap.objs.size := let ⟨o, ho, _⟩ := hl; Heap.lt_size ho
  refine ⟨⟨_, hS, rfl⟩, PySem.F.args_list_init_2 _ _, initRev (A := A.in1) hh (hit.at fun o e => Heap.get?_push_of_some _ e) (hl.push _) hne _ (Nat.ne_of_gt l1) (Nat.ne_of_gt l2) hS hn fun h' tk acc' c' hk hS' hacc => ?_⟩
  exact ⟨rfl, hQ h' tk acc' c' (fun b o hi e => hk b o (Nat.ne_of_lt (Heap.lt_size e)) hi (Heap.get?_push_of_some _ e)) hS' hacc⟩
end
def tLrev (K : PySem.W.Frag) (te : TE) : TE := fun σ H Q => te σ H fun x H1 => ∃ a xs, x = .ref a ∧ SqL K H1 a xs ∧ ∀ q, H1 q = none → Q (.ref q) (upd H1 q (.lst xs.reverse))
theorem pe_lrev {X : Cx} {e : Expr} {te : TE} {p p2 pos pos2 : Pos} (hc : X.calm = true) (hg : Gl X "list") (hm : X.mg "list" = none) (hg2 : Gl X "reversed") (hm2 : X.mg "reversed" = none) (he : PE X e te)
    (hs : starEach [e] X.env = (false, eval e X.env) :: starEach [] X.env) :
    PE X (.Call (.Name "list" p) [.Call (.Name "reversed" p2) [e] [] pos2] [] pos) (tLrev X.K te) := by
  refine ⟨fun pins s σ H Q I h => ?_⟩
  refine Call_ (ld_blt I hg hm boot_list (PyProof.Rows.callWith_type1 (args_cons (Call_ (ld_blt I hg2 hm2 PyProof.Rows.boot_reversed (PyProof.Rows.callWith_type1 (args_cons (thn (he.run pins s σ H _ I h) fun u s1 ⟨v, H1, I1, r1, q1⟩ => args_nil ?_) hs) hs rfl))) rfl) rfl rfl))
  obtain ⟨a, xs, ev, hq, q⟩ := q1
  subst ev
  obtain rfl : u = Value.ref a := r1
  obtain ⟨its, rv, p', hz⟩ := I1.list hq
  refine call_reversed_list p'.isList (args_nil ?_)
  have k0 : ∀ b o, s1.heap.get? b = some o → (s1.heap.push (revObj a ((its.toArray.size : Int) - 1))).get? b = some o := fun b o e => Heap.get?_push_of_some _ e
  have I2 : Inv X pins σ H1 { s1 with heap := s1.heap.push (revObj a ((its.toArray.size : Int) - 1)) } := I1.kept (t' := s1.toks) k0
  obtain ⟨f0, f1, f2, f3, f4, f5⟩ := I1.fpOk (H' := H1) (b := s1.heap.objs.size) (Nat.le_refl _) (I1.hok.fresh (Nat.le_refl _))
  have hl := p'.isList
  obtain ⟨ol, hol, _⟩ := id hl
  have hne : a ≠ s1.heap.objs.size := Nat.ne_of_lt (Heap.lt_size hol)
  have hn : its.toArray.size ≤ sizeLine := by rw [List.size_toArray, ← rv.length]; exact hz
  refine callListRev (s := { s1 with heap := s1.heap.push (revObj a ((its.toArray.size : Int) - 1)) }) (I1.ok.hd hc) ⟨_, Heap.get?_push_size _ rfl, rfl, rfl⟩ (hl.push _) hne hn fun h' tk acc c' hk hp hi => ?_
  have nn : ({ s1 with heap := s1.heap.push (revObj a ((its.toArray.size : Int) - 1)) } : Shared).heap.objs.size ≠ s1.heap.objs.size := by
    show (s1.heap.push _).objs.size ≠ _
    rw [Heap.size_push]; omega
  have rr : Vals xs.reverse acc.toList := RT.vals_rev rv hi
  refine ⟨.ref _, _, I2.turnedNew (t' := tk) (ch := [s1.heap.objs.size]) (fun b o hb e => hk b o (fun x => hb (by simp [x])) e) (fun b hb => ?_) (Nat.le_refl _) (show ObjOk X.prog X.w _ h' _ (.lst xs.reverse) from ⟨by rw [List.length_reverse]; exact hz, acc.toList, c', rr, by rw [Array.toArray_toList]; exact hp⟩), rfl, q _ (I2.hok.fresh (Nat.le_refl _))⟩
  rw [List.mem_singleton.mp hb]
  exact ⟨f0, f1, f2, f3, f4, f5⟩
end Q
end

section
set_option Elab.async false
set_option linter.all false
set_option maxRecDepth 100000
/-! Q: a small interpreter of the Python subset that the program and its laws use: values are pure data; lists and dicts that a def changes are owned by one name; cells are lists that are handed around. -/
namespace Q
open PySem
/-- data -/
inductive D where
  | non | bl (b : Bool) | int (i : Int) | str (x : Str)
  | tup (ds : List D) | lst (ds : List D) | dct (kvs : List (D × D)) | cel (n : Nat)
  deriving Inhabited
abbrev Cells := List (List D)
abbrev Row := List (Option (Bool × D))
/-- an outcome -/
inductive R (σ α : Type) where
  | ok (a : α) (s : σ) | exc (e : Nat) (c : Cells) | bad
def R.b {σ τ α β : Type} : R σ α → (α → σ → R τ β) → R τ β
  | .ok a s, f => f a s
  | .exc e c, _ => .exc e c
  | .bad, _ => .bad
@[simp] theorem R.b_ok {σ τ α β : Type} (a : α) (s : σ) (f : α → σ → R τ β) : (R.ok a s).b f = f a s := rfl
@[simp] theorem R.b_exc {σ τ α β : Type} (e : Nat) (c : Cells) (f : α → σ → R τ β) : (R.exc e c : R σ α).b f = .exc e c := rfl
@[simp] theorem R.b_bad {σ τ α β : Type} (f : α → σ → R τ β) : (R.bad : R σ α).b f = .bad := rfl
def R.of {σ α : Type} (o : Option α) (s : σ) : R σ α := match o with
  | some a => .ok a s
  | none => .bad
@[simp] theorem R.of_some {σ α : Type} (a : α) (s : σ) : R.of (some a) s = .ok a s := rfl
@[simp] theorem R.of_none {σ α : Type} (s : σ) : R.of (none : Option α) s = .bad := rfl
structure S where
  r : Row
  c : Cells
inductive Op where | add | sub | mul | fdiv | mod | pow
inductive Cm where | eq | ne | lt | le | gt | ge | is | isn
inductive Tg where | n (i : Nat) | t (ts : List Tg)
/-- what is walked -/
inductive Ik where | seq | rng | enu | rev | vals | zip
inductive Ty where | int | bool | str | tup | lst | dct
inductive Bi where | len | abs | max | min | sum | int | all | list | repr
inductive Ex where
  | c (d : D) | v (i : Nat) | fz (i : Nat)
  | bin (o : Op) (a b : Ex) | neg (a : Ex) | cmp (o : Cm) (a b : Ex) | chn (o p : Cm) (a b c : Ex)
  | and (a b : Ex) | or (a b : Ex) | not (a : Ex) | ite (c a b : Ex)
  | tup (es : List Ex) | lst (es : List Ex) | dct (es : List Ex)
  | ix (a b : Ex)
  | lc (e : Ex) (t : Tg) (k : Ik) (its : List Ex) (cond : Option Ex) (own : List Nat)
  | call (f : Nat) (es : List Ex) | callS (f : Nat) (a : Ex) (es : List Ex)
  | rep (a b : Ex) | cin (n : Bool) (a b : Ex) | sl (a : Ex) (lo hi : Option Ex) | gin (n : Bool) (a : Ex) (x : Str) (g : List (Str × Int)) | gix (x : Str) (g : List (Str × Int)) (a : Ex) | gget (x : Str) (g : List (Str × Int)) (a : Ex)
  | bi (b : Bi) (es : List Ex) | isi (a : Ex) (t : Ty) | get (a k d : Ex) | lrev (a : Ex) | pop (i : Nat)
inductive Sx where
  | set (i : Nat) (e : Ex) | own (i : Nat) (e : Ex) | mkc (i : Nat) (e : Ex) | unp (t : Tg) (e : Ex) | par (is : List (Nat × Bool)) (es : List Ex)
  | aug (i : Nat) (o : Op) (e : Ex) | app (i : Nat) (e : Ex) | put (i : Nat) (k e : Ex) | expr (e : Ex)
  | ret (e : Ex) | retN | ite (c : Ex) (a b : List Sx) | whl (c : Ex) (b : List Sx) | for_ (t : Tg) (k : Ik) (its : List Ex) (b : List Sx)
  | pass | brk | cnt | no | raise (e : Nat) | tryF (b : List Sx) (tab : List (Nat × D))
inductive Fl where | nx | ret (o : Bool) (d : D) | bk | ct
abbrev Cl := Nat → List D → Cells → R Cells (Bool × D)
/-! ### on data -/
def bI (b : Bool) : Int := if b then 1 else 0
mutual
def eqD : D → D → Bool
  | .non, y => match y with | .non => true | _ => false
  | .bl a, y => match y with | .bl b => a == b | .int j => bI a == j | _ => false
  | .int i, y => match y with | .bl b => i == bI b | .int j => i == j | _ => false
  | .str x, y => match y with | .str z => x == z | _ => false
  | .tup xs, y => match y with | .tup ys => eqDs xs ys | _ => false
  | .lst xs, y => match y with | .lst ys => eqDs xs ys | _ => false
  | .dct _, _ => false
  | .cel _, _ => false
def eqDs : List D → List D → Bool
  | [], ys => match ys with | [] => true | _ :: _ => false
  | x :: xs, ys => match ys with | y :: ys => eqD x y && eqDs xs ys | [] => false
end
/-- is made of what == takes, to a depth -/
def pl : Nat → D → Bool
  | _, .non => true
  | _, .bl _ => true
  | _, .int _ => true
  | _, .str x => PyData.strOk x
  | n + 1, .tup ds => ds.all (pl n)
  | n + 1, .lst ds => ds.all (pl n)
  | _, _ => false
mutual
/-- no list, no dict in it -/
def flat : D → Bool
  | .tup ds => flats ds
  | .lst _ => false
  | .dct _ => false
  | .non => true
  | .bl _ => true
  | .int _ => true
  | .str _ => true
  | .cel _ => true
def flats : List D → Bool
  | [] => true
  | d :: ds => flat d && flats ds
end
/-- it cannot be one of the lists that were handed in -/
def noAl : Bool → D → Bool
  | false, d => flat d
  | true, .lst ds => flats ds
  | true, .dct kvs => flats (kvs.map (·.2))
  | true, _ => false
def lim : Nat := 4000000
def smI (i : Int) : Bool := decide (i.natAbs < 2 ^ 6000)
def truthD : D → Option Bool
  | .non => some false
  | .bl b => some b
  | .int i => some (i != 0)
  | .str x => if x.length ≤ lim then some ((x.length : Int) != 0) else none
  | .tup ds => some (!ds.isEmpty)
  | .lst ds => some (!ds.isEmpty)
  | .dct kvs => some (!kvs.isEmpty)
  | .cel _ => none
def binD : Op → D → D → Option (Bool × D)
  | .add, .int i, .int j => some (false, .int (i + j))
  | .add, .lst xs, .lst ys => if xs.length + ys.length ≤ lim then some (true, .lst (xs ++ ys)) else none
  | .add, .str x, .str y => if x.length + y.length ≤ lim then some (false, .str (x ++ y)) else none
  | .add, .tup xs, .tup ys => if xs.length + ys.length ≤ lim && !xs.isEmpty then some (false, .tup (xs ++ ys)) else none
  | .sub, .int i, .int j => some (false, .int (i - j))
  | .mul, .int i, .int j => if smI i && smI j then some (false, .int (i * j)) else none
  | .fdiv, .int i, .int j => if decide (0 < j) && smI j then some (false, .int (i / j)) else none
  | .mod, .int i, .int j => if 0 < j then some (false, .int (i % j)) else none
  | .pow, .int i, .int j => if decide (0 ≤ j) && decide (j ≤ 1000) && decide (i.natAbs < 2 ^ 64) then some (false, .int (i ^ j.toNat)) else none
  | _, _, _ => none
def isNon : D → Bool
  | .non => true
  | _ => false
def cmpD : Cm → D → D → Option Bool
  | .eq, x, y => if pl 60 x && pl 60 y then some (eqD x y) else none
  | .ne, x, y => if pl 60 x && pl 60 y then some (!eqD x y) else none
  | .lt, .int i, .int j => some (decide (i < j))
  | .le, .int i, .int j => some (decide (i ≤ j))
  | .gt, .int i, .int j => some (decide (j < i))
  | .ge, .int i, .int j => some (decide (j ≤ i))
  | .lt, .str x, .str y => some (decide (x.cps.toList < y.cps.toList))
  | .le, .str x, .str y => some (!decide (y.cps.toList < x.cps.toList))
  | .gt, .str x, .str y => some (decide (y.cps.toList < x.cps.toList))
  | .ge, .str x, .str y => some (!decide (x.cps.toList < y.cps.toList))
  | .is, x, .non => some (isNon x)
  | .isn, x, .non => some (!isNon x)
  | .is, .bl a, .bl b => some (a == b)
  | .isn, .bl a, .bl b => some (a != b)
  | _, _, _ => none
def ixN (n : Nat) (i : Int) : Option Nat := if 0 ≤ i then (if i < n then some i.toNat else none) else if -(n : Int) ≤ i then some (i + n).toNat else none
def atD {α : Type} (xs : List α) (i : Int) : Option α := match ixN xs.length i with
  | some j => xs[j]?
  | none => none
def isKey : D → Bool
  | .int _ => true
  | .str _ => true
  | _ => false
def eqK : D → D → Bool
  | .int i, .int j => i == j
  | .str x, .str y => x == y
  | _, _ => false
def getD : List (D × D) → D → Option D
  | [], _ => none
  | (k, v) :: r, x => if eqK k x then some v else getD r x
def putD (kvs : List (D × D)) (k v : D) : List (D × D) := if kvs.any (fun p => eqK p.1 k) then kvs.map (fun p => if eqK p.1 k then (p.1, v) else p) else kvs ++ [(k, v)]
def mkD : List D → List (D × D) → Option (List (D × D))
  | [], a => some a
  | k :: v :: r, a => if isKey k then mkD r (putD a k v) else none
  | _, _ => none
def ixD : D → D → Option D
  | .lst xs, .int i => atD xs i
  | .tup xs, .int i => atD xs i
  | .dct kvs, k => if isKey k then getD kvs k else none
  | .str x, .int i => if x.length ≤ lim then (atD x.cps.toList i).map fun c => .str ⟨#[c]⟩ else none
  | _, _ => none
/-- is it in it -/
def inD : D → D → Option Bool
  | .str x, .str y => match x.cps.toList with
    | [c] => some (decide (c ∈ y.cps.toList))
    | _ => none
  | x, .lst ys => if pl 60 x && pl 60 (.lst ys) then some (ys.any fun z => eqD z x) else none
  | k, .dct kvs => if isKey k then some (getD kvs k).isSome else none
  | _, _ => none
def sIxD (n d : Nat) : Option Int → Nat
  | none => d
  | some v => if v < 0 then (v + (n : Int)).toNat else min v.toNat n
def cutD {α : Type} (xs : List α) (lo hi : Option Int) : List α := (xs.drop (sIxD xs.length 0 lo)).take (sIxD xs.length xs.length hi - sIxD xs.length 0 lo)
def slD : D → Option Int → Option Int → Option (Bool × D)
  | .lst xs, lo, hi => some (true, .lst (cutD xs lo hi))
  | .tup xs, lo, hi => some (false, .tup (cutD xs lo hi))
  | _, _, _ => none
mutual
def toPy : D → PyData
  | .non => .none
  | .bl b => .bool b
  | .int i => .int i
  | .str x => .str x
  | .tup ds => .tuple (toPys ds)
  | .lst ds => .list (toPys ds)
  | .dct _ => .none
  | .cel _ => .none
def toPys : List D → List PyData
  | [] => []
  | d :: ds => toPy d :: toPys ds
end
def intsD : List D → Option (List Int)
  | [] => some []
  | .int i :: r => (intsD r).map (i :: ·)
  | _ :: _ => none
def blsD : List D → Option (List Bool)
  | [] => some []
  | .bl i :: r => (blsD r).map (i :: ·)
  | _ :: _ => none
def biD : Bi → List D → Cells → Option (Bool × D)
  | .len, [.lst xs], _ => some (false, .int xs.length)
  | .len, [.tup xs], _ => some (false, .int xs.length)
  | .len, [.dct xs], _ => some (false, .int xs.length)
  | .len, [.cel n], c => (c[n]?).map fun xs => (false, .int xs.length)
  | .abs, [.int i], _ => some (false, .int (if i < 0 then -i else i))
  | .max, [.int i, .int j], _ => some (false, .int (if j > i then j else i))
  | .min, [.int i, .int j], _ => some (false, .int (if j < i then j else i))
  | .sum, [.lst xs], _ => (intsD xs).map fun is => (false, .int is.sum)
  | .int, [.int i], _ => some (false, .int i)
  | .int, [.bl b], _ => some (false, .int (bI b))
  | .all, [.lst xs], _ => (blsD xs).map fun bs => (false, .bl (bs.all id))
  | .list, [.lst xs], _ => some (true, .lst xs)
  | .list, [.tup xs], _ => some (true, .lst xs)
  | .len, [.str x], _ => if x.length ≤ lim then some (false, .int x.length) else none
  | .repr, [.lst xs], _ => if pl 20 (.lst xs) && (toPy (.lst xs)).showable && decide ((toPy (.lst xs)).shown.length ≤ lim) then some (false, .str (toPy (.lst xs)).shown) else none
  | _, _, _ => none
def isD : D → Ty → Option Bool
  | .cel _, _ => none
  | .int _, .int => some true
  | .bl _, .int => some true
  | .bl _, .bool => some true
  | .str _, .str => some true
  | .tup _, .tup => some true
  | .lst _, .lst => some true
  | .dct _, .dct => some true
  | _, _ => some false
def rngD (a : Int) (n : Nat) : List D := (List.range n).map fun i => .int (a + (i : Nat))
def enuD : Nat → List D → List D
  | _, [] => []
  | n, d :: ds => .tup [.int n, d] :: enuD (n + 1) ds
def isRng (i : Int) : Bool := decide (-(2 ^ 60) ≤ i) && decide (i < 2 ^ 60)
def itD : Ik → List D → Option (List D)
  | .seq, [.lst xs] => some xs
  | .seq, [.tup xs] => some xs
  | .seq, [.dct kvs] => some (kvs.map (·.1))
  | .rng, [.int j] => if isRng j then some (rngD 0 j.toNat) else none
  | .rng, [.int i, .int j] => if isRng i && isRng j then some (rngD i (j - i).toNat) else none
  | .enu, [.lst xs] => some (enuD 0 xs)
  | .rev, [.lst xs] => some xs.reverse
  | .vals, [.dct kvs] => some (kvs.map (·.2))
  | .seq, [.str x] => some (x.cps.toList.map fun c => .str ⟨#[c]⟩)
  | .zip, [.lst xs, .lst ys] => some ((xs.zip ys).map fun p => .tup [p.1, p.2])
  | _, _ => none
/-! ### names -/
def setR (r : Row) (i : Nat) (x : Option (Bool × D)) : Row := r.set i x
mutual
def asg : Tg → D → Row → Option Row
  | .n i, d, r => some (r.set i (some (false, d)))
  | .t ts, d, r => match d with
    | .tup ds => asgs ts ds r
    | .lst ds => asgs ts ds r
    | _ => none
def asgs : List Tg → List D → Row → Option Row
  | [], ds, r => match ds with
    | [] => some r
    | _ :: _ => none
  | t :: ts, ds, r => match ds with
    | d :: ds => match asg t d r with
      | some r1 => asgs ts ds r1
      | none => none
    | [] => none
end
def wipeR : Row → List Nat → Row
  | r, [] => r
  | r, i :: is => (wipeR r is).set i none
def backR (old : Row) : Row → List Nat → Row
  | r, [] => r
  | r, i :: is => (backR old r is).set i (old[i]?.join)
def isPk : Ex → Bool
  | .v _ => true
  | .ite _ a b => isPk a || isPk b
  | .and a b => isPk a || isPk b
  | .or a b => isPk a || isPk b
  | _ => false
def frzR : List Ex → Row → Row
  | [], r => r
  | .v i :: es, r => match r[i]? with
    | some (some (true, d)) => frzR es (r.set i (some (false, d)))
    | _ => frzR es r
  | _ :: es, r => frzR es r
def anyO : List Ex → Row → Bool
  | [], _ => false
  | .v i :: es, r => match r[i]? with
    | some (some (true, _)) => true
    | _ => anyO es r
  | _ :: es, r => anyO es r
/-! ### expressions -/
/-- one turn after another -/
def lcL (f : D → S → R S (Option D)) : List D → S → List D → R S (List D)
  | [], s, acc => .ok acc s
  | x :: xs, s, acc => (f x s).b fun o s => match o with
    | some d => if acc.length < lim then lcL f xs s (acc ++ [d]) else .bad
    | none => lcL f xs s acc
def tru (d : Bool × D) (s : S) : R S Bool := R.of (truthD d.2) s
def callD (C : Cl) (f : Nat) (es : List Ex) (ds : List D) (s : S) : R S (Bool × D) :=
  (C f ds s.c).b fun od c => .ok od ⟨if anyO es s.r && !(noAl od.1 od.2 && c.all flats) then frzR es s.r else s.r, c⟩
def isV : Ex → Bool
  | .v _ => true
  | _ => false
/-- an owned dict that is walked is owned no more -/
def fzD : List Ex → Row → Row
  | [], r => r
  | .v i :: es, r => match r[i]? with
    | some (some (true, .dct k)) => fzD es (r.set i (some (false, .dct k)))
    | _ => fzD es r
  | _ :: es, r => fzD es r
def notOwn : List Nat → Row → Bool
  | [], _ => true
  | i :: is, r => match r[i]? with
    | some (some (true, _)) => false
    | _ => notOwn is r
mutual
def tgIn (own : List Nat) : Tg → Bool
  | .n i => own.contains i
  | .t ts => tgsIn own ts
def tgsIn (own : List Nat) : List Tg → Bool
  | [] => true
  | t :: ts => tgIn own t && tgsIn own ts
end
mutual
def ev (C : Cl) : Ex → S → R S (Bool × D)
  | .c d, s => .ok (false, d) s
  | .v i, s => match s.r[i]? with
    | some (some od) => .ok od s
    | _ => .bad
  | .fz i, s => match s.r[i]? with
    | some (some od) => .ok (false, od.2) ⟨s.r.set i (some (false, od.2)), s.c⟩
    | _ => .bad
  | .bin o a b, s => (ev C a s).b fun x s => (ev C b s).b fun y s => R.of (binD o x.2 y.2) s
  | .neg a, s => (ev C a s).b fun x s => match x.2 with
    | .int i => .ok (false, .int (-i)) s
    | _ => .bad
  | .cmp o a b, s => (ev C a s).b fun x s => (ev C b s).b fun y s => (R.of (cmpD o x.2 y.2) s).b fun t s => .ok (false, .bl t) s
  | .chn o p a b c, s => (ev C a s).b fun x s => (ev C b s).b fun y s => (R.of (cmpD o x.2 y.2) s).b fun t s =>
      if t then (ev C c s).b fun z s => (R.of (cmpD p y.2 z.2) s).b fun t s => .ok (false, .bl t) s else .ok (false, .bl false) s
  | .and a b, s => (ev C a s).b fun x s => (tru x s).b fun t s => if t then ev C b s else .ok x s
  | .or a b, s => (ev C a s).b fun x s => (tru x s).b fun t s => if t then .ok x s else ev C b s
  | .not a, s => (ev C a s).b fun x s => (tru x s).b fun t s => .ok (false, .bl (!t)) s
  | .ite c a b, s => (ev C c s).b fun x s => (tru x s).b fun t s => if t then ev C a s else ev C b s
  | .tup es, s => (evF C es s).b fun ds s => .ok (false, .tup ds) s
  | .lst es, s => (evF C es s).b fun ds s => .ok (true, .lst ds) s
  | .dct es, s => (evF C es s).b fun ds s => (R.of (mkD ds []) s).b fun kvs s => .ok (true, .dct kvs) s
  | .ix a b, s => (ev C a s).b fun x s => (ev C b s).b fun y s => (R.of (ixD x.2 y.2) s).b fun d s => .ok (false, d) s
  | .lc e t k its cond own, s => if !(tgIn own t && notOwn own s.r) then .bad else (evA C its s).b fun ds s => (R.of (itD k ds) ⟨fzD its s.r, s.c⟩).b fun xs s0 =>
      (lcL (fun x s => (R.of (asg t x (wipeR s.r own)) s).b fun r s => (evT C cond ⟨r, s.c⟩).b fun b s =>
        if b then (ev C e s).b fun y s => if y.1 && isPk e then .bad else .ok (some y.2) s else .ok none s) xs s0 []).b fun acc s => .ok (true, .lst acc) ⟨backR s0.r s.r own, s.c⟩
  | .call f es, s => (evA C es s).b fun ds s => callD C f es ds s
  | .callS f a es, s => (ev C a s).b fun x s => (evA C es s).b fun ds s => match x.2 with
    | .tup xs => callD C f es (xs ++ ds) s
    | _ => .bad
  | .bi b es, s => (evA C es s).b fun ds s => R.of (biD b ds s.c) s
  | .rep a b, s => (ev C a s).b fun x s => (ev C b s).b fun y s => match x, y.2 with
    | (true, .lst xs), .int j => if decide (xs.length * j.toNat ≤ lim) && isRng j && !isPk a then .ok (true, .lst (List.replicate j.toNat xs).flatten) s else .bad
    | _, _ => .bad
  | .cin n a b, s => (ev C a s).b fun x s => (ev C b s).b fun y s => (R.of (inD x.2 y.2) s).b fun t s => .ok (false, .bl (t != n)) s
  | .sl a lo hi, s => (ev C a s).b fun x s => (evO C lo s).b fun l s => (evO C hi s).b fun h s => R.of (slD x.2 l h) s
  | .gin n a _ g, s => (ev C a s).b fun x s => match x.2 with
    | .str z => .ok (false, .bl ((g.lookup z).isSome != n)) s
    | _ => .bad
  | .gix _ g a, s => (ev C a s).b fun x s => match x.2 with
    | .str z => match g.lookup z with
      | some i => .ok (false, .int i) s
      | none => .bad
    | _ => .bad
  | .gget _ g a, s => (ev C a s).b fun x s => match x.2 with
    | .str z => match g.lookup z with
      | some i => .ok (false, .int i) s
      | none => .ok (false, .non) s
    | _ => .bad
  | .isi a t, s => (ev C a s).b fun x s => (R.of (isD x.2 t) s).b fun t s => .ok (false, .bl t) s
  | .get a k d, s => (ev C a s).b fun x s => (ev C k s).b fun y s => (ev C d s).b fun z s => match x.2 with
    | .dct kvs => if isKey y.2 && !(z.1 && isPk d) then .ok (false, (getD kvs y.2).getD z.2) s else .bad
    | _ => .bad
  | .lrev a, s => (ev C a s).b fun x s => match x.2 with
    | .lst xs => .ok (true, .lst xs.reverse) s
    | _ => .bad
  | .pop i, s => match s.r[i]? with
    | some (some (_, .cel n)) => match s.c[n]? with
      | some xs => match xs.getLast? with
        | some d => .ok (false, d) ⟨s.r, s.c.set n xs.dropLast⟩
        | none => .bad
      | none => .bad
    | _ => .bad
/-- arguments: looked at alone -/
def evA (C : Cl) : List Ex → S → R S (List D)
  | [], s => .ok [] s
  | e :: es, s => (ev C e s).b fun x s => if x.1 && isPk e && !isV e then .bad else (evA C es s).b fun ds s => .ok (x.2 :: ds) s
/-- items: kept -/
def evF (C : Cl) : List Ex → S → R S (List D)
  | [], s => .ok [] s
  | e :: es, s => (ev C e s).b fun x s => if x.1 && isPk e then .bad else (evF C es s).b fun ds s => .ok (x.2 :: ds) s
def evT (C : Cl) : Option Ex → S → R S Bool
  | none, s => .ok true s
  | some e, s => (ev C e s).b fun x s => tru x s
/-- a slice's end -/
def evO (C : Cl) : Option Ex → S → R S (Option Int)
  | none, s => .ok none s
  | some e, s => (ev C e s).b fun x s => match x.2 with
    | .int i => .ok (some i) s
    | _ => .bad
end
/-! ### what raises -/
def flp (C : Cl) : Cl := fun f ds c => match C f ds c with
  | .exc e c => .ok (false, .int e) c
  | _ => .bad
/-- a call that raises -/
def xcl (C : Cl) : Ex → S → Option (Nat × Cells)
  | .call f es, s => match evA C es s with
    | .ok ds s1 => match callD (flp C) f es ds s1 with
      | .ok (false, .int e) s2 => some (e.toNat, s2.c)
      | _ => none
    | _ => none
  | _, _ => none
/-! ### statements -/
def forL (f : D → S → R S Fl) : List D → S → R S Fl
  | [], s => .ok .nx s
  | x :: xs, s => (f x s).b fun fl s => match fl with
    | .nx => forL f xs s
    | .ct => forL f xs s
    | .bk => .ok .nx s
    | .ret o d => .ok (.ret o d) s
def whlL (t : S → R S Bool) (f : S → R S Fl) : Nat → S → R S Fl
  | 0, _ => .bad
  | n + 1, s => (t s).b fun b s => if b then (f s).b fun fl s => match fl with
    | .nx => whlL t f n s
    | .ct => whlL t f n s
    | .bk => .ok .nx s
    | .ret o d => .ok (.ret o d) s else .ok .nx s
def turns : Nat := 10 ^ 18
def parR : List (Nat × Bool) → List (Bool × D) → Row → Option Row
  | [], [], r => some r
  | (i, o) :: is, d :: ds, r => parR is ds (r.set i (some (o && d.1, d.2)))
  | _, _, _ => none
def evP (C : Cl) : List Ex → S → R S (List (Bool × D))
  | [], s => .ok [] s
  | e :: es, s => (ev C e s).b fun x s => if x.1 && isPk e then .bad else (evP C es s).b fun ds s => .ok (x :: ds) s
mutual
def xe (C : Cl) : Sx → S → R S Fl
  | .set i e, s => (ev C e s).b fun x s => if x.1 && isPk e then .bad else .ok .nx ⟨s.r.set i (some (false, x.2)), s.c⟩
  | .own i e, s => (ev C e s).b fun x s => if x.1 && isPk e then .bad else .ok .nx ⟨s.r.set i (some x), s.c⟩
  | .mkc i e, s => (ev C e s).b fun x s => match x with
    | (true, .lst ds) => if isPk e then .bad else .ok .nx ⟨s.r.set i (some (false, .cel s.c.length)), s.c ++ [ds]⟩
    | _ => .bad
  | .unp t e, s => (ev C e s).b fun x s => if x.1 && isPk e then .bad else (R.of (asg t x.2 s.r) s).b fun r s => .ok .nx ⟨r, s.c⟩
  | .par is es, s => (evP C es s).b fun ds s => (R.of (parR is ds s.r) s).b fun r s => .ok .nx ⟨r, s.c⟩
  | .aug i o e, s => match s.r[i]? with
    | some (some (_, .int n)) => (ev C e s).b fun y s => match o, y.2 with
      | .add, .int m => .ok .nx ⟨s.r.set i (some (false, .int (n + m))), s.c⟩
      | .sub, .int m => .ok .nx ⟨s.r.set i (some (false, .int (n - m))), s.c⟩
      | _, _ => .bad
    | _ => .bad
  | .app i e, s => (ev C e s).b fun x s => if x.1 && isPk e then .bad else match s.r[i]? with
    | some (some (true, .lst ds)) => if ds.length < lim then .ok .nx ⟨s.r.set i (some (true, .lst (ds ++ [x.2]))), s.c⟩ else .bad
    | _ => .bad
  | .put i k e, s => (ev C e s).b fun x s => if x.1 && isPk e then .bad else (ev C k s).b fun y s => match s.r[i]? with
    | some (some (true, .dct kvs)) => if isKey y.2 && decide (kvs.length < lim) then .ok .nx ⟨s.r.set i (some (true, .dct (putD kvs y.2 x.2))), s.c⟩ else .bad
    | _ => .bad
  | .expr e, s => (ev C e s).b fun _ s => .ok .nx s
  | .ret e, s => (ev C e s).b fun x s => .ok (.ret x.1 x.2) s
  | .retN, s => .ok (.ret false .non) s
  | .ite c a b, s => (ev C c s).b fun x s => (tru x s).b fun t s => if t then xes C a s else xes C b s
  | .whl c b, s => whlL (fun s => (ev C c s).b fun x s => tru x s) (fun s => xes C b s) turns s
  | .for_ t k its b, s => (evF C its s).b fun ds s => (R.of (itD k ds) s).b fun xs s =>
      forL (fun x s => (R.of (asg t x s.r) s).b fun r s => xes C b ⟨r, s.c⟩) xs s
  | .pass, s => .ok .nx s
  | .brk, s => .ok .bk s
  | .cnt, s => .ok .ct s
  | .no, _ => .bad
  | .raise e, s => .exc e s.c
  | .tryF b tab, s => match xes C b s with
    | .ok fl s => .ok fl s
    | .exc _ _ => match xxs C b s with
      | some (e, c) => match tab.lookup e with
        | some d => .ok (.ret true d) ⟨List.replicate s.r.length none, c⟩
        | none => .bad
      | none => .bad
    | .bad => .bad
def xes (C : Cl) : List Sx → S → R S Fl
  | [], s => .ok .nx s
  | x :: xs, s => (xe C x s).b fun fl s => match fl with
    | .nx => xes C xs s
    | .ret o d => .ok (.ret o d) s
    | .bk => .ok .bk s
    | .ct => .ok .ct s
/-- the exception that it raises -/
def xx (C : Cl) : Sx → S → Option (Nat × Cells)
  | .expr e, s => xcl C e s
  | .ret e, s => xcl C e s
  | .raise e, s => some (e, s.c)
  | .ite c a b, s => match (ev C c s).b tru with
    | .ok t s => if t then xxs C a s else xxs C b s
    | _ => none
  | _, _ => none
def xxs (C : Cl) : List Sx → S → Option (Nat × Cells)
  | [], _ => none
  | x :: xs, s => match xx C x s with
    | some p => some p
    | none => match xe C x s with
      | .ok .nx s => xxs C xs s
      | _ => none
end
/-! ### defs -/
structure Fd where
  np : Nat
  nn : Nat
  body : List Sx
def frame (f : Fd) (ds : List D) : Row := ds.map (fun d => some (false, d)) ++ List.replicate (f.nn - f.np) none
/-- a program's defs, to a depth of calls -/
def call (T : List Fd) : Nat → Cl
  | 0, _, _, _ => .bad
  | k + 1, f, ds, c => match T[f]? with
    | none => .bad
    | some fd => if ds.length = fd.np then (match xes (call T k) fd.body ⟨frame fd ds, c⟩ with
      | .ok .nx s => .ok (false, .non) s.c
      | .ok (.ret o d) s => .ok (o, d) s.c
      | .exc _ _ => match xxs (call T k) fd.body ⟨frame fd ds, c⟩ with
        | some (e, c) => .exc e c
        | none => .bad
      | _ => .bad) else .bad
end Q
end

section
set_option Elab.async false
set_option linter.all false
set_option maxRecDepth 100000
set_option maxHeartbeats 4000000
namespace Q
open PySem
theorem R.b_eq {σ τ α β : Type} {r : R σ α} {f : α → σ → R τ β} {b : β} {t : τ} (h : r.b f = .ok b t) : ∃ a s, r = .ok a s ∧ f a s = .ok b t := by
  cases r with
  | ok a s => exact ⟨a, s, rfl, h⟩
  | exc e c => cases h
  | bad => cases h
theorem R.of_eq {σ α : Type} {o : Option α} {s t : σ} {a : α} (h : R.of o s = .ok a t) : o = some a ∧ s = t := by
  cases o with
  | some x => cases h; exact ⟨rfl, rfl⟩
  | none => cases h
/-- names stay, but for what is no more owned -/
def FolX (own : List Nat) (r r' : Row) : Prop := r'.length = r.length ∧ ∀ i, i ∉ own → r'[i]? = r[i]? ∨ ∃ d, r[i]? = some (some (true, d)) ∧ r'[i]? = some (some (false, d))
def Fol (r r' : Row) : Prop := FolX [] r r'
section
variable {own : List Nat} {r r1 r2 : Row}
theorem FolX.refl (r : Row) : FolX own r r := ⟨rfl, fun _ _ => .inl rfl⟩
theorem FolX.trans (a : FolX own r r1) (b : FolX own r1 r2) : FolX own r r2 := ⟨b.1.trans a.1, fun i n => by
  rcases a.2 i n with x | ⟨d, x, y⟩
  · rw [← x]; exact b.2 i n
  · rcases b.2 i n with z | ⟨e, z, w⟩
    · exact .inr ⟨d, x, by rw [z]; exact y⟩
    · rw [y] at z; cases z⟩
theorem FolX.frz {i : Nat} {o : Bool} {d : D} (h : r[i]? = some (some (o, d))) : FolX own r (r.set i (some (false, d))) := ⟨by simp, fun j _ => by
  by_cases e : j = i
  · subst e
    have hl : j < r.length := (List.getElem?_eq_some_iff.mp h).1
    cases o with
    | true => exact .inr ⟨d, h, by simp [hl]⟩
    | false => exact .inl (by rw [h]; simp [hl])
  · exact .inl (by rw [List.getElem?_set_ne (fun x => e x.symm)])⟩
theorem Fol.x (a : Fol r r1) : FolX own r r1 := ⟨a.1, fun i _ => a.2 i (by simp)⟩
theorem fol_frzR : ∀ (es : List Ex) (r : Row), Fol r (frzR es r)
  | [], r => FolX.refl r
  | .v i :: es, r => by
    unfold frzR
    split
    · rename_i d h
      exact (FolX.frz h).trans (fol_frzR es _)
    · exact fol_frzR es r
  | .c _ :: es, r => fol_frzR es r
  | .fz _ :: es, r => fol_frzR es r
  | .bin _ _ _ :: es, r => fol_frzR es r
  | .neg _ :: es, r => fol_frzR es r
  | .cmp _ _ _ :: es, r => fol_frzR es r
  | .chn _ _ _ _ _ :: es, r => fol_frzR es r
  | .and _ _ :: es, r => fol_frzR es r
  | .or _ _ :: es, r => fol_frzR es r
  | .not _ :: es, r => fol_frzR es r
  | .ite _ _ _ :: es, r => fol_frzR es r
  | .tup _ :: es, r => fol_frzR es r
  | .lst _ :: es, r => fol_frzR es r
  | .dct _ :: es, r => fol_frzR es r
  | .ix _ _ :: es, r => fol_frzR es r
  | .lc _ _ _ _ _ _ :: es, r => fol_frzR es r
  | .call _ _ :: es, r => fol_frzR es r
  | .callS _ _ _ :: es, r => fol_frzR es r
  | .bi _ _ :: es, r => fol_frzR es r
  | .isi _ _ :: es, r => fol_frzR es r
  | .get _ _ _ :: es, r => fol_frzR es r
  | .cin _ _ _ :: es, r => fol_frzR es r
  | .rep _ _ :: es, r => fol_frzR es r
  | .sl _ _ _ :: es, r => fol_frzR es r
  | .gin _ _ _ _ :: es, r => fol_frzR es r
  | .gix _ _ _ :: es, r => fol_frzR es r
  | .gget _ _ _ :: es, r => fol_frzR es r
  | .lrev _ :: es, r => fol_frzR es r
  | .pop _ :: es, r => fol_frzR es r
theorem fol_fzD : ∀ (es : List Ex) (r : Row), Fol r (fzD es r)
  | [], r => FolX.refl r
  | .v i :: es, r => by
    unfold fzD
    split
    · rename_i d h
      exact (FolX.frz h).trans (fol_fzD es _)
    · exact fol_fzD es r
  | .c _ :: es, r => fol_fzD es r
  | .fz _ :: es, r => fol_fzD es r
  | .bin _ _ _ :: es, r => fol_fzD es r
  | .neg _ :: es, r => fol_fzD es r
  | .cmp _ _ _ :: es, r => fol_fzD es r
  | .chn _ _ _ _ _ :: es, r => fol_fzD es r
  | .and _ _ :: es, r => fol_fzD es r
  | .or _ _ :: es, r => fol_fzD es r
  | .not _ :: es, r => fol_fzD es r
  | .ite _ _ _ :: es, r => fol_fzD es r
  | .tup _ :: es, r => fol_fzD es r
  | .lst _ :: es, r => fol_fzD es r
  | .dct _ :: es, r => fol_fzD es r
  | .ix _ _ :: es, r => fol_fzD es r
  | .lc _ _ _ _ _ _ :: es, r => fol_fzD es r
  | .call _ _ :: es, r => fol_fzD es r
  | .callS _ _ _ :: es, r => fol_fzD es r
  | .bi _ _ :: es, r => fol_fzD es r
  | .isi _ _ :: es, r => fol_fzD es r
  | .get _ _ _ :: es, r => fol_fzD es r
  | .cin _ _ _ :: es, r => fol_fzD es r
  | .rep _ _ :: es, r => fol_fzD es r
  | .sl _ _ _ :: es, r => fol_fzD es r
  | .gin _ _ _ _ :: es, r => fol_fzD es r
  | .gix _ _ _ :: es, r => fol_fzD es r
  | .gget _ _ _ :: es, r => fol_fzD es r
  | .lrev _ :: es, r => fol_fzD es r
  | .pop _ :: es, r => fol_fzD es r
theorem wipe_len : ∀ (r : Row) (is : List Nat), (wipeR r is).length = r.length
  | r, [] => rfl
  | r, i :: is => by simp [wipeR, wipe_len r is]
theorem wipe_out' : ∀ (r : Row) (is : List Nat) (i : Nat), i ∉ is → (wipeR r is)[i]? = r[i]?
  | r, [], i, _ => rfl
  | r, j :: is, i, h => by
    simp only [List.mem_cons, not_or] at h
    simp only [wipeR]
    rw [List.getElem?_set_ne (fun x => h.1 x.symm), wipe_out' r is i h.2]
theorem wipe_in : ∀ (r : Row) (is : List Nat) (i : Nat) (x : Bool × D), (wipeR r is)[i]? = some (some x) → i ∉ is ∧ r[i]? = some (some x)
  | r, [], i, x, h => ⟨by simp, h⟩
  | r, j :: is, i, x, h => by
    simp only [wipeR] at h
    by_cases e : j = i
    · subst e
      rw [List.getElem?_set_self'] at h
      cases g : (wipeR r is)[j]? <;> simp [g] at h
    · rw [List.getElem?_set_ne e] at h
      have := wipe_in r is i x h
      exact ⟨by simp [this.1, Ne.symm e], this.2⟩
theorem fol_wipe (r : Row) : FolX own r (wipeR r own) := ⟨wipe_len r own, fun i n => .inl (wipe_out' r own i n)⟩
mutual
theorem fol_asg : ∀ (t : Tg) (d : D) (r r1 : Row), tgIn own t = true → asg t d r = some r1 → FolX own r r1
  | .n i, d, r, r1, h, e => by
    cases e
    refine ⟨by simp, fun j n => .inl ?_⟩
    rw [List.getElem?_set_ne]
    intro x; subst x
    simp [tgIn] at h
    exact n h
  | .t ts, d, r, r1, h, e => by
    cases d <;> simp only [asg, reduceCtorEq] at e
    · exact fol_asgs ts _ r r1 (by simpa [tgIn] using h) e
    · exact fol_asgs ts _ r r1 (by simpa [tgIn] using h) e
theorem fol_asgs : ∀ (t : List Tg) (d : List D) (r r1 : Row), tgsIn own t = true → asgs t d r = some r1 → FolX own r r1
  | [], d, r, r1, h, e => by
    cases d with
    | nil => cases e; exact FolX.refl r
    | cons _ _ => cases e
  | t :: ts, d, r, r1, h, e => by
    cases d with
    | nil => cases e
    | cons d ds =>
      simp only [asgs] at e
      simp only [tgsIn, Bool.and_eq_true] at h
      split at e
      · rename_i r2 h2
        exact (fol_asg t d r r2 h.1 h2).trans (fol_asgs ts ds r2 r1 h.2 e)
      · cases e
end
theorem back_len : ∀ (old r : Row) (is : List Nat), (backR old r is).length = r.length
  | old, r, [] => rfl
  | old, r, i :: is => by simp [backR, back_len old r is]
theorem back_in : ∀ (old r : Row) (is : List Nat) (i : Nat), r.length = old.length → i ∈ is → (backR old r is)[i]? = old[i]?
  | old, r, [], i, _, h => by simp at h
  | old, r, j :: is, i, l, h => by
    simp only [backR]
    by_cases e : j = i
    · subst e
      rw [List.getElem?_set_self', ]
      have hb := back_len old r is
      by_cases x : j < old.length
      · rw [List.getElem?_eq_getElem (show j < (backR old r is).length by omega), List.getElem?_eq_getElem x]; rfl
      · rw [List.getElem?_eq_none (show (backR old r is).length ≤ j by omega), List.getElem?_eq_none (show old.length ≤ j by omega)]; rfl
    · rw [List.getElem?_set_ne e]
      exact back_in old r is i l (by simpa [Ne.symm e] using h)
theorem back_out : ∀ (old r : Row) (is : List Nat) (i : Nat), i ∉ is → (backR old r is)[i]? = r[i]?
  | old, r, [], i, _ => rfl
  | old, r, j :: is, i, h => by
    simp only [List.mem_cons, not_or] at h
    simp only [backR]
    rw [List.getElem?_set_ne (fun x => h.1 x.symm), back_out old r is i h.2]
theorem fol_back (h : FolX own r r1) : Fol r (backR r r1 own) := ⟨(back_len r r1 own).trans h.1, fun i _ => by
  by_cases m : i ∈ own
  · exact .inl (back_in r r1 own i h.1 m)
  · rw [back_out r r1 own i m]; exact h.2 i m⟩
theorem fol_lcL {f : D → S → R S (Option D)} (hf : ∀ x s o s', f x s = .ok o s' → FolX own s.r s'.r) : ∀ (xs : List D) (s : S) (acc : List D) (out : List D) (s' : S), lcL f xs s acc = .ok out s' → FolX own s.r s'.r
  | [], s, acc, out, s', h => by cases h; exact FolX.refl _
  | x :: xs, s, acc, out, s', h => by
    obtain ⟨o, s1, h1, h2⟩ := R.b_eq h
    have a := hf x s o s1 h1
    cases o with
    | none => exact a.trans (fol_lcL hf xs s1 acc out s' h2)
    | some d =>
      simp only at h2
      split at h2
      · exact a.trans (fol_lcL hf xs s1 _ out s' h2)
      · cases h2
theorem fol_callD {C : Cl} {f : Nat} {es : List Ex} {ds : List D} {s s' : S} {od : Bool × D} (h : callD C f es ds s = .ok od s') : Fol s.r s'.r := by
  obtain ⟨o, c, h1, h2⟩ := R.b_eq h
  cases h2
  show Fol s.r (if _ then _ else _)
  split
  · exact fol_frzR es s.r
  · exact FolX.refl _
end
theorem tru_eq {x : Bool × D} {s s' : S} {b : Bool} (h : tru x s = .ok b s') : truthD x.2 = some b ∧ s = s' := R.of_eq h
variable {C : Cl}
mutual
theorem fol_ev : ∀ (x : Ex) (s : S) (od : Bool × D) (s' : S), ev C x s = .ok od s' → Fol s.r s'.r
  | .c d, s, od, s', h => by cases h; exact FolX.refl _
  | .v i, s, od, s', h => by
    simp only [ev] at h
    split at h
    · cases h; exact FolX.refl _
    · cases h
  | .fz i, s, od, s', h => by
    simp only [ev] at h
    split at h
    · rename_i od' e
      cases h
      exact FolX.frz (o := od'.1) (d := od'.2) e
    · cases h
  | .bin o a b, s, od, s', h => by
    obtain ⟨x, s1, h1, h⟩ := R.b_eq h
    obtain ⟨y, s2, h2, h⟩ := R.b_eq h
    obtain ⟨h3, rfl⟩ := R.of_eq h
    exact (fol_ev a _ _ _ h1).trans (fol_ev b _ _ _ h2)
  | .neg a, s, od, s', h => by
    obtain ⟨x, s1, h1, h⟩ := R.b_eq h
    split at h
    · cases h; exact fol_ev a _ _ _ h1
    · cases h
  | .cmp o a b, s, od, s', h => by
    obtain ⟨x, s1, h1, h⟩ := R.b_eq h
    obtain ⟨y, s2, h2, h⟩ := R.b_eq h
    obtain ⟨t, s3, h3, h⟩ := R.b_eq h
    obtain ⟨h3, rfl⟩ := R.of_eq h3
    cases h
    exact (fol_ev a _ _ _ h1).trans (fol_ev b _ _ _ h2)
  | .chn o p a b c, s, od, s', h => by
    obtain ⟨x, s1, h1, h⟩ := R.b_eq h
    obtain ⟨y, s2, h2, h⟩ := R.b_eq h
    obtain ⟨t, s3, h3, h⟩ := R.b_eq h
    obtain ⟨h3, rfl⟩ := R.of_eq h3
    have f := (fol_ev a _ _ _ h1).trans (fol_ev b _ _ _ h2)
    split at h
    · obtain ⟨z, s4, h4, h⟩ := R.b_eq h
      obtain ⟨t2, s5, h5, h⟩ := R.b_eq h
      obtain ⟨h5, rfl⟩ := R.of_eq h5
      cases h
      exact f.trans (fol_ev c _ _ _ h4)
    · cases h; exact f
  | .and a b, s, od, s', h => by
    obtain ⟨x, s1, h1, h⟩ := R.b_eq h
    obtain ⟨t, s2, h2, h⟩ := R.b_eq h
    obtain ⟨h2, rfl⟩ := tru_eq h2
    have f := fol_ev a _ _ _ h1
    split at h
    · exact f.trans (fol_ev b _ _ _ h)
    · cases h; exact f
  | .or a b, s, od, s', h => by
    obtain ⟨x, s1, h1, h⟩ := R.b_eq h
    obtain ⟨t, s2, h2, h⟩ := R.b_eq h
    obtain ⟨h2, rfl⟩ := tru_eq h2
    have f := fol_ev a _ _ _ h1
    split at h
    · cases h; exact f
    · exact f.trans (fol_ev b _ _ _ h)
  | .not a, s, od, s', h => by
    obtain ⟨x, s1, h1, h⟩ := R.b_eq h
    obtain ⟨t, s2, h2, h⟩ := R.b_eq h
    obtain ⟨h2, rfl⟩ := tru_eq h2
    cases h
    exact fol_ev a _ _ _ h1
  | .ite c a b, s, od, s', h => by
    obtain ⟨x, s1, h1, h⟩ := R.b_eq h
    obtain ⟨t, s2, h2, h⟩ := R.b_eq h
    obtain ⟨h2, rfl⟩ := tru_eq h2
    have f := fol_ev c _ _ _ h1
    split at h
    · exact f.trans (fol_ev a _ _ _ h)
    · exact f.trans (fol_ev b _ _ _ h)
  | .tup es, s, od, s', h => by
    obtain ⟨x, s1, h1, h⟩ := R.b_eq h
    cases h
    exact fol_evF es _ _ _ h1
  | .lst es, s, od, s', h => by
    obtain ⟨x, s1, h1, h⟩ := R.b_eq h
    cases h
    exact fol_evF es _ _ _ h1
  | .dct es, s, od, s', h => by
    obtain ⟨x, s1, h1, h⟩ := R.b_eq h
    obtain ⟨z, s3, h3, h⟩ := R.b_eq h
    obtain ⟨h3, rfl⟩ := R.of_eq h3
    cases h
    exact fol_evF es _ _ _ h1
  | .ix a b, s, od, s', h => by
    obtain ⟨x, s1, h1, h⟩ := R.b_eq h
    obtain ⟨y, s2, h2, h⟩ := R.b_eq h
    obtain ⟨z, s3, h3, h⟩ := R.b_eq h
    obtain ⟨h3, rfl⟩ := R.of_eq h3
    cases h
    exact (fol_ev a _ _ _ h1).trans (fol_ev b _ _ _ h2)
  | .lc e t k its cond own, s, od, s', h => by
    simp only [ev] at h
    split at h
    · cases h
    rename_i ht
    have ht : tgIn own t = true := by
      cases g : tgIn own t with
      | true => rfl
      | false => rw [g] at ht; exact absurd rfl ht
    obtain ⟨ds, s1, h1, h⟩ := R.b_eq h
    obtain ⟨xs, s2, h2, h⟩ := R.b_eq h
    obtain ⟨h2, rfl⟩ := R.of_eq h2
    obtain ⟨acc, s3, h3, h⟩ := R.b_eq h
    cases h
    refine ((fol_evA its _ _ _ h1).trans (fol_fzD its s1.r)).trans (fol_back ?_)
    refine fol_lcL (fun x s o s' hx => ?_) xs _ [] acc s3 h3
    obtain ⟨r, s4, h4', hx⟩ := R.b_eq hx
    obtain ⟨h4, rfl⟩ := R.of_eq h4'
    have f1 : FolX own s.r r := (fol_wipe s.r).trans (fol_asg t x _ r ht h4)
    obtain ⟨b, s5, h5, hx⟩ := R.b_eq hx
    have f2 : FolX own s.r s5.r := f1.trans (Fol.x (fol_evT cond _ _ _ h5))
    split at hx
    · obtain ⟨y, s6, h6, hx⟩ := R.b_eq hx
      split at hx
      · cases hx
      · cases hx
        exact f2.trans (Fol.x (fol_ev e _ _ _ h6))
    · cases hx; exact f2
  | .call f es, s, od, s', h => by
    obtain ⟨x, s1, h1, h⟩ := R.b_eq h
    exact (fol_evA es _ _ _ h1).trans (fol_callD h)
  | .callS f a es, s, od, s', h => by
    obtain ⟨x, s1, h1, h⟩ := R.b_eq h
    obtain ⟨y, s2, h2, h⟩ := R.b_eq h
    split at h
    · exact ((fol_ev a _ _ _ h1).trans (fol_evA es _ _ _ h2)).trans (fol_callD h)
    · cases h
  | .bi b es, s, od, s', h => by
    obtain ⟨x, s1, h1, h⟩ := R.b_eq h
    obtain ⟨h2, rfl⟩ := R.of_eq h
    exact fol_evA es _ _ _ h1
  | .isi a t, s, od, s', h => by
    obtain ⟨x, s1, h1, h⟩ := R.b_eq h
    obtain ⟨z, s3, h3, h⟩ := R.b_eq h
    obtain ⟨h3, rfl⟩ := R.of_eq h3
    cases h
    exact fol_ev a _ _ _ h1
  | .rep a b, s, od, s', h => by
    obtain ⟨x, s1, h1, h⟩ := R.b_eq h
    obtain ⟨y, s2, h2, h⟩ := R.b_eq h
    split at h
    · split at h
      · cases h; exact (fol_ev a _ _ _ h1).trans (fol_ev b _ _ _ h2)
      · cases h
    · cases h
  | .cin n a b, s, od, s', h => by
    obtain ⟨x, s1, h1, h⟩ := R.b_eq h
    obtain ⟨y, s2, h2, h⟩ := R.b_eq h
    obtain ⟨t, s3, h3, h⟩ := R.b_eq h
    obtain ⟨h3, rfl⟩ := R.of_eq h3
    cases h
    exact (fol_ev a _ _ _ h1).trans (fol_ev b _ _ _ h2)
  | .sl a lo hi, s, od, s', h => by
    obtain ⟨x, s1, h1, h⟩ := R.b_eq h
    obtain ⟨y, s2, h2, h⟩ := R.b_eq h
    obtain ⟨z, s3, h3, h⟩ := R.b_eq h
    obtain ⟨h4, rfl⟩ := R.of_eq h
    exact ((fol_ev a _ _ _ h1).trans (fol_evO lo _ _ _ h2)).trans (fol_evO hi _ _ _ h3)
  | .gin n a x g, s, od, s', h => by
    obtain ⟨x, s1, h1, h⟩ := R.b_eq h
    split at h
    · cases h; exact fol_ev a _ _ _ h1
    · cases h
  | .gix x g a, s, od, s', h => by
    obtain ⟨x, s1, h1, h⟩ := R.b_eq h
    split at h
    · split at h
      · cases h; exact fol_ev a _ _ _ h1
      · cases h
    · cases h
  | .gget x g a, s, od, s', h => by
    obtain ⟨x, s1, h1, h⟩ := R.b_eq h
    split at h
    · split at h
      · cases h; exact fol_ev a _ _ _ h1
      · cases h; exact fol_ev a _ _ _ h1
    · cases h
  | .get a k d, s, od, s', h => by
    obtain ⟨x, s1, h1, h⟩ := R.b_eq h
    obtain ⟨y, s2, h2, h⟩ := R.b_eq h
    obtain ⟨z, s3, h3, h⟩ := R.b_eq h
    have f := ((fol_ev a _ _ _ h1).trans (fol_ev k _ _ _ h2)).trans (fol_ev d _ _ _ h3)
    split at h
    · split at h
      · cases h; exact f
      · cases h
    · cases h
  | .lrev a, s, od, s', h => by
    obtain ⟨x, s1, h1, h⟩ := R.b_eq h
    split at h
    · cases h; exact fol_ev a _ _ _ h1
    · cases h
  | .pop i, s, od, s', h => by
    simp only [ev] at h
    split at h
    · split at h
      · split at h
        · cases h; exact FolX.refl _
        · cases h
      · cases h
    · cases h
theorem fol_evA : ∀ (es : List Ex) (s : S) (ds : List D) (s' : S), evA C es s = .ok ds s' → Fol s.r s'.r
  | [], s, od, s', h => by cases h; exact FolX.refl _
  | e :: es, s, od, s', h => by
    obtain ⟨x, s1, h1, h⟩ := R.b_eq h
    split at h
    · cases h
    · obtain ⟨y, s2, h2, h⟩ := R.b_eq h
      cases h
      exact (fol_ev e _ _ _ h1).trans (fol_evA es _ _ _ h2)
theorem fol_evF : ∀ (es : List Ex) (s : S) (ds : List D) (s' : S), evF C es s = .ok ds s' → Fol s.r s'.r
  | [], s, od, s', h => by cases h; exact FolX.refl _
  | e :: es, s, od, s', h => by
    obtain ⟨x, s1, h1, h⟩ := R.b_eq h
    split at h
    · cases h
    · obtain ⟨y, s2, h2, h⟩ := R.b_eq h
      cases h
      exact (fol_ev e _ _ _ h1).trans (fol_evF es _ _ _ h2)
theorem fol_evT : ∀ (e : Option Ex) (s : S) (b : Bool) (s' : S), evT C e s = .ok b s' → Fol s.r s'.r
  | none, s, od, s', h => by cases h; exact FolX.refl _
  | some e, s, od, s', h => by
    obtain ⟨x, s1, h1, h⟩ := R.b_eq h
    obtain ⟨h2, rfl⟩ := tru_eq h
    exact fol_ev e _ _ _ h1
theorem fol_evO : ∀ (e : Option Ex) (s : S) (b : Option Int) (s' : S), evO C e s = .ok b s' → Fol s.r s'.r
  | none, s, od, s', h => by cases h; exact FolX.refl _
  | some e, s, od, s', h => by
    obtain ⟨x, s1, h1, h⟩ := R.b_eq h
    split at h
    · cases h; exact fol_ev e _ _ _ h1
    · cases h
end
end Q
end

section
set_option Elab.async false
set_option linter.all false
set_option maxRecDepth 100000
set_option maxHeartbeats 4000000
namespace Q
open PySem PySem.Spec PyProof.Rows L2
/-- what stands in G stands in H, maybe locked -/
def Le (G H : Hp) : Prop := ∀ a u, Rd G a u → Rd H a u
theorem Le.refl (G : Hp) : Le G G := fun _ _ h => h
theorem Le.trans {A B C : Hp} (h : Le A B) (k : Le B C) : Le A C := fun a u x => k a u (h a u x)
theorem Le.ex {G H : Hp} (h : Le G H) {a : Addr} {o : HO} (e : G a = some o) : ∃ u, H a = some u := by
  rcases h a o (.inl e) with x | ⟨_, x⟩ <;> exact ⟨_, x⟩
theorem Le.nov {G H : Hp} (h : Le G H) {a : Addr} (e : H a = none) : G a = none := by
  cases g : G a with
  | none => rfl
  | some o => obtain ⟨u, x⟩ := h.ex g; rw [e] at x; cases x
theorem Le.of {G H : Hp} (h : ∀ a o, G a = some o → H a = some o) : Le G H := fun a u r => by
  rcases r with x | ⟨od, x⟩
  · exact .inl (h _ _ x)
  · exact .inr ⟨od, h _ _ x⟩
theorem Le.new {H : Hp} {p : Addr} {o : HO} (h : H p = none) : Le H (upd H p o) := Le.of fun a u e => by
  rw [upd_ne (ne_of_none e h)]; exact e
theorem Le.add {G H : Hp} {p : Addr} {o : HO} (h : Le G H) (e : H p = some o) : Le (upd G p o) H := fun a u r => by
  by_cases x : a = p
  · subst x
    rcases r with y | ⟨od, y⟩
    · rw [upd_same] at y; cases y; exact .inl e
    · rw [upd_same] at y; cases y; exact .inr ⟨od, e⟩
  · refine h a u ?_
    rcases r with y | ⟨od, y⟩
    · rw [upd_ne x] at y; exact .inl y
    · rw [upd_ne x] at y; exact .inr ⟨od, y⟩
theorem Le.seqL {K : PySem.W.Frag} {G H : Hp} (h : Le G H) {a : Addr} {xs : List V} (s : SqL K G a xs) : SqL K H a xs := by
  rcases s with s | s
  · exact .inl (h _ _ s)
  · exact .inr s
theorem Le.seqT {K : PySem.W.Frag} {G H : Hp} (h : Le G H) {a : Addr} {xs : List V} (s : SqT K G a xs) : SqT K H a xs := by
  rcases s with s | s
  · exact .inl (h _ _ s)
  · exact .inr s
def keyD : D → Option Key
  | .int i => some (.inl i)
  | .str x => some (.inr x)
  | _ => none
mutual
inductive Rep (K : PySem.W.Frag) (cs : List Addr) (G : Hp) : V → D → Prop
  | non : Rep K cs G .non .non
  | bl (b : Bool) : Rep K cs G (.bl b) (.bl b)
  | int (i : Int) : Rep K cs G (.int i) (.int i)
  | str (x : Str) : Rep K cs G (.str x) (.str x)
  | tup {a : Addr} {vs : List V} {ds : List D} : SqT K G a vs → Reps K cs G vs ds → Rep K cs G (.ref a) (.tup ds)
  | lst {a : Addr} {vs : List V} {ds : List D} : SqL K G a vs → Reps K cs G vs ds → Rep K cs G (.ref a) (.lst ds)
  | dct {a : Addr} {kvs : List (Key × V)} {ds : List (D × D)} : Rd G a (.dK kvs) → RepK K cs G kvs ds → Rep K cs G (.ref a) (.dct ds)
  | cel {a : Addr} {n : Nat} : cs[n]? = some a → Rep K cs G (.ref a) (.cel n)
inductive Reps (K : PySem.W.Frag) (cs : List Addr) (G : Hp) : List V → List D → Prop
  | nil : Reps K cs G [] []
  | cons {v : V} {vs : List V} {d : D} {ds : List D} : Rep K cs G v d → Reps K cs G vs ds → Reps K cs G (v :: vs) (d :: ds)
inductive RepK (K : PySem.W.Frag) (cs : List Addr) (G : Hp) : List (Key × V) → List (D × D) → Prop
  | nil : RepK K cs G [] []
  | cons {k : Key} {v : V} {r : List (Key × V)} {kd d : D} {rd : List (D × D)} : keyD kd = some k → Rep K cs G v d → RepK K cs G r rd → RepK K cs G ((k, v) :: r) ((kd, d) :: rd)
end
def Pre (cs cs' : List Addr) : Prop := ∀ (n : Nat) (a : Addr), cs[n]? = some a → cs'[n]? = some a
theorem Pre.refl (cs : List Addr) : Pre cs cs := fun _ _ h => h
theorem Pre.trans {a b c : List Addr} (h : Pre a b) (k : Pre b c) : Pre a c := fun n x e => k n x (h n x e)
theorem Pre.mem {cs cs' : List Addr} (h : Pre cs cs') {a : Addr} (m : a ∈ cs) : a ∈ cs' := by
  obtain ⟨n, e⟩ := List.getElem?_of_mem m
  exact List.mem_of_getElem? (h n a e)
section
variable {K : PySem.W.Frag} {cs cs' : List Addr} {G G' : Hp}
mutual
theorem Rep.mono (p : Pre cs cs') (h : Le G G') : ∀ {v : V} {d : D}, Rep K cs G v d → Rep K cs' G' v d
  | _, _, .non => .non
  | _, _, .bl b => .bl b
  | _, _, .int b => .int b
  | _, _, .str b => .str b
  | _, _, .tup s r => .tup (h.seqT s) (Reps.mono p h r)
  | _, _, .lst s r => .lst (h.seqL s) (Reps.mono p h r)
  | _, _, .dct s r => .dct (h _ _ s) (RepK.mono p h r)
  | _, _, .cel e => .cel (p _ _ e)
theorem Reps.mono (p : Pre cs cs') (h : Le G G') : ∀ {v : List V} {d : List D}, Reps K cs G v d → Reps K cs' G' v d
  | _, _, .nil => .nil
  | _, _, .cons a b => .cons (Rep.mono p h a) (Reps.mono p h b)
theorem RepK.mono (p : Pre cs cs') (h : Le G G') : ∀ {v : List (Key × V)} {d : List (D × D)}, RepK K cs G v d → RepK K cs' G' v d
  | _, _, .nil => .nil
  | _, _, .cons e a b => .cons e (Rep.mono p h a) (RepK.mono p h b)
end
theorem Reps.len : ∀ {vs : List V} {ds : List D}, Reps K cs G vs ds → vs.length = ds.length
  | _, _, .nil => rfl
  | _, _, .cons _ r => by simp [r.len]
theorem Reps.get : ∀ {vs : List V} {ds : List D}, Reps K cs G vs ds → ∀ {i : Nat} {d : D}, ds[i]? = some d → ∃ v, vs[i]? = some v ∧ Rep K cs G v d
  | _, _, .nil, i, d, e => by simp at e
  | _, _, .cons a r, 0, d, e => by simp at e; subst e; exact ⟨_, rfl, a⟩
  | _, _, .cons a r, i + 1, d, e => by simpa using r.get (i := i) (by simpa using e)
theorem Reps.get' : ∀ {vs : List V} {ds : List D}, Reps K cs G vs ds → ∀ {i : Nat} {v : V}, vs[i]? = some v → ∃ d, ds[i]? = some d ∧ Rep K cs G v d
  | _, _, .nil, i, d, e => by simp at e
  | _, _, .cons a r, 0, d, e => by simp at e; subst e; exact ⟨_, rfl, a⟩
  | _, _, .cons a r, i + 1, d, e => by simpa using r.get' (i := i) (by simpa using e)
theorem Reps.app : ∀ {vs ws : List V} {ds es : List D}, Reps K cs G vs ds → Reps K cs G ws es → Reps K cs G (vs ++ ws) (ds ++ es)
  | _, _, _, _, .nil, s => s
  | _, _, _, _, .cons a r, s => .cons a (r.app s)
theorem Reps.rev : ∀ {vs : List V} {ds : List D}, Reps K cs G vs ds → Reps K cs G vs.reverse ds.reverse
  | _, _, .nil => .nil
  | _, _, .cons a r => by
    rw [List.reverse_cons, List.reverse_cons]
    exact r.rev.app (.cons a .nil)
theorem Reps.dropLast : ∀ {vs : List V} {ds : List D}, Reps K cs G vs ds → Reps K cs G vs.dropLast ds.dropLast
  | _, _, .nil => .nil
  | _, _, .cons a .nil => .nil
  | _, _, .cons a (.cons b r) => .cons a (Reps.dropLast (.cons b r))
theorem RepK.len : ∀ {vs : List (Key × V)} {ds : List (D × D)}, RepK K cs G vs ds → vs.length = ds.length
  | _, _, .nil => rfl
  | _, _, .cons _ _ r => by simp [r.len]
theorem Rep.int_inv {v : V} {i : Int} (r : Rep K cs G v (.int i)) : v = .int i := by cases r; rfl
theorem Rep.bl_inv {v : V} {i : Bool} (r : Rep K cs G v (.bl i)) : v = .bl i := by cases r; rfl
theorem Rep.str_inv {v : V} {i : Str} (r : Rep K cs G v (.str i)) : v = .str i := by cases r; rfl
theorem Rep.non_inv {v : V} (r : Rep K cs G v .non) : v = .non := by cases r; rfl
theorem Rep.tup_inv {v : V} {ds : List D} (r : Rep K cs G v (.tup ds)) : ∃ a vs, v = .ref a ∧ SqT K G a vs ∧ Reps K cs G vs ds := by cases r; exact ⟨_, _, rfl, ‹_›, ‹_›⟩
theorem Rep.lst_inv {v : V} {ds : List D} (r : Rep K cs G v (.lst ds)) : ∃ a vs, v = .ref a ∧ SqL K G a vs ∧ Reps K cs G vs ds := by cases r; exact ⟨_, _, rfl, ‹_›, ‹_›⟩
theorem Rep.dct_inv {v : V} {ds : List (D × D)} (r : Rep K cs G v (.dct ds)) : ∃ a vs, v = .ref a ∧ Rd G a (.dK vs) ∧ RepK K cs G vs ds := by cases r; exact ⟨_, _, rfl, ‹_›, ‹_›⟩
theorem Rep.cel_inv {v : V} {n : Nat} (r : Rep K cs G v (.cel n)) : ∃ a, v = .ref a ∧ cs[n]? = some a := by cases r; exact ⟨_, rfl, ‹_›⟩
end
/-! ### the world -/
/-- what a def was entered with: the heap, its frozen part; which dicts are locked -/
structure Bs where
  h0 : Hp
  g0 : Hp
  lk : List (Addr × Obj)
structure Wd (K : PySem.W.Frag) (B : Bs) (cs : List Addr) (G : Hp) (c : Cells) (H : Hp) : Prop where
  le : Le G H
  gl : Le B.g0 G
  gn : ∀ a o, G a = some o → B.g0 a ≠ none ∨ B.h0 a = none
  cg : ∀ a ∈ cs, G a = none
  nd : cs.Nodup
  len : c.length = cs.length
  cel : ∀ (n : Nat) (a : Addr) (ds : List D), cs[n]? = some a → c[n]? = some ds → ∃ vs, H a = some (.lst vs) ∧ Reps K cs G vs ds
  lok : ∀ p ∈ B.lk, ∃ kvs, G p.1 = some (.dK kvs) ∧ H p.1 = some (.frz p.2 (.dK kvs))
  fr : ∀ a o, B.h0 a = some o → a ∉ cs → H a = some o ∨ ∃ od, (a, od) ∈ B.lk ∧ H a = some (.frz od o)
/-- an owned list, dict at p -/
def Own (K : PySem.W.Frag) (cs : List Addr) (G H : Hp) (p : Addr) : D → Prop
  | .lst ds => ∃ vs, H p = some (.lst vs) ∧ Reps K cs G vs ds
  | .dct ds => ∃ vs, H p = some (.dK vs) ∧ RepK K cs G vs ds
  | _ => False
def ValR (K : PySem.W.Frag) (B : Bs) (cs : List Addr) (G H : Hp) : Bool → V → D → Prop
  | false, v, d => Rep K cs G v d
  | true, v, d => ∃ p, v = .ref p ∧ G p = none ∧ p ∉ cs ∧ B.h0 p = none ∧ Own K cs G H p d
structure En (K : PySem.W.Frag) (B : Bs) (cs : List Addr) (G H : Hp) (r : Row) (σ : L2.St) : Prop where
  len : σ.length = r.length
  val : ∀ (i : Nat) (o : Bool) (d : D), r[i]? = some (some (o, d)) → ∃ v, σ[i]? = some (some v) ∧ ValR K B cs G H o v d
  dis : ∀ (i j : Nat) (d e : D) (v : V), i ≠ j → r[i]? = some (some (true, d)) → r[j]? = some (some (true, e)) → σ[i]? = some (some v) → σ[j]? ≠ some (some v)
/-- as an operand -/
def Vw (K : PySem.W.Frag) (cs : List Addr) (G H : Hp) (v : V) (d : D) : Prop := Rep K cs G v d ∨ ∃ p, v = .ref p ∧ p ∉ cs ∧ Own K cs G H p d
structure Stp (cs : List Addr) (G H : Hp) (cs' : List Addr) (G' H' : Hp) : Prop where
  pre : Pre cs cs'
  new : ∀ a ∈ cs', a ∈ cs ∨ H a = none
  le : Le G G'
  keep : ∀ a o, a ∉ cs → H a = some o → H' a = some o
theorem Stp.refl (cs : List Addr) (G H : Hp) : Stp cs G H cs G H := ⟨Pre.refl _, fun _ h => .inl h, Le.refl _, fun _ _ _ h => h⟩
theorem Stp.trans {cs cs1 cs2 : List Addr} {G G1 G2 H H1 H2 : Hp} (a : Stp cs G H cs1 G1 H1) (b : Stp cs1 G1 H1 cs2 G2 H2) : Stp cs G H cs2 G2 H2 where
  pre := a.pre.trans b.pre
  new := fun x m => by
    rcases b.new x m with h | h
    · exact a.new x h
    · by_cases e : x ∈ cs
      · exact .inl e
      · right
        cases g : H x with
        | none => rfl
        | some o => rw [a.keep x o e g] at h; cases h
  le := a.le.trans b.le
  keep := fun x o n h => by
    have h1 := a.keep x o n h
    refine b.keep x o (fun m => ?_) h1
    rcases a.new x m with y | y
    · exact n y
    · rw [h] at y; cases y
section
variable {K : PySem.W.Frag} {cs cs' : List Addr} {B : Bs} {G G' H H' : Hp} {c c' : Cells} {r : Row} {σ : L2.St} {v : V} {d : D} {p : Addr} {o : HO}
theorem Own.mono (s : Stp cs G H cs' G' H') (n : p ∉ cs) (h : Own K cs G H p d) : Own K cs' G' H' p d := by
  cases d with
  | lst ds => obtain ⟨vs, e, r⟩ := h; exact ⟨vs, s.keep _ _ n e, r.mono s.pre s.le⟩
  | dct ds => obtain ⟨vs, e, r⟩ := h; exact ⟨vs, s.keep _ _ n e, r.mono s.pre s.le⟩
  | _ => exact h.elim
theorem Own.there (h : Own K cs G H p d) : ∃ o, H p = some o := by
  cases d with
  | lst ds => obtain ⟨vs, e, r⟩ := h; exact ⟨_, e⟩
  | dct ds => obtain ⟨vs, e, r⟩ := h; exact ⟨_, e⟩
  | _ => exact h.elim
theorem Stp.nin (s : Stp cs G H cs' G' H') (n : p ∉ cs) (e : H p = some o) : p ∉ cs' := fun m => by
  rcases s.new p m with y | y
  · exact n y
  · rw [e] at y; cases y
theorem Vw.mono (s : Stp cs G H cs' G' H') (h : Vw K cs G H v d) : Vw K cs' G' H' v d := by
  rcases h with h | ⟨p, e, n, h⟩
  · exact .inl (h.mono s.pre s.le)
  · obtain ⟨o, x⟩ := h.there
    exact .inr ⟨p, e, s.nin n x, h.mono s n⟩
theorem ValR.vw {b : Bool} (h : ValR K B cs G H b v d) : Vw K cs G H v d := by
  cases b with
  | false => exact .inl h
  | true => obtain ⟨p, e, _, n, _, h⟩ := h; exact .inr ⟨p, e, n, h⟩
theorem Vw.int {i : Int} (h : Vw K cs G H v (.int i)) : v = .int i := by
  rcases h with h | ⟨p, e, n, h⟩
  · exact h.int_inv
  · exact h.elim
theorem Vw.bl {i : Bool} (h : Vw K cs G H v (.bl i)) : v = .bl i := by
  rcases h with h | ⟨p, e, n, h⟩
  · exact h.bl_inv
  · exact h.elim
theorem Vw.str {i : Str} (h : Vw K cs G H v (.str i)) : v = .str i := by
  rcases h with h | ⟨p, e, n, h⟩
  · exact h.str_inv
  · exact h.elim
theorem Vw.non (h : Vw K cs G H v .non) : v = .non := by
  rcases h with h | ⟨p, e, n, h⟩
  · exact h.non_inv
  · exact h.elim
theorem Vw.lst {ds : List D} (le : Le G H) (h : Vw K cs G H v (.lst ds)) : ∃ a vs, v = .ref a ∧ SqL K H a vs ∧ Reps K cs G vs ds := by
  rcases h with h | ⟨p, e, n, h⟩
  · obtain ⟨a, vs, e, s, r⟩ := h.lst_inv
    exact ⟨a, vs, e, le.seqL s, r⟩
  · obtain ⟨vs, x, r⟩ := h
    exact ⟨p, vs, e, .of x, r⟩
theorem Vw.tup {ds : List D} (le : Le G H) (h : Vw K cs G H v (.tup ds)) : ∃ a vs, v = .ref a ∧ SqT K H a vs ∧ Reps K cs G vs ds := by
  rcases h with h | ⟨p, e, n, h⟩
  · obtain ⟨a, vs, e, s, r⟩ := h.tup_inv
    exact ⟨a, vs, e, le.seqT s, r⟩
  · exact h.elim
theorem Vw.dct {ds : List (D × D)} (le : Le G H) (h : Vw K cs G H v (.dct ds)) : ∃ a vs, v = .ref a ∧ Rd H a (.dK vs) ∧ RepK K cs G vs ds := by
  rcases h with h | ⟨p, e, n, h⟩
  · obtain ⟨a, vs, e, s, r⟩ := h.dct_inv
    exact ⟨a, vs, e, le _ _ s, r⟩
  · obtain ⟨vs, x, r⟩ := h
    exact ⟨p, vs, e, .inl x, r⟩
theorem Vw.cel {n : Nat} (h : Vw K cs G H v (.cel n)) : ∃ a, v = .ref a ∧ cs[n]? = some a := by
  rcases h with h | ⟨p, e, n, h⟩
  · exact h.cel_inv
  · exact h.elim
/-! ### a new object -/
theorem Wd.cut (w : Wd K B cs G c H) {a : Addr} (m : a ∈ cs) : ∃ vs, H a = some (.lst vs) := by
  obtain ⟨n, e⟩ := List.getElem?_of_mem m
  have hn : n < cs.length := (List.getElem?_eq_some_iff.mp e).1
  rw [← w.len] at hn
  obtain ⟨vs, h, _⟩ := w.cel n a c[n] e (List.getElem?_eq_getElem hn)
  exact ⟨vs, h⟩
theorem Wd.fresh (w : Wd K B cs G c H) (h : H p = none) : G p = none ∧ p ∉ cs ∧ B.h0 p = none := by
  have n : p ∉ cs := fun m => by obtain ⟨vs, e⟩ := w.cut m; rw [h] at e; cases e
  refine ⟨w.le.nov h, n, ?_⟩
  cases g : B.h0 p with
  | none => rfl
  | some o =>
    rcases w.fr p o g n with e | ⟨od, _, e⟩
    · rw [h] at e; cases e
    · rw [h] at e; cases e
theorem Stp.alloc (w : Wd K B cs G c H) (h : H p = none) : Stp cs G H cs G (upd H p o) :=
  ⟨Pre.refl _, fun _ h => .inl h, Le.refl _, fun a u _ e => by rw [upd_ne (ne_of_none e h)]; exact e⟩
theorem Wd.alloc (w : Wd K B cs G c H) (h : H p = none) : Wd K B cs G c (upd H p o) where
  le := w.le.trans (Le.new h)
  gl := w.gl
  gn := w.gn
  cg := w.cg
  nd := w.nd
  len := w.len
  cel := fun n a ds e1 e2 => by
    obtain ⟨vs, x, r⟩ := w.cel n a ds e1 e2
    exact ⟨vs, by rw [upd_ne (ne_of_none x h)]; exact x, r⟩
  lok := fun q m => by
    obtain ⟨u, x, y⟩ := w.lok q m
    exact ⟨u, x, by rw [upd_ne (ne_of_none y h)]; exact y⟩
  fr := fun a u e n => by
    rcases w.fr a u e n with x | ⟨od, m, x⟩
    · exact .inl (by rw [upd_ne (ne_of_none x h)]; exact x)
    · exact .inr ⟨od, m, by rw [upd_ne (ne_of_none x h)]; exact x⟩
/-- the frozen part grows by an object that stands -/
theorem Wd.grow (w : Wd K B cs G c H) (e : H p = some o) (n : p ∉ cs) (g : G p = none) (z : B.h0 p = none) : Wd K B cs (upd G p o) c H where
  le := w.le.add e
  gl := w.gl.trans (Le.new g)
  gn := fun a u x => by
    by_cases y : a = p
    · exact .inr (by rw [y]; exact z)
    · rw [upd_ne y] at x; exact w.gn a u x
  cg := fun a m => by
    rw [upd_ne (fun (x : a = p) => n (by rw [← x]; exact m))]; exact w.cg a m
  nd := w.nd
  len := w.len
  cel := fun i a ds e1 e2 => by
    obtain ⟨vs, x, r⟩ := w.cel i a ds e1 e2
    exact ⟨vs, x, r.mono (Pre.refl _) (Le.new g)⟩
  lok := fun q m => by
    obtain ⟨u, x, y⟩ := w.lok q m
    exact ⟨u, by rw [upd_ne (ne_of_none x g)]; exact x, y⟩
  fr := w.fr
theorem En.mono (e : En K B cs G H r σ) (s : Stp cs G H cs' G' H') (g : ∀ (i : Nat) (d : D) (p : Addr), r[i]? = some (some (true, d)) → σ[i]? = some (some (.ref p)) → G' p = none) : En K B cs' G' H' r σ where
  len := e.len
  val := fun i o d h => by
    obtain ⟨v, x, q⟩ := e.val i o d h
    refine ⟨v, x, ?_⟩
    cases o with
    | false => exact q.mono s.pre s.le
    | true =>
      obtain ⟨p, rfl, _, n, z, w⟩ := q
      obtain ⟨o, y⟩ := w.there
      exact ⟨p, rfl, g i d p h x, s.nin n y, z, w.mono s n⟩
  dis := e.dis
theorem En.alloc (e : En K B cs G H r σ) (w : Wd K B cs G c H) (h : H p = none) : En K B cs G (upd H p o) r σ := e.mono (Stp.alloc w h) fun i d q hi hs => by
  obtain ⟨v, x, y⟩ := e.val i true d hi
  rw [hs] at x; cases x
  obtain ⟨_, e1, g, _⟩ := y
  cases e1; exact g
end
end Q
end

section
set_option Elab.async false
set_option linter.all false
set_option maxRecDepth 100000
set_option maxHeartbeats 4000000
namespace Q
open PySem PySem.Spec PyProof.Rows L2
/-- it comes to an end with P -/
def Rn {σ α : Type} (r : R σ α) (P : α → σ → Prop) : Prop := match r with
  | .ok a s => P a s
  | _ => False
theorem Rn.ok {σ α : Type} {a : α} {s : σ} {P : α → σ → Prop} (h : P a s) : Rn (.ok a s) P := h
theorem Rn.b {σ τ α β : Type} {r : R σ α} {f : α → σ → R τ β} {P : β → τ → Prop} (h : Rn (r.b f) P) : Rn r fun a s => Rn (f a s) P := by
  cases r with
  | ok a s => exact h
  | exc e c => exact h.elim
  | bad => exact h.elim
theorem Rn.mono {σ α : Type} {r : R σ α} {P Q : α → σ → Prop} (h : Rn r P) (k : ∀ a s, P a s → Q a s) : Rn r Q := by
  cases r with
  | ok a s => exact k _ _ h
  | exc e c => exact h.elim
  | bad => exact h.elim
theorem Rn.of {σ α : Type} {o : Option α} {s : σ} {P : α → σ → Prop} (h : Rn (R.of o s) P) : ∃ a, o = some a ∧ P a s := by
  cases o with
  | some a => exact ⟨a, rfl, h⟩
  | none => exact h.elim
theorem Rn.eq {σ α : Type} {r : R σ α} {P : α → σ → Prop} (h : Rn r P) : ∃ a s, r = .ok a s ∧ P a s := by
  cases r with
  | ok a s => exact ⟨a, s, rfl, h⟩
  | exc e c => exact h.elim
  | bad => exact h.elim
structure At (K : PySem.W.Frag) (B : Bs) (cs : List Addr) (G : Hp) (s : S) (σ : L2.St) (H : Hp) : Prop where
  wd : Wd K B cs G s.c H
  en : En K B cs G H s.r σ
def Res (K : PySem.W.Frag) (B : Bs) (cs : List Addr) (G H : Hp) (s : S) (σ : L2.St) (pk : Bool) (vi : Option Nat) (od : Bool × D) (v : V) : Prop :=
  ValR K B cs G H od.1 v od.2 ∧ (od.1 = true → pk = false → ∀ (i : Nat) (e : D), s.r[i]? = some (some (true, e)) → σ[i]? ≠ some (some v)) ∧ ∀ i, vi = some i → σ[i]? = some (some v)
def vOf : Ex → Option Nat
  | .v i => some i
  | _ => none
/-- what an expression's end is worth -/
def Ps (K : PySem.W.Frag) (B : Bs) (cs : List Addr) (G H : Hp) (σ : L2.St) (pk : Bool) (vi : Option Nat) (Q : VK) (od : Bool × D) (s' : S) : Prop :=
  ∀ v cs' G' H', Stp cs G H cs' G' H' → At K B cs' G' s' σ H' → Res K B cs' G' H' s' σ pk vi od v → Q v H'
def tE (X : Cx) (C : Cl) (x : Ex) : TE := fun σ H Q => ∃ B cs G s, At X.K B cs G s σ H ∧ Rn (ev C x s) (Ps X.K B cs G H σ (isPk x) (vOf x) Q)
def tT (X : Cx) (C : Cl) (x : Ex) : TT := fun σ H Q => ∃ B cs G s, At X.K B cs G s σ H ∧ Rn ((ev C x s).b tru) fun b s' =>
  ∀ cs' G' H', Stp cs G H cs' G' H' → At X.K B cs' G' s' σ H' → Q b H'
theorem peM {X : Cx} {e : Expr} {t t' : TE} (h : PE X e t) (m : ∀ σ H Q, t' σ H Q → t σ H Q) : PE X e t' := ⟨fun pins s σ H Q I q => h.run pins s σ H Q I (m σ H Q q)⟩
theorem ptM {X : Cx} {e : Expr} {t t' : TT} (h : PT X e t) (m : ∀ σ H Q, t' σ H Q → t σ H Q) : PT X e t' := ⟨fun pins s σ H Q I q => h.run pins s σ H Q I (m σ H Q q)⟩
theorem pwM {X : Cx} {e : Expr} {t t' : TT} (h : PW X e t) (m : ∀ σ H Q, t' σ H Q → t σ H Q) : PW X e t' := ⟨fun w pins s σ H Q I q => h.run w pins s σ H Q I (m σ H Q q)⟩
theorem peOr {X : Cx} {e : Expr} {t t' : TE} (h : PE X e t) (h' : PE X e t') : PE X e (fun σ H Q => t σ H Q ∨ t' σ H Q) := ⟨fun pins s σ H Q I q => q.elim (h.run pins s σ H Q I) (h'.run pins s σ H Q I)⟩
section
variable {K : PySem.W.Frag} {cs : List Addr} {B : Bs} {G H : Hp} {s : S} {σ : L2.St} {v : V} {d : D} {p : Addr} {Q : VK} {pk : Bool}
/-! ### what is made -/
theorem Ps.scal (at_ : At K B cs G s σ H) (r : Rep K cs G v d) (q : Ps K B cs G H σ pk none Q (false, d) s) : Q v H :=
  q v cs G H (Stp.refl _ _ _) at_ ⟨r, fun h => (nomatch h), fun _ h => nomatch h⟩
theorem At.alloc {o : HO} (at_ : At K B cs G s σ H) (h : H p = none) : At K B cs G s σ (upd H p o) := ⟨at_.wd.alloc h, at_.en.alloc at_.wd h⟩
theorem At.nown (at_ : At K B cs G s σ H) (h : H p = none) (i : Nat) (e : D) (hi : s.r[i]? = some (some (true, e))) : σ[i]? ≠ some (some (.ref p)) := fun x => by
  obtain ⟨v, y, q, rfl, _, _, _, w⟩ := at_.en.val i true e hi
  rw [x] at y; cases y
  obtain ⟨o, z⟩ := w.there
  rw [h] at z; cases z
/-- the frozen part grows -/
theorem At.grow {o : HO} (at_ : At K B cs G s σ H) (e : H p = some o) (n : p ∉ cs) (g : G p = none) (z : B.h0 p = none) (no : ∀ (i : Nat) (d : D), s.r[i]? = some (some (true, d)) → σ[i]? ≠ some (some (.ref p))) : At K B cs (upd G p o) s σ H :=
  ⟨at_.wd.grow e n g z, at_.en.mono ⟨Pre.refl _, fun _ h => .inl h, Le.new g, fun _ _ _ h => h⟩ fun i d q hi hs => by
    rw [upd_ne (fun (x : q = p) => no i d hi (by rw [← x]; exact hs))]
    obtain ⟨v, x, y⟩ := at_.en.val i true d hi
    rw [hs] at x; cases x
    obtain ⟨_, e1, g, _⟩ := y
    cases e1; exact g⟩
theorem Ps.tup {vs : List V} {ds : List D} (at_ : At K B cs G s σ H) (r : Reps K cs G vs ds) (h : H p = none) (q : Ps K B cs G H σ pk none Q (false, .tup ds) s) : Q (.ref p) (upd H p (.tup vs)) := by
  obtain ⟨g, n, z⟩ := at_.wd.fresh h
  have a1 : At K B cs G s σ (upd H p (.tup vs)) := at_.alloc h
  have a2 := a1.grow upd_same n g z (at_.nown h)
  refine q _ cs (upd G p (.tup vs)) _ ⟨Pre.refl _, fun _ h => .inl h, Le.new g, (Stp.alloc at_.wd h).keep⟩ a2 ⟨?_, fun h => (nomatch h), fun _ h => nomatch h⟩
  exact .tup (.of upd_same) (r.mono (Pre.refl _) (Le.new g))
theorem Ps.lst {vs : List V} {ds : List D} (at_ : At K B cs G s σ H) (r : Reps K cs G vs ds) (h : H p = none) (q : Ps K B cs G H σ pk none Q (true, .lst ds) s) : Q (.ref p) (upd H p (.lst vs)) := by
  obtain ⟨g, n, z⟩ := at_.wd.fresh h
  exact q _ cs G _ (Stp.alloc at_.wd h) (at_.alloc h) ⟨⟨p, rfl, g, n, z, vs, upd_same, r⟩, fun _ _ => at_.nown h, fun _ h => nomatch h⟩
theorem Ps.dct {vs : List (Key × V)} {ds : List (D × D)} (at_ : At K B cs G s σ H) (r : RepK K cs G vs ds) (h : H p = none) (q : Ps K B cs G H σ pk none Q (true, .dct ds) s) : Q (.ref p) (upd H p (.dK vs)) := by
  obtain ⟨g, n, z⟩ := at_.wd.fresh h
  exact q _ cs G _ (Stp.alloc at_.wd h) (at_.alloc h) ⟨⟨p, rfl, g, n, z, vs, upd_same, r⟩, fun _ _ => at_.nown h, fun _ h => nomatch h⟩
/-- an owned result joins the frozen part -/
theorem Res.freeze {od : Bool × D} (at_ : At K B cs G s σ H) {vi : Option Nat} (r : Res K B cs G H s σ pk vi od v) (np : (od.1 && pk) = false) : ∃ G', Le G G' ∧ At K B cs G' s σ H ∧ Rep K cs G' v od.2 := by
  obtain ⟨o, d⟩ := od
  cases o with
  | false => exact ⟨G, Le.refl _, at_, r.1⟩
  | true =>
    obtain ⟨⟨p, rfl, g, n, z, w⟩, no, _⟩ := r
    have np' : pk = false := by simpa using np
    cases d with
    | lst ds =>
      obtain ⟨vs, e, q⟩ := w
      exact ⟨_, Le.new g, at_.grow e n g z (no rfl np'), .lst (.of upd_same) (q.mono (Pre.refl _) (Le.new g))⟩
    | dct ds =>
      obtain ⟨vs, e, q⟩ := w
      exact ⟨_, Le.new g, at_.grow e n g z (no rfl np'), .dct (.inl upd_same) (q.mono (Pre.refl _) (Le.new g))⟩
    | _ => exact w.elim
theorem Stp.grow {G' : Hp} (h : Le G G') : Stp cs G H cs G' H := ⟨Pre.refl _, fun _ h => .inl h, h, fun _ _ _ h => h⟩
end
/-! ### == -/
mutual
theorem toPy_ok : ∀ (d : D) (n : Nat), pl n d = true → (toPy d).canLay0 = true ∧ (toPy d).depth ≤ n
  | .non, n, _ => ⟨rfl, Nat.zero_le _⟩
  | .bl _, n, _ => ⟨rfl, Nat.zero_le _⟩
  | .int _, n, _ => ⟨rfl, Nat.zero_le _⟩
  | .str x, n, h => ⟨by simpa [toPy, PyData.canLay0, pl] using h, Nat.zero_le _⟩
  | .tup ds, 0, h => by simp [pl] at h
  | .lst ds, 0, h => by simp [pl] at h
  | .tup ds, n + 1, h => by
    have := toPys_ok ds n (by simpa [pl] using h)
    exact ⟨this.1, Nat.succ_le_succ this.2⟩
  | .lst ds, n + 1, h => by
    have := toPys_ok ds n (by simpa [pl] using h)
    exact ⟨this.1, Nat.succ_le_succ this.2⟩
  | .dct _, n, h => by cases n <;> simp [pl] at h
  | .cel _, n, h => by cases n <;> simp [pl] at h
theorem toPys_ok : ∀ (ds : List D) (n : Nat), ds.all (pl n) = true → PyData.canLayAll0 (toPys ds) = true ∧ PyData.depthAll (toPys ds) ≤ n
  | [], n, _ => ⟨rfl, Nat.zero_le _⟩
  | d :: ds, n, h => by
    rw [List.all_cons, Bool.and_eq_true] at h
    have h1 := toPy_ok d n h.1
    have h2 := toPys_ok ds n h.2
    exact ⟨by simp [toPys, PyData.canLayAll0, h1.1, h2.1], by simp only [toPys, PyData.depthAll]; omega⟩
end
theorem bI_eq (b : Bool) : (if b = true then (1 : Int) else 0) = bI b := rfl
mutual
theorem eqv_toPy : ∀ (a b : D) (n m : Nat), pl n a = true → pl m b = true → PyData.eqv (toPy a) (toPy b) = eqD a b
  | .tup xs, .tup ys, n + 1, m + 1, h, k => by
    have := eqvs_toPy xs ys n m (by simpa [pl] using h) (by simpa [pl] using k)
    simpa [toPy, PyData.eqv, eqD] using this
  | .lst xs, .lst ys, n + 1, m + 1, h, k => by
    have := eqvs_toPy xs ys n m (by simpa [pl] using h) (by simpa [pl] using k)
    simpa [toPy, PyData.eqv, eqD] using this
  | .tup _, _, 0, _, h, _ => by simp [pl] at h
  | .lst _, _, 0, _, h, _ => by simp [pl] at h
  | _, .tup _, _, 0, _, h => by simp [pl] at h
  | _, .lst _, _, 0, _, h => by simp [pl] at h
  | .dct _, _, n, _, h, _ => by cases n <;> simp [pl] at h
  | .cel _, _, n, _, h, _ => by cases n <;> simp [pl] at h
  | _, .dct _, _, n, _, h => by cases n <;> simp [pl] at h
  | _, .cel _, _, n, _, h => by cases n <;> simp [pl] at h
  | .non, .non, _, _, _, _ => rfl
  | .non, .bl _, _, _, _, _ => rfl
  | .non, .int _, _, _, _, _ => rfl
  | .non, .str _, _, _, _, _ => rfl
  | .non, .tup _, _, _, _, _ => rfl
  | .non, .lst _, _, _, _, _ => rfl
  | .bl _, .non, _, _, _, _ => rfl
  | .bl _, .bl _, _, _, _, _ => rfl
  | .bl b, .int _, _, _, _, _ => by cases b <;> rfl
  | .bl _, .str _, _, _, _, _ => rfl
  | .bl _, .tup _, _, _, _, _ => rfl
  | .bl _, .lst _, _, _, _, _ => rfl
  | .int _, .non, _, _, _, _ => rfl
  | .int _, .bl b, _, _, _, _ => by cases b <;> rfl
  | .int _, .int _, _, _, _, _ => rfl
  | .int _, .str _, _, _, _, _ => rfl
  | .int _, .tup _, _, _, _, _ => rfl
  | .int _, .lst _, _, _, _, _ => rfl
  | .str _, .non, _, _, _, _ => rfl
  | .str _, .bl _, _, _, _, _ => rfl
  | .str _, .int _, _, _, _, _ => rfl
  | .str _, .str _, _, _, _, _ => rfl
  | .str _, .tup _, _, _, _, _ => rfl
  | .str _, .lst _, _, _, _, _ => rfl
  | .tup _, .non, _, _, _, _ => rfl
  | .tup _, .bl _, _, _, _, _ => rfl
  | .tup _, .int _, _, _, _, _ => rfl
  | .tup _, .str _, _, _, _, _ => rfl
  | .tup _, .lst _, _, _, _, _ => rfl
  | .lst _, .non, _, _, _, _ => rfl
  | .lst _, .bl _, _, _, _, _ => rfl
  | .lst _, .int _, _, _, _, _ => rfl
  | .lst _, .str _, _, _, _, _ => rfl
  | .lst _, .tup _, _, _, _, _ => rfl
theorem eqvs_toPy : ∀ (a b : List D) (n m : Nat), a.all (pl n) = true → b.all (pl m) = true → PyData.eqvAll (toPys a) (toPys b) = eqDs a b
  | [], [], _, _, _, _ => rfl
  | [], _ :: _, _, _, _, _ => rfl
  | _ :: _, [], _, _, _, _ => rfl
  | x :: xs, y :: ys, n, m, h, k => by
    rw [List.all_cons, Bool.and_eq_true] at h k
    simp only [toPys, PyData.eqvAll, eqDs]
    rw [eqv_toPy x y n m h.1 k.1, eqvs_toPy xs ys n m h.2 k.2]
end
section
variable {K : PySem.W.Frag} {cs : List Addr} {G H : Hp}
mutual
theorem Rep.dp (le : Le G H) : ∀ (d : D) (v : V) (n : Nat), pl n d = true → Rep K cs G v d → Dp K H v (toPy d)
  | .non, _, _, _, .non => .non
  | .bl _, _, _, _, .bl _ => .bl _
  | .int _, _, _, _, .int _ => .int _
  | .str _, _, _, _, .str _ => .str _
  | .tup ds, _, 0, h, _ => by simp [pl] at h
  | .lst ds, _, 0, h, _ => by simp [pl] at h
  | .tup ds, _, n + 1, h, .tup s r => .tup (le.seqT s) (Reps.dp le ds _ n (by simpa [pl] using h) r)
  | .lst ds, _, n + 1, h, .lst s r => .lst (le.seqL s) (Reps.dp le ds _ n (by simpa [pl] using h) r)
  | .dct _, _, n, h, _ => by cases n <;> simp [pl] at h
  | .cel _, _, n, h, _ => by cases n <;> simp [pl] at h
theorem Reps.dp (le : Le G H) : ∀ (d : List D) (v : List V) (n : Nat), d.all (pl n) = true → Reps K cs G v d → DpAll K H v (toPys d)
  | [], _, _, _, .nil => .nil
  | d :: ds, _, n, h, .cons a r => by
    rw [List.all_cons, Bool.and_eq_true] at h
    exact .cons (Rep.dp le d _ n h.1 a) (Reps.dp le ds _ n h.2 r)
end
theorem Vw.dp (le : Le G H) {d : D} {v : V} {n : Nat} (h : pl n d = true) (w : Vw K cs G H v d) : Dp K H v (toPy d) := by
  rcases w with w | ⟨p, e, _, w⟩
  · exact w.dp le d v n h
  · cases d with
    | lst ds =>
      obtain ⟨vs, x, r⟩ := w
      cases n with
      | zero => simp [pl] at h
      | succ n => subst e; exact .lst (.of x) (r.dp le ds vs n (by simpa [pl] using h))
    | dct ds => cases n <;> simp [pl] at h
    | _ => exact w.elim
end
end Q
end

section
set_option Elab.async false
set_option linter.all false
set_option maxRecDepth 100000
set_option maxHeartbeats 4000000
namespace Q
open PySem PySem.Spec PyProof.Rows L2
theorem lim_le {n : Nat} (h : n ≤ lim) : n ≤ sizeLine := Nat.le_trans h (by decide)
theorem lim_lt {n : Nat} (h : n < lim) : n < sizeLine := Nat.lt_of_lt_of_le h (by decide)
/-! ### rules of the layer, put together -/
def rLCat (K : PySem.W.Frag) : R2 := fun x y H Q => ∃ a b xs ys, x = .ref a ∧ y = .ref b ∧ SqL K H a xs ∧ SqL K H b ys ∧ xs.length + ys.length ≤ sizeLine ∧ ∀ p, H p = none → Q (.ref p) (upd H p (.lst (xs ++ ys)))
theorem o_lcat {X : Cx} : OpR X (binaryOp .Add) (rLCat X.K) := by
  intro pins s σ H x y v u Q I rx ry ⟨a, b, xs, ys, e1, e2, h1, h2, hz, q⟩
  subst e1; subst e2
  cases rx
  cases ry
  obtain ⟨ia, r1, p1, _⟩ := I.list h1
  obtain ⟨ib, r2, p2, _⟩ := I.list h2
  obtain ⟨⟨k1, t1, w1, sl1⟩, g1, c1, n1, d1⟩ := p1.isList
  obtain ⟨⟨k2, t2, w2, sl2⟩, g2, c2, n2, d2⟩ := p2.isList
  simp only at c1 d1 c2 d2
  subst c1 d1 c2 d2
  have l1 := r1.length
  have l2 := r2.length
  have ea : ia.toArray ++ ib.toArray = (ia ++ ib).toArray := by simp
  refine concat_meets ⟨_, g1, rfl⟩ ⟨_, g2, rfl⟩ noFill_list_add seq_list_add PySem.F.slot_list_add PySem.F.entry_list_add (PySem.F.args_list_add_2 _ _) (list_addW a b ia.toArray ib.toArray n1 n2 t1 t2 sl1 sl2 (by simp only [List.size_toArray]; omega)) ⟨g1, g2, ?_⟩
  rw [ea]
  exact ⟨.ref _, _, I.lnew (t' := s.toks) (r1.append r2) (by rw [List.length_append]; omega), rfl, q _ I.fresh⟩
def rTru (K : PySem.W.Frag) : V → Hp → (Bool → Hp → Prop) → Prop := fun x H Q => (∃ k, TruV K x H k ∧ Q k H) ∨ ∃ p kvs, x = .ref p ∧ Rd H p (.dK kvs) ∧ Q (!kvs.isEmpty) H
theorem o_tru {X : Cx} : TruR X (rTru X.K) := by
  intro pins s σ H x v Q I rx h
  rcases h with h | ⟨p, kvs, e, h, q⟩
  · exact tru_ok pins s σ H x v Q I rx h
  · subst e
    cases rx
    exact d_truth I h fun s' I' => ⟨H, I', q⟩
def rLen (K : PySem.W.Frag) : List V → Hp → VK → Prop := fun xs H Q => (∃ z : Str, xs = [.str z] ∧ z.length ≤ sizeLine ∧ Q (.int z.length) H) ∨ (∃ p ys, xs = [.ref p] ∧ (SqL K H p ys ∨ SqT K H p ys) ∧ Q (.int ys.length) H) ∨ ∃ p kvs, xs = [.ref p] ∧ Rd H p (.dK kvs) ∧ Q (.int kvs.length) H
theorem o_len {X : Cx} : CallR X (.builtin "len") (rLen X.K) := by
  intro pins s σ H xs us Q I r h
  rcases h with h | h | ⟨p, kvs, e, h, q⟩
  · exact call_len_str pins s σ H xs us Q I r h
  · exact call_len_seq pins s σ H xs us Q I r h
  · subst e
    obtain ⟨u, rfl, ru⟩ := vals1 r
    cases ru
    exact d_len I h fun t s' I' => ⟨.int kvs.length, H, I', ⟨t, rfl⟩, q⟩
section
variable {K : PySem.W.Frag} {cs : List Addr} {B : Bs} {G H : Hp} {s : S} {σ : L2.St} {v w : V} {d dx dy : D} {p : Addr} {Q : VK} {pk : Bool}
theorem smI_log {i : Int} (h : smI i = true) : i.natAbs.log2 < 6000 := by
  have h1 : i.natAbs < 2 ^ 6000 := of_decide_eq_true h
  exact PySem.Flt.log2_lt_of (by decide) h1
def rBin (K : PySem.W.Frag) : Op → R2
  | .add => fun x y H Q => (rI0 (fun i j => .int (i + j)) x y H Q ∨ rLCat K x y H Q) ∨ (∃ i j : Str, x = .str i ∧ y = .str j ∧ i.length + j.length ≤ sizeLine ∧ Q (.str (i ++ j)) H) ∨ rCatT K x y H Q
  | .sub => rI0 fun i j => .int (i - j)
  | .mul => rI CMulW fun i j => .int (i * j)
  | .fdiv => rI CDivW fun i j => .int (i / j)
  | .mod => rI (fun _ j => 0 < j) fun i j => .int (i % j)
  | .pow => rI CPow fun i j => .int (i ^ j.toNat)
def opP : Op → Operator
  | .add => .Add | .sub => .Sub | .mul => .Mult | .fdiv => .FloorDiv | .mod => .Mod | .pow => .Pow
theorem o_bin {X : Cx} : ∀ o : Op, OpR X (binaryOp (opP o)) (rBin X.K o)
  | .add => OpR.or (OpR.or op_add o_lcat) (OpR.or op_add_str op_catT)
  | .sub => op_sub
  | .mul => op_mulW
  | .fdiv => op_fdivW
  | .mod => op_mod
  | .pow => op_pow
theorem bin_ok (at_ : At K B cs G s σ H) (hv : Vw K cs G H v dx) (hw : Vw K cs G H w dy) {o : Op} {od : Bool × D} (e : binD o dx dy = some od) (q : Ps K B cs G H σ pk none Q od s) : rBin K o v w H Q := by
  cases o <;> cases dx <;> cases dy <;> simp only [binD, reduceCtorEq] at e
  case add.int.int i j =>
    cases e
    exact .inl (.inl ⟨i, j, hv.int, hw.int, Ps.scal at_ (.int _) q⟩)
  case add.str.str x y =>
    split at e
    · cases e
      rename_i hz
      exact .inr (.inl ⟨x, y, hv.str, hw.str, lim_le hz, Ps.scal at_ (.str _) q⟩)
    · cases e
  case add.tup.tup xs ys =>
    split at e
    · cases e
      rename_i hz
      simp only [Bool.and_eq_true, decide_eq_true_eq, Bool.not_eq_true'] at hz
      obtain ⟨a, vs, rfl, h1, r1⟩ := hv.tup at_.wd.le
      obtain ⟨b, ws, rfl, h2, r2⟩ := hw.tup at_.wd.le
      have n1 : vs ≠ [] := fun z => by
        have := r1.len
        rw [z] at this
        cases xs with
        | nil => simp at hz
        | cons _ _ => simp at this
      refine .inr (.inr ⟨a, b, vs, ws, rfl, rfl, h1, h2, n1, ?_, fun z => ?_, fun _ p hp => Ps.tup at_ (r1.app r2) hp q⟩)
      · rw [r1.len, r2.len]
        exact lim_le hz.1
      · have := r2.len
        rw [z] at this
        cases ys with
        | cons _ _ => simp at this
        | nil =>
          rw [List.append_nil] at q
          rcases hv with hv | ⟨p, _, _, hv⟩
          · exact Ps.scal at_ hv q
          · exact hv.elim
    · cases e
  case add.lst.lst xs ys =>
    split at e
    · cases e
      rename_i hz
      obtain ⟨a, vs, rfl, h1, r1⟩ := hv.lst at_.wd.le
      obtain ⟨b, ws, rfl, h2, r2⟩ := hw.lst at_.wd.le
      refine .inl (.inr ⟨a, b, vs, ws, rfl, rfl, h1, h2, ?_, fun p hp => Ps.lst at_ (r1.app r2) hp q⟩)
      rw [r1.len, r2.len]
      exact lim_le hz
    · cases e
  case sub.int.int i j =>
    cases e
    exact ⟨i, j, hv.int, hw.int, Ps.scal at_ (.int _) q⟩
  case mul.int.int i j =>
    split at e
    · cases e
      rename_i hz
      rw [Bool.and_eq_true] at hz
      have h1 := smI_log hz.1
      have h2 := smI_log hz.2
      exact ⟨i, j, hv.int, hw.int, (by show _ < _; omega), Ps.scal at_ (.int _) q⟩
    · cases e
  case fdiv.int.int i j =>
    split at e
    · cases e
      rename_i hz
      rw [Bool.and_eq_true] at hz
      exact ⟨i, j, hv.int, hw.int, ⟨of_decide_eq_true hz.1, Nat.lt_trans (smI_log hz.2) (by decide)⟩, Ps.scal at_ (.int _) q⟩
    · cases e
  case mod.int.int i j =>
    split at e
    · cases e
      rename_i hz
      exact ⟨i, j, hv.int, hw.int, hz, Ps.scal at_ (.int _) q⟩
    · cases e
  case pow.int.int i j =>
    split at e
    · cases e
      rename_i hz
      rw [Bool.and_eq_true, Bool.and_eq_true] at hz
      have h1 : j ≤ 1000 := of_decide_eq_true hz.1.2
      exact ⟨i, j, hv.int, hw.int, ⟨of_decide_eq_true hz.1.1, by omega, of_decide_eq_true hz.2⟩, Ps.scal at_ (.int _) q⟩
    · cases e
/-! ### comparisons -/
def cmP : Cm → CmpOp
  | .eq => .Eq | .ne => .NotEq | .lt => .Lt | .le => .LtE | .gt => .Gt | .ge => .GtE | .is => .Is | .isn => .IsNot
def rCmp (K : PySem.W.Frag) : Cm → R2
  | .eq => rEqD K
  | .ne => rNeD K
  | .lt => fun x y H Q => rI0 (fun i j => .bl (decide (i < j))) x y H Q ∨ ∃ i j : Str, x = .str i ∧ y = .str j ∧ Q (.bl (decide (i.cps.toList < j.cps.toList))) H
  | .le => fun x y H Q => rI0 (fun i j => .bl (decide (i ≤ j))) x y H Q ∨ ∃ i j : Str, x = .str i ∧ y = .str j ∧ Q (.bl (!decide (j.cps.toList < i.cps.toList))) H
  | .gt => fun x y H Q => rI0 (fun i j => .bl (decide (j < i))) x y H Q ∨ ∃ i j : Str, x = .str i ∧ y = .str j ∧ Q (.bl (decide (j.cps.toList < i.cps.toList))) H
  | .ge => fun x y H Q => rI0 (fun i j => .bl (decide (j ≤ i))) x y H Q ∨ ∃ i j : Str, x = .str i ∧ y = .str j ∧ Q (.bl (!decide (i.cps.toList < j.cps.toList))) H
  | .is => fun x y H Q => (y = .non ∧ Q (.bl (decide (x = .non))) H) ∨ rIsB x y H Q
  | .isn => fun x y H Q => (y = .non ∧ Q (.bl (!decide (x = .non))) H) ∨ rNotB x y H Q
theorem o_cmp {X : Cx} (hu : X.A.units + 64 < cLine) : ∀ o : Cm, OpR X (compareOp (cmP o)) (rCmp X.K o)
  | .eq => op_eqD hu
  | .ne => op_neD hu
  | .lt => OpR.or op_lt op_lt_str
  | .le => OpR.or op_le op_le_str
  | .gt => OpR.or op_gt op_gt_str
  | .ge => OpR.or op_ge op_ge_str
  | .is => OpR.or op_isN op_isBl
  | .isn => OpR.or op_notN op_notBl
theorem non_iff (hv : Vw K cs G H v d) : decide (v = .non) = isNon d := by
  cases d with
  | non => rw [hv.non]; rfl
  | bl b => rw [hv.bl]; rfl
  | int i => rw [hv.int]; rfl
  | str x => rw [hv.str]; rfl
  | tup ds =>
    rcases hv with h | ⟨p, _, _, h⟩
    · obtain ⟨a, vs, rfl, _⟩ := h.tup_inv; rfl
    · exact h.elim
  | lst ds =>
    rcases hv with h | ⟨p, rfl, _, h⟩
    · obtain ⟨a, vs, rfl, _⟩ := h.lst_inv; rfl
    · rfl
  | dct ds =>
    rcases hv with h | ⟨p, rfl, _, h⟩
    · obtain ⟨a, vs, rfl, _⟩ := h.dct_inv; rfl
    · rfl
  | cel n => obtain ⟨a, rfl, _⟩ := hv.cel; rfl
theorem shaped_of {d : D} (h : pl 60 d = true) : SeqAt.shaped (toPy d) = true := by
  have := toPy_ok d 60 h
  unfold SeqAt.shaped
  rw [this.1, Bool.true_and]
  exact decide_eq_true (Nat.le_trans this.2 (by decide))
theorem cmp_ok (at_ : At K B cs G s σ H) (hv : Vw K cs G H v dx) (hw : Vw K cs G H w dy) {o : Cm} {t : Bool} (e : cmpD o dx dy = some t) (q : Q (.bl t) H) : rCmp K o v w H Q := by
  cases o
  case eq =>
    simp only [cmpD] at e
    split at e
    · cases e
      rename_i hz
      rw [Bool.and_eq_true] at hz
      refine ⟨toPy dx, toPy dy, hv.dp at_.wd.le hz.1, hw.dp at_.wd.le hz.2, shaped_of hz.1, shaped_of hz.2, ?_⟩
      rw [eqv_toPy dx dy 60 60 hz.1 hz.2]; exact q
    · cases e
  case ne =>
    simp only [cmpD] at e
    split at e
    · cases e
      rename_i hz
      rw [Bool.and_eq_true] at hz
      refine ⟨toPy dx, toPy dy, hv.dp at_.wd.le hz.1, hw.dp at_.wd.le hz.2, shaped_of hz.1, shaped_of hz.2, ?_⟩
      rw [eqv_toPy dx dy 60 60 hz.1 hz.2]; exact q
    · cases e
  case lt =>
    cases dx <;> cases dy <;> simp only [cmpD, reduceCtorEq] at e
    · cases e
      exact .inl ⟨_, _, hv.int, hw.int, q⟩
    · cases e
      exact .inr ⟨_, _, hv.str, hw.str, q⟩
  case le =>
    cases dx <;> cases dy <;> simp only [cmpD, reduceCtorEq] at e
    · cases e
      exact .inl ⟨_, _, hv.int, hw.int, q⟩
    · cases e
      exact .inr ⟨_, _, hv.str, hw.str, q⟩
  case gt =>
    cases dx <;> cases dy <;> simp only [cmpD, reduceCtorEq] at e
    · cases e
      exact .inl ⟨_, _, hv.int, hw.int, q⟩
    · cases e
      exact .inr ⟨_, _, hv.str, hw.str, q⟩
  case ge =>
    cases dx <;> cases dy <;> simp only [cmpD, reduceCtorEq] at e
    · cases e
      exact .inl ⟨_, _, hv.int, hw.int, q⟩
    · cases e
      exact .inr ⟨_, _, hv.str, hw.str, q⟩
  case is =>
    cases dy with
    | non =>
      refine .inl ⟨hw.non, ?_⟩
      rw [non_iff hv]
      cases dx <;> simp only [cmpD] at e <;> cases e <;> exact q
    | bl b =>
      cases dx <;> simp only [cmpD, reduceCtorEq] at e
      cases e
      rename_i a
      refine .inr ⟨a, b, hv.bl, hw.bl, ?_⟩
      rw [show decide (a = b) = (a == b) from rfl] at *; exact q
    | _ => cases dx <;> simp only [cmpD, reduceCtorEq] at e
  case isn =>
    cases dy with
    | non =>
      refine .inl ⟨hw.non, ?_⟩
      rw [non_iff hv]
      cases dx <;> simp only [cmpD] at e <;> cases e <;> exact q
    | bl b =>
      cases dx <;> simp only [cmpD, reduceCtorEq] at e
      cases e
      rename_i a
      exact .inr ⟨a, b, hv.bl, hw.bl, q⟩
    | _ => cases dx <;> simp only [cmpD, reduceCtorEq] at e
/-! ### truth -/
theorem isEmpty_len {α β : Type} {xs : List α} {ys : List β} (h : xs.length = ys.length) : xs.isEmpty = ys.isEmpty := by
  cases xs <;> cases ys <;> simp_all
theorem tru_okD (at_ : At K B cs G s σ H) (hv : Vw K cs G H v d) {t : Bool} (e : truthD d = some t) {Q : Bool → Hp → Prop} (q : Q t H) : rTru K v H Q := by
  cases d with
  | non => cases e; exact .inl ⟨false, by rw [hv.non]; rfl, q⟩
  | bl b => cases e; exact .inl ⟨_, by rw [hv.bl]; rfl, q⟩
  | int i => cases e; exact .inl ⟨_, by rw [hv.int]; rfl, q⟩
  | str x =>
    simp only [truthD] at e
    split at e
    · cases e
      rename_i hz
      exact .inl ⟨_, by rw [hv.str]; exact ⟨lim_le hz, rfl⟩, q⟩
    · cases e
  | tup ds =>
    cases e
    obtain ⟨a, vs, rfl, h, r⟩ := hv.tup at_.wd.le
    refine .inl ⟨_, .inr (.inl ⟨vs, h, ?_⟩), q⟩
    rw [isEmpty_len r.len]
  | lst ds =>
    cases e
    obtain ⟨a, vs, rfl, h, r⟩ := hv.lst at_.wd.le
    refine .inl ⟨_, .inl ⟨vs, h, ?_⟩, q⟩
    rw [isEmpty_len r.len]
  | dct ds =>
    cases e
    obtain ⟨a, vs, rfl, h, r⟩ := hv.dct at_.wd.le
    refine .inr ⟨a, vs, rfl, h, ?_⟩
    rw [isEmpty_len r.len]; exact q
  | cel n => cases e
/-! ### items -/
theorem ixN_eq (n : Nat) (i : Int) : ixN n i = L2.ixN n i := rfl
theorem atD_eq {α : Type} (xs : List α) (i : Int) : atD xs i = L2.atI xs i := by
  unfold atD L2.atI
  rw [ixN_eq]
  cases L2.ixN xs.length i <;> rfl
theorem Reps.at {vs : List V} {ds : List D} (r : Reps K cs G vs ds) {i : Int} (e : atD ds i = some d) : ∃ v, L2.atI vs i = some v ∧ Rep K cs G v d := by
  rw [atD_eq] at e
  unfold L2.atI at e ⊢
  rw [r.len]
  cases h : L2.ixN ds.length i with
  | none => rw [h] at e; cases e
  | some j =>
    rw [h] at e
    obtain ⟨v, a, b⟩ := r.get (show ds[j]? = some d from e)
    exact ⟨v, a, b⟩
theorem eqK_iff {a b : D} {k j : Key} (ha : keyD a = some k) (hb : keyD b = some j) : eqK a b = decide (k = j) := by
  cases a <;> simp only [keyD, reduceCtorEq] at ha <;> cases b <;> simp only [keyD, reduceCtorEq] at hb <;> cases ha <;> cases hb
  · rw [key_ll]; rfl
  · rw [key_lr]; rfl
  · rw [key_rl]; rfl
  · rw [key_rr]; rfl
theorem keyD_of {k : D} (h : isKey k = true) : ∃ j, keyD k = some j := by
  cases k <;> simp [isKey] at h <;> exact ⟨_, rfl⟩
theorem RepK.get {kvs : List (Key × V)} {ds : List (D × D)} {k : D} {j : Key} (hk : keyD k = some j) : RepK K cs G kvs ds → (∀ d, getD ds k = some d → ∃ v, valV kvs j = some v ∧ Rep K cs G v d) ∧ (getD ds k = none → valV kvs j = none)
  | .nil => ⟨fun d h => by simp [getD] at h, fun _ => rfl⟩
  | .cons (k := k1) (v := v) (r := r) (kd := kd) (d := d1) (rd := rd) h1 h2 h3 => by
    have ih := RepK.get hk h3
    have e := eqK_iff h1 hk
    by_cases x : k1 = j
    · have y : eqK kd k = true := by rw [e]; exact decide_eq_true x
      refine ⟨fun d h => ?_, fun h => ?_⟩
      · simp only [getD, y, if_true] at h; cases h
        exact ⟨v, valV_pos x, h2⟩
      · simp only [getD, y, if_true] at h; cases h
    · have y : eqK kd k = false := by rw [e]; exact decide_eq_false x
      have z : valV ((k1, v) :: r) j = valV r j := valV_neg x
      refine ⟨fun d h => ?_, fun h => ?_⟩
      · rw [show getD ((kd, d1) :: rd) k = getD rd k by simp [getD, y]] at h; rw [z]; exact ih.1 d h
      · rw [show getD ((kd, d1) :: rd) k = getD rd k by simp [getD, y]] at h; rw [z]; exact ih.2 h
theorem kV_rep {k : D} {j : Key} (hk : keyD k = some j) (hv : Vw K cs G H v k) : v = kV j := by
  cases k <;> simp only [keyD, reduceCtorEq] at hk <;> cases hk
  · exact hv.int
  · exact hv.str
theorem putK_cons {k j : Key} {v w : V} {r : List (Key × V)} : L2.putK ((k, v) :: r) j w = if k = j then (k, w) :: r.map (fun kv => if kv.1 = j then (kv.1, w) else kv) else (k, v) :: L2.putK r j w := by
  unfold L2.putK
  by_cases e : k = j
  · simp [e]
  · simp only [List.any_cons, decide_eq_false e, Bool.false_or, if_neg e, List.map_cons]
    split <;> simp [e]
end
end Q
end

section
set_option Elab.async false
set_option linter.all false
set_option maxRecDepth 100000
set_option maxHeartbeats 4000000
namespace Q
open PySem PySem.Spec PyProof.Rows L2
section
variable {K : PySem.W.Frag} {B : Bs} {cs cs' : List Addr} {G G' H H' : Hp} {s : S} {σ : L2.St} {v w : V} {d dx dy : D} {p : Addr} {Q : VK} {pk : Bool} {r : Row}
/-! ### arguments -/
def Ars (K : PySem.W.Frag) (cs : List Addr) (G : Hp) (r : Row) (σ : L2.St) : List Ex → List V → List D → Prop
  | [], [], [] => True
  | e :: es, v :: vs, d :: ds => (Rep K cs G v d ∨ ∃ i, e = .v i ∧ r[i]? = some (some (true, d)) ∧ σ[i]? = some (some v)) ∧ Ars K cs G r σ es vs ds
  | _, _, _ => False
def tA (X : Cx) (C : Cl) (es : List Ex) : TA := fun σ H Q => ∃ B cs G s, At X.K B cs G s σ H ∧ Rn (evA C es s) fun ds s' => ∀ vs cs' G' H', Stp cs G H cs' G' H' → At X.K B cs' G' s' σ H' → Ars X.K cs' G' s'.r σ es vs ds → Q vs H'
def tF (X : Cx) (C : Cl) (es : List Ex) : TA := fun σ H Q => ∃ B cs G s, At X.K B cs G s σ H ∧ Rn (evF C es s) fun ds s' => ∀ vs cs' G' H', Stp cs G H cs' G' H' → At X.K B cs' G' s' σ H' → Reps X.K cs' G' vs ds → Q vs H'
def nStar : Expr → Bool
  | .Starred .. => false
  | _ => true
theorem star_of {e : Expr} (h : nStar e = true) (es : List Expr) (env : Env) : starEach (e :: es) env = (false, eval e env) :: starEach es env := by
  cases e <;> first | rfl | (simp [nStar] at h)
def vArg : Ex → Option Nat
  | .v i => some i
  | _ => none
theorem isV_of {x : Ex} (h : isV x = true) : ∃ i, x = .v i := by
  cases x <;> simp [isV] at h; exact ⟨_, rfl⟩
theorem Paired.app {α β : Type} {F : α → β → Prop} : ∀ {a c : List α} {b d : List β}, Paired F a b → Paired F c d → Paired F (a ++ c) (b ++ d)
  | _, _, _, _, .nil, h => h
  | _, _, _, _, .cons x y, h => .cons x (Paired.app y h)
theorem pa_A {X : Cx} {C : Cl} : ∀ {es : List Expr} {xs : List Ex}, Paired (fun e x => PE X e (tE X C x) ∧ nStar e = true) es xs → PA X es (tA X C xs)
  | _, _, .nil => ⟨fun pos pins s σ H Q I h => pa_nil.run pos pins s σ H Q I (by
      obtain ⟨B, cs, G, s, at_, h⟩ := h
      exact h [] cs G H (Stp.refl _ _ _) at_ trivial)⟩
  | _, _, .cons (a := e) (b := x) (l₁ := es) (l₂ := xs) ⟨he, hst⟩ hr => ⟨fun pos pins s σ H Q I h => (pa_cons he (pa_A hr) (star_of hst es X.env)).run pos pins s σ H Q I (by
      obtain ⟨B, cs, G, s, at_, h⟩ := h
      obtain ⟨o, s1, e1, h⟩ := Rn.eq (Rn.b h)
      refine ⟨B, cs, G, s, at_, ?_⟩
      rw [e1]
      intro v cs1 G1 H1 st1 at1 res1
      split at h
      · exact h.elim
      rename_i hc
      obtain ⟨ds, s2, e2, h⟩ := Rn.eq (Rn.b h)
      have fin : ∀ G1', Le G1 G1' → At X.K B cs1 G1' s1 σ H1 → (∀ cs2 G2 H2, Stp cs1 G1' H1 cs2 G2 H2 → At X.K B cs2 G2 s2 σ H2 → Rep X.K cs2 G2 v o.2 ∨ ∃ i, x = .v i ∧ s2.r[i]? = some (some (true, o.2)) ∧ σ[i]? = some (some v)) → tA X C xs σ H1 fun vs H2 => Q (v :: vs) H2 := fun G1' le1 at1' k => by
        refine ⟨B, cs1, G1', s1, at1', ?_⟩
        rw [e2]
        intro vs cs2 G2 H2 st2 at2 ar2
        refine h (v :: vs) cs2 G2 H2 ((st1.trans (Stp.grow le1)).trans st2) at2 ⟨k cs2 G2 H2 st2 at2, ar2⟩
      by_cases ho : (o.1 && isPk x) = true
      · -- a name that owns
        rw [Bool.and_eq_true] at ho
        have hv : isV x = true := by
          cases g : isV x with
          | true => rfl
          | false => exact absurd (by simp [ho.1, ho.2, g]) hc
        obtain ⟨i, rfl⟩ := isV_of hv
        have h0 : s.r[i]? = some (some o) ∧ s1 = s := by
          simp only [ev] at e1
          split at e1
          · rename_i od q; cases e1; exact ⟨q, rfl⟩
          · cases e1
        obtain ⟨h0, rfl⟩ := h0
        obtain ⟨ob, od⟩ := o
        simp only at ho h0
        rw [ho.1] at h0
        refine fin G1 (Le.refl _) at1 fun cs2 G2 H2 st2 at2 => ?_
        have sv := res1.2.2 i rfl
        rcases (fol_evA xs _ _ _ e2).2 i (by simp) with q | ⟨d, q, q2⟩
        · exact .inr ⟨i, rfl, by rw [q]; exact h0, sv⟩
        · rw [h0] at q; cases q
          obtain ⟨v', y, z⟩ := at2.en.val i false od q2
          rw [sv] at y; cases y
          exact .inl z
      · obtain ⟨G1', le1, at1', rp⟩ := res1.freeze at1 (by simpa using ho)
        exact fin G1' le1 at1' fun cs2 G2 H2 st2 _ => .inl (rp.mono st2.pre st2.le))⟩
theorem pa_F {X : Cx} {C : Cl} : ∀ {es : List Expr} {xs : List Ex}, Paired (fun e x => PE X e (tE X C x) ∧ nStar e = true) es xs → PA X es (tF X C xs)
  | _, _, .nil => ⟨fun pos pins s σ H Q I h => pa_nil.run pos pins s σ H Q I (by
      obtain ⟨B, cs, G, s, at_, h⟩ := h
      exact h [] cs G H (Stp.refl _ _ _) at_ .nil)⟩
  | _, _, .cons (a := e) (b := x) (l₁ := es) (l₂ := xs) ⟨he, hst⟩ hr => ⟨fun pos pins s σ H Q I h => (pa_cons he (pa_F hr) (star_of hst es X.env)).run pos pins s σ H Q I (by
      obtain ⟨B, cs, G, s, at_, h⟩ := h
      obtain ⟨o, s1, e1, h⟩ := Rn.eq (Rn.b h)
      refine ⟨B, cs, G, s, at_, ?_⟩
      rw [e1]
      intro v cs1 G1 H1 st1 at1 res1
      split at h
      · exact h.elim
      rename_i hc
      obtain ⟨ds, s2, e2, h⟩ := Rn.eq (Rn.b h)
      obtain ⟨G1', le1, at1', rp⟩ := res1.freeze at1 (by simpa using hc)
      refine ⟨B, cs1, G1', s1, at1', ?_⟩
      rw [e2]
      intro vs cs2 G2 H2 st2 at2 ar2
      exact h (v :: vs) cs2 G2 H2 ((st1.trans (Stp.grow le1)).trans st2) at2 (.cons (rp.mono st2.pre st2.le) ar2))⟩
end
end Q
end

section
set_option Elab.async false
set_option linter.all false
set_option maxRecDepth 100000
set_option maxHeartbeats 4000000
namespace Q
open PySem PySem.Spec PyProof.Rows L2
/-! ### a call: what is lent -/
def pO : HO → Prop
  | .frz _ _ => False
  | _ => True
section
variable {K : PySem.W.Frag} {B : Bs} {cs cs' : List Addr} {G G' Gb H H' : Hp} {s : S} {σ : L2.St} {v w : V} {d dx dy : D} {p : Addr} {Q : VK} {pk : Bool} {r : Row} {P : Addr → Prop}
theorem Rd.one {X : Hp} {a : Addr} {u o : HO} (h : Rd X a u) (k : Rd X a o) (pu : pO u) : u = o ∨ ∃ od, o = .frz od u := by
  rcases h with h | ⟨od, h⟩ <;> rcases k with k | ⟨od', k⟩ <;> rw [h] at k <;> cases k
  · exact .inl rfl
  · exact pu.elim
  · exact .inr ⟨_, rfl⟩
  · exact .inl rfl
/-- back to a caller's frozen part -/
structure Bk (P : Addr → Prop) (G G' Gb : Hp) : Prop where
  le : Le G G'
  some' : ∀ a o, G a = some o → Gb a = some o
  none' : ∀ a, G a = none → ¬ P a → Gb a = G' a
theorem Bk.rd (b : Bk P G G' Gb) {a : Addr} {u : HO} (n : ¬ P a) (pu : pO u) (h : Rd G' a u) : Rd Gb a u := by
  cases g : G a with
  | none =>
    have e := b.none' a g n
    rcases h with h | ⟨od, h⟩
    · exact .inl (by rw [e]; exact h)
    · exact .inr ⟨od, by rw [e]; exact h⟩
  | some o =>
    have e := b.some' a o g
    rcases Rd.one h (b.le a o (.inl g)) pu with x | ⟨od, x⟩
    · subst x; exact .inl e
    · subst x; exact .inr ⟨od, e⟩
mutual
theorem Rep.bk (b : Bk P G G' Gb) (n : ∀ a, ¬ P a) : ∀ {v : V} {d : D}, Rep K cs G' v d → Rep K cs Gb v d
  | _, _, .non => .non
  | _, _, .bl _ => .bl _
  | _, _, .int _ => .int _
  | _, _, .str _ => .str _
  | _, _, .tup s r => .tup (s.imp (b.rd (n _) trivial) id) (Reps.bk b n r)
  | _, _, .lst s r => .lst (s.imp (b.rd (n _) trivial) id) (Reps.bk b n r)
  | _, _, .dct s r => .dct (b.rd (n _) trivial s) (RepK.bk b n r)
  | _, _, .cel e => .cel e
theorem Reps.bk (b : Bk P G G' Gb) (n : ∀ a, ¬ P a) : ∀ {v : List V} {d : List D}, Reps K cs G' v d → Reps K cs Gb v d
  | _, _, .nil => .nil
  | _, _, .cons x y => .cons (Rep.bk b n x) (Reps.bk b n y)
theorem RepK.bk (b : Bk P G G' Gb) (n : ∀ a, ¬ P a) : ∀ {v : List (Key × V)} {d : List (D × D)}, RepK K cs G' v d → RepK K cs Gb v d
  | _, _, .nil => .nil
  | _, _, .cons e x y => .cons e (Rep.bk b n x) (RepK.bk b n y)
end
mutual
theorem Rep.bkF (b : Bk P G G' Gb) (n : ∀ a vs, P a → ¬ Rd G' a (.tup vs)) : ∀ (d : D) (v : V), flat d = true → Rep K cs G' v d → Rep K cs Gb v d
  | .non, _, _, .non => .non
  | .bl _, _, _, .bl _ => .bl _
  | .int _, _, _, .int _ => .int _
  | .str _, _, _, .str _ => .str _
  | .tup ds, _, f, .tup s r => .tup (s.imp (fun h => b.rd (fun x => n _ _ x h) trivial h) id) (Reps.bkF b n ds _ (by simpa [flat] using f) r)
  | .lst _, _, f, _ => by simp [flat] at f
  | .dct _, _, f, _ => by simp [flat] at f
  | .cel _, _, _, .cel e => .cel e
theorem Reps.bkF (b : Bk P G G' Gb) (n : ∀ a vs, P a → ¬ Rd G' a (.tup vs)) : ∀ (d : List D) (v : List V), flats d = true → Reps K cs G' v d → Reps K cs Gb v d
  | [], _, _, .nil => .nil
  | d :: ds, _, f, .cons x y => by
    simp only [flats, Bool.and_eq_true] at f
    exact .cons (Rep.bkF b n d _ f.1 x) (Reps.bkF b n ds _ f.2 y)
end
theorem RepK.bkF (b : Bk P G G' Gb) (n : ∀ a vs, P a → ¬ Rd G' a (.tup vs)) : ∀ {v : List (Key × V)} {d : List (D × D)}, flats (d.map (·.2)) = true → RepK K cs G' v d → RepK K cs Gb v d
  | _, _, _, .nil => .nil
  | _, _, f, .cons e x y => by
    simp only [List.map_cons, flats, Bool.and_eq_true] at f
    exact .cons e (Rep.bkF b n _ _ f.1 x) (RepK.bkF b n f.2 y)
/-! what frzR does -/
theorem frzR_in : ∀ (es : List Ex) (r : Row) (i : Nat) (d : D), (frzR es r)[i]? = some (some (true, d)) → r[i]? = some (some (true, d)) ∧ Ex.v i ∉ es := by
  intro es
  induction es with
  | nil => intro r i d h; exact ⟨h, by simp⟩
  | cons e es ih =>
    intro r i d h
    by_cases hv : ∃ j, e = .v j
    · obtain ⟨j, rfl⟩ := hv
      unfold frzR at h
      split at h
      · rename_i d' hj
        have := ih _ i d h
        have ne : j ≠ i := fun x => by
          subst x
          have hl : j < r.length := (List.getElem?_eq_some_iff.mp hj).1
          have t := this.1
          rw [List.getElem?_set_self hl] at t
          cases t
        rw [List.getElem?_set_ne ne] at this
        refine ⟨this.1, ?_⟩
        simp only [List.mem_cons, not_or]
        exact ⟨fun x => by cases x; exact ne rfl, this.2⟩
      · rename_i hj
        have := ih _ i d h
        refine ⟨this.1, ?_⟩
        simp only [List.mem_cons, not_or]
        refine ⟨fun x => ?_, this.2⟩
        cases x
        exact hj d this.1
    · have e1 : frzR (e :: es) r = frzR es r := by
        cases e <;> first | rfl | exact absurd ⟨_, rfl⟩ hv
      rw [e1] at h
      have := ih _ i d h
      refine ⟨this.1, ?_⟩
      simp only [List.mem_cons, not_or]
      exact ⟨fun x => hv ⟨i, x.symm⟩, this.2⟩
theorem frzR_out (es : List Ex) (r : Row) (i : Nat) (d : D) (h : (frzR es r)[i]? = some (some (false, d))) : r[i]? = some (some (false, d)) ∨ (r[i]? = some (some (true, d)) ∧ Ex.v i ∈ es) := by
  rcases (fol_frzR es r).2 i (by simp) with x | ⟨e, x, y⟩
  · exact .inl (by rw [← x]; exact h)
  · rw [h] at y; cases y
    refine .inr ⟨x, ?_⟩
    apply Classical.byContradiction
    intro n
    have : ∀ (es : List Ex) (r : Row), Ex.v i ∉ es → (frzR es r)[i]? = r[i]? := by
      intro es
      induction es with
      | nil => intro r _; rfl
      | cons e es ih =>
        intro r n
        simp only [List.mem_cons, not_or] at n
        by_cases hv : ∃ j, e = .v j
        · obtain ⟨j, rfl⟩ := hv
          unfold frzR
          split
          · rw [ih _ n.2, List.getElem?_set_ne]
            intro x; subst x; exact n.1 rfl
          · exact ih _ n.2
        · have e1 : frzR (e :: es) r = frzR es r := by
            cases e <;> first | rfl | exact absurd ⟨_, rfl⟩ hv
          rw [e1]; exact ih _ n.2
    rw [this es r n, x] at h
    cases h
theorem anyO_no : ∀ (es : List Ex) (r : Row), anyO es r = false → ∀ i d, Ex.v i ∈ es → r[i]? ≠ some (some (true, d)) := by
  intro es
  induction es with
  | nil => intro r _ i d m; simp at m
  | cons e es ih =>
    intro r h i d m x
    by_cases hv : ∃ j, e = .v j
    · obtain ⟨j, rfl⟩ := hv
      unfold anyO at h
      split at h
      · cases h
      · rename_i hj
        rcases List.mem_cons.mp m with y | y
        · cases y; exact hj d x
        · exact ih r h i d y x
    · have e1 : anyO (e :: es) r = anyO es r := by
        cases e <;> first | rfl | exact absurd ⟨_, rfl⟩ hv
      rw [e1] at h
      rcases List.mem_cons.mp m with y | y
      · exact hv ⟨i, y.symm⟩
      · exact ih r h i d y x
/-- the lent addresses -/
def Lnt (es : List Ex) (r : Row) (σ : L2.St) (a : Addr) : Prop := ∃ i d, Ex.v i ∈ es ∧ r[i]? = some (some (true, d)) ∧ σ[i]? = some (some (.ref a))
open Classical in
noncomputable def lent (es : List Ex) (r : Row) (σ : L2.St) (G H : Hp) : Hp := fun a => if Lnt es r σ a ∨ (G a).isSome = true then H a else none
theorem lent_le {es : List Ex} (at_ : At K B cs G s σ H) : Le G (lent es s.r σ G H) := fun a u h => by
  have g : (G a).isSome = true := by
    rcases h with h | ⟨_, h⟩ <;> rw [h] <;> rfl
  have e : lent es s.r σ G H a = H a := by unfold lent; rw [if_pos (.inr g)]
  rcases at_.wd.le a u h with x | ⟨od, x⟩
  · exact .inl (by rw [e]; exact x)
  · exact .inr ⟨od, by rw [e]; exact x⟩
theorem lent_at {es : List Ex} {a : Addr} {o : HO} (h : lent es r σ G H a = some o) : H a = some o ∧ (Lnt es r σ a ∨ G a ≠ none) := by
  unfold lent at h
  split at h
  · rename_i c
    refine ⟨h, c.imp id fun x y => by rw [y] at x; cases x⟩
  · cases h
theorem Lnt.own {es : List Ex} {a : Addr} (at_ : At K B cs G s σ H) (h : Lnt es s.r σ a) : G a = none ∧ a ∉ cs ∧ B.h0 a = none ∧ ∃ d, Own K cs G H a d := by
  obtain ⟨i, d, m, x, y⟩ := h
  obtain ⟨v, z, q⟩ := at_.en.val i true d x
  rw [y] at z; cases z
  obtain ⟨p, e, g, n, z, o⟩ := q
  cases e
  exact ⟨g, n, z, d, o⟩
theorem lent_wd {es : List Ex} (at_ : At K B cs G s σ H) : Wd K ⟨H, lent es s.r σ G H, []⟩ cs (lent es s.r σ G H) s.c H where
  le := Le.of fun a o h => (lent_at h).1
  gl := Le.refl _
  gn := fun a o h => .inl (by simp [h])
  cg := fun a m => by
    cases h : lent es s.r σ G H a with
    | none => rfl
    | some o =>
      rcases (lent_at h).2 with x | x
      · exact absurd m (x.own at_).2.1
      · exact absurd (at_.wd.cg a m) x
  nd := at_.wd.nd
  len := at_.wd.len
  cel := fun n a ds e1 e2 => by
    obtain ⟨vs, x, y⟩ := at_.wd.cel n a ds e1 e2
    exact ⟨vs, x, y.mono (Pre.refl _) (lent_le at_)⟩
  lok := fun p m => by cases m
  fr := fun a o h _ => .inl h
theorem lent_reps {es0 : List Ex} (at_ : At K B cs G s σ H) : ∀ {es : List Ex} {vs : List V} {ds : List D}, (∀ e ∈ es, e ∈ es0) → Ars K cs G s.r σ es vs ds → Reps K cs (lent es0 s.r σ G H) vs ds
  | [], [], [], _, _ => .nil
  | e :: es, v :: vs, d :: ds, m, ⟨h, k⟩ => .cons (by
      rcases h with h | ⟨i, e1, x, y⟩
      · exact h.mono (Pre.refl _) (lent_le at_)
      · obtain ⟨v', z, q⟩ := at_.en.val i true d x
        rw [y] at z; cases z
        obtain ⟨p, e2, g, n, z, o⟩ := q
        subst e2
        have ln : Lnt es0 s.r σ p := ⟨i, d, by rw [← e1]; exact m e (by simp), x, y⟩
        have e3 : lent es0 s.r σ G H p = H p := by unfold lent; rw [if_pos (.inl ln)]
        cases d with
        | lst ds' =>
          obtain ⟨ws, e4, q⟩ := o
          exact .lst (.of (by rw [e3]; exact e4)) (q.mono (Pre.refl _) (lent_le at_))
        | dct ds' =>
          obtain ⟨ws, e4, q⟩ := o
          exact .dct (.inl (by rw [e3]; exact e4)) (q.mono (Pre.refl _) (lent_le at_))
        | _ => exact o.elim) (lent_reps at_ (fun e h => m e (by simp [h])) k)
/-- a def's promise, by the interpreter -/
def spI (K : PySem.W.Frag) (C : Cl) (f : Nat) : Sp := fun vs H Q _ => ∃ cs G c ds, Wd K ⟨H, G, []⟩ cs G c H ∧ Reps K cs G vs ds ∧ Rn (C f ds c) fun od c' =>
  ∀ v cs' G' H', Stp cs G H cs' G' H' → Wd K ⟨H, G, []⟩ cs' G' c' H' → ValR K ⟨H, G, []⟩ cs' G' H' od.1 v od.2 → Q v H'
open Classical in
theorem call_sp {C : Cl} {f : Nat} {es : List Ex} {vs vp : List V} {ds dp : List D} {E : XK} (at_ : At K B cs G s σ H) (hp : Reps K cs G vp dp) (ar : Ars K cs G s.r σ es vs ds)
    (h : Rn (callD C f es (dp ++ ds) s) (Ps K B cs G H σ pk none Q)) : spI K C f (vp ++ vs) H Q E := by
  obtain ⟨od, c1, e1, h⟩ := Rn.eq (Rn.b h)
  refine ⟨cs, lent es s.r σ G H, s.c, dp ++ ds, lent_wd at_, (hp.mono (Pre.refl _) (lent_le at_)).app (lent_reps at_ (fun _ h => h) ar), ?_⟩
  rw [e1]
  intro v cs1 G1 H1 st1 wd1 vr
  have hs0 := lent_le (es := es) at_
  -- the frozen part behind
  have main : ∀ (P : Addr → Prop) (Gb : Hp), Bk P G G1 Gb → (∀ a, P a → Gb a = none) → (∀ a, P a → Lnt es s.r σ a) →
      (∀ (i : Nat) (d : D) (p : Addr), (if (anyO es s.r && !(noAl od.1 od.2 && c1.all flats)) = true then frzR es s.r else s.r)[i]? = some (some (true, d)) → σ[i]? = some (some (V.ref p)) → s.r[i]? = some (some (true, d)) ∧ (P p ∨ ¬ Lnt es s.r σ p)) →
      (∀ (i : Nat) (d : D), (if (anyO es s.r && !(noAl od.1 od.2 && c1.all flats)) = true then frzR es s.r else s.r)[i]? = some (some (false, d)) → s.r[i]? = some (some (false, d)) ∨ (s.r[i]? = some (some (true, d)) ∧ Ex.v i ∈ es ∧ ∀ a, ¬ P a)) →
      ((∀ a, ¬ P a) ∨ (noAl od.1 od.2 = true ∧ c1.all flats = true)) → Q v H1 := by
    intro P Gb bk hP hL hE1 hE2 hA
    have leb : Le G Gb := Le.of bk.some'
    have hl1 : ∀ a, Lnt es s.r σ a → ∃ o, H1 a = some o ∧ (∀ vs, ¬ Rd G1 a (.tup vs)) := fun a ha => by
      obtain ⟨g, n, z, d, o⟩ := ha.own at_
      cases d with
      | lst ds' =>
        obtain ⟨ws, e4, q⟩ := o
        have e5 := st1.keep _ _ n e4
        refine ⟨_, e5, fun vs r => ?_⟩
        rcases wd1.le _ _ r with x | ⟨_, x⟩ <;> rw [e5] at x <;> cases x
      | dct ds' =>
        obtain ⟨ws, e4, q⟩ := o
        have e5 := st1.keep _ _ n e4
        refine ⟨_, e5, fun vs r => ?_⟩
        rcases wd1.le _ _ r with x | ⟨_, x⟩ <;> rw [e5] at x <;> cases x
      | _ => exact o.elim
    have hR : ∀ (v : V) (d : D), ((∀ a, ¬ P a) ∨ flat d = true) → Rep K cs1 G1 v d → Rep K cs1 Gb v d := fun v d c r => by
      rcases c with c | c
      · exact r.bk bk c
      · exact Rep.bkF bk (fun a vs x => by obtain ⟨_, _, z⟩ := hl1 a (hL a x); exact z vs) d v c r
    have hRs : ∀ (v : List V) (d : List D), ((∀ a, ¬ P a) ∨ flats d = true) → Reps K cs1 G1 v d → Reps K cs1 Gb v d := fun v d c r => by
      rcases c with c | c
      · exact r.bk bk c
      · exact Reps.bkF bk (fun a vs x => by obtain ⟨_, _, z⟩ := hl1 a (hL a x); exact z vs) d v c r
    have gfree : ∀ a, G a = none → ¬ Lnt es s.r σ a → H a ≠ none → G1 a = none := fun a g n hn => by
      cases x : G1 a with
      | none => rfl
      | some o =>
        rcases wd1.gn a o x with y | y
        · exfalso
          cases z : lent es s.r σ G H a with
          | none => exact y z
          | some o' =>
            rcases (lent_at z).2 with q | q
            · exact n q
            · exact q g
        · exact absurd y hn
    have wd2 : Wd K B cs1 Gb c1 H1 := by
      refine ⟨fun a u r => ?_, at_.wd.gl.trans leb, fun a o x => ?_, fun a m => ?_, wd1.nd, wd1.len, fun n a ds e1 e2 => ?_, fun p m => ?_, fun a o x n => ?_⟩
      · -- Le Gb H1
        cases g : G a with
        | some o =>
          have e := bk.some' a o g
          have r1 : Rd G a u := by
            rcases r with x | ⟨od, x⟩
            · exact .inl (by rw [g, ← e]; exact x)
            · exact .inr ⟨od, by rw [g, ← e]; exact x⟩
          exact wd1.le a u (st1.le a u (hs0 a u r1))
        | none =>
          by_cases hp : P a
          · have := hP a hp
            rcases r with x | ⟨od, x⟩ <;> rw [this] at x <;> cases x
          · have e := bk.none' a g hp
            refine wd1.le a u ?_
            rcases r with x | ⟨od, x⟩
            · exact .inl (by rw [← e]; exact x)
            · exact .inr ⟨od, by rw [← e]; exact x⟩
      · cases g : G a with
        | some o' => exact at_.wd.gn a o' g
        | none =>
          by_cases hp : P a
          · rw [hP a hp] at x; cases x
          · rw [bk.none' a g hp] at x
            rcases wd1.gn a o x with y | y
            · cases z : lent es s.r σ G H a with
              | none => exact absurd z y
              | some o' =>
                rcases (lent_at z).2 with q | q
                · exact .inr (q.own at_).2.2.1
                · exact absurd g q
            · exact .inr (at_.wd.fresh y).2.2
      · have g1 := wd1.cg a m
        cases g : G a with
        | some o =>
          obtain ⟨u, x⟩ := (bk.le).ex g
          rw [g1] at x; cases x
        | none =>
          by_cases hp : P a
          · exact hP a hp
          · rw [bk.none' a g hp]; exact g1
      · obtain ⟨vs', x, y⟩ := wd1.cel n a ds e1 e2
        refine ⟨vs', x, hRs _ _ ?_ y⟩
        rcases hA with c | c
        · exact .inl c
        · exact .inr (List.all_eq_true.mp c.2 ds (List.mem_of_getElem? e2))
      · obtain ⟨o, x, y⟩ := at_.wd.lok p m
        refine ⟨o, bk.some' _ _ x, st1.keep _ _ (fun z => ?_) y⟩
        rw [at_.wd.cg _ z] at x; cases x
      · have n0 : a ∉ cs := fun m => n (st1.pre.mem m)
        rcases at_.wd.fr a o x n0 with y | ⟨od, m, y⟩
        · exact .inl (st1.keep _ _ n0 y)
        · exact .inr ⟨od, m, st1.keep _ _ n0 y⟩
    have st2 : Stp cs G H cs1 Gb H1 := ⟨st1.pre, st1.new, leb, st1.keep⟩
    have own2 : ∀ (p : Addr) (d : D), p ∉ cs → Own K cs G H p d → Own K cs1 Gb H1 p d := fun p d n o => o.mono st2 n
    refine h v cs1 Gb H1 st2 ⟨wd2, ?_⟩ ⟨?_, ?_, fun _ h => nomatch h⟩
    · -- names
      refine ⟨?_, fun i o d hi => ?_, fun i j d e v ne hi hj si sj => ?_⟩
      · show σ.length = (if _ then _ else _ : Row).length
        rw [at_.en.len]
        split
        · exact (fol_frzR es s.r).1.symm
        · rfl
      · cases o with
        | true =>
          have q : s.r[i]? = some (some (true, d)) := by
            revert hi
            show (if _ then _ else _ : Row)[i]? = _ → _
            split
            · exact fun hi => (frzR_in es s.r i d hi).1
            · exact id
          obtain ⟨v', y, p, e, g, n, z, o⟩ := at_.en.val i true d q
          subst e
          refine ⟨_, y, p, rfl, ?_, ?_, z, own2 p d n o⟩
          · rcases (hE1 i d p hi y).2 with x | x
            · exact hP p x
            · obtain ⟨o', he⟩ := o.there
              have g1 : G1 p = none := gfree p g x (by rw [he]; simp)
              by_cases hp : P p
              · exact hP p hp
              · rw [bk.none' p g hp]; exact g1
          · obtain ⟨o', he⟩ := o.there
            exact st1.nin n he
        | false =>
          rcases hE2 i d hi with q | ⟨q, m, np⟩
          · obtain ⟨v', y, z⟩ := at_.en.val i false d q
            exact ⟨v', y, z.mono st1.pre leb⟩
          · obtain ⟨v', y, p, e, g, n, z, o⟩ := at_.en.val i true d q
            subst e
            refine ⟨_, y, ?_⟩
            have ln : Lnt es s.r σ p := ⟨i, d, m, q, y⟩
            have e3 : lent es s.r σ G H p = H p := by unfold lent; rw [if_pos (.inl ln)]
            refine hR _ _ (.inl np) ?_
            cases d with
            | lst ds' =>
              obtain ⟨ws, e4, q⟩ := o
              exact .lst (st1.le.seqL (.of (by rw [e3]; exact e4))) (q.mono st1.pre (hs0.trans st1.le))
            | dct ds' =>
              obtain ⟨ws, e4, q⟩ := o
              exact .dct (st1.le _ _ (.inl (by rw [e3]; exact e4))) (q.mono st1.pre (hs0.trans st1.le))
            | _ => exact o.elim
      · have q : ∀ (i : Nat) (d : D), (if (anyO es s.r && !(noAl od.1 od.2 && c1.all flats)) = true then frzR es s.r else s.r)[i]? = some (some (true, d)) → s.r[i]? = some (some (true, d)) := by
          intro i d
          split
          · exact fun hi => (frzR_in es s.r i d hi).1
          · exact id
        exact at_.en.dis i j d e v ne (q i d hi) (q j e hj) si sj
    · -- the value
      obtain ⟨ob, dd⟩ := od
      cases ob with
      | false =>
        refine hR v dd ?_ vr
        rcases hA with c | c
        · exact .inl c
        · exact .inr c.1
      | true =>
        obtain ⟨p, e, g, n, z, o⟩ := vr
        have hn : H p = none := z
        have gn := at_.wd.fresh hn
        refine ⟨p, e, ?_, n, gn.2.2, ?_⟩
        · by_cases hp : P p
          · exact hP p hp
          · rw [bk.none' p gn.1 hp]; exact g
        · cases dd with
          | lst ds' =>
            obtain ⟨ws, e4, q⟩ := o
            refine ⟨ws, e4, hRs _ _ ?_ q⟩
            rcases hA with c | c
            · exact .inl c
            · exact .inr c.1
          | dct ds' =>
            obtain ⟨ws, e4, q⟩ := o
            refine ⟨ws, e4, ?_⟩
            rcases hA with c | c
            · exact q.bk bk c
            · exact RepK.bkF bk (fun a vs x => by obtain ⟨_, _, z⟩ := hl1 a (hL a x); exact z vs) c.1 q
          | _ => exact o.elim
    · intro ho _ i e hi hx
      obtain ⟨ob, dd⟩ := od
      simp only at ho
      subst ho
      obtain ⟨p, e1, g, n, z, o⟩ := vr
      subst e1
      have q : s.r[i]? = some (some (true, e)) := (hE1 i e p hi hx).1
      obtain ⟨v', y, p', e', _, _, _, o'⟩ := at_.en.val i true e q
      rw [hx] at y; cases y
      cases e'
      obtain ⟨_, x⟩ := o'.there
      have hn : H p = none := z
      rw [hn] at x; cases x
  -- which case
  by_cases hc : (anyO es s.r && !(noAl od.1 od.2 && c1.all flats)) = true
  · refine main (fun _ => False) (fun a => match G a with | some o => some o | none => G1 a) ⟨hs0.trans st1.le, fun a o e => by simp [e], fun a e _ => by simp [e]⟩ (fun _ h => h.elim) (fun _ h => h.elim) (fun i d p hi hx => ?_) (fun i d hi => ?_) (.inl fun _ h => h)
    · rw [if_pos hc] at hi
      have q := frzR_in es s.r i d hi
      refine ⟨q.1, .inr fun ⟨j, d', m, x, y⟩ => ?_⟩
      by_cases e : i = j
      · subst e; exact q.2 m
      · exact at_.en.dis i j d d' _ e q.1 x hx y
    · rw [if_pos hc] at hi
      rcases frzR_out es s.r i d hi with x | ⟨x, y⟩
      · exact .inl x
      · exact .inr ⟨x, y, fun _ h => h⟩
  · by_cases ha : anyO es s.r = true
    · have hn : noAl od.1 od.2 = true ∧ c1.all flats = true := by
        rw [ha, Bool.true_and] at hc
        simpa using hc
      refine main (Lnt es s.r σ) (fun a => if Lnt es s.r σ a then none else match G a with | some o => some o | none => G1 a) ⟨hs0.trans st1.le, fun a o e => ?_, fun a e n => ?_⟩ (fun a h => if_pos h) (fun _ h => h) (fun i d p hi hx => ?_) (fun i d hi => ?_) (.inr hn)
      · have : ¬ Lnt es s.r σ a := fun x => by have := (x.own at_).1; rw [e] at this; cases this
        simp [this, e]
      · simp [n, e]
      · rw [if_neg hc] at hi
        refine ⟨hi, ?_⟩
        by_cases x : Lnt es s.r σ p
        · exact .inl x
        · exact .inr x
      · rw [if_neg hc] at hi
        exact .inl hi
    · have hno : ∀ a, ¬ Lnt es s.r σ a := fun a ⟨i, d, m, x, y⟩ => anyO_no es s.r (by simpa using ha) i d m x
      refine main (fun _ => False) (fun a => match G a with | some o => some o | none => G1 a) ⟨hs0.trans st1.le, fun a o e => by simp [e], fun a e _ => by simp [e]⟩ (fun _ h => h.elim) (fun _ h => h.elim) (fun i d p hi hx => ?_) (fun i d hi => ?_) (.inl fun _ h => h)
      · rw [if_neg hc] at hi
        exact ⟨hi, .inr (hno p)⟩
      · rw [if_neg hc] at hi
        exact .inl hi
end
end Q
end

section
set_option Elab.async false
set_option linter.all false
set_option maxRecDepth 100000
set_option maxHeartbeats 4000000
namespace Q
open PySem PySem.Spec PyProof.Rows L2
/-! ### expressions, one by one -/
section
variable {K : PySem.W.Frag} {B : Bs} {cs cs' cs1 : List Addr} {G G' G1 H H' H1 : Hp} {s s1 : S} {σ : L2.St} {v w : V} {d dx dy : D} {p : Addr} {Q : VK} {pk : Bool} {vi : Option Nat} {r : Row} {od : Bool × D}
theorem Ps.shift (q : Ps K B cs G H σ pk vi Q od s) (st : Stp cs G H cs1 G1 H1) : Ps K B cs1 G1 H1 σ pk vi Q od s := fun v cs' G' H' st2 at2 r => q v cs' G' H' (st.trans st2) at2 r
theorem Res.weak {pk' : Bool} (r : Res K B cs G H s σ pk' vi od v) (h : pk = false → pk' = false) : Res K B cs G H s σ pk none od v := ⟨r.1, fun a b => r.2.1 a (h b), fun _ h => nomatch h⟩
theorem Res.vw (r : Res K B cs G H s σ pk vi od v) : Vw K cs G H v od.2 := r.1.vw
theorem Rn.b2 {σ τ α β : Type} {r : R σ α} {f : α → σ → R τ β} {P : β → τ → Prop} (h : Rn (r.b f) P) : ∃ a s, r = .ok a s ∧ Rn (f a s) P := by
  obtain ⟨a, s, e, h⟩ := Rn.eq (Rn.b h)
  exact ⟨a, s, e, h⟩
variable {X : Cx} {C : Cl} {a b c e : Expr} {x y z : Ex} {pos : Pos}
/-- into an operand -/
theorem tE_in {Q0 : VK} (at_ : At X.K B cs G s σ H) (e1 : ev C x s = .ok od s1) (k : ∀ v cs1 G1 H1, Stp cs G H cs1 G1 H1 → At X.K B cs1 G1 s1 σ H1 → Res X.K B cs1 G1 H1 s1 σ (isPk x) (vOf x) od v → Q0 v H1) : tE X C x σ H Q0 :=
  ⟨B, cs, G, s, at_, by rw [e1]; exact k⟩
theorem r_non {k : Nat} : PE X (.Constant .none k pos) (tE X C (.c .non)) := peM pe_non fun σ H Q ⟨B, cs, G, s, at_, h⟩ => Ps.scal at_ .non h
theorem r_bl {k : Nat} {t : Bool} : PE X (.Constant (.bool t) k pos) (tE X C (.c (.bl t))) := peM pe_bl fun σ H Q ⟨B, cs, G, s, at_, h⟩ => Ps.scal at_ (.bl _) h
theorem r_int {k : Nat} {i : Int} : PE X (.Constant (.int i) k pos) (tE X C (.c (.int i))) := peM pe_int fun σ H Q ⟨B, cs, G, s, at_, h⟩ => Ps.scal at_ (.int _) h
theorem r_str {k : Nat} {i : Str} : PE X (.Constant (.str i) k pos) (tE X C (.c (.str i))) := peM pe_str fun σ H Q ⟨B, cs, G, s, at_, h⟩ => Ps.scal at_ (.str _) h
theorem r_glob {i : Int} {t : Tok} {n : Str} (hg : Gl X n) (hm : X.mg n = some (.int i t)) (hd : (n == ("__debug__" : Str)) = false) : PE X (.Name n pos) (tE X C (.c (.int i))) :=
  peM (pe_glob (v := .int i) hg hm ⟨t, rfl⟩ hd) fun σ H Q ⟨B, cs, G, s, at_, h⟩ => Ps.scal at_ (.int _) h
theorem r_v {i : Nat} {n : Str} (hN : X.N[i]? = some n) (hv : Vis X.env.scope n) (hd : (n == ("__debug__" : Str)) = false) (hcd : (n == ("__classdict__" : Str)) = false) : PE X (.Name n pos) (tE X C (.v i)) :=
  peM (pe_var (i := i) hN hv hd hcd) fun σ H Q ⟨B, cs, G, s, at_, h⟩ => by
    simp only [ev] at h
    split at h
    · rename_i od q
      obtain ⟨v, e, vr⟩ := at_.en.val i od.1 od.2 q
      exact ⟨v, e, h v cs G H (Stp.refl _ _ _) at_ ⟨vr, fun _ h => (nomatch h), fun j e' => by cases e'; exact e⟩⟩
    · exact h.elim
/-- a name that owned owns no more -/
theorem At.fz {i : Nat} {o : Bool} (at_ : At K B cs G s σ H) (q : s.r[i]? = some (some (o, d))) : ∃ v G', σ[i]? = some (some v) ∧ Le G G' ∧ At K B cs G' ⟨s.r.set i (some (false, d)), s.c⟩ σ H ∧ Rep K cs G' v d := by
  obtain ⟨v, e, vr⟩ := at_.en.val i o d q
  have hl : i < s.r.length := (List.getElem?_eq_some_iff.mp q).1
  -- names apart from i
  have key : ∀ G', Le G G' → (∀ (j : Nat) (d' : D) (p : Addr), j ≠ i → s.r[j]? = some (some (true, d')) → σ[j]? = some (some (.ref p)) → G' p = none) → Rep K cs G' v d → En K B cs G' H (s.r.set i (some (false, d))) σ := fun G' le no rp => by
    refine ⟨by rw [at_.en.len]; simp, fun j o' d' h => ?_, fun j k d' e' v' ne hj hk sj sk => ?_⟩
    · by_cases x : j = i
      · subst x
        rw [List.getElem?_set_self hl] at h
        cases h
        exact ⟨v, e, rp⟩
      · rw [List.getElem?_set_ne (fun y => x y.symm)] at h
        obtain ⟨w, f, vr'⟩ := at_.en.val j o' d' h
        refine ⟨w, f, ?_⟩
        cases o' with
        | false => exact vr'.mono (Pre.refl _) le
        | true =>
          obtain ⟨p, e1, _, n, z, ow⟩ := vr'
          subst e1
          exact ⟨p, rfl, no j d' p x h f, n, z, ow.mono (Stp.grow le) n⟩
    · have t : ∀ (m : Nat) (f : D), (s.r.set i (some (false, d)))[m]? = some (some (true, f)) → s.r[m]? = some (some (true, f)) := fun m f h => by
        by_cases x : m = i
        · subst x; rw [List.getElem?_set_self hl] at h; cases h
        · rw [List.getElem?_set_ne (fun y => x y.symm)] at h; exact h
      exact at_.en.dis j k d' e' v' ne (t j d' hj) (t k e' hk) sj sk
  cases o with
  | false =>
    refine ⟨v, G, e, Le.refl _, ⟨at_.wd, key G (Le.refl _) (fun j d' p _ hj sj => ?_) vr⟩, vr⟩
    obtain ⟨w, f, vr'⟩ := at_.en.val j true d' hj
    rw [sj] at f; cases f
    obtain ⟨p', e1, g, _⟩ := vr'
    cases e1; exact g
  | true =>
    obtain ⟨p, e1, g, n, z, ow⟩ := vr
    subst e1
    have fin : ∀ (o : HO), H p = some o → (Le G (upd G p o) → Rep K cs (upd G p o) (.ref p) d) → ∃ v G', σ[i]? = some (some v) ∧ Le G G' ∧ At K B cs G' ⟨s.r.set i (some (false, d)), s.c⟩ σ H ∧ Rep K cs G' v d := fun o ho hr => by
      have le : Le G (upd G p o) := Le.new g
      refine ⟨_, upd G p o, e, le, ⟨at_.wd.grow ho n g z, key _ le (fun j d' p' x hj sj => ?_) (hr le)⟩, hr le⟩
      obtain ⟨w, f, vr'⟩ := at_.en.val j true d' hj
      rw [sj] at f; cases f
      obtain ⟨p'', e1, g', _⟩ := vr'
      cases e1
      by_cases y : p' = p
      · subst y
        exact absurd e (at_.en.dis j i d' d _ x hj q sj)
      · rw [upd_ne y]; exact g'
    cases d with
    | lst ds =>
      obtain ⟨vs, e2, rp⟩ := ow
      exact fin _ e2 fun le => .lst (.of upd_same) (rp.mono (Pre.refl _) le)
    | dct ds =>
      obtain ⟨vs, e2, rp⟩ := ow
      exact fin _ e2 fun le => .dct (.inl upd_same) (rp.mono (Pre.refl _) le)
    | _ => exact ow.elim
theorem r_fz {i : Nat} {n : Str} (hN : X.N[i]? = some n) (hv : Vis X.env.scope n) (hd : (n == ("__debug__" : Str)) = false) (hcd : (n == ("__classdict__" : Str)) = false) : PE X (.Name n pos) (tE X C (.fz i)) :=
  peM (pe_var (i := i) hN hv hd hcd) fun σ H Q ⟨B, cs, G, s, at_, h⟩ => by
    simp only [ev] at h
    split at h
    · rename_i od q
      obtain ⟨v, G', e, le, at1, rp⟩ := at_.fz q
      exact ⟨v, e, h v cs G' H (Stp.grow le) at1 ⟨rp, fun h => (nomatch h), fun _ h => nomatch h⟩⟩
    · exact h.elim
theorem r_bin (o : Op) (ha : PE X a (tE X C x)) (hb : PE X b (tE X C y)) : PE X (.BinOp a (opP o) b pos) (tE X C (.bin o x y)) :=
  peM (pe_op (o_bin o) ha hb) fun σ H Q ⟨B, cs, G, s, at_, h⟩ => by
    obtain ⟨dx, s1, e1, h⟩ := Rn.b2 h
    obtain ⟨dy, s2, e2, h⟩ := Rn.b2 h
    obtain ⟨od, e3, h⟩ := Rn.of h
    refine tE_in at_ e1 fun v cs1 G1 H1 st1 at1 r1 => tE_in at1 e2 fun w cs2 G2 H2 st2 at2 r2 => ?_
    exact bin_ok at2 (r1.vw.mono st2) r2.vw e3 (Ps.shift (Ps.shift h st1) st2)
theorem r_neg (ha : PE X a (tE X C x)) : PE X (.UnaryOp .USub a pos) (tE X C (.neg x)) :=
  peM (pe_un un_neg ha) fun σ H Q ⟨B, cs, G, s, at_, h⟩ => by
    obtain ⟨dx, s1, e1, h⟩ := Rn.b2 h
    obtain ⟨ob, dd⟩ := dx
    refine tE_in at_ e1 fun v cs1 G1 H1 st1 at1 r1 => ?_
    cases dd <;> simp only at h <;> first | exact h.elim | skip
    exact ⟨_, r1.vw.int, Ps.scal at1 (.int _) (Ps.shift h st1)⟩
theorem nbm (o : Cm) (b : Expr) : behindInMarks (cmP o) b = false := nobehind b (by cases o <;> simp [cmP]) (by cases o <;> simp [cmP])
theorem r_cmp (hu : X.A.units + 64 < cLine) (o : Cm) (ha : PE X a (tE X C x)) (hb : PE X b (tE X C y)) : PE X (.Compare a [cmP o] [b] pos) (tE X C (.cmp o x y)) :=
  peM (pe_cmpR (o_cmp hu o) ha hb (nbm o b)) fun σ H Q ⟨B, cs, G, s, at_, h⟩ => by
    obtain ⟨dx, s1, e1, h⟩ := Rn.b2 h
    obtain ⟨dy, s2, e2, h⟩ := Rn.b2 h
    obtain ⟨t, s3, e3', h⟩ := Rn.b2 h
    obtain ⟨e3, rfl⟩ := R.of_eq e3'
    refine tE_in at_ e1 fun v cs1 G1 H1 st1 at1 r1 => tE_in at1 e2 fun w cs2 G2 H2 st2 at2 r2 => ?_
    exact cmp_ok at2 (r1.vw.mono st2) r2.vw e3 (Ps.scal at2 (.bl _) (Ps.shift (Ps.shift h st1) st2))
theorem r_cmpT (hu : X.A.units + 64 < cLine) (o : Cm) (ha : PE X a (tE X C x)) (hb : PE X b (tE X C y)) : PT X (.Compare a [cmP o] [b] pos) (tT X C (.cmp o x y)) :=
  ptM (pt_cmpR (o_cmp hu o) ha hb (nbm o b)) fun σ H Q ⟨B, cs, G, s, at_, h⟩ => by
    obtain ⟨z, s4, e4, h⟩ := Rn.b2 h
    obtain ⟨dx, s1, e1, e4⟩ := R.b_eq e4
    obtain ⟨dy, s2, e2, e4⟩ := R.b_eq e4
    obtain ⟨t, s3, e3', e4⟩ := R.b_eq e4
    obtain ⟨e3, rfl⟩ := R.of_eq e3'
    cases e4
    obtain ⟨u, e5, h⟩ := Rn.of h
    cases e5
    refine tE_in at_ e1 fun v cs1 G1 H1 st1 at1 r1 => tE_in at1 e2 fun w cs2 G2 H2 st2 at2 r2 => ?_
    exact cmp_ok at2 (r1.vw.mono st2) r2.vw e3 ⟨_, rfl, h cs2 G2 H2 (st1.trans st2) at2⟩
theorem r_chn (hu : X.A.units + 64 < cLine) (o p : Cm) (ha : PE X a (tE X C x)) (hb : PE X b (tE X C y)) (hc : PE X c (tE X C z)) : PE X (.Compare a [cmP o, cmP p] [b, c] pos) (tE X C (.chn o p x y z)) :=
  peM (pe_chain (o_cmp hu o) (o_cmp hu p) ha hb hc (nbm p c)) fun σ H Q ⟨B, cs, G, s, at_, h⟩ => by
    obtain ⟨dx, s1, e1, h⟩ := Rn.b2 h
    obtain ⟨dy, s2, e2, h⟩ := Rn.b2 h
    obtain ⟨t, s3, e3', h⟩ := Rn.b2 h
    obtain ⟨e3, rfl⟩ := R.of_eq e3'
    refine tE_in at_ e1 fun v cs1 G1 H1 st1 at1 r1 => tE_in at1 e2 fun w cs2 G2 H2 st2 at2 r2 => ?_
    refine cmp_ok at2 (r1.vw.mono st2) r2.vw e3 ⟨_, rfl, ?_⟩
    cases t with
    | false => exact Ps.scal at2 (.bl _) (Ps.shift (Ps.shift h st1) st2)
    | true =>
      obtain ⟨dz, s4, e4, h⟩ := Rn.b2 h
      obtain ⟨t, s5, e5', h⟩ := Rn.b2 h
      obtain ⟨e5, rfl⟩ := R.of_eq e5'
      refine tE_in at2 e4 fun u cs3 G3 H3 st3 at3 r3 => ?_
      exact cmp_ok at3 (r2.vw.mono st3) r3.vw e5 (Ps.scal at3 (.bl _) (Ps.shift (Ps.shift (Ps.shift h st1) st2) st3))
theorem r_chnT (hu : X.A.units + 64 < cLine) (o p : Cm) (ha : PE X a (tE X C x)) (hb : PE X b (tE X C y)) (hc : PE X c (tE X C z)) : PT X (.Compare a [cmP o, cmP p] [b, c] pos) (tT X C (.chn o p x y z)) :=
  ptM (pt_chain (o_cmp hu o) (o_cmp hu p) ha hb hc (nbm p c)) fun σ H Q ⟨B, cs, G, s, at_, h⟩ => by
    obtain ⟨q, s4, e4, h⟩ := Rn.b2 h
    obtain ⟨dx, s1, e1, e4⟩ := R.b_eq e4
    obtain ⟨dy, s2, e2, e4⟩ := R.b_eq e4
    obtain ⟨t, s3, e3', e4⟩ := R.b_eq e4
    obtain ⟨e3, rfl⟩ := R.of_eq e3'
    refine tE_in at_ e1 fun v cs1 G1 H1 st1 at1 r1 => tE_in at1 e2 fun w cs2 G2 H2 st2 at2 r2 => ?_
    cases t with
    | false =>
      cases e4
      obtain ⟨u, e5, h⟩ := Rn.of h
      cases e5
      exact cmp_ok at2 (r1.vw.mono st2) r2.vw e3 ⟨_, rfl, _, rfl, h cs2 G2 H2 (st1.trans st2) at2⟩
    | true =>
      obtain ⟨dz, s5, e5, e4⟩ := R.b_eq e4
      obtain ⟨t, s6, e6', e4⟩ := R.b_eq e4
      obtain ⟨e6, rfl⟩ := R.of_eq e6'
      cases e4
      obtain ⟨u, e7, h⟩ := Rn.of h
      cases e7
      refine cmp_ok at2 (r1.vw.mono st2) r2.vw e3 ⟨_, rfl, ?_⟩
      refine tE_in at2 e5 fun u cs3 G3 H3 st3 at3 r3 => ?_
      exact cmp_ok at3 (r2.vw.mono st3) r3.vw e6 ⟨_, rfl, h cs3 G3 H3 ((st1.trans st2).trans st3) at3⟩
/-! truth -/
theorem r_tru (ha : PE X a (tE X C x)) (he : ∀ whole, isTrue a X.env whole = (do let v ← whole; standAt a.pos; holding [v] (truthy v))) : PT X a (tT X C x) :=
  ⟨fun pins s0 σ H Q I ⟨B, cs, G, s, at_, h⟩ => by
    obtain ⟨dx, s1, e1, h⟩ := Rn.b2 h
    obtain ⟨t, e2, h⟩ := Rn.of h
    have q : tE X C x σ H fun v H1 => rTru X.K v H1 Q := tE_in at_ e1 fun v cs1 G1 H1 st1 at1 r1 => tru_okD at1 r1.vw e2 (h cs1 G1 H1 st1 at1)
    exact isTrue_plain (thn (ha.run pins s0 σ H _ I q) fun v s2 ⟨y, H2, I2, r2, q2⟩ => o_tru pins s2 σ H2 y v Q I2 r2 q2) (he _)⟩
theorem r_notT (ha : PT X a (tT X C x)) : PT X (.UnaryOp .Not a pos) (tT X C (.not x)) :=
  ptM (pt_not ha) fun σ H Q ⟨B, cs, G, s, at_, h⟩ => by
    obtain ⟨q, s4, e4, h⟩ := Rn.b2 h
    obtain ⟨dx, s1, e1, e4⟩ := R.b_eq e4
    obtain ⟨t, s2, e2, e4⟩ := R.b_eq e4
    cases e4
    obtain ⟨u, e5, h⟩ := Rn.of h
    cases e5
    refine ⟨B, cs, G, s, at_, ?_⟩
    rw [show (ev C x s).b tru = .ok t s4 by rw [e1]; exact e2]
    exact h
theorem r_not (ha : PE X a (tE X C x)) : PE X (.UnaryOp .Not a pos) (tE X C (.not x)) :=
  ⟨fun pins s0 σ H Q I ⟨B, cs, G, s, at_, h⟩ => by
    obtain ⟨dx, s1, e1, h⟩ := Rn.b2 h
    obtain ⟨t, s2, e2', h⟩ := Rn.b2 h
    obtain ⟨e2, rfl⟩ := tru_eq e2'
    have q : tE X C x σ H fun v H1 => rTru X.K v H1 fun k H2 => Q (.bl (!k)) H2 := tE_in at_ e1 fun v cs1 G1 H1 st1 at1 r1 => tru_okD at1 r1.vw e2 (Ps.scal at1 (.bl _) (Ps.shift h st1))
    exact UnaryOp_ (thn (ha.run pins s0 σ H _ I q) fun u s3 ⟨v, H1, I1, r1, q1⟩ => PyProof.Rows.not_of (thn (o_tru pins s3 σ H1 v u _ I1 r1 q1) fun k s4 ⟨H2, I2, q2⟩ => ⟨.bl (!k), H2, I2, rfl, q2⟩))⟩
/-! and, or: over the list of their parts -/
theorem r_and {rest : List Expr} (ha : PE X a (tE X C x)) (hb : PE X (.BoolOp .And (b :: rest) pos) (tE X C y)) : PE X (.BoolOp .And (a :: b :: rest) pos) (tE X C (.and x y)) :=
  ⟨fun pins s0 σ H Q I ⟨B, cs, G, s, at_, h⟩ => by
    obtain ⟨dx, s1, e1, h⟩ := Rn.b2 h
    obtain ⟨t, s2, e2', h⟩ := Rn.b2 h
    obtain ⟨e2, rfl⟩ := tru_eq e2'
    have q : tE X C x σ H fun v H1 => rTru X.K v H1 (fun k H2 => k = t ∧ H2 = H1) ∧ if t = true then tE X C y σ H1 Q else Q v H1 := tE_in at_ e1 fun v cs1 G1 H1 st1 at1 r1 => by
      refine ⟨tru_okD at1 r1.vw e2 ⟨rfl, rfl⟩, ?_⟩
      cases t with
      | true =>
        rw [if_pos rfl] at h ⊢
        exact ⟨B, cs1, G1, s1, at1, Rn.mono h fun od s' q v' cs' G' H' st2 at2 r2 => q v' cs' G' H' (st1.trans st2) at2 (r2.weak fun hp => by simp only [isPk, Bool.or_eq_false_iff] at hp; exact hp.2)⟩
      | false =>
        rw [if_neg (by simp)] at h ⊢
        exact h v cs1 G1 H1 st1 at1 (r1.weak fun hp => by simp only [isPk, Bool.or_eq_false_iff] at hp; exact hp.1)
    refine BoolOp_and (thn (ha.run pins s0 σ H _ I q) fun u s3 ⟨v, H1, I1, r1, t1, q1⟩ => thn (o_tru pins s3 σ H1 v u _ I1 r1 t1) fun k s4 ⟨H2, I2, k1, k2⟩ => ?_)
    subst k1; subst k2
    cases k with
    | true => rw [if_pos rfl] at q1; exact hb.run pins s4 σ _ Q I2 q1
    | false => exact ⟨v, _, I2, r1, by simpa using q1⟩⟩
theorem r_or {rest : List Expr} (ha : PE X a (tE X C x)) (hb : PE X (.BoolOp .Or (b :: rest) pos) (tE X C y)) : PE X (.BoolOp .Or (a :: b :: rest) pos) (tE X C (.or x y)) :=
  ⟨fun pins s0 σ H Q I ⟨B, cs, G, s, at_, h⟩ => by
    obtain ⟨dx, s1, e1, h⟩ := Rn.b2 h
    obtain ⟨t, s2, e2', h⟩ := Rn.b2 h
    obtain ⟨e2, rfl⟩ := tru_eq e2'
    have q : tE X C x σ H fun v H1 => rTru X.K v H1 (fun k H2 => k = t ∧ H2 = H1) ∧ if t = true then Q v H1 else tE X C y σ H1 Q := tE_in at_ e1 fun v cs1 G1 H1 st1 at1 r1 => by
      refine ⟨tru_okD at1 r1.vw e2 ⟨rfl, rfl⟩, ?_⟩
      cases t with
      | true =>
        rw [if_pos rfl] at h ⊢
        exact h v cs1 G1 H1 st1 at1 (r1.weak fun hp => by simp only [isPk, Bool.or_eq_false_iff] at hp; exact hp.1)
      | false =>
        rw [if_neg (by simp)] at h ⊢
        exact ⟨B, cs1, G1, s1, at1, Rn.mono h fun od s' q v' cs' G' H' st2 at2 r2 => q v' cs' G' H' (st1.trans st2) at2 (r2.weak fun hp => by simp only [isPk, Bool.or_eq_false_iff] at hp; exact hp.2)⟩
    refine BoolOp_or (thn (ha.run pins s0 σ H _ I q) fun u s3 ⟨v, H1, I1, r1, t1, q1⟩ => thn (o_tru pins s3 σ H1 v u _ I1 r1 t1) fun k s4 ⟨H2, I2, k1, k2⟩ => ?_)
    subst k1; subst k2
    cases k with
    | true => exact ⟨v, _, I2, r1, by simpa using q1⟩
    | false => exact hb.run pins s4 σ _ Q I2 (by simpa using q1)⟩
theorem r_one {op : BoolOp} (ha : PE X a (tE X C x)) : PE X (.BoolOp op [a] pos) (tE X C x) := pe_one ha
theorem r_oneT (ha : PT X a (tT X C x)) : PW X (.BoolOp .And [a] pos) (tT X C x) ∧ PW X (.BoolOp .Or [a] pos) (tT X C x) := ⟨pw_and1 ha, pw_or1 ha⟩
theorem r_andT {rest : List Expr} (ha : PT X a (tT X C x)) (hb : PW X (.BoolOp .And (b :: rest) pos) (tT X C y)) : PW X (.BoolOp .And (a :: b :: rest) pos) (tT X C (.and x y)) :=
  pwM (pw_and ha hb) fun σ H Q ⟨B, cs, G, s, at_, h⟩ => by
    obtain ⟨dz, s4, e4, h⟩ := Rn.b2 h
    obtain ⟨dx, s1, e1, e4⟩ := R.b_eq e4
    obtain ⟨t, s2, e2', e4⟩ := R.b_eq e4
    obtain ⟨e2, rfl⟩ := tru_eq e2'
    refine ⟨B, cs, G, s, at_, ?_⟩
    rw [show (ev C x s).b tru = .ok t s1 by rw [e1]; exact e2']
    intro cs1 G1 H1 st1 at1
    cases t with
    | true =>
      refine ⟨B, cs1, G1, s1, at1, ?_⟩
      rw [if_pos rfl] at e4
      rw [e4]
      exact Rn.mono h fun b s' q cs' G' H' st2 at2 => q cs' G' H' (st1.trans st2) at2
    | false =>
      rw [if_neg (by simp)] at e4
      cases e4
      obtain ⟨u, e5, h⟩ := Rn.of h
      rw [e2] at e5; cases e5
      exact h cs1 G1 H1 st1 at1
theorem r_orT {rest : List Expr} (ha : PT X a (tT X C x)) (hb : PW X (.BoolOp .Or (b :: rest) pos) (tT X C y)) : PW X (.BoolOp .Or (a :: b :: rest) pos) (tT X C (.or x y)) :=
  pwM (pw_or ha hb) fun σ H Q ⟨B, cs, G, s, at_, h⟩ => by
    obtain ⟨dz, s4, e4, h⟩ := Rn.b2 h
    obtain ⟨dx, s1, e1, e4⟩ := R.b_eq e4
    obtain ⟨t, s2, e2', e4⟩ := R.b_eq e4
    obtain ⟨e2, rfl⟩ := tru_eq e2'
    refine ⟨B, cs, G, s, at_, ?_⟩
    rw [show (ev C x s).b tru = .ok t s1 by rw [e1]; exact e2']
    intro cs1 G1 H1 st1 at1
    cases t with
    | true =>
      rw [if_pos rfl] at e4
      cases e4
      obtain ⟨u, e5, h⟩ := Rn.of h
      rw [e2] at e5; cases e5
      exact h cs1 G1 H1 st1 at1
    | false =>
      refine ⟨B, cs1, G1, s1, at1, ?_⟩
      rw [if_neg (by simp)] at e4
      rw [e4]
      exact Rn.mono h fun b s' q cs' G' H' st2 at2 => q cs' G' H' (st1.trans st2) at2
theorem r_ite (hc : PT X c (tT X C z)) (ha : PE X a (tE X C x)) (hb : PE X b (tE X C y)) : PE X (.IfExp c a b pos) (tE X C (.ite z x y)) :=
  peM (pe_ifExp hc ha hb) fun σ H Q ⟨B, cs, G, s, at_, h⟩ => by
    obtain ⟨dz, s1, e1, h⟩ := Rn.b2 h
    obtain ⟨t, s2, e2', h⟩ := Rn.b2 h
    obtain ⟨e2, rfl⟩ := tru_eq e2'
    refine ⟨B, cs, G, s, at_, ?_⟩
    rw [show (ev C z s).b tru = .ok t s1 by rw [e1]; exact e2']
    intro cs1 G1 H1 st1 at1
    cases t with
    | true =>
      rw [if_pos rfl] at h ⊢
      exact ⟨B, cs1, G1, s1, at1, Rn.mono h fun od s' q v' cs' G' H' st2 at2 r2 => q v' cs' G' H' (st1.trans st2) at2 (r2.weak fun hp => by simp only [isPk, Bool.or_eq_false_iff] at hp; exact hp.1)⟩
    | false =>
      rw [if_neg (by simp)] at h ⊢
      exact ⟨B, cs1, G1, s1, at1, Rn.mono h fun od s' q v' cs' G' H' st2 at2 r2 => q v' cs' G' H' (st1.trans st2) at2 (r2.weak fun hp => by simp only [isPk, Bool.or_eq_false_iff] at hp; exact hp.2)⟩
end
end Q
end

section
set_option Elab.async false
set_option linter.all false
set_option maxRecDepth 100000
set_option maxHeartbeats 4000000
namespace Q
open PySem PySem.Spec PyProof.Rows L2
/-! ### a def's promise where no repr is under way -/
structure FnG (P : Program) (w : World) (K : PySem.W.Frag) (mg : Str → Option Value) (base : Heap) (cx : CXT) (k : Nat) (f : Addr) (fd : FuncData) (ps : List Str) (sp : Sp) : Prop where
  len : ∀ vs H Q E, sp vs H Q E → vs.length = ps.length
  run : ∀ (A : Around) (fr : List Env) (s : Shared) (H : Hp) (ar : Args) (us : List Value) (vs : List V) (Q : VK) (E : XK), A.guards = some [] → Room k A → Env0 P w K mg base A fr s H → BindsTo s fd ar (ps.zip us) → Vals vs us → sp vs H Q E →
    codeAny (model P w) A (.call (.ref f) ar) (CR cx fr P w H s Q E) s
section
variable {P : Program} {w : World} {K : PySem.W.Frag} {mg : Str → Option Value} {base : Heap} {cx : CXT} {k : Nat} {f : Addr} {fd : FuncData} {ps N : List Str} {sp : Sp} {x qual : Str} {params : Arguments} {body : List Stmt} {scope : Scope} {dvs : List V} {kws : List (Str × V)}
theorem FnG.of (F : FunD K x qual params body scope dvs kws f fd) (S : FnScope N ps scope) (len : ∀ vs H Q E, sp vs H Q E → vs.length = ps.length)
    (hb : ∀ (cv : Value) (A : Around) (fr : List Env) (s : Shared) (H : Hp) (vs : List V) (Q : VK) (E : XK), A.guards = some [] → Room k (A.deeper (envOfC qual scope s.heap.objs.size f cv)) → sp vs H Q E →
      ∃ t, PSs (cxOf cx P w K mg base N qual scope f cv A fr s H E) body t ∧ t { nx := fun _ H' => Q .non H', rt := Q } (L2.start N vs) H) : FnG P w K mg base cx (k + 1) f fd ps sp := by
  obtain ⟨oc, od, dV, kV, doc, pm, an, cv, ct, osl, rfl, lk, hc, _, _⟩ := F.ex
  refine ⟨len, fun A fr s H ar us vs Q E gu hr e0 bi rv h => ?_⟩
  have hlen := len _ _ _ _ h
  have kin : K.In s.heap := e0.mod.kin.keeps fun b o e => (e0.bs b o e).1
  have nol : s.heap.NoLimit := e0.mod.nolimit.keeps fun b o e => (e0.bs b o e).1
  have kinds : ∀ y ∈ ps.zip us, scope.names.lookup y.1 = some .local ∨ (scope.names.lookup y.1 = some .cell ∧ ((cellsFrom (s.heap.objs.size + 1) scope.names []).lookup y.1).isSome = true) := by
    rintro ⟨n, v⟩ hy
    exact (S.par n (List.of_mem_zip hy).1).imp id fun q => ⟨q, PySem.W.cellsFrom_some _ _ _ (.inl q)⟩
  refine codeAny_call_function hr.depth (kin _ _ lk) rfl S.co S.gen rfl (PySem.W.codeRec_of kin hc) (bi _ _ _ _ (wpAny_newFunctionEnv_cells S.kind kinds fun env he s1 inc => ?_))
  subst he
  refine ⟨nol.keeps inc.toInCall.keep, codeAny_func ?_⟩
  obtain ⟨t, pt, tq⟩ := hb cv A fr s H vs Q E gu (hr.deeper _) h
  have I0 : Inv (cxOf cx P w K mg base N qual scope f cv A fr s H E) [] (L2.start N vs) H s1 := inv_start S hr.hd e0 hlen rv inc
  refine wpAny_mono (pt.run [] s1 (L2.start N vs) H _ I0 tq) (fun fl s2 q => ?_) fun _ _ z => z
  have done : ∀ {σ2 : L2.St} {H2 : Hp} {v2 : V} {u2 : Value}, Inv (cxOf cx P w K mg base N qual scope f cv A fr s H E) [] σ2 H2 s2 → RelV v2 u2 → Q v2 H2 → CE fr P w H s Q u2 s2 :=
    fun {_ H2 v2 _} J r2 q2 => ⟨v2, H2, J.os, J.bare, J.base, J.hok, r2, q2⟩
  match fl, q with
  | .ret u2, q => obtain ⟨v2, σ2, H2, J, r2, q2⟩ := q; exact done J r2 q2
  | .next, q => obtain ⟨σ2, H2, J, q2⟩ := q; exact done (v2 := V.non) (u2 := Value.none) J rfl q2
  | .brk, q => obtain ⟨_, _, _, z⟩ := q; exact z.elim
  | .cont, q => obtain ⟨_, _, _, z⟩ := q; exact z.elim
end
section
variable {X : Cx} {cx : CXT} {k : Nat} {f : Addr} {fd : FuncData} {ps : List Str} {sp : Sp} {E : XK} {n : Str} {p pos : Pos} {e : Expr} {es : List Expr} {t : TA}
theorem FnG.go {pins : List (Addr × Obj)} {σ : L2.St} {H : Hp} {s : Shared} {Q : VK} {us : List Value} {vs : List V} (F : FnG X.prog X.w X.K X.mg X.base cx k f fd ps sp) (gu : X.A.guards = some []) (hr : Room k X.A) (hb : Binds X.K fd ps []) (hx : PassesAt cx X σ E)
    (I : Inv X pins σ H s) (rv : Vals vs us) (h : sp vs H Q E) : wpAny (model X.prog X.w) X.A (PySem.call (.ref f) us) (EP X pins σ Q) X.xe s := by
  have hlen : us.length = ps.length := by rw [← rv.length]; exact F.len _ _ _ _ h
  have bi := hb s us I.kIn (by rw [List.append_nil]; exact hlen)
  rw [List.append_nil] at bi
  refine wpAny_call (codeAny_mono (F.run X.A X.stack s H ⟨us, []⟩ us vs Q E gu hr I.env0 bi rv h) fun r s2 q => ?_)
  match r, q with
  | .error u, q => exact hx pins H s u s2 I q
  | .ok (.ret u), q => exact I.after q
  | .ok .next, q => exact q.elim
  | .ok .brk, q => exact q.elim
  | .ok .cont, q => exact q.elim
/-- f(e, ..) -/
theorem pe_callG {E : L2.St → XK} (F : FnG X.prog X.w X.K X.mg X.base cx k f fd ps sp) (gu : X.A.guards = some []) (hr : Room k X.A) (hg : Gl X n) (hm : X.mg n = some (.ref f)) (hk : PySem.W.keepIn X.K (.ref f) = true) (hb : Binds X.K fd ps []) (hx : ∀ σ, PassesAt cx X σ (E σ))
    (ha : PA X (e :: es) t) (hd : (n == ("__debug__" : Str)) = false) (he : starEach (e :: es) X.env = (false, eval e X.env) :: starEach es X.env) (hpl : (backTo pos (starEach es X.env)).any (·.1) = false) :
    PE X (.Call (.Name n p) (e :: es) [] pos) (fun σ H Q => t σ H fun vs H1 => sp vs H1 Q (E σ)) :=
  ⟨fun pins s σ H Q I h => wpAny_Call_Name_kw (ld_glob I hg hm (PySem.W.callWith_K (h₀ := X.base) I.ok.mod.kin hk (thn (ha.run pos pins s σ H _ I h) fun us s1 ⟨vs, H1, I1, rv, q⟩ => ⟨I1.kIn, F.go gu hr hb (hx σ) I1 rv q⟩) he hpl) hd)⟩
theorem pe_call0G {E : L2.St → XK} (F : FnG X.prog X.w X.K X.mg X.base cx k f fd ps sp) (gu : X.A.guards = some []) (hr : Room k X.A) (hg : Gl X n) (hm : X.mg n = some (.ref f)) (hk : PySem.W.keepIn X.K (.ref f) = true) (hb : Binds X.K fd ps []) (hx : ∀ σ, PassesAt cx X σ (E σ))
    (hd : (n == ("__debug__" : Str)) = false) : PE X (.Call (.Name n p) [] [] pos) (fun σ H Q => sp [] H Q (E σ)) :=
  ⟨fun pins s σ H Q I h => wpAny_Call_Name_kw (ld_glob I hg hm (PySem.W.callWith_K0 I.kIn hk (F.go (us := []) gu hr hb (hx σ) I .nil h)) hd)⟩
end
end Q
end

section
set_option Elab.async false
set_option linter.all false
set_option maxRecDepth 100000
set_option maxHeartbeats 4000000
namespace Q
open PySem PySem.Spec PyProof.Rows L2
section
variable {K : PySem.W.Frag} {B : Bs} {cs cs' cs1 : List Addr} {G G' G1 H H' H1 : Hp} {s s1 : S} {σ : L2.St} {v w : V} {d dx dy : D} {p : Addr} {Q : VK} {pk : Bool} {vi : Option Nat} {r : Row} {od : Bool × D}
variable {X : Cx} {C : Cl} {a b c e : Expr} {x y z : Ex} {pos : Pos} {es : List Expr} {xs : List Ex}
/-- parts with their parts of the interpreter -/
abbrev Prs (X : Cx) (C : Cl) (es : List Expr) (xs : List Ex) : Prop := Paired (fun e x => PE X e (tE X C x) ∧ nStar e = true) es xs
theorem evF_len : ∀ {xs : List Ex} {s : S} {ds : List D} {s1 : S}, evF C xs s = .ok ds s1 → ds.length = xs.length
  | [], s, ds, s1, h => by cases h; rfl
  | x :: xs, s, ds, s1, h => by
    obtain ⟨o, s2, h1, h⟩ := R.b_eq h
    split at h
    · cases h
    · obtain ⟨o2, s3, h2, h⟩ := R.b_eq h
      cases h
      simp [evF_len h2]
theorem tF_in {Q0 : List V → Hp → Prop} {ds : List D} (at_ : At X.K B cs G s σ H) (e1 : evF C xs s = .ok ds s1) (k : ∀ vs cs1 G1 H1, Stp cs G H cs1 G1 H1 → At X.K B cs1 G1 s1 σ H1 → Reps X.K cs1 G1 vs ds → Q0 vs H1) : tF X C xs σ H Q0 :=
  ⟨B, cs, G, s, at_, by rw [e1]; exact k⟩
theorem tA_in {Q0 : List V → Hp → Prop} {ds : List D} (at_ : At X.K B cs G s σ H) (e1 : evA C xs s = .ok ds s1) (k : ∀ vs cs1 G1 H1, Stp cs G H cs1 G1 H1 → At X.K B cs1 G1 s1 σ H1 → Ars X.K cs1 G1 s1.r σ xs vs ds → Q0 vs H1) : tA X C xs σ H Q0 :=
  ⟨B, cs, G, s, at_, by rw [e1]; exact k⟩
theorem r_tup {k : Nat} (hl : xs.length ≤ lim) (h : Prs X C es xs) : PE X (.Tuple es k pos) (tE X C (.tup xs)) :=
  peM (pe_tup (pa_F h)) fun σ H Q ⟨B, cs, G, s, at_, h⟩ => by
    obtain ⟨ds, s1, e1, h⟩ := Rn.b2 h
    refine tF_in at_ e1 fun vs cs1 G1 H1 st1 at1 rp => ⟨?_, fun p hp => Ps.tup at1 rp hp (Ps.shift h st1)⟩
    rw [rp.len, evF_len e1]; exact lim_le hl
theorem r_lst (hl : xs.length ≤ lim) (h : Prs X C es xs) : PE X (.List es pos) (tE X C (.lst xs)) :=
  peM (pe_lst (pa_F h)) fun σ H Q ⟨B, cs, G, s, at_, h⟩ => by
    obtain ⟨ds, s1, e1, h⟩ := Rn.b2 h
    refine tF_in at_ e1 fun vs cs1 G1 H1 st1 at1 rp => ⟨?_, fun p hp => Ps.lst at1 rp hp (Ps.shift h st1)⟩
    rw [rp.len, evF_len e1]; exact lim_le hl
/-! items -/
def nSl : Expr → Bool
  | .Slice .. => false
  | _ => true
theorem nSl_ix (h : nSl b = true) : PlainIx b := fun o i => by cases b <;> first | rfl | (simp [nSl] at h)
theorem r_ix (hu : X.A.units + 1 < cLine) (hb' : nSl b = true) (ha : PE X a (tE X C x)) (hb : PE X b (tE X C y)) : PE X (.Subscript a b pos) (tE X C (.ix x y)) :=
  peM (peOr (pe_ix ix_seq ha hb (nSl_ix hb')) (pe_dget hu ha hb (nSl_ix hb'))) fun σ H Q ⟨B, cs, G, s, at_, h⟩ => by
    obtain ⟨⟨o1, dx⟩, s1, e1, ha1⟩ := Rn.b2 h
    obtain ⟨⟨o2, dy⟩, s2, e2, ha2⟩ := Rn.b2 ha1
    obtain ⟨d, s3, e3', hq⟩ := Rn.b2 ha2
    obtain ⟨e3, rfl⟩ := R.of_eq e3'
    clear h ha1 ha2 e3'
    -- a list, a tuple | a dict
    cases dx with
    | lst ds =>
      cases dy <;> simp only [ixD, reduceCtorEq] at e3
      refine .inl (tE_in at_ e1 fun v cs1 G1 H1 st1 at1 r1 => tE_in at1 e2 fun w cs2 G2 H2 st2 at2 r2 => ?_)
      obtain ⟨a', vs, rfl, hs, rp⟩ := (r1.vw.mono st2).lst at2.wd.le
      obtain ⟨u, hu', ru⟩ := rp.at e3
      exact .inl ⟨a', vs, _, u, rfl, r2.vw.int, hs, hu', Ps.scal at2 ru (Ps.shift (Ps.shift hq st1) st2)⟩
    | tup ds =>
      cases dy <;> simp only [ixD, reduceCtorEq] at e3
      refine .inl (tE_in at_ e1 fun v cs1 G1 H1 st1 at1 r1 => tE_in at1 e2 fun w cs2 G2 H2 st2 at2 r2 => ?_)
      obtain ⟨a', vs, rfl, hs, rp⟩ := (r1.vw.mono st2).tup at2.wd.le
      obtain ⟨u, hu', ru⟩ := rp.at e3
      exact .inr (.inl ⟨a', vs, _, u, rfl, r2.vw.int, hs, hu', Ps.scal at2 ru (Ps.shift (Ps.shift hq st1) st2)⟩)
    | str z =>
      cases dy <;> simp only [ixD, reduceCtorEq] at e3
      split at e3
      · rename_i hz
        obtain ⟨c, e4, e5⟩ := Option.map_eq_some_iff.mp e3
        subst e5
        refine .inl (tE_in at_ e1 fun v cs1 G1 H1 st1 at1 r1 => tE_in at1 e2 fun w cs2 G2 H2 st2 at2 r2 => ?_)
        exact .inr (.inr ⟨z, _, c, (r1.vw.mono st2).str, r2.vw.int, lim_le hz, by rw [← atD_eq]; exact e4, Ps.scal at2 (.str _) (Ps.shift (Ps.shift hq st1) st2)⟩)
      · cases e3
    | dct ds =>
      simp only [ixD] at e3
      split at e3
      · rename_i hk
        obtain ⟨j, hj⟩ := keyD_of hk
        refine .inr (tE_in at_ e1 fun v cs1 G1 H1 st1 at1 r1 => tE_in at1 e2 fun w cs2 G2 H2 st2 at2 r2 => ?_)
        obtain ⟨a', vs, rfl, hs, rp⟩ := (r1.vw.mono st2).dct at2.wd.le
        obtain ⟨u, hu', ru⟩ := (RepK.get hj rp).1 d e3
        exact ⟨a', u, rfl, .inl ⟨vs, j, hs, kV_rep hj r2.vw, hu'.symm⟩, Ps.scal at2 ru (Ps.shift (Ps.shift hq st1) st2)⟩
      · cases e3
    | _ => simp only [ixD, reduceCtorEq] at e3
/-! a call -/
theorem nst_all {es : List Expr} {xs : List Ex} (h : Prs X C es xs) (env : PySem.Env) (pos : Pos) : (backTo pos (starEach es env)).any (·.1) = false := by
  induction h with
  | nil => rfl
  | cons h _ ih =>
    rw [star_of h.2]
    simpa [backTo] using ih
/-- a def's promise: its value, or what it raises -/
def xn : Nat → Str
  | 0 => "NotRight" | 1 => "NotThere" | 2 => "NoAnswer" | 3 => "TooLarge" | 4 => "Malformed" | 5 => "CoopError" | 6 => "Refusal" | _ => "__none__"
def QX (mg : Str → Option Value) (E : XK) : VK := fun v H => ∀ (e : Int) cv, v = .int e → mg (xn e.toNat) = some cv → E cv none H
def spG (K : PySem.W.Frag) (mg : Str → Option Value) (C : Cl) (f : Nat) : Sp := fun vs H Q E => spI K C f vs H Q E0 ∨ spI K (flp C) f vs H (QX mg E) E0
abbrev CXN (X : Cx) : CXT := L2N.CX X.prog X.w
theorem passE {X : Cx} {σ : L2.St} : PassesAt (CXN X) X σ E0 := fun _ _ _ _ _ _ c => by
  obtain ⟨_, _, _, _, _, _, _, _, _, _, _, _, z⟩ := c
  exact z.elim
abbrev FnC (X : Cx) (C : Cl) (i k : Nat) (f : Addr) (fd : FuncData) (ps : List Str) : Prop := FnG X.prog X.w X.K X.mg X.base (CXN X) k f fd ps (spG X.K X.mg C i)
theorem r_call {f : Addr} {fd : FuncData} {ps : List Str} {n : Str} {i k : Nat} {p : Pos} (F : FnC X C i k f fd ps) (gu : X.A.guards = some []) (hr : Room k X.A) (hg : Gl X n) (hm : X.mg n = some (.ref f)) (hk : PySem.W.keepIn X.K (.ref f) = true) (hb : Binds X.K fd ps [])
    (hd : (n == ("__debug__" : Str)) = false) (ha : Prs X C es xs) : PE X (.Call (.Name n p) es [] pos) (tE X C (.call i xs)) := by
  have go : ∀ (σ : L2.St) (H : Hp) (Q : VK), tE X C (.call i xs) σ H Q → tA X C xs σ H fun vs H1 => spG X.K X.mg C i vs H1 Q E0 := fun σ H Q ⟨B, cs, G, s, at_, h⟩ => by
    obtain ⟨ds, s1, e1, h⟩ := Rn.b2 h
    exact tA_in at_ e1 fun vs cs1 G1 H1 st1 at1 ar => .inl (call_sp (vp := []) (dp := []) at1 .nil ar (Rn.mono h fun od s' q => Ps.shift q st1))
  cases ha with
  | nil =>
    refine peM (pe_call0G (E := fun _ => E0) F gu hr hg hm hk hb (fun _ => passE) hd) fun σ H Q h => ?_
    obtain ⟨B, cs, G, s, at_, h⟩ := go σ H Q h
    exact h [] cs G H (Stp.refl _ _ _) at_ trivial
  | cons h1 h2 => exact peM (pe_callG (E := fun _ => E0) F gu hr hg hm hk hb (fun _ => passE) (pa_A (.cons h1 h2)) hd (star_of h1.2 _ _) (nst_all h2 _ _)) go
/-- a call that raises -/
theorem r_callX {W : WX} {f : Addr} {fd : FuncData} {ps : List Str} {n : Str} {i k : Nat} {p : Pos} (tk : L2N.Takes X W) (F : FnC X C i k f fd ps) (gu : X.A.guards = some []) (hr : Room k X.A) (hg : Gl X n) (hm : X.mg n = some (.ref f)) (hk : PySem.W.keepIn X.K (.ref f) = true) (hb : Binds X.K fd ps [])
    (hd : (n == ("__debug__" : Str)) = false) (ha : Prs X C es xs) : PE X (.Call (.Name n p) es [] pos) (fun σ H _ => ∃ B cs G s, At X.K B cs G s σ H ∧ Rn ((evA C xs s).b fun ds s => callD (flp C) i xs ds s) (Ps X.K B cs G H σ false none (QX X.mg fun cv d H' => W cv d σ H'))) := by
  have go : ∀ (σ : L2.St) (H : Hp) (Q : VK), (∃ B cs G s, At X.K B cs G s σ H ∧ Rn ((evA C xs s).b fun ds s => callD (flp C) i xs ds s) (Ps X.K B cs G H σ false none (QX X.mg fun cv d H' => W cv d σ H'))) → tA X C xs σ H fun vs H1 => spG X.K X.mg C i vs H1 Q (fun cv d H' => W cv d σ H') := fun σ H Q ⟨B, cs, G, s, at_, h⟩ => by
    obtain ⟨ds, s1, e1, h⟩ := Rn.b2 h
    exact tA_in at_ e1 fun vs cs1 G1 H1 st1 at1 ar => .inr (call_sp (vp := []) (dp := []) at1 .nil ar (Rn.mono h fun od s' q => Ps.shift q st1))
  cases ha with
  | nil =>
    refine peM (pe_call0G (E := fun σ => WE W σ) F gu hr hg hm hk hb (fun σ => L2N.passAt tk σ) hd) fun σ H Q h => ?_
    obtain ⟨B, cs, G, s, at_, h⟩ := go σ H Q h
    exact h [] cs G H (Stp.refl _ _ _) at_ trivial
  | cons h1 h2 => exact peM (pe_callG (E := fun σ => WE W σ) F gu hr hg hm hk hb (fun σ => L2N.passAt tk σ) (pa_A (.cons h1 h2)) hd (star_of h1.2 _ _) (nst_all h2 _ _)) go
/-! built-ins -/
theorem Ars.vw {es : List Ex} : ∀ {xs : List Ex} {vs : List V} {ds : List D}, At K B cs G s σ H → Ars K cs G s.r σ xs vs ds → Paired (Vw K cs G H) vs ds
  | [], [], [], _, _ => .nil
  | x :: xs, v :: vs, d :: ds, at_, ⟨h, k⟩ => .cons (by
      rcases h with h | ⟨i, _, x, y⟩
      · exact .inl h
      · obtain ⟨v', z, q⟩ := at_.en.val i true d x
        rw [y] at z; cases z
        obtain ⟨p, e2, g, n, z, o⟩ := q
        exact .inr ⟨p, e2, n, o⟩) (Ars.vw (es := es) at_ k)
def rRepr (K : PySem.W.Frag) : List V → Hp → VK → Prop := fun xs H Q => ∃ v d, xs = [v] ∧ Dp K H v d ∧ d.showable = true ∧ d.hasDict = false ∧ d.depth ≤ 30 ∧ d.shown.length ≤ sizeLine ∧ (∃ a, v = .ref a) ∧ Q (.str d.shown) H
theorem o_repr (gu : X.A.guards = some []) (hu : X.A.units + 64 < cLine) : CallR X (.builtin "repr") (rRepr X.K) := by
  intro pins s σ H xs us Q I r h
  obtain ⟨v, d, rfl, hd, h1, h2, h3, h4, ⟨a, rfl⟩, q⟩ := h
  obtain ⟨u, rfl, ru⟩ := vals1 r
  obtain ⟨as, rd⟩ := Dp.reads I d _ u hd ru
  cases ru
  exact repr_of_reads' rd h1 (fun e => by rw [h2] at e; cases e) gu (by omega) (fun _ _ e => e) (fun h' t tk hk => ⟨.str d.shown, H, I.kept (t' := tk) fun b o e => hk b o e, ⟨t, rfl⟩, q⟩) h4
def biP : Bi → Str × Value
  | .len => ("len", .builtin "len") | .abs => ("abs", .builtin "abs") | .max => ("max", .builtin "max") | .min => ("min", .builtin "min")
  | .repr => ("repr", .builtin "repr") | .sum => ("sum", .builtin "sum") | .int => ("int", .type "int") | .all => ("all", .builtin "all") | .list => ("list", .type "list")
def rBi (K : PySem.W.Frag) : Bi → List V → Hp → VK → Prop
  | .len => rLen K
  | .abs => fun xs H Q => ∃ i, xs = [.int i] ∧ Q (.int (if i < 0 then -i else i)) H
  | .max => fun xs H Q => ∃ i j, xs = [.int i, .int j] ∧ Q (.int (if j > i then j else i)) H
  | .min => fun xs H Q => ∃ i j, xs = [.int i, .int j] ∧ Q (.int (if j < i then j else i)) H
  | .sum => rSum K
  | .repr => rRepr K
  | .int => fun xs H Q => (∃ i, xs = [.int i] ∧ Q (.int i) H) ∨ ∃ k, xs = [.bl k] ∧ Q (.int (if k then 1 else 0)) H
  | .all => rAll K
  | .list => fun xs H Q => ∃ p ys, xs = [.ref p] ∧ (SqL K H p ys ∨ SqT K H p ys) ∧ ∀ l, H l = none → Q (.ref l) (upd H l (.lst ys))
theorem o_bi (hc : X.calm = true) (gu : X.A.guards = some []) (hu : X.A.units + 64 < cLine) : ∀ b : Bi, CallR X (biP b).2 (rBi X.K b)
  | .len => o_len
  | .abs => call_abs
  | .max => call_max2 hc
  | .min => call_min2 hc
  | .sum => cr_sum hc
  | .repr => o_repr gu hu
  | .int => call_int1
  | .all => cr_all hc
  | .list => call_list_of
theorem boot_bi : ∀ b : Bi, bootBuiltins (biP b).1 = some (biP b).2
  | .len => PySem.boot_len
  | .abs => PyProof.Rows.boot_abs
  | .max => PyProof.Rows.boot_max
  | .min => PyProof.Rows.boot_min
  | .sum => PyProof.Rows.boot_sum
  | .repr => PyProof.Rows.boot_repr
  | .int => boot_int
  | .all => PyProof.Rows.boot_all
  | .list => boot_list
theorem intsD_rep : ∀ {ds : List D} {is : List Int} {vs : List V}, intsD ds = some is → Reps K cs G vs ds → vs = is.map V.int
  | [], _, _, e, .nil => by cases e; rfl
  | d :: ds, _, _, e, .cons r rs => by
    cases d <;> simp only [intsD, reduceCtorEq] at e
    obtain ⟨js, e1, e2⟩ := Option.map_eq_some_iff.mp e
    subst e2
    rw [r.int_inv, intsD_rep e1 rs]; rfl
theorem blsD_rep : ∀ {ds : List D} {is : List Bool} {vs : List V}, blsD ds = some is → Reps K cs G vs ds → vs = is.map V.bl
  | [], _, _, e, .nil => by cases e; rfl
  | d :: ds, _, _, e, .cons r rs => by
    cases d <;> simp only [blsD, reduceCtorEq] at e
    obtain ⟨js, e1, e2⟩ := Option.map_eq_some_iff.mp e
    subst e2
    rw [r.bl_inv, blsD_rep e1 rs]; rfl
theorem bi_ok (at_ : At K B cs G s σ H) {b : Bi} {vs : List V} {ds : List D} (vw : Paired (Vw K cs G H) vs ds) (e : biD b ds s.c = some od) (q : Ps K B cs G H σ pk none Q od s) : rBi K b vs H Q := by
  cases vw with
  | nil => cases b <;> simp only [biD, reduceCtorEq] at e
  | cons h1 h2 =>
    rename_i v1 d1 vr dr
    cases h2 with
    | nil =>
      cases b <;> cases d1 <;> simp only [biD, reduceCtorEq] at e
      case len.tup ds =>
        cases e
        obtain ⟨a, vs, rfl, hs, rp⟩ := h1.tup at_.wd.le
        refine .inr (.inl ⟨a, vs, rfl, .inr hs, ?_⟩)
        rw [rp.len]
        exact Ps.scal at_ (.int _) q
      case len.lst ds =>
        cases e
        obtain ⟨a, vs, rfl, hs, rp⟩ := h1.lst at_.wd.le
        refine .inr (.inl ⟨a, vs, rfl, .inl hs, ?_⟩)
        rw [rp.len]
        exact Ps.scal at_ (.int _) q
      case len.dct ds =>
        cases e
        obtain ⟨a, vs, rfl, hs, rp⟩ := h1.dct at_.wd.le
        refine .inr (.inr ⟨a, vs, rfl, hs, ?_⟩)
        rw [rp.len]
        exact Ps.scal at_ (.int _) q
      case len.cel n =>
        obtain ⟨xs, e1, e2⟩ := Option.map_eq_some_iff.mp e
        subst e2
        obtain ⟨a, rfl, ha⟩ := h1.cel
        obtain ⟨vs, e3, rp⟩ := at_.wd.cel n a xs ha e1
        refine .inr (.inl ⟨a, vs, rfl, .inl (.of e3), ?_⟩)
        rw [rp.len]
        exact Ps.scal at_ (.int _) q
      case len.str x =>
        split at e
        · cases e
          rename_i hz
          exact .inl ⟨x, by rw [h1.str], lim_le hz, Ps.scal at_ (.int _) q⟩
        · cases e
      case repr.lst ds =>
        split at e
        · cases e
          rename_i hz
          rw [Bool.and_eq_true, Bool.and_eq_true, decide_eq_true_eq] at hz
          obtain ⟨a, vs, rfl, hs, rp⟩ := h1.lst at_.wd.le
          refine ⟨_, toPy (.lst ds), rfl, h1.dp at_.wd.le hz.1.1, hz.1.2, PyData.hasDict_of_canLay _ (toPy_ok _ _ hz.1.1).1, Nat.le_trans (toPy_ok _ _ hz.1.1).2 (by decide), lim_le hz.2, ⟨a, rfl⟩, Ps.scal at_ (.str _) q⟩
        · cases e
      case abs.int i => cases e; exact ⟨i, by rw [h1.int], Ps.scal at_ (.int _) q⟩
      case sum.lst ds =>
        obtain ⟨is, e1, e2⟩ := Option.map_eq_some_iff.mp e
        subst e2
        obtain ⟨a, vs, rfl, hs, rp⟩ := h1.lst at_.wd.le
        refine ⟨a, is, rfl, ?_, Ps.scal at_ (.int _) q⟩
        rw [← intsD_rep e1 rp]; exact hs
      case int.bl t => cases e; exact .inr ⟨t, by rw [h1.bl], Ps.scal at_ (.int _) q⟩
      case int.int i => cases e; exact .inl ⟨i, by rw [h1.int], Ps.scal at_ (.int _) q⟩
      case all.lst ds =>
        obtain ⟨is, e1, e2⟩ := Option.map_eq_some_iff.mp e
        subst e2
        obtain ⟨a, vs, rfl, hs, rp⟩ := h1.lst at_.wd.le
        refine ⟨a, is, rfl, ?_, Ps.scal at_ (.bl _) q⟩
        rw [← blsD_rep e1 rp]; exact hs
      case list.tup ds =>
        cases e
        obtain ⟨a, vs, rfl, hs, rp⟩ := h1.tup at_.wd.le
        exact ⟨a, vs, rfl, .inr hs, fun l hl => Ps.lst at_ rp hl q⟩
      case list.lst ds =>
        cases e
        obtain ⟨a, vs, rfl, hs, rp⟩ := h1.lst at_.wd.le
        exact ⟨a, vs, rfl, .inl hs, fun l hl => Ps.lst at_ rp hl q⟩
    | cons h2 h3 =>
      rename_i v2 d2 vr dr
      cases h3 with
      | nil =>
        cases b <;> cases d1 <;> simp only [biD, reduceCtorEq] at e <;> cases d2 <;> simp only [biD, reduceCtorEq] at e
        · cases e; exact ⟨_, _, by rw [h1.int, h2.int], Ps.scal at_ (.int _) q⟩
        · cases e; exact ⟨_, _, by rw [h1.int, h2.int], Ps.scal at_ (.int _) q⟩
      | cons _ _ => cases b <;> cases d1 <;> simp only [biD, reduceCtorEq] at e
theorem r_bi (hc : X.calm = true) (gu : X.A.guards = some []) (hu : X.A.units + 64 < cLine) (b : Bi) {p : Pos} (hg : Gl X (biP b).1) (hm : X.mg (biP b).1 = none) (hne : xs ≠ []) (ha : Prs X C es xs) : PE X (.Call (.Name (biP b).1 p) es [] pos) (tE X C (.bi b xs)) := by
  have go : ∀ (σ : L2.St) (H : Hp) (Q : VK), tE X C (.bi b xs) σ H Q → tA X C xs σ H fun vs H1 => rBi X.K b vs H1 Q := fun σ H Q ⟨B, cs, G, s, at_, h⟩ => by
    obtain ⟨ds, s1, e1, h⟩ := Rn.b2 h
    obtain ⟨od, e2, h⟩ := Rn.of h
    exact tA_in at_ e1 fun vs cs1 G1 H1 st1 at1 ar => bi_ok at1 (Ars.vw (es := []) at1 ar) e2 (Ps.shift h st1)
  cases ha with
  | nil => exact absurd rfl hne
  | cons h1 h2 =>
    have hdb : ((biP b).1 == ("__debug__" : Str)) = false := by cases b <;> decide +kernel
    have hn : (biP b).1 ≠ "__name__" := by cases b <;> decide +kernel
    have hb : ∀ id, (biP b).2 = .builtin id → PE X (.Call (.Name (biP b).1 p) _ [] pos) (tCB (rBi X.K b) (tA X C _)) := fun id e =>
      pe_callB (id := id) (e ▸ o_bi hc gu hu b) hg hm (e ▸ boot_bi b) (pa_A (.cons h1 h2)) hn hdb (star_of h1.2 _ _) (nst_all h2 _ _)
    have ht : ∀ id, (biP b).2 = .type id → PE X (.Call (.Name (biP b).1 p) _ [] pos) (tCB (rBi X.K b) (tA X C _)) := fun id e =>
      pe_callTy (T := id) (e ▸ o_bi hc gu hu b) hg hm (e ▸ boot_bi b) (pa_A (.cons h1 h2)) hn hdb (star_of h1.2 _ _) (nst_all h2 _ _)
    refine peM ?_ go
    cases b
    all_goals first | exact hb _ rfl | exact ht _ rfl
/-! f(*x, a, ..) -/
theorem evalArgs_two {M : Model} {A : Around} {E : Value → Shared → Prop} {s : Shared} {f : Value} {t u : Bool × Sem Value} {rest : List (Bool × Sem Value)} {Q : Args → Shared → Prop}
    (h : wpAny M A (spliced (t :: u :: rest)) (fun vs s' => Q ⟨vs, []⟩ s') E s) : wpAny M A (evalArgs f true (t :: u :: rest) []) Q E s := by
  obtain ⟨tb, tx⟩ := t
  cases tb with
  | false => exact Calls.evalArgs_plain h
  | true =>
  unfold evalArgs
  show wpAny M A (spliced ((true, tx) :: u :: rest) >>= _) Q E s
  refine wpAny_bind (wpAny_mono h (fun vs s' h' => ?_) fun _ _ x => x)
  refine wpAny_holding ?_
  exact wpAny_bind (wpAny_pure (wpAny_bind (wpAny_pure (wpAny_pure h'))))
theorem r_callS {f : Addr} {fd : FuncData} {ps : List Str} {n : Str} {i k : Nat} {p q : Pos} (F : FnC X C i k f fd ps) (gu : X.A.guards = some []) (hr : Room k X.A) (hg : Gl X n) (hm : X.mg n = some (.ref f)) (hk : PySem.W.keepIn X.K (.ref f) = true) (hb : Binds X.K fd ps [])
    (hd : (n == ("__debug__" : Str)) = false) (ha : PE X a (tE X C x)) (hne : xs ≠ []) (hes : Prs X C es xs) : PE X (.Call (.Name n p) (.Starred a q :: es) [] pos) (tE X C (.callS i x xs)) := by
  have hpa : PA X (.Starred a q :: es) (StX.tStar X.K (tE X C x) (tA X C xs)) := StX.pa_star ha (pa_A hes) rfl
  refine ⟨fun pins s0 σ H Q I ⟨B, cs, G, s, at_, h⟩ => ?_⟩
  obtain ⟨⟨o1, dx⟩, s1, e1, h1⟩ := Rn.b2 h
  obtain ⟨ds, s2, e2, h2⟩ := Rn.b2 h1
  cases dx <;> first | exact h2.elim | skip
  rename_i dp
  have t : StX.tStar X.K (tE X C x) (tA X C xs) σ H fun vs H1 => spG X.K X.mg C i vs H1 Q E0 := by
    refine tE_in at_ e1 fun v cs1 G1 H1 st1 at1 r1 => ?_
    obtain ⟨a', vs, rfl, hs, rp⟩ := r1.vw.tup at1.wd.le
    refine ⟨a', vs, rfl, .inl hs, tA_in at1 e2 fun ws cs2 G2 H2 st2 at2 ar => ?_⟩
    exact .inl <| call_sp at2 (rp.mono st2.pre st2.le) ar (Rn.mono h2 fun od s' q => Ps.shift (Ps.shift q st1) st2)
  cases hes with
  | nil => exact absurd rfl hne
  | @cons b1 y1 es1 xs1 hb1 hb2 =>
    have he : starEach (.Starred a q :: b1 :: es1) X.env = (true, eval a X.env) :: (false, eval b1 X.env) :: starEach es1 X.env := by
      show (true, eval a X.env) :: starEach (b1 :: es1) X.env = _
      rw [star_of hb1.2]
    refine wpAny_Call_Name_kw (ld_glob I hg hm ?_ hd)
    refine PySem.W.ks_call (P := fun h => X.K.In h) (by rw [he]; rfl) (PySem.W.keeps_K hk) ?_
    have z := hpa.run pos pins s0 σ H _ I t
    rw [he] at z ⊢
    exact evalArgs_two (thn z fun us s1 ⟨vs, H1, I1, r, q1⟩ => ⟨I1.kIn, F.go gu hr hb passE I1 r q1⟩)
/-! isinstance -/
def tyP : Ty → String
  | .int => "int" | .bool => "bool" | .str => "str" | .tup => "tuple" | .lst => "list" | .dct => "dict"
def tyN : D → String
  | .non => "NoneType" | .bl _ => "bool" | .int _ => "int" | .str _ => "str" | .tup _ => "tuple" | .lst _ => "list" | .dct _ => "dict" | .cel _ => "list"
theorem kit_all (d : D) (t : Ty) (b : Bool) (h : isD d t = some b) : kitB (tyN d) (tyP t) = some b := by
  cases d <;> cases t <;> simp only [isD, reduceCtorEq] at h <;> cases h <;> (simp only [tyN, tyP]; decide +kernel)
theorem Vw.ty (le : Le G H) (h : Vw K cs G H v d) (hc : ∀ n, d ≠ .cel n) : TyX K H v (.type (tyN d)) := by
  cases d with
  | non => rw [h.non]; exact .base .non
  | bl b => rw [h.bl]; exact .base (.bl _)
  | int i => rw [h.int]; exact .base (.int _)
  | str x => rw [h.str]; exact .base (.str _)
  | tup ds =>
    obtain ⟨a, vs, rfl, hs, _⟩ := h.tup le
    rcases hs with (e | ⟨o, e⟩) | ⟨o, its, n, hk, hc, _⟩
    · exact .base (.tup e)
    · exact .fTuple e
    · exact .kTuple hk hc
  | lst ds =>
    obtain ⟨a, vs, rfl, hs, _⟩ := h.lst le
    rcases hs with (e | ⟨o, e⟩) | ⟨o, its, n, hk, hc, _⟩
    · exact .base (.lst e)
    · exact .base (.frz e)
    · exact .kList hk hc
  | dct ds =>
    obtain ⟨a, vs, rfl, hs, _⟩ := h.dct le
    rcases hs with e | ⟨o, e⟩
    · exact .base (.dK e)
    · exact .fDict e
  | cel n => exact absurd rfl (hc n)
theorem boot_ty : ∀ t : Ty, bootBuiltins (Str.ofString (tyP t)) = some (.type (tyP t))
  | .int => boot_int
  | .bool => boot_bool
  | .str => boot_str
  | .tup => boot_tuple
  | .lst => boot_list
  | .dct => boot_dict
theorem r_isi (t : Ty) {p p2 : Pos} (hg : Gl X "isinstance") (hm : X.mg "isinstance" = none) (hg2 : Gl X (Str.ofString (tyP t))) (hm2 : X.mg (Str.ofString (tyP t)) = none) (hst : nStar a = true) (ha : PE X a (tE X C x)) :
    PE X (.Call (.Name "isinstance" p) [a, .Name (Str.ofString (tyP t)) p2] [] pos) (tE X C (.isi x t)) := by
  have hT : PE X (.Name (Str.ofString (tyP t)) p2) (tC (.ty (tyP t))) := pe_bltn hg2 hm2 (boot_ty t) rfl (by cases t <;> decide +kernel) (by cases t <;> decide +kernel)
  refine peM (pe_callB call_isi hg hm boot_isinstance (pa_cons ha (pa_cons hT pa_nil rfl) (star_of hst _ _)) (by decide +kernel) (by decide +kernel) (star_of hst _ _) rfl) fun σ H Q ⟨B, cs, G, s, at_, h⟩ => ?_
  obtain ⟨⟨o1, dx⟩, s1, e1, h1⟩ := Rn.b2 h
  obtain ⟨t1, s2, e2', h2⟩ := Rn.b2 h1
  obtain ⟨e2, rfl⟩ := R.of_eq e2'
  refine tE_in at_ e1 fun v cs1 G1 H1 st1 at1 r1 => ?_
  refine ⟨v, .ty (tyP t), .type (tyN dx), .type (tyP t), t1, rfl, .ty _, r1.vw.ty at1.wd.le (fun n e => ?_), kit_ty (kit_all dx t t1 e2), Ps.scal at1 (.bl _) (Ps.shift h2 st1)⟩
  rw [show dx = .cel n from e] at e2
  cases e2
/-! d.get(k, x) -/
def nCall : Expr → Bool
  | .Call .. => false
  | _ => true
theorem base_of {o : Expr} (h : nCall o = true) (m : Str) (env : PySem.Env) : attributeBase o m env (eval o env) = eval o env := by
  cases o <;> first | rfl | (simp [nCall] at h)
theorem r_get {apos : Pos} (hu : X.A.units + 1 < cLine) (hc : nCall a = true) (hb' : nStar b = true) (hc' : nStar c = true) (hl : (apos.endLine == pos.line) = true) (ha : PE X a (tE X C x)) (hb : PE X b (tE X C y)) (hcc : PE X c (tE X C z)) :
    PE X (.Call (.Attribute a "get" apos) [b, c] [] pos) (tE X C (.get x y z)) := by
  have e1 : starEach [b, c] X.env = [(false, eval b X.env), (false, eval c X.env)] := by rw [star_of hb', star_of hc']; rfl
  refine peM (pe_dget2 hu ha hb hcc ⟨base_of hc _ _, by rw [e1]; rfl, hl, by rw [e1]; rfl⟩) fun σ H Q ⟨B, cs, G, s, at_, h⟩ => ?_
  obtain ⟨⟨o1, dx⟩, s1, e1, h1⟩ := Rn.b2 h
  obtain ⟨⟨o2, dy⟩, s2, e2, h2⟩ := Rn.b2 h1
  obtain ⟨⟨o3, dz⟩, s3, e3, h3⟩ := Rn.b2 h2
  clear h h1 h2
  cases dx <;> first | exact h3.elim | skip
  rename_i ks
  simp only at h3
  split at h3
  · rename_i hk
    rw [Bool.and_eq_true] at hk
    obtain ⟨j, hj⟩ := keyD_of hk.1
    refine tE_in at_ e1 fun v cs1 G1 H1 st1 at1 r1 => ?_
    obtain ⟨a', vs1, rfl, hs1, _⟩ := r1.vw.dct at1.wd.le
    refine ⟨a', rfl, .inl ⟨_, hs1⟩, tE_in at1 e2 fun w cs2 G2 H2 st2 at2 r2 => tE_in at2 e3 fun u cs3 G3 H3 st3 at3 r3 => ?_⟩
    obtain ⟨a'', vs, ea, hs, rp⟩ := ((r1.vw.mono st2).mono st3).dct at3.wd.le
    cases ea
    have kv := kV_rep hj (r2.vw.mono st3)
    have g := RepK.get hj rp
    have sh := Ps.shift (Ps.shift (Ps.shift h3 st1) st2) st3
    refine ⟨valV vs j, .inl ⟨vs, j, hs, kv, rfl⟩, ?_⟩
    cases gd : getD ks dy with
    | some dd =>
      obtain ⟨u', e5, ru⟩ := g.1 dd gd
      rw [e5]
      rw [gd] at sh
      exact Ps.scal at3 ru sh
    | none =>
      rw [g.2 gd]
      rw [gd] at sh
      obtain ⟨G4, le4, at4, rp4⟩ := r3.freeze at3 (by have t := hk.2; revert t; show (!(o3 && isPk z)) = true → (o3 && isPk z) = false; cases (o3 && isPk z) <;> simp)
      exact Ps.scal at4 rp4 (Ps.shift sh (Stp.grow le4))
  · exact h3.elim
theorem r_lrev {p p2 pos2 : Pos} (hc : X.calm = true) (hg : Gl X "list") (hm : X.mg "list" = none) (hg2 : Gl X "reversed") (hm2 : X.mg "reversed" = none) (hst : nStar a = true) (ha : PE X a (tE X C x)) :
    PE X (.Call (.Name "list" p) [.Call (.Name "reversed" p2) [a] [] pos2] [] pos) (tE X C (.lrev x)) :=
  peM (pe_lrev hc hg hm hg2 hm2 ha (star_of hst _ _)) fun σ H Q ⟨B, cs, G, s, at_, h⟩ => by
    obtain ⟨⟨o1, dx⟩, s1, e1, h1⟩ := Rn.b2 h
    cases dx <;> first | exact h1.elim | skip
    refine tE_in at_ e1 fun v cs1 G1 H1 st1 at1 r1 => ?_
    obtain ⟨a', vs, rfl, hs, rp⟩ := r1.vw.lst at1.wd.le
    exact ⟨a', vs, rfl, hs, fun q hq => Ps.lst at1 rp.rev hq (Ps.shift h1 st1)⟩
/-! a cell's last item taken -/
theorem r_pop {i : Nat} {n : Str} {apos p : Pos} (hN : X.N[i]? = some n) (hv : Vis X.env.scope n) (hd : (n == ("__debug__" : Str)) = false) (hcd : (n == ("__classdict__" : Str)) = false) (hl : (apos.endLine == pos.line) = true) :
    PE X (.Call (.Attribute (.Name n p) "pop" apos) [] [] pos) (tE X C (.pop i)) :=
  peM (pe_bm0 PySem.F.plainAttrs_list PySem.F.slot_list_pop PySem.F.type_list_pop mt_pop (pe_var (i := i) hN hv hd hcd) rfl hl) fun σ H Q ⟨B, cs, G, s, at_, h⟩ => by
    simp only [ev] at h
    split at h
    · rename_i o m q
      split at h
      · rename_i xs e1
        split at h
        · rename_i dl e2
          obtain ⟨v, e3, vr⟩ := at_.en.val i o _ q
          have hv' := vr.vw
          obtain ⟨a', rfl, ha⟩ := hv'.cel
          obtain ⟨vs, e4, rp⟩ := at_.wd.cel m a' xs ha e1
          have hx : xs[xs.length - 1]? = some dl := by rw [List.getLast?_eq_getElem?] at e2; exact e2
          obtain ⟨u, hu', ru⟩ := rp.get hx
          refine ⟨.ref a', e3, .inl ⟨rfl, _, .of e4⟩, a', vs, u, rfl, rfl, e4, by rw [rp.len]; exact hu', ?_⟩
          have ma : a' ∈ cs := List.mem_of_getElem? ha
          have hm : m < cs.length := (List.getElem?_eq_some_iff.mp ha).1
          -- the cell changed
          have st : Stp cs G H cs G (upd H a' (.lst vs.dropLast)) := ⟨Pre.refl _, fun _ h => .inl h, Le.refl _, fun x o n h => by rw [upd_ne (fun y => n (by rw [y]; exact ma))]; exact h⟩
          have ga : G a' = none := at_.wd.cg a' ma
          have wd : Wd X.K B cs G (s.c.set m xs.dropLast) (upd H a' (.lst vs.dropLast)) := by
            refine ⟨fun x w r => ?_, at_.wd.gl, at_.wd.gn, at_.wd.cg, at_.wd.nd, by rw [List.length_set]; exact at_.wd.len, fun k x ds h1 h2 => ?_, fun q mq => ?_, fun x w h1 n => ?_⟩
            · have ne : x ≠ a' := fun y => by
                rw [y] at r
                rcases r with z | ⟨_, z⟩ <;> rw [ga] at z <;> cases z
              rcases at_.wd.le x w r with z | ⟨od, z⟩
              · exact .inl (by rw [upd_ne ne]; exact z)
              · exact .inr ⟨od, by rw [upd_ne ne]; exact z⟩
            · by_cases y : k = m
              · subst y
                rw [List.getElem?_set_self (by rw [at_.wd.len]; exact hm)] at h2
                cases h2
                rw [ha] at h1; cases h1
                exact ⟨_, upd_same, rp.dropLast⟩
              · rw [List.getElem?_set_ne (fun z => y z.symm)] at h2
                obtain ⟨ws, h3, h4⟩ := at_.wd.cel k x ds h1 h2
                refine ⟨ws, ?_, h4⟩
                rw [upd_ne]; exact h3
                intro z; subst z
                exact y (nd_ix at_.wd.nd h1 ha)
            · obtain ⟨o, h1, h2⟩ := at_.wd.lok q mq
              refine ⟨o, h1, ?_⟩
              rw [upd_ne]; exact h2
              intro z; rw [z, ga] at h1; cases h1
            · have ne : x ≠ a' := fun y => n (by rw [y]; exact ma)
              rw [upd_ne ne]; exact at_.wd.fr x w h1 n
          refine h _ cs G _ st ⟨wd, at_.en.mono st fun j dd p' hj sj => ?_⟩ ⟨ru, fun h => (nomatch h), fun _ h => nomatch h⟩
          obtain ⟨v', y, q', e', g, _⟩ := at_.en.val j true dd hj
          rw [sj] at y; cases y
          cases e'; exact g
        · exact h.elim
      · exact h.elim
    · exact h.elim
end
end Q
end

section
set_option Elab.async false
set_option linter.all false
set_option maxRecDepth 100000
set_option maxHeartbeats 4000000
namespace Q
open PySem PySem.Spec PyProof.Rows L2
section
variable {K : PySem.W.Frag} {B : Bs} {cs cs' cs1 : List Addr} {G G' G1 H H' H1 : Hp} {s s1 : S} {σ : L2.St} {v w : V} {d dx dy : D} {p : Addr} {Q : VK} {pk : Bool} {r : Row} {od : Bool × D}
variable {X : Cx} {C : Cl} {a b c e : Expr} {x y z : Ex} {pos : Pos}
/-! [..] * n -/
theorem Reps.rep {vs : List V} {ds : List D} (h : Reps K cs G vs ds) : ∀ n : Nat, Reps K cs G (List.replicate n vs).flatten (List.replicate n ds).flatten
  | 0 => .nil
  | n + 1 => by
    rw [List.replicate_succ, List.replicate_succ, List.flatten_cons, List.flatten_cons]
    exact h.app (Reps.rep h n)
theorem r_rep (ha : PE X a (tE X C x)) (hb : PE X b (tE X C y)) : PE X (.BinOp a .Mult b pos) (tE X C (.rep x y)) :=
  peM (pe_op op_rep ha hb) fun σ H Q ⟨B, cs, G, s, at_, h⟩ => by
    obtain ⟨⟨o1, dx⟩, s1, e1, ha1⟩ := Rn.b2 h
    obtain ⟨⟨o2, dy⟩, s2, e2, h2⟩ := Rn.b2 ha1
    clear h ha1
    have h := h2
    clear h2
    refine tE_in at_ e1 fun v cs1 G1 H1 st1 at1 r1 => tE_in at1 e2 fun w cs2 G2 H2 st2 at2 r2 => ?_
    cases o1 <;> cases dx <;> cases dy <;> simp only at h <;> first | exact h.elim | skip
    · rename_i xs j
      split at h
      · rename_i hz
        rw [Bool.and_eq_true, Bool.and_eq_true, decide_eq_true_eq] at hz
        obtain ⟨p, e3, g, n, z, vs, hp, rp⟩ := r1.1
        have hp2 := st2.keep _ _ n hp
        have rp2 := rp.mono st2.pre st2.le
        have hj := hz.1.2
        simp only [isRng, Bool.and_eq_true, decide_eq_true_eq] at hj
        refine ⟨p, j, vs, e3, r2.vw.int, hp2, by omega, by omega, ?_, fun q hq => Ps.lst at2 (rp2.rep _) hq (Ps.shift (Ps.shift h st1) st2)⟩
        rw [rp2.len]
        exact lim_le hz.1.1
      · exact h.elim
/-! x in y -/
theorem op_dIn (hu : X.A.units + 1 < cLine) : OpR X (compareOp .In) (fun x y H Q => ∃ a o, y = .ref a ∧ DGet H a x o ∧ Q (.bl o.isSome) H) := by
  intro pins s σ H x y v u Q I rx ry ⟨a, o, e, g, q⟩
  subst e
  cases ry
  exact d_in hu I g rx fun s3 I3 => ⟨.bl o.isSome, H, I3, rfl, q⟩
theorem op_dNotIn (hu : X.A.units + 1 < cLine) : OpR X (compareOp .NotIn) (fun x y H Q => ∃ a o, y = .ref a ∧ DGet H a x o ∧ Q (.bl (!o.isSome)) H) := by
  intro pins s σ H x y v u Q I rx ry ⟨a, o, e, g, q⟩
  subst e
  cases ry
  exact d_notIn hu I g rx fun s3 I3 => ⟨.bl (!o.isSome), H, I3, rfl, q⟩
def rInA (K : PySem.W.Frag) (n : Bool) : R2 := fun x y H Q => (∃ (c : Nat) (z : Str), x = .str ⟨#[c]⟩ ∧ y = .str z ∧ Q (.bl (decide (c ∈ z.cps.toList) != n)) H) ∨
  (∃ d ds, Dp K H x d ∧ Dp K H y (.list ds) ∧ SeqAt.shaped d = true ∧ SeqAt.shaped (.list ds) = true ∧ Q (.bl ((ds.any fun z => PyData.eqv z d) != n)) H) ∨ ∃ a o, y = .ref a ∧ DGet H a x o ∧ Q (.bl (o.isSome != n)) H
def inOp : Bool → CmpOp
  | false => .In
  | true => .NotIn
theorem bF (b : Bool) : (b != false) = b := by cases b <;> rfl
theorem bT (b : Bool) : (b != true) = !b := by cases b <;> rfl
theorem o_in (hu : X.A.units + 65 < cLine) : ∀ n : Bool, OpR X (compareOp (inOp n)) (rInA X.K n)
  | false => by
    unfold rInA
    simp only [bF]
    exact OpR.or op_in_sign (OpR.or (op_inD hu) (op_dIn (by omega)))
  | true => by
    unfold rInA
    simp only [bT]
    exact OpR.or op_notIn_sign (OpR.or (op_notInD hu) (op_dNotIn (by omega)))
theorem any_eqv : ∀ {ys : List D} {n m : Nat}, ys.all (pl n) = true → pl m d = true → ((toPys ys).any fun z => PyData.eqv z (toPy d)) = ys.any fun z => eqD z d
  | [], _, _, _, _ => rfl
  | y :: ys, n, m, h, k => by
    rw [List.all_cons, Bool.and_eq_true] at h
    simp only [toPys, List.any_cons]
    rw [eqv_toPy y d n m h.1 k, any_eqv h.2 k]
theorem in_ok (at_ : At K B cs G s σ H) (hv : Vw K cs G H v dx) (hw : Vw K cs G H w dy) {n t : Bool} (e : inD dx dy = some t) (q : Q (.bl (t != n)) H) : rInA K n v w H Q := by
  cases dy with
  | str y =>
    cases dx <;> simp only [inD, reduceCtorEq] at e
    rename_i x
    split at e
    · rename_i c hc
      cases e
      refine .inl ⟨c, y, ?_, hw.str, q⟩
      rw [hv.str]
      congr 1
      cases x with
      | mk cps =>
        congr 1
        exact Array.toList_inj.mp hc
    · cases e
  | lst ys =>
    have e : (if (pl 60 dx && pl 60 (.lst ys)) = true then some (ys.any fun z => eqD z dx) else none) = some t := by cases dx <;> exact e
    split at e
    · rename_i hz
      cases e
      rw [Bool.and_eq_true] at hz
      refine .inr (.inl ⟨toPy dx, toPys ys, hv.dp at_.wd.le hz.1, hw.dp at_.wd.le hz.2, shaped_of hz.1, shaped_of hz.2, ?_⟩)
      have hys : ys.all (pl 59) = true := by simpa [pl] using hz.2
      rw [any_eqv hys hz.1]
      exact q
    · cases e
  | dct kvs =>
    have e : (if isKey dx = true then some (getD kvs dx).isSome else none) = some t := by cases dx <;> exact e
    split at e
    · rename_i hk
      cases e
      obtain ⟨j, hj⟩ := keyD_of hk
      obtain ⟨a, vs, rfl, hs, rp⟩ := hw.dct at_.wd.le
      refine .inr (.inr ⟨a, valV vs j, rfl, .inl ⟨vs, j, hs, kV_rep hj hv, rfl⟩, ?_⟩)
      have : (valV vs j).isSome = (getD kvs dx).isSome := by
        cases g : getD kvs dx with
        | none => rw [(RepK.get hj rp).2 g]; rfl
        | some d => obtain ⟨u, e1, _⟩ := (RepK.get hj rp).1 d g; rw [e1]; rfl
      rw [this]
      exact q
    · cases e
  | _ => cases dx <;> simp only [inD, reduceCtorEq] at e
def nSet : Expr → Bool
  | .Set .. => false
  | _ => true
theorem nSet_ok {n : Bool} (h : nSet b = true) : behindInMarks (inOp n) b = false := by cases b <;> first | rfl | (simp [nSet] at h)
theorem r_cin (hu : X.A.units + 65 < cLine) (n : Bool) (hb' : nSet b = true) (ha : PE X a (tE X C x)) (hb : PE X b (tE X C y)) : PE X (.Compare a [inOp n] [b] pos) (tE X C (.cin n x y)) :=
  peM (pe_cmpR (o_in hu n) ha hb (nSet_ok hb')) fun σ H Q ⟨B, cs, G, s, at_, h⟩ => by
    obtain ⟨dx, s1, e1, h⟩ := Rn.b2 h
    obtain ⟨dy, s2, e2, h⟩ := Rn.b2 h
    obtain ⟨t, s3, e3', h⟩ := Rn.b2 h
    obtain ⟨e3, rfl⟩ := R.of_eq e3'
    refine tE_in at_ e1 fun v cs1 G1 H1 st1 at1 r1 => tE_in at1 e2 fun w cs2 G2 H2 st2 at2 r2 => ?_
    exact in_ok at2 (r1.vw.mono st2) r2.vw e3 (Ps.scal at2 (.bl _) (Ps.shift (Ps.shift h st1) st2))
theorem r_cinT (hu : X.A.units + 65 < cLine) (n : Bool) (hb' : nSet b = true) (ha : PE X a (tE X C x)) (hb : PE X b (tE X C y)) : PT X (.Compare a [inOp n] [b] pos) (tT X C (.cin n x y)) :=
  ptM (pt_cmpR (o_in hu n) ha hb (nSet_ok hb')) fun σ H Q ⟨B, cs, G, s, at_, h⟩ => by
    obtain ⟨z, s4, e4, h⟩ := Rn.b2 h
    obtain ⟨dx, s1, e1, e4⟩ := R.b_eq e4
    obtain ⟨dy, s2, e2, e4⟩ := R.b_eq e4
    obtain ⟨t, s3, e3', e4⟩ := R.b_eq e4
    obtain ⟨e3, rfl⟩ := R.of_eq e3'
    cases e4
    obtain ⟨u, e5, h⟩ := Rn.of h
    cases e5
    refine tE_in at_ e1 fun v cs1 G1 H1 st1 at1 r1 => tE_in at1 e2 fun w cs2 G2 H2 st2 at2 r2 => ?_
    exact in_ok at2 (r1.vw.mono st2) r2.vw e3 ⟨_, rfl, h cs2 G2 H2 (st1.trans st2) at2⟩
/-! slices -/
theorem Reps.drop {vs : List V} {ds : List D} : ∀ (h : Reps K cs G vs ds) (n : Nat), Reps K cs G (vs.drop n) (ds.drop n)
  | h, 0 => by simpa using h
  | .nil, n + 1 => .nil
  | .cons a r, n + 1 => by simpa using Reps.drop r n
theorem Reps.take {vs : List V} {ds : List D} : ∀ (h : Reps K cs G vs ds) (n : Nat), Reps K cs G (vs.take n) (ds.take n)
  | h, 0 => by simpa using Reps.nil
  | .nil, n + 1 => .nil
  | .cons a r, n + 1 => by simpa using Reps.cons a (Reps.take r n)
theorem sIx_eq (n d : Nat) (o : Option Int) : HT.sIx n d o = sIxD n d o := by cases o <;> rfl
theorem Reps.cut {vs : List V} {ds : List D} (h : Reps K cs G vs ds) (lo hi : Option Int) : Reps K cs G (cutV vs lo hi) (cutD ds lo hi) := by
  unfold cutV cutD
  rw [sIx_eq, sIx_eq, h.len]
  exact (h.drop _).take _
def tO (X : Cx) (C : Cl) : Option Ex → TO
  | none => tNoPart
  | some x => tPart (tE X C x)
theorem tO_in {o : Option Ex} {i : Option Int} {Q0 : Option Int → Hp → Prop} (at_ : At X.K B cs G s σ H) (e1 : evO C o s = .ok i s1) (k : ∀ cs1 G1 H1, Stp cs G H cs1 G1 H1 → At X.K B cs1 G1 s1 σ H1 → Q0 i H1) : tO X C o σ H Q0 := by
  cases o with
  | none => cases e1; exact k cs G H (Stp.refl _ _ _) at_
  | some x =>
    obtain ⟨⟨ob, dd⟩, s2, e2, e1⟩ := R.b_eq e1
    cases dd <;> simp only at e1 <;> cases e1
    rename_i j
    exact tE_in at_ e2 fun v cs1 G1 H1 st1 at1 r1 => ⟨j, r1.vw.int, k cs1 G1 H1 st1 at1⟩
inductive PoR (X : Cx) (C : Cl) : Option Expr → Option Ex → Prop
  | no : PoR X C none none
  | yes {e : Expr} {x : Ex} (h : PE X e (tE X C x)) : PoR X C (some e) (some x)
theorem PoR.po {e : Option Expr} {x : Option Ex} (h : PoR X C e x) : PO X e (tO X C x) := by
  cases h with
  | no => exact po_none
  | yes h => exact po_some h
theorem r_sl {lo hi : Option Expr} {l h : Option Ex} {p2 : Pos} (ha : PE X a (tE X C x)) (hl : PoR X C lo l) (hh : PoR X C hi h) : PE X (.Subscript a (.Slice lo hi none p2) pos) (tE X C (.sl x l h)) :=
  peM (pe_slice (SlR.or sl_list sl_tupA) ha hl.po hh.po) fun σ H Q ⟨B, cs, G, s, at_, h⟩ => by
    obtain ⟨⟨o1, dx⟩, s1, e1, k1⟩ := Rn.b2 h
    obtain ⟨l1, s2, e2, k2⟩ := Rn.b2 k1
    obtain ⟨h1, s3, e3, k3⟩ := Rn.b2 k2
    obtain ⟨od, e4, k4⟩ := Rn.of k3
    clear k3 k2 k1 h
    refine tE_in at_ e1 fun v cs1 G1 H1 st1 at1 r1 => tO_in at1 e2 fun cs2 G2 H2 st2 at2 => tO_in at2 e3 fun cs3 G3 H3 st3 at3 => ?_
    have hv := (r1.vw.mono st2).mono st3
    have q := Ps.shift (Ps.shift (Ps.shift k4 st1) st2) st3
    clear k4
    cases dx <;> simp only [slD, reduceCtorEq] at e4 <;> cases e4
    · rename_i ds
      obtain ⟨a', vs, rfl, hs, rp⟩ := hv.tup at3.wd.le
      refine .inr ⟨a', vs, rfl, hs, fun ⟨z1, z2⟩ => ?_, fun _ p hp => Ps.tup at3 (rp.cut l1 h1) hp q⟩
      have : cutD ds l1 h1 = ds := by
        have r2 := rp.len
        rw [sIx_eq, r2] at z1
        rw [sIx_eq, r2] at z2
        unfold cutD
        rw [z1, z2]
        simp
      rw [this] at q
      rcases hv with hv | ⟨p, e, n, hv⟩
      · exact Ps.scal at3 hv q
      · exact hv.elim
    · obtain ⟨a', vs, rfl, hs, rp⟩ := hv.lst at3.wd.le
      exact .inl ⟨a', vs, rfl, hs, fun p hp => Ps.lst at3 (rp.cut l1 h1) hp q⟩
/-! dicts of the module -/
def GdOk (X : Cx) (n : Str) (g : List (Str × Int)) : Prop := ∃ d es k, X.mg n = some (.ref d) ∧ KDict X.K X.w d es k ∧ ∀ z, (∀ i, g.lookup z = some i → ∃ t, PySem.W.nsIn X.K d z = some (some (.int i t))) ∧ (g.lookup z = none → PySem.W.nsIn X.K d z = some none)
def rKin (X : Cx) (d : Addr) (n : Bool) : R2 := fun x y H Q => ∃ (z : Str) (r : Option Value), x = .str z ∧ y = .ref d ∧ PySem.W.nsIn X.K d z = some r ∧ Q (.bl (r.isSome != n)) H
theorem o_kin {d : Addr} {es : Array DictEntry} {k : Nat} (D : KDict X.K X.w d es k) : ∀ n : Bool, OpR X (compareOp (inOp n)) (rKin X d n)
  | false => by unfold rKin; simp only [bF]; exact op_in_kd D
  | true => by unfold rKin; simp only [bT]; exact op_notIn_kd D
theorem look_some {g : List (Str × Int)} {d : Addr} (h : ∀ z, (∀ i, g.lookup z = some i → ∃ t, PySem.W.nsIn X.K d z = some (some (.int i t))) ∧ (g.lookup z = none → PySem.W.nsIn X.K d z = some none)) (z : Str) : ∃ r, PySem.W.nsIn X.K d z = some r ∧ r.isSome = (g.lookup z).isSome := by
  cases q : g.lookup z with
  | none => exact ⟨none, (h z).2 q, rfl⟩
  | some i => obtain ⟨t, e⟩ := (h z).1 i q; exact ⟨_, e, rfl⟩
theorem r_gin (n : Bool) {m : Str} {g : List (Str × Int)} {p : Pos} (hg : Gl X m) (hd : (m == ("__debug__" : Str)) = false) (ok : GdOk X m g) (ha : PE X a (tE X C x)) : PE X (.Compare a [inOp n] [.Name m p] pos) (tE X C (.gin n x m g)) := by
  obtain ⟨d, es, k, hm, D, h0⟩ := ok
  refine peM (pe_cmpR (o_kin D n) ha (pe_glob (v := .ref d) hg hm rfl hd) (by cases n <;> rfl)) fun σ H Q ⟨B, cs, G, s, at_, h⟩ => ?_
  obtain ⟨⟨o1, dx⟩, s1, e1, h⟩ := Rn.b2 h
  refine tE_in at_ e1 fun v cs1 G1 H1 st1 at1 r1 => ?_
  cases dx <;> simp only at h <;> first | exact h.elim | skip
  rename_i z
  obtain ⟨r, e2, e3⟩ := look_some h0 z
  refine ⟨z, r, r1.vw.str, rfl, e2, ?_⟩
  rw [e3]
  exact Ps.scal at1 (.bl _) (Ps.shift h st1)
theorem r_ginT (n : Bool) {m : Str} {g : List (Str × Int)} {p : Pos} (hg : Gl X m) (hd : (m == ("__debug__" : Str)) = false) (ok : GdOk X m g) (ha : PE X a (tE X C x)) : PT X (.Compare a [inOp n] [.Name m p] pos) (tT X C (.gin n x m g)) := by
  obtain ⟨d, es, k, hm, D, h0⟩ := ok
  refine ptM (pt_cmpR (o_kin D n) ha (pe_glob (v := .ref d) hg hm rfl hd) (by cases n <;> rfl)) fun σ H Q ⟨B, cs, G, s, at_, h⟩ => ?_
  obtain ⟨y, s4, e4, h⟩ := Rn.b2 h
  obtain ⟨⟨o1, dx⟩, s1, e1, e4⟩ := R.b_eq e4
  refine tE_in at_ e1 fun v cs1 G1 H1 st1 at1 r1 => ?_
  cases dx <;> simp only at e4 <;> cases e4
  rename_i z
  obtain ⟨u, e5, h⟩ := Rn.of h
  cases e5
  obtain ⟨r, e2, e3⟩ := look_some h0 z
  refine ⟨z, r, r1.vw.str, rfl, e2, ?_⟩
  rw [e3]
  exact ⟨_, rfl, h cs1 G1 H1 st1 at1⟩
theorem r_gix {m : Str} {g : List (Str × Int)} {p : Pos} (hg : Gl X m) (hd : (m == ("__debug__" : Str)) = false) (ok : GdOk X m g) (hb' : nSl a = true) (ha : PE X a (tE X C x)) : PE X (.Subscript (.Name m p) a pos) (tE X C (.gix m g x)) := by
  obtain ⟨d, es, k, hm, D, h0⟩ := ok
  refine peM (pe_ix ix_kdict (pe_glob (v := .ref d) hg hm rfl hd) ha (nSl_ix hb')) fun σ H Q ⟨B, cs, G, s, at_, h⟩ => ?_
  obtain ⟨⟨o1, dx⟩, s1, e1, h⟩ := Rn.b2 h
  refine tE_in at_ e1 fun v cs1 G1 H1 st1 at1 r1 => ?_
  cases dx <;> simp only at h <;> first | exact h.elim | skip
  rename_i z
  split at h
  · rename_i i q
    obtain ⟨t, e2⟩ := (h0 z).1 i q
    exact ⟨d, z, .int i, rfl, r1.vw.str, ⟨es, k, _, D.at_, D.lit, e2, ⟨t, rfl⟩⟩, Ps.scal at1 (.int _) (Ps.shift h st1)⟩
  · exact h.elim
theorem pe_kget {d : Addr} {es : Array DictEntry} {k : Nat} {o : Expr} {td : TE} {apos cpos : Pos} (D : KDict X.K X.w d es k) (ho : PE X o (fun σ H Q => td σ H Q)) (ha : PE X a (tE X C x)) (m : M1 X o "get" apos a cpos) :
    PE X (.Call (.Attribute o "get" apos) [a] [] cpos) (fun σ H Q => td σ H fun y H1 => y = .ref d ∧ tE X C x σ H1 fun w H2 => ∃ (z : Str) (r : Option Value), w = .str z ∧ PySem.W.nsIn X.K d z = some r ∧ ∃ v, RelV v (r.getD .none) ∧ Q v H2) := by
  refine ⟨fun pins s σ H Q I h => ?_⟩
  refine wpAny_Call_method m.base m.few m.line PySem.F.plainAttrs_dict PySem.F.slot_dict_get PySem.F.type_dict_get (thn (ho.run pins s σ H _ I h) fun u s1 ⟨y, H1, I1, ry, e1, q1⟩ => ?_)
  subst e1
  obtain rfl : u = Value.ref d := ry
  refine ⟨kd_type D I1, fun b q => ?_, ?_⟩
  · cases q
    exact ⟨_, I1.kIn _ _ D.at_, rfl⟩
  rw [m.trees]
  refine Calls.callWith_builtin rfl (Calls.evalArgs_plain (Calls.spliced_cons (thn (ha.run pins s1 σ H1 _ I1 q1) fun iv s2 ⟨w, H2, I2, rw', z, r, e2, e3, v, rv, q2⟩ => Calls.spliced_nil ?_)))
  subst e2
  obtain ⟨t, rfl⟩ := (show ∃ t, iv = Value.str z t from rw')
  have hm := PySem.W.mapOf_K (prog := X.prog) (w := X.w) I2.kIn D.at_ D.lit
  refine call_meetsIn PySem.F.slot_dict_get (kd_type D I2) PySem.F.entry_dict_get (PySem.F.args_dict_get_2 _ _) (meets_dict_get _ d (PySem.strKind_is X.prog X.w z t) D.low) ⟨_, hm, ?_⟩
  rw [PySem.W.find_K D.at_ e3]
  exact ⟨v, H2, I2.tok _, rv, q2⟩
theorem r_gget {m : Str} {g : List (Str × Int)} {p apos : Pos} (hg : Gl X m) (hd : (m == ("__debug__" : Str)) = false) (ok : GdOk X m g) (hst : nStar a = true) (hl : (apos.endLine == pos.line) = true) (ha : PE X a (tE X C x)) : PE X (.Call (.Attribute (.Name m p) "get" apos) [a] [] pos) (tE X C (.gget m g x)) := by
  obtain ⟨d, es, k, hm, D, h0⟩ := ok
  have e1 : starEach [a] X.env = [(false, eval a X.env)] := by rw [star_of hst]; rfl
  refine peM (pe_kget D (pe_glob (v := .ref d) hg hm rfl hd) ha ⟨base_of rfl _ _, by rw [e1]; rfl, hl, by rw [e1]; rfl⟩) fun σ H Q ⟨B, cs, G, s, at_, h⟩ => ?_
  obtain ⟨⟨o1, dx⟩, s1, e1, h⟩ := Rn.b2 h
  refine ⟨rfl, tE_in at_ e1 fun v cs1 G1 H1 st1 at1 r1 => ?_⟩
  cases dx <;> simp only at h <;> first | exact h.elim | skip
  rename_i z
  split at h
  · rename_i i q
    obtain ⟨t, e2⟩ := (h0 z).1 i q
    exact ⟨z, _, r1.vw.str, e2, .int i, ⟨t, rfl⟩, Ps.scal at1 (.int _) (Ps.shift h st1)⟩
  · rename_i q
    exact ⟨z, none, r1.vw.str, (h0 z).2 q, .non, rfl, Ps.scal at1 .non (Ps.shift h st1)⟩
end
end Q
end

section
set_option Elab.async false
set_option linter.all false
set_option maxRecDepth 100000
set_option maxHeartbeats 4000000
namespace Q
open PySem PySem.Spec PyProof.Rows L2
/-! ### what is under way: pinned; what is walked: locked -/
def Bs.pin (B : Bs) (D : Addr) (o : HO) : Bs := ⟨upd B.h0 D o, B.g0, B.lk⟩
def Bs.lock (B : Bs) (d : Addr) (od : Obj) : Bs := ⟨B.h0, B.g0, (d, od) :: B.lk⟩
section
variable {K : PySem.W.Frag} {B : Bs} {cs cs' cs1 : List Addr} {G G' G1 H H' H1 : Hp} {s s1 : S} {σ σ' : L2.St} {v w : V} {d dx dy : D} {p a : Addr} {Q : VK} {o o' u : HO} {r : Row}
theorem upd_none {X : Hp} {b : Addr} (h : upd X a o b = none) : b ≠ a ∧ X b = none := by
  by_cases e : b = a
  · subst e; rw [upd_same] at h; cases h
  · rw [upd_ne e] at h; exact ⟨e, h⟩
theorem At.own_none {i : Nat} (at_ : At K B cs G s σ H) (hi : s.r[i]? = some (some (true, d))) (hs : σ[i]? = some (some (.ref p))) : G p = none ∧ p ∉ cs ∧ B.h0 p = none ∧ Own K cs G H p d := by
  obtain ⟨v', y, q', e', g, n, z, ow⟩ := at_.en.val i true d hi
  rw [hs] at y; cases y
  cases e'
  exact ⟨g, n, z, ow⟩
theorem At.rebase {B' : Bs} (at_ : At K B cs G s σ H) (hg : B'.g0 = B.g0) (hl : B'.lk = B.lk) (h1 : ∀ a o, G a = some o → B.h0 a = none → B'.h0 a = none) (h2 : ∀ a o, B'.h0 a = some o → a ∉ cs → B.h0 a = some o ∨ H a = some o)
    (h3 : ∀ (i : Nat) (d : D) (p : Addr), s.r[i]? = some (some (true, d)) → σ[i]? = some (some (.ref p)) → B.h0 p = none → B'.h0 p = none) : At K B' cs G s σ H := by
  refine ⟨⟨at_.wd.le, by rw [hg]; exact at_.wd.gl, fun a o x => ?_, at_.wd.cg, at_.wd.nd, at_.wd.len, at_.wd.cel, by rw [hl]; exact at_.wd.lok, fun a o x n => ?_⟩, ⟨at_.en.len, fun i ob d h => ?_, at_.en.dis⟩⟩
  · rw [hg]; exact (at_.wd.gn a o x).imp id (h1 a o x)
  · rw [hl]
    rcases h2 a o x n with y | y
    · exact at_.wd.fr a o y n
    · exact .inl y
  · obtain ⟨v, e, vr⟩ := at_.en.val i ob d h
    refine ⟨v, e, ?_⟩
    cases ob with
    | false => exact vr
    | true =>
      obtain ⟨p, e1, g, n, z, ow⟩ := vr
      subst e1
      exact ⟨p, rfl, g, n, h3 i d p h e z, ow⟩
theorem At.pin {Da : Addr} (at_ : At K B cs G s σ H) (hD : H Da = some o) (n : Da ∉ cs) (g : G Da = none) (no : ∀ (i : Nat) (e : D), s.r[i]? = some (some (true, e)) → σ[i]? ≠ some (some (.ref Da))) : At K (B.pin Da o) cs G s σ H :=
  at_.rebase rfl rfl (fun a u x y => by
    show upd B.h0 Da o a = none
    rw [upd_ne (fun z => by rw [z, g] at x; cases x)]; exact y) (fun a u x m => by
    by_cases z : a = Da
    · subst z
      rw [show (B.pin a o).h0 a = some o from upd_same] at x
      cases x; exact .inr hD
    · rw [show (B.pin Da o).h0 a = B.h0 a from upd_ne z] at x
      exact .inl x) (fun i d p hi hs z => by
    show upd B.h0 Da o p = none
    rw [upd_ne (fun y => no i d hi (by rw [← y]; exact hs))]; exact z)
theorem At.unpin {Da : Addr} (at_ : At K (B.pin Da o) cs G s σ H) (z : B.h0 Da = none) : At K B cs G s σ H :=
  at_.rebase rfl rfl (fun a u x y => (upd_none y).2) (fun a u x m => .inl (by
    show upd B.h0 Da o a = some u
    rw [upd_ne (fun y => by rw [y, z] at x; cases x)]; exact x)) (fun i d p hi hs y => (upd_none y).2)
theorem At.pinned {Da : Addr} (at_ : At K (B.pin Da o) cs G s σ H) (g0 : B.g0 Da = none) (n : Da ∉ cs) : G Da = none ∧ H Da = some o := by
  have g : G Da = none := by
    cases x : G Da with
    | none => rfl
    | some w =>
      rcases at_.wd.gn Da w x with y | y
      · exact absurd g0 y
      · rw [show (B.pin Da o).h0 Da = some o from upd_same] at y; cases y
  refine ⟨g, ?_⟩
  rcases at_.wd.fr Da o upd_same n with x | ⟨od, m, _⟩
  · exact x
  · obtain ⟨w, y, _⟩ := at_.wd.lok (Da, od) m
    rw [g] at y; cases y
theorem upd_le {Da : Addr} (le : Le G H) (g : G Da = none) : Le G (upd H Da o) := fun a u r => by
  have ne : a ≠ Da := fun y => by
    rw [y] at r
    rcases r with z | ⟨_, z⟩ <;> rw [g] at z <;> cases z
  rcases le a u r with z | ⟨od, z⟩
  · exact .inl (by rw [upd_ne ne]; exact z)
  · exact .inr ⟨od, by rw [upd_ne ne]; exact z⟩
theorem At.repin {Da : Addr} (at_ : At K (B.pin Da o) cs G s σ H) (g0 : B.g0 Da = none) (n : Da ∉ cs) : At K (B.pin Da o') cs G s σ (upd H Da o') := by
  obtain ⟨g, hD⟩ := at_.pinned g0 n
  have h0e : ∀ a, a ≠ Da → (B.pin Da o').h0 a = (B.pin Da o).h0 a := fun a y => by
    show upd B.h0 Da o' a = upd B.h0 Da o a
    rw [upd_ne y, upd_ne y]
  refine ⟨⟨upd_le at_.wd.le g, at_.wd.gl, fun a w x => ?_, at_.wd.cg, at_.wd.nd, at_.wd.len, fun k a ds h1 h2 => ?_, fun q m => ?_, fun a w x m => ?_⟩, ⟨at_.en.len, fun i ob d h => ?_, at_.en.dis⟩⟩
  · rw [h0e a (fun y => by rw [y, g] at x; cases x)]; exact at_.wd.gn a w x
  · obtain ⟨vs, h3, h4⟩ := at_.wd.cel k a ds h1 h2
    refine ⟨vs, ?_, h4⟩
    rw [upd_ne]; exact h3
    intro y; subst y; exact n (List.mem_of_getElem? h1)
  · obtain ⟨w, h1, h2⟩ := at_.wd.lok q m
    refine ⟨w, h1, ?_⟩
    rw [upd_ne]; exact h2
    intro y; rw [y, g] at h1; cases h1
  · by_cases y : a = Da
    · subst y
      rw [show (B.pin a o').h0 a = some o' from upd_same] at x
      cases x; exact .inl upd_same
    · rw [h0e a y] at x
      rcases at_.wd.fr a w x m with z | ⟨od, z, z2⟩
      · exact .inl (by rw [upd_ne y]; exact z)
      · exact .inr ⟨od, z, by rw [upd_ne y]; exact z2⟩
  · obtain ⟨v, e, vr⟩ := at_.en.val i ob d h
    refine ⟨v, e, ?_⟩
    cases ob with
    | false => exact vr
    | true =>
      obtain ⟨p, e1, g1, n1, z, ow⟩ := vr
      subst e1
      have ne : p ≠ Da := fun y => by
        rw [y, show (B.pin Da o).h0 Da = some o from upd_same] at z; cases z
      refine ⟨p, rfl, g1, n1, by rw [h0e p ne]; exact z, ?_⟩
      cases d with
      | lst ds => obtain ⟨vs, x, y⟩ := ow; exact ⟨vs, by rw [upd_ne ne]; exact x, y⟩
      | dct ds => obtain ⟨vs, x, y⟩ := ow; exact ⟨vs, by rw [upd_ne ne]; exact x, y⟩
      | _ => exact ow.elim
/-! locks -/
theorem At.lockd {kvs : List (Key × V)} (at_ : At K B cs G s σ H) (hG : Rd G a (.dK kvs)) (hH : H a = some (.dK kvs)) : G a = some (.dK kvs) ∧ (∀ q ∈ B.lk, q.1 ≠ a) ∧ (∀ x y, B.h0 a ≠ some (.frz x y)) := by
  refine ⟨?_, fun q m e => ?_, fun x y h => ?_⟩
  · rcases hG with h | ⟨od, h⟩
    · exact h
    · rcases at_.wd.le a (.frz od (.dK kvs)) (.inl h) with x | ⟨_, x⟩ <;> rw [hH] at x <;> cases x
  · obtain ⟨w, _, h⟩ := at_.wd.lok q m
    rw [e, hH] at h; cases h
  · have n : a ∉ cs := fun m => by
      have := at_.wd.cg a m
      rcases hG with h | ⟨od, h⟩ <;> rw [this] at h <;> cases h
    rcases at_.wd.fr a _ h n with z | ⟨_, _, z⟩ <;> rw [hH] at z <;> cases z
theorem At.lock {kvs : List (Key × V)} {od : Obj} (at_ : At K B cs G s σ H) (hG : G a = some (.dK kvs)) (hH : H a = some (.dK kvs)) : At K (B.lock a od) cs G s σ (upd H a (.frz od (.dK kvs))) := by
  have ncs : a ∉ cs := fun m => by rw [at_.wd.cg a m] at hG; cases hG
  refine ⟨⟨fun b u r => ?_, at_.wd.gl, at_.wd.gn, at_.wd.cg, at_.wd.nd, at_.wd.len, fun k b ds h1 h2 => ?_, fun q m => ?_, fun b w x n => ?_⟩, ⟨at_.en.len, fun i ob d h => ?_, at_.en.dis⟩⟩
  · by_cases y : b = a
    · subst y
      rcases r with z | ⟨_, z⟩ <;> rw [hG] at z <;> cases z
      exact .inr ⟨od, upd_same⟩
    · rcases at_.wd.le b u r with z | ⟨e, z⟩
      · exact .inl (by rw [upd_ne y]; exact z)
      · exact .inr ⟨e, by rw [upd_ne y]; exact z⟩
  · obtain ⟨vs, h3, h4⟩ := at_.wd.cel k b ds h1 h2
    refine ⟨vs, ?_, h4⟩
    rw [upd_ne]; exact h3
    intro y; subst y; exact ncs (List.mem_of_getElem? h1)
  · rcases List.mem_cons.mp m with e | m
    · subst e; exact ⟨_, hG, upd_same⟩
    · obtain ⟨w, h1, h2⟩ := at_.wd.lok q m
      refine ⟨w, h1, ?_⟩
      rw [upd_ne]; exact h2
      intro y; rw [y, hH] at h2; cases h2
  · by_cases y : b = a
    · subst y
      rcases at_.wd.fr b w x n with z | ⟨_, _, z⟩ <;> rw [hH] at z <;> cases z
      exact .inr ⟨od, List.mem_cons_self, upd_same⟩
    · rcases at_.wd.fr b w x n with z | ⟨e, z, z2⟩
      · exact .inl (by rw [upd_ne y]; exact z)
      · exact .inr ⟨e, List.mem_cons_of_mem _ z, by rw [upd_ne y]; exact z2⟩
  · obtain ⟨v, e, vr⟩ := at_.en.val i ob d h
    refine ⟨v, e, ?_⟩
    cases ob with
    | false => exact vr
    | true =>
      obtain ⟨p, e1, g1, n1, z, ow⟩ := vr
      subst e1
      have ne : p ≠ a := fun y => by rw [y, hG] at g1; cases g1
      refine ⟨p, rfl, g1, n1, z, ?_⟩
      cases d with
      | lst ds => obtain ⟨vs, x, y⟩ := ow; exact ⟨vs, by rw [upd_ne ne]; exact x, y⟩
      | dct ds => obtain ⟨vs, x, y⟩ := ow; exact ⟨vs, by rw [upd_ne ne]; exact x, y⟩
      | _ => exact ow.elim
theorem At.unlock {od : Obj} (at_ : At K (B.lock a od) cs G s σ H) (nl : ∀ q ∈ B.lk, q.1 ≠ a) (nf : ∀ x y, B.h0 a ≠ some (.frz x y)) : ∃ u, G a = some u ∧ H a = some (.frz od u) ∧ At K B cs G s σ (upd H a u) := by
  obtain ⟨u, hG, hH⟩ := at_.wd.lok (a, od) List.mem_cons_self
  have ncs : a ∉ cs := fun m => by rw [at_.wd.cg a m] at hG; cases hG
  refine ⟨.dK u, hG, hH, ⟨⟨fun b w r => ?_, at_.wd.gl, at_.wd.gn, at_.wd.cg, at_.wd.nd, at_.wd.len, fun k b ds h1 h2 => ?_, fun q m => ?_, fun b w x n => ?_⟩, ⟨at_.en.len, fun i ob d h => ?_, at_.en.dis⟩⟩⟩
  · by_cases y : b = a
    · subst y
      rcases r with z | ⟨e, z⟩ <;> rw [hG] at z <;> cases z
      exact .inl upd_same
    · rcases at_.wd.le b w r with z | ⟨e, z⟩
      · exact .inl (by rw [upd_ne y]; exact z)
      · exact .inr ⟨e, by rw [upd_ne y]; exact z⟩
  · obtain ⟨vs, h3, h4⟩ := at_.wd.cel k b ds h1 h2
    refine ⟨vs, ?_, h4⟩
    rw [upd_ne]; exact h3
    intro y; subst y; exact ncs (List.mem_of_getElem? h1)
  · obtain ⟨w, h1, h2⟩ := at_.wd.lok q (List.mem_cons_of_mem _ m)
    exact ⟨w, h1, by rw [upd_ne (nl q m)]; exact h2⟩
  · by_cases y : b = a
    · subst y
      rcases at_.wd.fr b w x n with z | ⟨e, _, z⟩ <;> rw [hH] at z <;> cases z
      · exact absurd x (nf _ _)
      · exact .inl upd_same
    · rcases at_.wd.fr b w x n with z | ⟨e, z, z2⟩
      · exact .inl (by rw [upd_ne y]; exact z)
      · rcases List.mem_cons.mp z with q | q
        · cases q; exact absurd rfl y
        · exact .inr ⟨e, q, by rw [upd_ne y]; exact z2⟩
  · obtain ⟨v, e, vr⟩ := at_.en.val i ob d h
    refine ⟨v, e, ?_⟩
    cases ob with
    | false => exact vr
    | true =>
      obtain ⟨p, e1, g1, n1, z, ow⟩ := vr
      subst e1
      have ne : p ≠ a := fun y => by rw [y, hG] at g1; cases g1
      refine ⟨p, rfl, g1, n1, z, ?_⟩
      cases d with
      | lst ds => obtain ⟨vs, x, y⟩ := ow; exact ⟨vs, by rw [upd_ne ne]; exact x, y⟩
      | dct ds => obtain ⟨vs, x, y⟩ := ow; exact ⟨vs, by rw [upd_ne ne]; exact x, y⟩
      | _ => exact ow.elim
/-! names stored -/
theorem At.set {i : Nat} (at_ : At K B cs G s σ H) (rp : Rep K cs G v d) : At K B cs G ⟨s.r.set i (some (false, d)), s.c⟩ (σ.set i (some v)) H := by
  refine ⟨at_.wd, ⟨by simp [at_.en.len], fun j ob d' h => ?_, fun j k d' e' v' ne hj hk sj sk => ?_⟩⟩
  · by_cases x : j = i
    · subst x
      have hl : j < s.r.length := by
        have := (List.getElem?_eq_some_iff.mp h).1
        simpa using this
      rw [List.getElem?_set_self hl] at h
      cases h
      exact ⟨v, by rw [List.getElem?_set_self (by rw [at_.en.len]; exact hl)], rp⟩
    · rw [List.getElem?_set_ne (fun y => x y.symm)] at h
      obtain ⟨w, e, vr⟩ := at_.en.val j ob d' h
      exact ⟨w, by rw [List.getElem?_set_ne (fun y => x y.symm)]; exact e, vr⟩
  · have t : ∀ (m : Nat) (f : D), (s.r.set i (some (false, d)))[m]? = some (some (true, f)) → m ≠ i ∧ s.r[m]? = some (some (true, f)) := fun m f h => by
      by_cases x : m = i
      · subst x
        have hl : m < s.r.length := by simpa using (List.getElem?_eq_some_iff.mp h).1
        rw [List.getElem?_set_self hl] at h; cases h
      · rw [List.getElem?_set_ne (fun y => x y.symm)] at h; exact ⟨x, h⟩
    obtain ⟨a1, b1⟩ := t j d' hj
    obtain ⟨a2, b2⟩ := t k e' hk
    rw [List.getElem?_set_ne (fun y => a1 y.symm)] at sj
    rw [List.getElem?_set_ne (fun y => a2 y.symm)] at sk
    exact at_.en.dis j k d' e' v' ne b1 b2 sj sk
/-- an owned one -/
theorem At.setO {i : Nat} {b : Bool} (at_ : At K B cs G s σ H) (vr : ValR K B cs G H b v d) (no : b = true → ∀ (i : Nat) (e : D), s.r[i]? = some (some (true, e)) → σ[i]? ≠ some (some v)) : At K B cs G ⟨s.r.set i (some (b, d)), s.c⟩ (σ.set i (some v)) H := by
  cases b with
  | false => exact at_.set vr
  | true =>
    refine ⟨at_.wd, ⟨by simp [at_.en.len], fun j ob d' h => ?_, fun j k d' e' v' ne hj hk sj sk => ?_⟩⟩
    · by_cases x : j = i
      · subst x
        have hl : j < s.r.length := by
          have := (List.getElem?_eq_some_iff.mp h).1
          simpa using this
        rw [List.getElem?_set_self hl] at h
        cases h
        exact ⟨v, by rw [List.getElem?_set_self (by rw [at_.en.len]; exact hl)], vr⟩
      · rw [List.getElem?_set_ne (fun y => x y.symm)] at h
        obtain ⟨w, e, vr⟩ := at_.en.val j ob d' h
        exact ⟨w, by rw [List.getElem?_set_ne (fun y => x y.symm)]; exact e, vr⟩
    · have hlj : j < s.r.length := by simpa using (List.getElem?_eq_some_iff.mp hj).1
      have hlk : k < s.r.length := by simpa using (List.getElem?_eq_some_iff.mp hk).1
      by_cases x : j = i
      · subst x
        rw [List.getElem?_set_self (by rw [at_.en.len]; exact hlj)] at sj
        cases sj
        rw [List.getElem?_set_ne ne] at hk sk
        exact no rfl k e' hk sk
      · rw [List.getElem?_set_ne (fun y => x y.symm)] at hj sj
        by_cases y : k = i
        · subst y
          rw [List.getElem?_set_self (by rw [at_.en.len]; exact hlk)] at sk
          cases sk
          exact no rfl j d' hj sj
        · rw [List.getElem?_set_ne (fun z => y z.symm)] at hk sk
          exact at_.en.dis j k d' e' v' ne hj hk sj sk
theorem wipe_len' (σ : L2.St) : ∀ vs : List Nat, (wipe σ vs).length = σ.length := wipe_length σ
theorem wipe_get {σ : L2.St} : ∀ {vs : List Nat} {i : Nat}, i ∉ vs → (wipe σ vs)[i]? = σ[i]? := wipe_out
theorem At.wipe {own : List Nat} (at_ : At K B cs G s σ H) : At K B cs G ⟨wipeR s.r own, s.c⟩ (L2.wipe σ own) H := by
  refine ⟨at_.wd, ⟨by rw [wipe_len', wipe_len, at_.en.len], fun j ob d' h => ?_, fun j k d' e' v' ne hj hk sj sk => ?_⟩⟩
  · obtain ⟨n, h⟩ := wipe_in _ _ _ _ h
    obtain ⟨w, e, vr⟩ := at_.en.val j ob d' h
    exact ⟨w, by rw [wipe_get n]; exact e, vr⟩
  · obtain ⟨n, hj⟩ := wipe_in _ _ _ _ hj
    obtain ⟨m, hk⟩ := wipe_in _ _ _ _ hk
    rw [wipe_get n] at sj
    rw [wipe_get m] at sk
    exact at_.en.dis j k d' e' v' ne hj hk sj sk
theorem wipe_set {σ : L2.St} : ∀ {vs : List Nat} {i : Nat} {x : Option V}, i ∈ vs → wipe (σ.set i x) vs = wipe σ vs := by
  intro vs
  induction vs with
  | nil => intro i x h; simp at h
  | cons v vs ih =>
    intro i x h
    show (wipe (σ.set i x) vs).set v none = (wipe σ vs).set v none
    by_cases e : i ∈ vs
    · rw [ih e]
    · have e' : i = v := by simpa [e] using h
      subst e'
      apply List.ext_getElem?
      intro j
      by_cases y : i = j
      · subst y
        rw [List.getElem?_set_self', List.getElem?_set_self', wipe_get e, wipe_get e]
        by_cases z : i < σ.length
        · rw [List.getElem?_set_self z, List.getElem?_eq_getElem z]; rfl
        · rw [List.getElem?_eq_none (by simpa using Nat.le_of_not_lt z), List.getElem?_eq_none (Nat.le_of_not_lt z)]
      · rw [List.getElem?_set_ne y, List.getElem?_set_ne y]
        have : ∀ (us : List Nat), (wipe (σ.set i x) us)[j]? = (wipe σ us)[j]? := by
          intro us
          induction us with
          | nil => exact List.getElem?_set_ne y
          | cons u us ih2 =>
            show ((wipe (σ.set i x) us).set u none)[j]? = ((wipe σ us).set u none)[j]?
            by_cases q : u = j
            · subst q
              rw [List.getElem?_set_self', List.getElem?_set_self', ih2]
            · rw [List.getElem?_set_ne q, List.getElem?_set_ne q, ih2]
        exact this vs
theorem wipe_idem {σ : L2.St} : ∀ {vs : List Nat}, wipe (wipe σ vs) vs = wipe σ vs := by
  intro vs
  have : ∀ us : List Nat, (∀ u ∈ us, u ∈ vs) → wipe (wipe σ vs) us = wipe σ vs := by
    intro us
    induction us with
    | nil => intro _; rfl
    | cons u us ih =>
      intro h
      show (wipe (wipe σ vs) us).set u none = _
      rw [ih (fun x hx => h x (by simp [hx]))]
      have hu := h u (by simp)
      clear ih h
      induction vs with
      | nil => simp at hu
      | cons v vs ih =>
        show ((wipe σ vs).set v none).set u none = (wipe σ vs).set v none
        by_cases e : u = v
        · subst e; simp
        · have hu' : u ∈ vs := by simpa [e] using hu
          have e2 : ((wipe σ vs).set v none).set u none = ((wipe σ vs).set u none).set v none := List.set_comm _ _ (fun z => e z.symm)
          rw [e2, ih hu']
  exact this vs fun _ h => h
/-! targets -/
mutual
def gT (K : PySem.W.Frag) : Tg → TG
  | .n i => gName i
  | .t ts => fun v σ H Q => gTup K ts.length (gTs K ts) v σ H Q ∨ gLst K ts.length (gTs K ts) v σ H Q
def gTs (K : PySem.W.Frag) : List Tg → TGs
  | [] => gNil
  | t :: ts => gCons (gT K t) (gTs K ts)
end
theorem asgs_len : ∀ (ts : List Tg) (ds : List D) (r r1 : Row), asgs ts ds r = some r1 → ts.length = ds.length
  | [], ds, r, r1, h => by cases ds <;> simp [asgs] at h ⊢
  | t :: ts, [], r, r1, h => by simp [asgs] at h
  | t :: ts, d :: ds, r, r1, h => by
    simp only [asgs] at h
    split at h
    · simp [asgs_len ts ds _ _ h]
    · cases h
mutual
theorem asg_ok : ∀ (t : Tg) (s : S) (d : D) (r1 : Row) (v : V) (σ : L2.St) (Q : L2.St → Hp → Prop), At K B cs G s σ H → Rep K cs G v d → asg t d s.r = some r1 →
    (∀ σ', At K B cs G ⟨r1, s.c⟩ σ' H → (∀ own, tgIn own t = true → L2.wipe σ' own = L2.wipe σ own) → Q σ' H) → gT K t v σ H Q
  | .n i, s, d, r1, v, σ, Q, at_, rp, e, k => by
    cases e
    exact k _ (at_.set rp) fun own h => wipe_set (by simpa [tgIn] using h)
  | .t ts, s, d, r1, v, σ, Q, at_, rp, e, k => by
    cases d <;> simp only [asg, reduceCtorEq] at e
    case lst =>
      obtain ⟨a, vs, rfl, hs, rs⟩ := rp.lst_inv
      refine .inr ⟨a, vs, rfl, at_.wd.le.seqL hs, by rw [rs.len, asgs_len _ _ _ _ e], ?_⟩
      exact asgs_ok ts s _ r1 vs σ Q at_ rs e fun σ' at' w => k σ' at' fun own h => w own (by simpa [tgIn] using h)
    obtain ⟨a, vs, rfl, hs, rs⟩ := rp.tup_inv
    refine .inl ⟨a, vs, rfl, at_.wd.le.seqT hs, by rw [rs.len, asgs_len _ _ _ _ e], ?_⟩
    exact asgs_ok ts s _ r1 vs σ Q at_ rs e fun σ' at' w => k σ' at' fun own h => w own (by simpa [tgIn] using h)
theorem asgs_ok : ∀ (t : List Tg) (s : S) (d : List D) (r1 : Row) (v : List V) (σ : L2.St) (Q : L2.St → Hp → Prop), At K B cs G s σ H → Reps K cs G v d → asgs t d s.r = some r1 →
    (∀ σ', At K B cs G ⟨r1, s.c⟩ σ' H → (∀ own, tgsIn own t = true → L2.wipe σ' own = L2.wipe σ own) → Q σ' H) → gTs K t v σ H Q
  | [], s, d, r1, v, σ, Q, at_, rp, e, k => by
    cases rp with
    | nil => cases e; exact ⟨rfl, k σ at_ fun _ _ => rfl⟩
    | cons _ _ => cases e
  | t :: ts, s, d, r1, v, σ, Q, at_, rp, e, k => by
    cases rp with
    | nil => cases e
    | @cons v1 vr d1 dr h1 h2 =>
      simp only [asgs] at e
      split at e
      · rename_i r2 e2
        refine ⟨v1, vr, rfl, asg_ok t s d1 r2 v1 σ _ at_ h1 e2 fun σ' at' w => ?_⟩
        exact asgs_ok ts ⟨r2, s.c⟩ dr r1 vr σ' Q at' h2 e fun σ'' at'' w2 => k σ'' at'' fun own h => by
          simp only [tgsIn, Bool.and_eq_true] at h
          rw [w2 own h.2, w own h.1]
      · cases e
end
end
end Q
end

section
set_option Elab.async false
set_option linter.all false
set_option maxRecDepth 100000
set_option maxHeartbeats 4000000
namespace Q
open PySem PySem.Spec PyProof.Rows L2
/-! ### locks in the judgements -/
def NF (X : Cx) (d : Addr) : Prop := ∀ o' u', X.H_0 d ≠ some (.frz o' u')
theorem pe_lockV {X : Cx} {e : Expr} {t : TE} (h : PE X e t) : PE X e (fun σ H Q => t σ H fun v H' => Q v H' ∨ ∃ d u, v = .ref d ∧ H' d = some u ∧ Mut (some u) ∧ ∀ od, NF X d → Q v (upd H' d (.frz od u))) :=
  ⟨fun pins s σ H Q I q => thn (h.run pins s σ H _ I q) fun u s1 ⟨v, H1, I1, r1, q1⟩ => by
    rcases q1 with q1 | ⟨d, u', e1, hd, mu, q1⟩
    · exact ⟨v, H1, I1, r1, q1⟩
    · obtain ⟨od, I2⟩ := I1.lock hd mu
      exact ⟨v, _, I2, r1, q1 od (I1.nofrz hd mu)⟩⟩
def Unl (X : Cx) (P : Hp → Prop) (H : Hp) : Prop := P H ∨ ∃ d od u, NF X d ∧ H d = some (.frz od u) ∧ P (upd H d u)
theorem pe_unl {X : Cx} {e : Expr} {t : TE} (h : PE X e t) : PE X e (fun σ H Q => t σ H fun v H' => Unl X (Q v) H') :=
  ⟨fun pins s σ H Q I q => thn (h.run pins s σ H _ I q) fun u s1 ⟨v, H1, I1, r1, q1⟩ => by
    rcases q1 with q1 | ⟨d, od, u', nf, hd, q1⟩
    · exact ⟨v, H1, I1, r1, q1⟩
    · exact ⟨v, _, I1.unlock hd nf, r1, q1⟩⟩
def unlD (X : Cx) (D : Ends) : Ends := ⟨fun σ H => Unl X (D.nx σ) H, fun v H => Unl X (D.rt v) H, fun σ H => Unl X (D.bk σ) H, fun σ H => Unl X (D.ct σ) H⟩
theorem ps_unl {X : Cx} {st : Stmt} {t : TS} (h : PS X st t) : PS X st (fun D σ H => t (unlD X D) σ H) :=
  ⟨fun pins s σ H D I q => thn (h.run pins s σ H _ I q) fun f s1 q1 => by
    cases f with
    | next =>
      obtain ⟨σ', H', I', q1⟩ := q1
      rcases q1 with q1 | ⟨d, od, u', nf, hd, q1⟩
      · exact ⟨σ', H', I', q1⟩
      · exact ⟨σ', _, I'.unlock hd nf, q1⟩
    | brk =>
      obtain ⟨σ', H', I', q1⟩ := q1
      rcases q1 with q1 | ⟨d, od, u', nf, hd, q1⟩
      · exact ⟨σ', H', I', q1⟩
      · exact ⟨σ', _, I'.unlock hd nf, q1⟩
    | cont =>
      obtain ⟨σ', H', I', q1⟩ := q1
      rcases q1 with q1 | ⟨d, od, u', nf, hd, q1⟩
      · exact ⟨σ', H', I', q1⟩
      · exact ⟨σ', _, I'.unlock hd nf, q1⟩
    | ret u =>
      obtain ⟨v, σ', H', I', r, q1⟩ := q1
      rcases q1 with q1 | ⟨d, od, u', nf, hd, q1⟩
      · exact ⟨v, σ', H', I', r, q1⟩
      · exact ⟨v, σ', _, I'.unlock hd nf, r, q1⟩⟩
/-! ### what is walked -/
/-- what a turn yields -/
def Yi (K : PySem.W.Frag) (cs : List Addr) (G : Hp) (xs : List D) (i : Nat) (H : Hp) (x : V) (H2 : Hp) : Prop :=
  ∃ d, xs[i]? = some d ∧ ((H2 = H ∧ Rep K cs G x d) ∨ ∃ T vs ds, x = .ref T ∧ H T = none ∧ H2 = upd H T (.tup vs) ∧ d = .tup ds ∧ Reps K cs G vs ds)
/-- how a walk starts: maybe a dict is locked -/
inductive Lks (X : Cx) (B : Bs) (G H : Hp) : Bs → Hp → Prop
  | no : Lks X B G H B H
  | yes {d : Addr} {od : Obj} {kvs : List (Key × V)} (hG : G d = some (.dK kvs)) (hH : H d = some (.dK kvs)) (nf : NF X d) : Lks X B G H (B.lock d od) (upd H d (.frz od (.dK kvs)))
/-- while it is so, the walk goes on -/
def Wh (B : Bs) (cs : List Addr) (G H0 H : Hp) : Prop := Le G H ∧ (∀ p ∈ B.lk, ∃ o, G p.1 = some o ∧ H p.1 = some (.frz p.2 o))
section
variable {K : PySem.W.Frag} {B B' : Bs} {cs cs' cs1 : List Addr} {G G' G1 H H' H1 : Hp} {s s1 : S} {σ σ' : L2.St} {v w : V} {d dx dy : D} {p a : Addr} {Q : VK} {o o' u : HO} {r : Row} {X : Cx} {xs : List D}
theorem RepK.keys : ∀ {kvs : List (Key × V)} {ds : List (D × D)}, RepK K cs G kvs ds → ∀ {i : Nat} {k : Key} {v : V}, kvs[i]? = some (k, v) → ∃ kd d, ds[i]? = some (kd, d) ∧ keyD kd = some k ∧ Rep K cs G v d
  | _, _, .nil, i, k, v, h => by simp at h
  | _, _, .cons e a r, 0, k, v, h => by simp at h; obtain ⟨rfl, rfl⟩ := h; exact ⟨_, _, rfl, e, a⟩
  | _, _, .cons e a r, i + 1, k, v, h => by simpa using r.keys (i := i) (by simpa using h)
theorem key_rep {kd : D} {k : Key} (h : keyD kd = some k) : Rep K cs G (kV k) kd := by
  cases kd <;> simp only [keyD, reduceCtorEq] at h <;> cases h
  · exact .int _
  · exact .str _
theorem w_list {vs : List V} (s : SqL K G a vs) (r : Reps K cs G vs xs) : Walk (Itl K a) xs.length (fun H => Le G H) (Yi K cs G xs) := by
  have := r.len
  rw [← this]
  exact walk_list.mono (fun H le => le.seqL s) fun i H x H' hi le y => by
    obtain ⟨rfl, e⟩ := y
    obtain ⟨d, e2, rp⟩ := r.get' e
    exact ⟨d, e2, .inl ⟨rfl, rp⟩⟩
theorem w_tup {vs : List V} (s : SqT K G a vs) (r : Reps K cs G vs xs) : Walk (Itt K a) xs.length (fun H => Le G H) (Yi K cs G xs) := by
  have := r.len
  rw [← this]
  exact walk_tup.mono (fun H le => le.seqT s) fun i H x H' hi le y => by
    obtain ⟨rfl, e⟩ := y
    obtain ⟨d, e2, rp⟩ := r.get' e
    exact ⟨d, e2, .inl ⟨rfl, rp⟩⟩
theorem w_listH {vs : List V} {P : Hp → Prop} (s : ∀ H, P H → SqL K H a vs) (r : Reps K cs G vs xs) : Walk (Itl K a) xs.length P (Yi K cs G xs) := by
  have := r.len
  rw [← this]
  exact walk_list.mono (fun H le => s H le) fun i H x H' hi le y => by
    obtain ⟨rfl, e⟩ := y
    obtain ⟨d, e2, rp⟩ := r.get' e
    exact ⟨d, e2, .inl ⟨rfl, rp⟩⟩
theorem w_tupH {vs : List V} {P : Hp → Prop} (s : ∀ H, P H → SqT K H a vs) (r : Reps K cs G vs xs) : Walk (Itt K a) xs.length P (Yi K cs G xs) := by
  have := r.len
  rw [← this]
  exact walk_tup.mono (fun H le => s H le) fun i H x H' hi le y => by
    obtain ⟨rfl, e⟩ := y
    obtain ⟨d, e2, rp⟩ := r.get' e
    exact ⟨d, e2, .inl ⟨rfl, rp⟩⟩
theorem w_rng {lo : Int} {n : Nat} {P : Hp → Prop} : Walk (Itr lo n) (rngD lo n).length P (Yi K cs G (rngD lo n)) := by
  have : (rngD lo n).length = n := by simp [rngD]
  rw [this]
  exact walk_range.mono (fun H le => trivial) fun i H x H' hi le y => by
    obtain ⟨rfl, e⟩ := y
    subst e
    exact ⟨.int (lo + (i : Nat)), by simp [rngD, hi], .inl ⟨rfl, .int _⟩⟩
theorem enuD_get : ∀ (n : Nat) (ds : List D) (i : Nat), (enuD n ds)[i]? = (ds[i]?).map fun d => .tup [.int ((n + i : Nat) : Int), d]
  | n, [], i => by simp [enuD]
  | n, d :: ds, 0 => by simp [enuD]
  | n, d :: ds, i + 1 => by
    simp only [enuD, List.getElem?_cons_succ]
    rw [enuD_get (n + 1) ds i]
    have : n + 1 + i = n + (i + 1) := by omega
    rw [this]
theorem enuD_len : ∀ (n : Nat) (ds : List D), (enuD n ds).length = ds.length
  | n, [] => rfl
  | n, d :: ds => by simp [enuD, enuD_len]
theorem w_enu {vs : List V} {P : Hp → Prop} (s : ∀ H, P H → SqL K H a vs) (r : Reps K cs G vs xs) : Walk (Ite K a) (enuD 0 xs).length P (Yi K cs G (enuD 0 xs)) := by
  have := r.len
  rw [enuD_len, ← this]
  exact walk_enum.mono (fun H le => s H le) fun i H x H' hi le y => by
    obtain ⟨T, x1, y1, e1, e2, e3, e4, e5⟩ := y
    cases e4
    obtain ⟨d, e6, rp⟩ := r.get' e5
    refine ⟨.tup [.int (i : Nat), d], by rw [enuD_get, e6]; simp, .inr ⟨T, _, _, e1, e2, e3, rfl, .cons (.int _) (.cons rp .nil)⟩⟩
theorem w_rev {vs : List V} {P : Hp → Prop} (s : ∀ H, P H → SqL K H a vs) (r : Reps K cs G vs xs) : Walk (Itv K a vs.length) xs.reverse.length P (Yi K cs G xs.reverse) := by
  have := r.len
  rw [List.length_reverse, ← this]
  exact walk_rev.mono (fun H le => s H le) fun i H x H' hi le y => by
    obtain ⟨rfl, e⟩ := y
    obtain ⟨d, e2, rp⟩ := r.get' e
    exact ⟨d, by rw [List.getElem?_reverse (by omega), ← this]; exact e2, .inl ⟨rfl, rp⟩⟩
theorem w_keys {kvs : List (Key × V)} {ds : List (D × D)} {od : Obj} {P : Hp → Prop} (s : ∀ H, P H → H a = some (.frz od (.dK kvs))) (r : RepK K cs G kvs ds) : Walk (Itk a od kvs) (ds.map (·.1)).length P (Yi K cs G (ds.map (·.1))) := by
  have := r.len
  rw [List.length_map, ← this]
  exact walk_keys.mono (fun H le => s H le) fun i H x H' hi le y => by
    obtain ⟨rfl, k, v, e, rfl⟩ := y
    obtain ⟨kd, d, e2, hk, rp⟩ := r.keys e
    exact ⟨kd, by simp [e2], .inl ⟨rfl, key_rep hk⟩⟩
theorem w_vals {kvs : List (Key × V)} {ds : List (D × D)} {od : Obj} {P : Hp → Prop} (s : ∀ H, P H → H a = some (.frz od (.dK kvs))) (r : RepK K cs G kvs ds) : Walk (Itd a od kvs) (ds.map (·.2)).length P (Yi K cs G (ds.map (·.2))) := by
  have := r.len
  rw [List.length_map, ← this]
  exact walk_values.mono (fun H le => s H le) fun i H x H' hi le y => by
    obtain ⟨rfl, k, e⟩ := y
    obtain ⟨kd, d, e2, hk, rp⟩ := r.keys e
    exact ⟨d, by simp [e2], .inl ⟨rfl, rp⟩⟩
theorem w_str {z : Str} {P : Hp → Prop} : Walk (Its z) (z.cps.toList.map fun c => D.str ⟨#[c]⟩).length P (Yi K cs G (z.cps.toList.map fun c => D.str ⟨#[c]⟩)) := by
  have : (z.cps.toList.map fun c => D.str ⟨#[c]⟩).length = z.cps.size := by simp
  rw [this]
  exact walk_str.mono (fun H le => trivial) fun i H x H' hi le y => by
    obtain ⟨rfl, c, e1, e2⟩ := y
    subst e2
    exact ⟨.str ⟨#[c]⟩, by simp [e1], .inl ⟨rfl, .str _⟩⟩
theorem w_zip {b : Addr} {vs ws : List V} {ys : List D} {P : Hp → Prop} (s : ∀ H, P H → SqL K H a vs ∧ SqL K H b ws) (r : Reps K cs G vs xs) (r2 : Reps K cs G ws ys) : Walk (Itz K a b) ((xs.zip ys).map fun p => D.tup [p.1, p.2]).length P (Yi K cs G ((xs.zip ys).map fun p => D.tup [p.1, p.2])) := by
  have h1 := r.len
  have h2 := r2.len
  have : ((xs.zip ys).map fun p => D.tup [p.1, p.2]).length = min vs.length ws.length := by simp [h1, h2]
  exact (walk_zip (K := K) (a := a) (b := b) (xs := vs) (ys := ws) this).mono (fun H le => s H le) fun i H x H' hi le y => by
    obtain ⟨T, x1, y1, e1, e2, e3, e4, e5⟩ := y
    obtain ⟨d, e6, rp⟩ := r.get' e4
    obtain ⟨d2, e7, rp2⟩ := r2.get' e5
    refine ⟨.tup [d, d2], ?_, .inr ⟨T, _, _, e1, e2, e3, rfl, .cons rp (.cons rp2 .nil)⟩⟩
    rw [List.getElem?_map, show (xs.zip ys)[i]? = some (d, d2) from List.getElem?_zip_eq_some.mpr ⟨e6, e7⟩]
    rfl
/-- names that are walked are owned no more, if they are dicts -/
theorem At.fzD : ∀ {es : List Ex} {G : Hp} {r : Row} {c : Cells}, At K B cs G ⟨r, c⟩ σ H → ∃ G', Le G G' ∧ At K B cs G' ⟨_root_.Q.fzD es r, c⟩ σ H ∧ ∀ (i : Nat) (k : List (D × D)) (v : V), Ex.v i ∈ es → r[i]? = some (some (true, .dct k)) → σ[i]? = some (some v) → Rep K cs G' v (.dct k) := by
  intro es
  induction es with
  | nil => intro G r c at_; exact ⟨G, Le.refl _, at_, fun i k v h => by simp at h⟩
  | cons e es ih =>
    intro G r c at_
    by_cases hv : ∃ j, e = .v j
    · obtain ⟨j, rfl⟩ := hv
      show ∃ G', Le G G' ∧ At K B cs G' ⟨(match r[j]? with | some (some (true, .dct k)) => Q.fzD es (r.set j (some (false, .dct k))) | _ => Q.fzD es r), c⟩ σ H ∧ _
      split
      · rename_i k hj
        obtain ⟨v, G1, e1, le1, at1, rp⟩ := At.fz (s := ⟨r, c⟩) at_ hj
        obtain ⟨G2, le2, at2, h2⟩ := ih at1
        refine ⟨G2, le1.trans le2, at2, fun i k' v' m hi hs => ?_⟩
        by_cases x : i = j
        · subst x
          rw [hj] at hi; cases hi
          rw [e1] at hs; cases hs
          exact rp.mono (Pre.refl _) le2
        · refine h2 i k' v' ?_ ?_ hs
          · rcases List.mem_cons.mp m with y | y
            · cases y; exact absurd rfl x
            · exact y
          · show (r.set j _)[i]? = _
            rw [List.getElem?_set_ne (fun y => x y.symm)]; exact hi
      · rename_i hj
        obtain ⟨G2, le2, at2, h2⟩ := ih at_
        refine ⟨G2, le2, at2, fun i k' v' m hi hs => h2 i k' v' ?_ hi hs⟩
        rcases List.mem_cons.mp m with y | y
        · cases y; exact absurd hi (hj k')
        · exact y
    · have e1 : Q.fzD (e :: es) r = Q.fzD es r := by cases e <;> first | rfl | exact absurd ⟨_, rfl⟩ hv
      rw [e1]
      obtain ⟨G2, le2, at2, h2⟩ := ih at_
      refine ⟨G2, le2, at2, fun i k' v' m hi hs => h2 i k' v' ?_ hi hs⟩
      rcases List.mem_cons.mp m with y | y
      · exact absurd ⟨i, y.symm⟩ hv
      · exact y
end
end Q
end

section
set_option Elab.async false
set_option linter.all false
set_option maxRecDepth 100000
set_option maxHeartbeats 4000000
namespace Q
open PySem PySem.Spec PyProof.Rows L2
/-! ### walks begin -/
def Kp (cs : List Addr) (H2 H : Hp) : Prop := ∀ a o, a ∉ cs → H2 a = some o → H a = some o
/-- an iterator made, for a comprehension: the source may be owned -/
def tIc (X : Cx) (C : Cl) (k : Ik) (its : List Ex) : TI := fun σ H R0 => ∃ B cs G s, At X.K B cs G s σ H ∧ Rn ((evA C its s).b fun ds s' => R.of (itD k ds) ⟨fzD its s'.r, s'.c⟩) fun xs s' =>
  ∀ J cs' G' H' B' H2, Stp cs G H cs' G' H' → At X.K B cs' G' s' σ H' → Lks X B G' H' B' H2 → Walk J xs.length (Kp cs' H2) (Yi X.K cs' G' xs) → R0 J H2
/-- what is frozen stays as it is -/
def Kg (G H2 H : Hp) : Prop := ∀ a u o, G a = some u → H2 a = some o → H a = some o
/-- an iterator made, for a for: the source is frozen -/
def tIf (X : Cx) (C : Cl) (k : Ik) (its : List Ex) : TI := fun σ H R0 => ∃ B cs G s, At X.K B cs G s σ H ∧ Rn ((evF C its s).b fun ds s' => R.of (itD k ds) s') fun xs s' =>
  ∀ J cs' G' H' B' H2, Stp cs G H cs' G' H' → At X.K B cs' G' s' σ H' → Lks X B G' H' B' H2 → Walk J xs.length (Kg G' H2) (Yi X.K cs' G' xs) → R0 J H2
theorem pi_or {X : Cx} {tg e : Expr} {t t' : TI} (h : PI X tg e t) (h' : PI X tg e t') : PI X tg e (fun σ H R => t σ H R ∨ t' σ H R) := ⟨fun pins s σ H R I q => q.elim (h.run pins s σ H R I) (h'.run pins s σ H R I)⟩
theorem piM {X : Cx} {tg e : Expr} {t t' : TI} (h : PI X tg e t) (m : ∀ σ H R, t' σ H R → t σ H R) : PI X tg e t' := ⟨fun pins s σ H R I q => h.run pins s σ H R I (m σ H R q)⟩
section
variable {K : PySem.W.Frag} {B B' : Bs} {cs cs' cs1 : List Addr} {G G' G1 H H' H1 : Hp} {s s1 : S} {σ σ' : L2.St} {v w : V} {d dx dy : D} {p a : Addr} {o o' u : HO} {r : Row} {X : Cx} {C : Cl} {x y : Ex} {xs : List Ex} {e tg e2 : Expr} {od : Bool × D} {ds : List D}
theorem evA_one (h : evA C [x] s = .ok ds s1) : ∃ od, ev C x s = .ok od s1 ∧ ds = [od.2] ∧ (od.1 && isPk x && !isV x) = false := by
  obtain ⟨o, s2, h1, h⟩ := R.b_eq h
  split at h
  · cases h
  · rename_i hg
    obtain ⟨o2, s3, h2, h⟩ := R.b_eq h
    cases h2; cases h
    exact ⟨o, h1, rfl, by simpa using hg⟩
theorem evF_one (h : evF C [x] s = .ok ds s1) : ∃ od, ev C x s = .ok od s1 ∧ ds = [od.2] ∧ (od.1 && isPk x) = false := by
  obtain ⟨o, s2, h1, h⟩ := R.b_eq h
  split at h
  · cases h
  · rename_i hg
    obtain ⟨o2, s3, h2, h⟩ := R.b_eq h
    cases h2; cases h
    exact ⟨o, h1, rfl, by simpa using hg⟩
theorem Vw.lstK (wd : Wd K B cs G s.c H) (h : Vw K cs G H v (.lst ds)) : ∃ a vs, v = .ref a ∧ Reps K cs G vs ds ∧ ∀ H2, Kp cs H H2 → SqL K H2 a vs := by
  rcases h with h | ⟨p, e, n, h⟩
  · obtain ⟨a, vs, e, s', r⟩ := h.lst_inv
    refine ⟨a, vs, e, r, fun H2 kp => ?_⟩
    rcases s' with s' | s'
    · have nc : a ∉ cs := fun m => by
        have := wd.cg a m
        rcases s' with z | ⟨_, z⟩ <;> rw [this] at z <;> cases z
      rcases wd.le _ _ s' with z | ⟨od, z⟩
      · exact .inl (.inl (kp _ _ nc z))
      · exact .inl (.inr ⟨od, kp _ _ nc z⟩)
    · exact .inr s'
  · obtain ⟨vs, x, r⟩ := h
    exact ⟨p, vs, e, r, fun H2 kp => .of (kp _ _ n x)⟩
theorem Vw.tupK (wd : Wd K B cs G s.c H) (h : Vw K cs G H v (.tup ds)) : ∃ a vs, v = .ref a ∧ Reps K cs G vs ds ∧ ∀ H2, Kp cs H H2 → SqT K H2 a vs := by
  rcases h with h | ⟨p, e, n, h⟩
  · obtain ⟨a, vs, e, s', r⟩ := h.tup_inv
    refine ⟨a, vs, e, r, fun H2 kp => ?_⟩
    rcases s' with s' | s'
    · have nc : a ∉ cs := fun m => by
        have := wd.cg a m
        rcases s' with z | ⟨_, z⟩ <;> rw [this] at z <;> cases z
      rcases wd.le _ _ s' with z | ⟨od, z⟩
      · exact .inl (.inl (kp _ _ nc z))
      · exact .inl (.inr ⟨od, kp _ _ nc z⟩)
    · exact .inr s'
  · exact h.elim
theorem Kp.refl : Kp cs H H := fun _ _ _ h => h
/-- a dict that is walked is frozen -/
theorem At.dctIn {k : List (D × D)} (at_ : At K B cs G s σ H) (r1 : Res K B cs G H s σ (isPk x) (vOf x) od v) {s0 : S} (hx : ev C x s0 = .ok od s) (hd : od.2 = .dct k) (hg : (od.1 && isPk x && !isV x) = false) :
    ∃ G2, Le G G2 ∧ At K B cs G2 ⟨_root_.Q.fzD [x] s.r, s.c⟩ σ H ∧ Rep K cs G2 v (.dct k) := by
  by_cases hv : ∃ j, x = .v j
  · obtain ⟨j, rfl⟩ := hv
    obtain ⟨G2, le2, at2, h2⟩ := At.fzD (es := [.v j]) (r := s.r) (c := s.c) at_
    refine ⟨G2, le2, at2, ?_⟩
    have hs := r1.2.2 j rfl
    simp only [ev] at hx
    split at hx
    · rename_i od' hj
      cases hx
      obtain ⟨o, d⟩ := od
      cases hd
      cases o with
      | false => exact (show Rep K cs G v (.dct k) from r1.1).mono (Pre.refl _) le2
      | true => exact h2 j k v (by simp) hj hs
    · cases hx
  · have e1 : _root_.Q.fzD [x] s.r = s.r := by cases x <;> first | rfl | exact absurd ⟨_, rfl⟩ hv
    have e2 : isV x = false := by cases x <;> first | rfl | exact absurd ⟨_, rfl⟩ hv
    rw [e1]
    obtain ⟨G2, le2, at2, rp⟩ := r1.freeze at_ (by simpa [e2] using hg)
    rw [hd] at rp
    exact ⟨G2, le2, at2, rp⟩
/-- the dict is locked, or was -/
theorem dct_lock {k : List (D × D)} {kvs : List (Key × V)} {Q0 : V → Hp → Prop} (at_ : At X.K B cs G s σ H) (hr : Rd G a (.dK kvs))
    (q : ∀ od B' H2, Lks X B G H B' H2 → H2 a = some (.frz od (.dK kvs)) → Q0 (.ref a) H2) :
    Q0 (.ref a) H ∨ ∃ d u, V.ref a = .ref d ∧ H d = some u ∧ Mut (some u) ∧ ∀ od, NF X d → Q0 (.ref a) (upd H d (.frz od u)) := by
  rcases at_.wd.le _ _ hr with z | ⟨od, z⟩
  · have hl := at_.lockd hr z
    exact .inr ⟨a, _, rfl, z, trivial, fun od nf => q od (B.lock a od) _ (.yes hl.1 z nf) upd_same⟩
  · exact .inl (q od B H .no z)
theorem Rd.ex {H : Hp} {o : HO} (h : Rd H a o) : ∃ u, H a = some u := by
  rcases h with z | ⟨_, z⟩ <;> exact ⟨_, z⟩
theorem cs_not (at_ : At K B cs G s σ H) {kvs : List (Key × V)} (hr : Rd G a (.dK kvs)) : a ∉ cs := fun m => by
  have := at_.wd.cg a m
  obtain ⟨u, z⟩ := Rd.ex hr
  rw [this] at z; cases z
theorem Lks.keep (l : Lks X B G H B' H1) {o : HO} (nl : ∀ kvs, o ≠ .dK kvs) (h : H a = some o) : H1 a = some o := by
  cases l with
  | no => exact h
  | yes hG hH nf =>
    rw [upd_ne]; exact h
    intro e; subst e; rw [hH] at h; cases h; exact nl _ rfl
theorem Lks.kp (l : Lks X B G H B' H1) (q : Kp cs H1 H') {o : HO} (nl : ∀ kvs, o ≠ .dK kvs) : a ∉ cs → H a = some o → H' a = some o := fun n h => q a o n (l.keep nl h)
/-! comprehensions -/
theorem pc_seq (h : PE X e (tE X C x)) : PI X tg e (tIc X C .seq [x]) :=
  piM (pi_or (pi_or (pi_or (pi_list h) (pi_tup h)) (pi_keys (pe_lockV h))) (pi_str h)) fun σ H R0 ⟨B, cs, G, s, at_, h⟩ => by
    obtain ⟨ds, s1, e1, h⟩ := Rn.b2 h
    obtain ⟨od, hx, rfl, hg⟩ := evA_one e1
    obtain ⟨xs, e2, h⟩ := Rn.of h
    obtain ⟨o, d⟩ := od
    cases d <;> simp only [itD, reduceCtorEq] at e2 <;> cases e2
    · refine .inr (tE_in at_ hx fun v cs1 G1 H1 st1 at1 r1 => ?_)
      obtain ⟨G2, le2, at2, _⟩ := At.fzD (es := [x]) (r := s1.r) (c := s1.c) at1
      exact ⟨_, r1.vw.str, h _ cs1 G2 H1 B H1 (st1.trans (Stp.grow le2)) at2 .no w_str⟩
    · refine .inl (.inl (.inr (tE_in at_ hx fun v cs1 G1 H1 st1 at1 r1 => ?_)))
      obtain ⟨G2, le2, at2, _⟩ := At.fzD (es := [x]) (r := s1.r) (c := s1.c) at1
      obtain ⟨a, vs, rfl, rp, kp⟩ := Vw.tupK at1.wd r1.vw
      exact ⟨a, rfl, ⟨vs, kp H1 Kp.refl⟩, h (Itt X.K a) cs1 G2 H1 B H1 (st1.trans (Stp.grow le2)) at2 .no (w_tupH kp (rp.mono (Pre.refl _) le2))⟩
    · refine .inl (.inl (.inl (tE_in at_ hx fun v cs1 G1 H1 st1 at1 r1 => ?_)))
      obtain ⟨G2, le2, at2, _⟩ := At.fzD (es := [x]) (r := s1.r) (c := s1.c) at1
      obtain ⟨a, vs, rfl, rp, kp⟩ := Vw.lstK at1.wd r1.vw
      exact ⟨a, rfl, ⟨vs, kp H1 Kp.refl⟩, h (Itl X.K a) cs1 G2 H1 B H1 (st1.trans (Stp.grow le2)) at2 .no (w_listH kp (rp.mono (Pre.refl _) le2))⟩
    · refine .inl (.inr (tE_in at_ hx fun v cs1 G1 H1 st1 at1 r1 => ?_))
      obtain ⟨G2, le2, at2, rp⟩ := At.dctIn at1 r1 hx rfl hg
      obtain ⟨a, kvs, rfl, hr, rk⟩ := rp.dct_inv
      exact dct_lock (k := []) (Q0 := fun x H1 => ∃ d o, x = V.ref d ∧ ((∃ kvs, H1 d = some (HO.frz o (HO.dK kvs)) ∧ R0 (Itk d o kvs) H1) ∨ ∃ kvs, H1 d = some (HO.frz o (HO.dT kvs)) ∧ R0 (Itkt d o kvs) H1)) at2 hr fun od B' H2 l hz => ⟨a, od, rfl, .inl ⟨kvs, hz, h _ cs1 G2 H1 B' H2 (st1.trans (Stp.grow le2)) at2 l (w_keys (fun H3 kp => kp a _ (cs_not at2 hr) hz) rk)⟩⟩
theorem pc_vals {apos cpos : Pos} (h : PE X e (tE X C x)) (hbase : attributeBase e "values" X.env (eval e X.env) = eval e X.env) (hline : (apos.endLine == cpos.line) = true) : PI X tg (.Call (.Attribute e "values" apos) [] [] cpos) (tIc X C .vals [x]) :=
  piM (pi_values (pe_lockV h) hbase hline) fun σ H R0 ⟨B, cs, G, s, at_, h⟩ => by
    obtain ⟨ds, s1, e1, h⟩ := Rn.b2 h
    obtain ⟨od, hx, rfl, hg⟩ := evA_one e1
    obtain ⟨xs, e2, h⟩ := Rn.of h
    obtain ⟨o, d⟩ := od
    cases d <;> simp only [itD, reduceCtorEq] at e2 <;> cases e2
    refine (tE_in at_ hx fun v cs1 G1 H1 st1 at1 r1 => ?_)
    obtain ⟨G2, le2, at2, rp⟩ := At.dctIn at1 r1 hx rfl hg
    obtain ⟨a, kvs, rfl, hr, rk⟩ := rp.dct_inv
    exact dct_lock (k := []) (Q0 := fun x H1 => ∃ d o kvs, x = V.ref d ∧ H1 d = some (HO.frz o (HO.dK kvs)) ∧ R0 (Itd d o kvs) H1) at2 hr fun od B' H2 l hz => ⟨a, od, kvs, rfl, hz, h _ cs1 G2 H1 B' H2 (st1.trans (Stp.grow le2)) at2 l (w_vals (fun H3 kp => kp a _ (cs_not at2 hr) hz) rk)⟩
theorem isRng_ok {i : Int} (h : isRng i = true) : -(2 ^ 62) ≤ i ∧ i < 2 ^ 62 := by
  simp only [isRng, Bool.and_eq_true, decide_eq_true_eq] at h
  omega
theorem pc_rng1 {p pos : Pos} (hg : Gl X "range") (hm : X.mg "range" = none) (h : PE X e (tE X C x)) (hs : nStar e = true) : PI X tg (.Call (.Name "range" p) [e] [] pos) (tIc X C .rng [x]) :=
  piM (pi_range1 hg hm (pa_A (.cons ⟨h, hs⟩ .nil)) (star_of hs [] X.env)) fun σ H R0 ⟨B, cs, G, s, at_, h⟩ => by
    obtain ⟨ds, s1, e1, h⟩ := Rn.b2 h
    obtain ⟨od, hx, rfl, hg⟩ := evA_one e1
    obtain ⟨xs, e2, h⟩ := Rn.of h
    refine tA_in at_ e1 fun vs cs1 G1 H1 st1 at1 ar => ?_
    obtain ⟨o, d⟩ := od
    cases d <;> simp only [itD, reduceCtorEq] at e2
    rename_i j
    split at e2
    · rename_i hj
      cases e2
      obtain ⟨G2, le2, at2, _⟩ := At.fzD (es := [x]) (r := s1.r) (c := s1.c) at1
      cases (Ars.vw (es := []) at1 ar) with
      | cons h1 h2 =>
        cases h2
        exact ⟨j, by rw [h1.int], (isRng_ok hj).1, (isRng_ok hj).2, h _ cs1 G2 H1 B H1 (st1.trans (Stp.grow le2)) at2 .no w_rng⟩
    · cases e2
theorem pc_rng2 {p pos : Pos} (hg : Gl X "range") (hm : X.mg "range" = none) (h : PE X e (tE X C x)) (hs : nStar e = true) (h2 : PE X e2 (tE X C y)) (hs2 : nStar e2 = true) : PI X tg (.Call (.Name "range" p) [e, e2] [] pos) (tIc X C .rng [x, y]) :=
  piM (pi_range2 hg hm (pa_A (.cons ⟨h, hs⟩ (.cons ⟨h2, hs2⟩ .nil))) (by rw [star_of hs, star_of hs2]; rfl) (star_of hs2 [] X.env)) fun σ H R0 ⟨B, cs, G, s, at_, h⟩ => by
    obtain ⟨ds, s1, e1, h⟩ := Rn.b2 h
    obtain ⟨xs, e2, h⟩ := Rn.of h
    refine tA_in at_ e1 fun vs cs1 G1 H1 st1 at1 ar => ?_
    obtain ⟨G2, le2, at2, _⟩ := At.fzD (es := [x, y]) (r := s1.r) (c := s1.c) at1
    have pv := (Ars.vw (es := []) at1 ar)
    cases pv with
    | nil => exact False.elim ar
    | @cons v1 d1 _ _ h1 h2 =>
      cases h2 with
      | nil => exact False.elim ar.2
      | @cons v2 d2 _ _ h2 h3 =>
        cases h3 with
        | cons => exact False.elim ar.2.2
        | nil =>
          cases d1 <;> simp only [itD, reduceCtorEq] at e2
          cases d2 <;> simp only [itD, reduceCtorEq] at e2
          rename_i i j
          split at e2
          · rename_i hj
            cases e2
            rw [Bool.and_eq_true] at hj
            exact ⟨i, j, by rw [h1.int, h2.int], ⟨(isRng_ok hj.1).1, (isRng_ok hj.1).2, (isRng_ok hj.2).1, (isRng_ok hj.2).2⟩, h _ cs1 G2 H1 B H1 (st1.trans (Stp.grow le2)) at2 .no w_rng⟩
          · cases e2
theorem pc_enu {p pos tpos : Pos} {elts : List Expr} {kk : Nat} (hg : Gl X "enumerate") (hm : X.mg "enumerate" = none) (h : PE X e (tE X C x)) (hs : nStar e = true) : PI X (.Tuple elts kk tpos) (.Call (.Name "enumerate" p) [e] [] pos) (tIc X C .enu [x]) :=
  piM (pi_enum hg hm (pa_A (.cons ⟨h, hs⟩ .nil)) (star_of hs [] X.env)) fun σ H R0 ⟨B, cs, G, s, at_, h⟩ => by
    obtain ⟨ds, s1, e1, h⟩ := Rn.b2 h
    obtain ⟨od, hx, rfl, hg⟩ := evA_one e1
    obtain ⟨xs, e2, h⟩ := Rn.of h
    refine tA_in at_ e1 fun vs cs1 G1 H1 st1 at1 ar => ?_
    obtain ⟨o, d⟩ := od
    cases d <;> simp only [itD, reduceCtorEq] at e2 <;> cases e2
    obtain ⟨G2, le2, at2, _⟩ := At.fzD (es := [x]) (r := s1.r) (c := s1.c) at1
    cases (Ars.vw (es := []) at1 ar) with
    | cons h1 h2 =>
      cases h2
      obtain ⟨a, vs, rfl, rp, kp⟩ := Vw.lstK at1.wd h1
      exact ⟨a, vs, rfl, kp H1 Kp.refl, h _ cs1 G2 H1 B H1 (st1.trans (Stp.grow le2)) at2 .no (w_enu kp (rp.mono (Pre.refl _) le2))⟩
theorem pc_zip {p pos tpos : Pos} {elts : List Expr} {kk : Nat} (hg : Gl X "zip") (hm : X.mg "zip" = none) (h : PE X e (tE X C x)) (hs : nStar e = true) (h2 : PE X e2 (tE X C y)) (hs2 : nStar e2 = true) : PI X (.Tuple elts kk tpos) (.Call (.Name "zip" p) [e, e2] [] pos) (tIc X C .zip [x, y]) :=
  piM (pi_zip hg hm (pa_A (.cons ⟨h, hs⟩ (.cons ⟨h2, hs2⟩ .nil))) (by rw [star_of hs, star_of hs2]) (by rw [star_of hs2]; rfl)) fun σ H R0 ⟨B, cs, G, s, at_, h⟩ => by
    obtain ⟨ds, s1, e1, h⟩ := Rn.b2 h
    obtain ⟨xs, e2, h⟩ := Rn.of h
    refine tA_in at_ e1 fun vs cs1 G1 H1 st1 at1 ar => ?_
    obtain ⟨G2, le2, at2, _⟩ := At.fzD (es := [x, y]) (r := s1.r) (c := s1.c) at1
    have pv := (Ars.vw (es := []) at1 ar)
    cases pv with
    | nil => exact False.elim ar
    | @cons v1 d1 _ _ h1 h2 =>
      cases h2 with
      | nil => exact False.elim ar.2
      | @cons v2 d2 _ _ h2 h3 =>
        cases h3 with
        | cons => exact False.elim ar.2.2
        | nil =>
          cases d1 <;> simp only [itD, reduceCtorEq] at e2
          cases d2 <;> simp only [itD, reduceCtorEq] at e2
          cases e2
          obtain ⟨a, vs, rfl, rp, kp⟩ := Vw.lstK at1.wd h1
          obtain ⟨b, ws, rfl, rp2, kp2⟩ := Vw.lstK at1.wd h2
          exact ⟨a, b, vs, ws, rfl, kp H1 Kp.refl, kp2 H1 Kp.refl, h _ cs1 G2 H1 B H1 (st1.trans (Stp.grow le2)) at2 .no (w_zip (fun H2 k => ⟨kp H2 k, kp2 H2 k⟩) (rp.mono (Pre.refl _) le2) (rp2.mono (Pre.refl _) le2))⟩
theorem pc_rev {p pos : Pos} (hg : Gl X "reversed") (hm : X.mg "reversed" = none) (h : PE X e (tE X C x)) (hs : nStar e = true) : PI X tg (.Call (.Name "reversed" p) [e] [] pos) (tIc X C .rev [x]) :=
  piM (pi_reversed hg hm (pa_A (.cons ⟨h, hs⟩ .nil)) (star_of hs [] X.env)) fun σ H R0 ⟨B, cs, G, s, at_, h⟩ => by
    obtain ⟨ds, s1, e1, h⟩ := Rn.b2 h
    obtain ⟨od, hx, rfl, hg⟩ := evA_one e1
    obtain ⟨xs, e2, h⟩ := Rn.of h
    refine tA_in at_ e1 fun vs cs1 G1 H1 st1 at1 ar => ?_
    obtain ⟨o, d⟩ := od
    cases d <;> simp only [itD, reduceCtorEq] at e2 <;> cases e2
    obtain ⟨G2, le2, at2, _⟩ := At.fzD (es := [x]) (r := s1.r) (c := s1.c) at1
    cases (Ars.vw (es := []) at1 ar) with
    | cons h1 h2 =>
      cases h2
      obtain ⟨a, vs, rfl, rp, kp⟩ := Vw.lstK at1.wd h1
      exact ⟨a, vs, rfl, kp H1 Kp.refl, h _ cs1 G2 H1 B H1 (st1.trans (Stp.grow le2)) at2 .no (w_rev kp (rp.mono (Pre.refl _) le2))⟩
/-! fors -/
theorem Kg.seqL (le : Le G H) {vs : List V} (h : SqL K G a vs) (kg : Kg G H H1) : SqL K H1 a vs := by
  rcases h with h | h
  · rcases le _ _ h with z | ⟨od, z⟩
    · obtain ⟨u, y⟩ := Rd.ex h
      exact .inl (.inl (kg _ _ _ y z))
    · obtain ⟨u, y⟩ := Rd.ex h
      exact .inl (.inr ⟨od, kg _ _ _ y z⟩)
  · exact .inr h
theorem Kg.seqT (le : Le G H) {vs : List V} (h : SqT K G a vs) (kg : Kg G H H1) : SqT K H1 a vs := by
  rcases h with h | h
  · rcases le _ _ h with z | ⟨od, z⟩
    · obtain ⟨u, y⟩ := Rd.ex h
      exact .inl (.inl (kg _ _ _ y z))
    · obtain ⟨u, y⟩ := Rd.ex h
      exact .inl (.inr ⟨od, kg _ _ _ y z⟩)
  · exact .inr h
theorem Kg.refl : Kg G H H := fun _ _ _ _ h => h
theorem pf_seq (h : PE X e (tE X C x)) : PI X tg e (tIf X C .seq [x]) :=
  piM (pi_or (pi_or (pi_or (pi_list h) (pi_tup h)) (pi_keys (pe_lockV h))) (pi_str h)) fun σ H R0 ⟨B, cs, G, s, at_, h⟩ => by
    obtain ⟨ds, s1, e1, h⟩ := Rn.b2 h
    obtain ⟨od, hx, rfl, hg⟩ := evF_one e1
    obtain ⟨xs, e2, h⟩ := Rn.of h
    obtain ⟨o, d⟩ := od
    cases d <;> simp only [itD, reduceCtorEq] at e2 <;> cases e2
    · refine .inr (tE_in at_ hx fun v cs1 G1 H1 st1 at1 r1 => ?_)
      exact ⟨_, r1.vw.str, h _ cs1 G1 H1 B H1 st1 at1 .no w_str⟩
    · refine .inl (.inl (.inr (tE_in at_ hx fun v cs1 G1 H1 st1 at1 r1 => ?_)))
      obtain ⟨G2, le2, at2, rp⟩ := r1.freeze at1 hg
      obtain ⟨a, vs, rfl, hs, rs⟩ := rp.tup_inv
      exact ⟨a, rfl, ⟨vs, at2.wd.le.seqT hs⟩, h (Itt X.K a) cs1 G2 H1 B H1 (st1.trans (Stp.grow le2)) at2 .no (w_tupH (fun H3 kg => Kg.seqT at2.wd.le hs kg) rs)⟩
    · refine .inl (.inl (.inl (tE_in at_ hx fun v cs1 G1 H1 st1 at1 r1 => ?_)))
      obtain ⟨G2, le2, at2, rp⟩ := r1.freeze at1 hg
      obtain ⟨a, vs, rfl, hs, rs⟩ := rp.lst_inv
      exact ⟨a, rfl, ⟨vs, at2.wd.le.seqL hs⟩, h (Itl X.K a) cs1 G2 H1 B H1 (st1.trans (Stp.grow le2)) at2 .no (w_listH (fun H3 kg => Kg.seqL at2.wd.le hs kg) rs)⟩
    · refine .inl (.inr (tE_in at_ hx fun v cs1 G1 H1 st1 at1 r1 => ?_))
      obtain ⟨G2, le2, at2, rp⟩ := r1.freeze at1 hg
      obtain ⟨a, kvs, rfl, hr, rk⟩ := rp.dct_inv
      obtain ⟨u, y⟩ := Rd.ex hr
      exact dct_lock (k := []) (Q0 := fun x H1 => ∃ d o, x = V.ref d ∧ ((∃ kvs, H1 d = some (HO.frz o (HO.dK kvs)) ∧ R0 (Itk d o kvs) H1) ∨ ∃ kvs, H1 d = some (HO.frz o (HO.dT kvs)) ∧ R0 (Itkt d o kvs) H1)) at2 hr fun od B' H2 l hz => ⟨a, od, rfl, .inl ⟨kvs, hz, h _ cs1 G2 H1 B' H2 (st1.trans (Stp.grow le2)) at2 l (w_keys (fun H3 kg => kg a _ _ y hz) rk)⟩⟩
theorem pf_vals {apos cpos : Pos} (h : PE X e (tE X C x)) (hbase : attributeBase e "values" X.env (eval e X.env) = eval e X.env) (hline : (apos.endLine == cpos.line) = true) : PI X tg (.Call (.Attribute e "values" apos) [] [] cpos) (tIf X C .vals [x]) :=
  piM (pi_values (pe_lockV h) hbase hline) fun σ H R0 ⟨B, cs, G, s, at_, h⟩ => by
    obtain ⟨ds, s1, e1, h⟩ := Rn.b2 h
    obtain ⟨od, hx, rfl, hg⟩ := evF_one e1
    obtain ⟨xs, e2, h⟩ := Rn.of h
    obtain ⟨o, d⟩ := od
    cases d <;> simp only [itD, reduceCtorEq] at e2 <;> cases e2
    refine (tE_in at_ hx fun v cs1 G1 H1 st1 at1 r1 => ?_)
    obtain ⟨G2, le2, at2, rp⟩ := r1.freeze at1 hg
    obtain ⟨a, kvs, rfl, hr, rk⟩ := rp.dct_inv
    obtain ⟨u, y⟩ := Rd.ex hr
    exact dct_lock (k := []) (Q0 := fun x H1 => ∃ d o kvs, x = V.ref d ∧ H1 d = some (HO.frz o (HO.dK kvs)) ∧ R0 (Itd d o kvs) H1) at2 hr fun od B' H2 l hz => ⟨a, od, kvs, rfl, hz, h _ cs1 G2 H1 B' H2 (st1.trans (Stp.grow le2)) at2 l (w_vals (fun H3 kg => kg a _ _ y hz) rk)⟩
theorem pf_rng1 {p pos : Pos} (hg : Gl X "range") (hm : X.mg "range" = none) (h : PE X e (tE X C x)) (hs : nStar e = true) : PI X tg (.Call (.Name "range" p) [e] [] pos) (tIf X C .rng [x]) :=
  piM (pi_range1 hg hm (pa_F (.cons ⟨h, hs⟩ .nil)) (star_of hs [] X.env)) fun σ H R0 ⟨B, cs, G, s, at_, h⟩ => by
    obtain ⟨ds, s1, e1, h⟩ := Rn.b2 h
    obtain ⟨od, hx, rfl, hg⟩ := evF_one e1
    obtain ⟨xs, e2, h⟩ := Rn.of h
    refine tF_in at_ e1 fun vs cs1 G1 H1 st1 at1 ar => ?_
    obtain ⟨o, d⟩ := od
    cases d <;> simp only [itD, reduceCtorEq] at e2
    rename_i j
    split at e2
    · rename_i hj
      cases e2
      cases ar with
      | cons h1 h2 =>
        cases h2
        exact ⟨j, by rw [h1.int_inv], (isRng_ok hj).1, (isRng_ok hj).2, h _ cs1 G1 H1 B H1 st1 at1 .no w_rng⟩
    · cases e2
theorem pf_rng2 {p pos : Pos} (hg : Gl X "range") (hm : X.mg "range" = none) (h : PE X e (tE X C x)) (hs : nStar e = true) (h2 : PE X e2 (tE X C y)) (hs2 : nStar e2 = true) : PI X tg (.Call (.Name "range" p) [e, e2] [] pos) (tIf X C .rng [x, y]) :=
  piM (pi_range2 hg hm (pa_F (.cons ⟨h, hs⟩ (.cons ⟨h2, hs2⟩ .nil))) (by rw [star_of hs, star_of hs2]; rfl) (star_of hs2 [] X.env)) fun σ H R0 ⟨B, cs, G, s, at_, h⟩ => by
    obtain ⟨ds, s1, e1, h⟩ := Rn.b2 h
    obtain ⟨xs, e2, h⟩ := Rn.of h
    refine tF_in at_ e1 fun vs cs1 G1 H1 st1 at1 ar => ?_
    have hl := evF_len e1
    cases ar with
    | nil => simp at hl
    | @cons v1 _ d1 _ h1 h2 =>
      cases h2 with
      | nil => simp at hl
      | @cons v2 _ d2 _ h2 h3 =>
        cases h3 with
        | cons => simp at hl
        | nil =>
          cases d1 <;> simp only [itD, reduceCtorEq] at e2
          cases d2 <;> simp only [itD, reduceCtorEq] at e2
          rename_i i j
          split at e2
          · rename_i hj
            cases e2
            rw [Bool.and_eq_true] at hj
            exact ⟨i, j, by rw [h1.int_inv, h2.int_inv], ⟨(isRng_ok hj.1).1, (isRng_ok hj.1).2, (isRng_ok hj.2).1, (isRng_ok hj.2).2⟩, h _ cs1 G1 H1 B H1 st1 at1 .no w_rng⟩
          · cases e2
theorem pf_enu {p pos tpos : Pos} {elts : List Expr} {kk : Nat} (hg : Gl X "enumerate") (hm : X.mg "enumerate" = none) (h : PE X e (tE X C x)) (hs : nStar e = true) : PI X (.Tuple elts kk tpos) (.Call (.Name "enumerate" p) [e] [] pos) (tIf X C .enu [x]) :=
  piM (pi_enum hg hm (pa_F (.cons ⟨h, hs⟩ .nil)) (star_of hs [] X.env)) fun σ H R0 ⟨B, cs, G, s, at_, h⟩ => by
    obtain ⟨ds, s1, e1, h⟩ := Rn.b2 h
    obtain ⟨od, hx, rfl, hg⟩ := evF_one e1
    obtain ⟨xs, e2, h⟩ := Rn.of h
    refine tF_in at_ e1 fun vs cs1 G1 H1 st1 at1 ar => ?_
    obtain ⟨o, d⟩ := od
    cases d <;> simp only [itD, reduceCtorEq] at e2 <;> cases e2
    cases ar with
    | cons h1 h2 =>
      cases h2
      obtain ⟨a, vs, rfl, hs, rp⟩ := h1.lst_inv
      exact ⟨a, vs, rfl, at1.wd.le.seqL hs, h _ cs1 G1 H1 B H1 st1 at1 .no (w_enu (fun H3 kg => Kg.seqL at1.wd.le hs kg) rp)⟩
theorem pf_rev {p pos : Pos} (hg : Gl X "reversed") (hm : X.mg "reversed" = none) (h : PE X e (tE X C x)) (hs : nStar e = true) : PI X tg (.Call (.Name "reversed" p) [e] [] pos) (tIf X C .rev [x]) :=
  piM (pi_reversed hg hm (pa_F (.cons ⟨h, hs⟩ .nil)) (star_of hs [] X.env)) fun σ H R0 ⟨B, cs, G, s, at_, h⟩ => by
    obtain ⟨ds, s1, e1, h⟩ := Rn.b2 h
    obtain ⟨od, hx, rfl, hg⟩ := evF_one e1
    obtain ⟨xs, e2, h⟩ := Rn.of h
    refine tF_in at_ e1 fun vs cs1 G1 H1 st1 at1 ar => ?_
    obtain ⟨o, d⟩ := od
    cases d <;> simp only [itD, reduceCtorEq] at e2 <;> cases e2
    cases ar with
    | cons h1 h2 =>
      cases h2
      obtain ⟨a, vs, rfl, hs, rp⟩ := h1.lst_inv
      exact ⟨a, vs, rfl, at1.wd.le.seqL hs, h _ cs1 G1 H1 B H1 st1 at1 .no (w_rev (fun H3 kg => Kg.seqL at1.wd.le hs kg) rp)⟩
end
end Q
end

section
set_option Elab.async false
set_option linter.all false
set_option maxRecDepth 100000
set_option maxHeartbeats 4000000
namespace Q
open PySem PySem.Spec PyProof.Rows L2
/-! ### list comprehensions -/
def lcF (C : Cl) (e : Ex) (t : Tg) (cond : Option Ex) (own : List Nat) : D → S → R S (Option D) := fun x s => (R.of (asg t x (wipeR s.r own)) s).b fun r s => (evT C cond ⟨r, s.c⟩).b fun b s =>
  if b then (ev C e s).b fun y s => if y.1 && isPk e then .bad else .ok (some y.2) s else .ok none s
def tC (X : Cx) (C : Cl) : Option Ex → TT
  | none => tYes
  | some c => tT X C c
theorem notOwn_at {r : Row} : ∀ {is : List Nat} {i : Nat} {d : D}, notOwn is r = true → i ∈ is → r[i]? ≠ some (some (true, d))
  | [], i, d, _, m => by simp at m
  | j :: is, i, d, h, m => fun e => by
    simp only [notOwn] at h
    split at h
    · cases h
    · rename_i hj
      rcases List.mem_cons.mp m with x | x
      · subst x; exact hj d e
      · exact notOwn_at h x e
theorem notOwn_of {r : Row} : ∀ {is : List Nat}, (∀ i d, i ∈ is → r[i]? ≠ some (some (true, d))) → notOwn is r = true
  | [], h => rfl
  | j :: is, h => by
    simp only [notOwn]
    split
    · rename_i d hj; exact absurd hj (h j d (by simp))
    · exact notOwn_of fun i d m => h i d (by simp [m])
theorem notOwn_fol {r r1 : Row} {is : List Nat} (h : notOwn is r = true) (f : Fol r r1) : notOwn is r1 = true := notOwn_of fun i d m e => by
  rcases f.2 i (by simp) with x | ⟨d', x, y⟩
  · rw [x] at e; exact notOwn_at h m e
  · exact notOwn_at h m x
section
variable {K : PySem.W.Frag} {B B' B2 : Bs} {cs cs' cs1 cs2 : List Addr} {G G' G1 G2 H H' H1 H2 : Hp} {s s0 s1 : S} {σ σ' : L2.St} {v w : V} {d dx dy : D} {p a : Addr} {o o' u : HO} {r : Row} {X : Cx} {C : Cl} {x y : Ex} {xs : List D} {own : List Nat}
theorem At.back {c : Cells} (at0 : At K B cs1 G1 s0 σ H1) (hn : notOwn own s0.r = true) (at_ : At K B2 cs2 G2 ⟨wipeR r own, c⟩ (L2.wipe σ own) H) (p : Pre cs1 cs2) (le : Le G1 G2) : At K B2 cs2 G2 ⟨backR s0.r r own, c⟩ σ H := by
  have hl : r.length = s0.r.length := by
    have h1 := at_.en.len
    rw [wipe_len', wipe_len] at h1
    rw [← h1, at0.en.len]
  have hin : ∀ (i : Nat) (d : D), (backR s0.r r own)[i]? = some (some (true, d)) → i ∉ own ∧ (wipeR r own)[i]? = some (some (true, d)) ∧ (L2.wipe σ own)[i]? = σ[i]? := fun i d h => by
    by_cases m : i ∈ own
    · rw [back_in _ _ _ _ hl m] at h
      exact absurd h (notOwn_at hn m)
    · rw [back_out _ _ _ _ m] at h
      exact ⟨m, by rw [wipe_out' _ _ _ m]; exact h, wipe_get m⟩
  refine ⟨at_.wd, ⟨by rw [back_len, hl, at0.en.len], fun i ob d h => ?_, fun i j d e v ne hi hj si sj => ?_⟩⟩
  · by_cases m : i ∈ own
    · rw [back_in _ _ _ _ hl m] at h
      obtain ⟨v, e, vr⟩ := at0.en.val i ob d h
      cases ob with
      | true => exact absurd h (notOwn_at hn m)
      | false => exact ⟨v, e, (show Rep K cs1 G1 v d from vr).mono p le⟩
    · rw [back_out _ _ _ _ m] at h
      obtain ⟨v, e, vr⟩ := at_.en.val i ob d (by show (wipeR r own)[i]? = _; rw [wipe_out' _ _ _ m]; exact h)
      exact ⟨v, by rw [← wipe_get m]; exact e, vr⟩
  · obtain ⟨m, h1, e1⟩ := hin i d hi
    obtain ⟨m2, h2, e2⟩ := hin j e hj
    rw [← e1] at si
    rw [← e2] at sj
    exact at_.en.dis i j d e v ne h1 h2 si sj
theorem drop_of {α : Type} {xs : List α} {i : Nat} {d : α} (h : xs[i]? = some d) : xs.drop i = d :: xs.drop (i + 1) := by
  obtain ⟨hi, e⟩ := List.getElem?_eq_some_iff.mp h
  rw [List.drop_eq_getElem_cons hi, e]
theorem tC_in {cond : Option Ex} {b : Bool} {Q0 : Bool → Hp → Prop} (at_ : At X.K B cs G s σ H) (e1 : evT C cond s = .ok b s1) (k : ∀ cs1 G1 H1, Stp cs G H cs1 G1 H1 → At X.K B cs1 G1 s1 σ H1 → Q0 b H1) : tC X C cond σ H Q0 := by
  cases cond with
  | none =>
    cases e1
    exact k cs G H (Stp.refl _ _ _) at_
  | some c =>
    refine ⟨B, cs, G, s, at_, ?_⟩
    have : (ev C c s).b tru = .ok b s1 := e1
    rw [this]
    exact k
theorem Lks.at_ (l : Lks X B G H B' H1) (at_ : At X.K B cs G s σ H) : At X.K B' cs G s σ H1 := by
  cases l with
  | no => exact at_
  | yes hG hH nf => exact at_.lock hG hH
theorem Lks.g0 (l : Lks X B G H B' H1) : B'.g0 = B.g0 := by cases l <;> rfl
theorem Lks.h0 (l : Lks X B G H B' H1) : B'.h0 = B.h0 := by cases l <;> rfl
theorem Lks.nov (l : Lks X B G H B' H1) (h : H1 a = none) : H a = none := by
  cases l with
  | no => exact h
  | @yes d0 od kvs hG hH nf =>
    by_cases e : a = d0
    · rw [e, upd_same] at h; cases h
    · rw [upd_ne e] at h; exact h
/-- the walk is over: what was locked is so no more -/
theorem Lks.done (l : Lks X B G H B' H1) (at0 : At X.K B cs G s σ H) (at1 : At X.K B' cs1 G1 s1 σ' H2) (kp : ∀ a kvs od, G a = some (.dK kvs) → H1 a = some (.frz od (.dK kvs)) → H2 a = some (.frz od (.dK kvs))) {P : Hp → Prop}
    (q : ∀ H3, At X.K B cs1 G1 s1 σ' H3 → (∀ a o, H a = some o → H1 a = some o → H2 a = some o → H3 a = some o) → (∀ a kvs, H a = some (.dK kvs) → H1 a ≠ H a → H3 a = some (.dK kvs)) → (∀ a, G a = none → H3 a = H2 a) → P H3) : Unl X P H2 := by
  cases l with
  | no => exact .inl (q H2 at1 (fun a o _ _ h => h) (fun a kvs _ n => absurd rfl n) fun _ _ => rfl)
  | @yes d od kvs hG hH nf =>
    have hl := at0.lockd (.inl hG) hH
    have h2 := kp d kvs od hG upd_same
    obtain ⟨u, e1, e2, at2⟩ := at1.unlock hl.2.1 hl.2.2
    rw [h2] at e2; cases e2
    refine .inr ⟨d, od, _, nf, h2, q _ at2 (fun a o h1 h2' h3 => ?_) (fun a k h n => ?_) fun a g => ?_⟩
    · by_cases y : a = d
      · subst y; rw [upd_same] at h2'; rw [hH] at h1; cases h1; cases h2'
      · rw [upd_ne y]; exact h3
    · by_cases y : a = d
      · subst y; rw [hH] at h; cases h; exact upd_same
      · rw [upd_ne y] at n; exact absurd rfl n
    · by_cases y : a = d
      · subst y; rw [hG] at g; cases g
      · exact upd_ne y
theorem lc_ok {e : Ex} {t : Tg} {k : Ik} {its : List Ex} {cond : Option Ex} {Q0 : VK} (h : tE X C (.lc e t k its cond own) σ H Q0) : tLc (tIc X C k its) (gT X.K t) (tC X C cond) (tE X C e) own σ H (fun v H' => Unl X (Q0 v) H') := by
  obtain ⟨B, cs, G, s, at_, h⟩ := h
  have h : Rn (if !(tgIn own t && notOwn own s.r) then .bad else (evA C its s).b fun ds s => (R.of (itD k ds) ⟨_root_.Q.fzD its s.r, s.c⟩).b fun xs s0 =>
      (lcL (lcF C e t cond own) xs s0 []).b fun acc s => .ok (true, .lst acc) ⟨backR s0.r s.r own, s.c⟩) (Ps X.K B cs G H σ false none Q0) := h
  split at h
  · exact h.elim
  rename_i hg
  simp only [Bool.not_eq_true', Bool.not_eq_false, Bool.and_eq_true] at hg
  obtain ⟨ds, s1, e1, h⟩ := Rn.b2 h
  obtain ⟨xs, s0, e2', h⟩ := Rn.b2 h
  obtain ⟨e2, rfl⟩ := R.of_eq e2'
  have h := Rn.b h
  refine ⟨B, cs, G, s, at_, ?_⟩
  rw [e1]
  show Rn (R.of (itD k ds) _) _
  rw [e2]
  intro J cs1 G1 H1 B' H2 st1 at1 lks W Da hD
  have hno : notOwn own (_root_.Q.fzD its s1.r) = true := notOwn_fol (notOwn_fol hg.2 (fol_evA _ _ _ _ e1)) (fol_fzD _ _)
  have at1' := lks.at_ at1
  have hD1 := lks.nov hD
  obtain ⟨gD, nD1, zD⟩ := at1.wd.fresh hD1
  have g0 : B'.g0 Da = none := by rw [lks.g0]; exact at1.wd.gl.nov gD
  refine lc_it W (fun i Hc => ∃ cs2 G2 s2 vs ds, At X.K (B'.pin Da (.lst vs)) cs2 G2 ⟨wipeR s2.r own, s2.c⟩ (wipe σ own) Hc ∧ Stp cs1 G1 H2 cs2 G2 Hc ∧ Da ∉ cs2 ∧ Reps X.K cs2 G2 vs ds ∧
    Rn (lcL (lcF C e t cond own) (xs.drop i) s2 ds) fun acc s => Rn (.ok (true, .lst acc) ⟨backR (_root_.Q.fzD its s1.r) s.r own, s.c⟩) (Ps X.K B cs G H σ false none Q0)) ?_ ?_ ?_ ?_
  · exact ⟨cs1, G1, _, [], [], ((at1'.alloc hD).pin upd_same nD1 gD (at1'.nown hD)).wipe, Stp.alloc at1'.wd hD, nD1, .nil, h⟩
  · rintro i H3 hi ⟨cs2, G2, s2, vs, ds, at2, st2, nD, rs, hr⟩
    exact st2.keep
  · rintro i x H3 H4 hi ⟨cs2, G2, s2, vs, ds, at2, st2, nD, rs, hr⟩ ⟨d, hd, y⟩
    rw [drop_of hd] at hr
    obtain ⟨o, s3, f1, hr⟩ := Rn.b2 hr
    obtain ⟨r1, s2', f2, f1⟩ := R.b_eq f1
    obtain ⟨f4, e3⟩ := R.of_eq f2
    subst e3
    obtain ⟨b, s4, f3, f1⟩ := R.b_eq f1
    have : ∃ G3, At X.K (B'.pin Da (.lst vs)) cs2 G3 ⟨wipeR s2.r own, s2.c⟩ (wipe σ own) H4 ∧ Stp cs1 G1 H2 cs2 G3 H4 ∧ Rep X.K cs2 G3 x d ∧ Reps X.K cs2 G3 vs ds := by
      rcases y with ⟨rfl, rp⟩ | ⟨T, ws, es, rfl, hT, rfl, rfl, rp⟩
      · exact ⟨G2, at2, st2, rp.mono st2.pre st2.le, rs⟩
      · obtain ⟨gT, nT, zT⟩ := at2.wd.fresh hT
        have a1 := at2.alloc (o := .tup ws) hT
        exact ⟨_, a1.grow upd_same nT gT zT (at2.nown hT), (st2.trans (Stp.alloc at2.wd hT)).trans (Stp.grow (Le.new gT)), .tup (.of upd_same) (rp.mono st2.pre (st2.le.trans (Le.new gT))), rs.mono (Pre.refl _) (Le.new gT)⟩
    obtain ⟨G3, at3, st3, rx, rs3⟩ := this
    refine asg_ok t ⟨wipeR s2.r own, s2.c⟩ d r1 x (wipe σ own) _ at3 rx f4 fun σ' at4 hw => ⟨by rw [hw own hg.1, wipe_idem], ?_⟩
    have hw' : wipe σ' own = wipe σ own := by rw [hw own hg.1, wipe_idem]
    refine tC_in at4 f3 fun cs5 G5 H5 st5 at5 => ?_
    have nD5 : Da ∉ cs5 := st5.nin nD (at3.pinned g0 nD).2
    cases b with
    | false =>
      cases f1
      refine ⟨cs5, G5, _, vs, ds, ?_, st3.trans st5, nD5, rs3.mono st5.pre st5.le, hr⟩
      have := at5.wipe (own := own)
      rw [hw'] at this
      exact this
    | true =>
      obtain ⟨y5, s5, f5, f1⟩ := R.b_eq f1
      split at f1
      · cases f1
      rename_i hpk
      cases f1
      refine tE_in at5 f5 fun yv cs6 G6 H6 st6 at6 r6 => ?_
      have hr : Rn (if ds.length < lim then lcL (lcF C e t cond own) (xs.drop (i + 1)) s3 (ds ++ [y5.2]) else .bad) _ := hr
      split at hr
      case isFalse => exact hr.elim
      rename_i hlim
      have nD6 : Da ∉ cs6 := st6.nin nD5 (at5.pinned g0 nD5).2
      have rs6 := (rs3.mono st5.pre st5.le).mono st6.pre st6.le
      refine ⟨vs, (at6.pinned g0 nD6).2, by rw [rs.len]; exact lim_lt hlim, ?_⟩
      obtain ⟨G7, le7, at7, r7⟩ := r6.freeze at6 (by simpa using hpk)
      have at8 := at7.wipe (own := own)
      rw [hw'] at at8
      have st7 := ((st3.trans st5).trans st6).trans (Stp.grow le7)
      exact ⟨cs6, G7, s3, vs ++ [yv], ds ++ [y5.2], at8.repin g0 nD6, ⟨st7.pre, st7.new, st7.le, fun a o n h => by rw [upd_ne (ne_of_none h hD)]; exact st7.keep a o n h⟩, nD6, (rs6.mono (Pre.refl _) le7).app (.cons r7 .nil), hr⟩
  · rintro H3 ⟨cs2, G2, s2, vs, ds, at2, st2, nD, rs, hr⟩
    rw [List.drop_length] at hr
    have hr : Ps X.K B cs G H σ false none Q0 (true, .lst ds) ⟨backR (_root_.Q.fzD its s1.r) s2.r own, s2.c⟩ := hr
    have atb := At.back at1 hno at2 st2.pre st2.le
    have hpin := atb.pinned g0 nD
    have z' : B'.h0 Da = none := by rw [lks.h0]; exact zD
    have no : ∀ (i : Nat) (f : D), (backR (_root_.Q.fzD its s1.r) s2.r own)[i]? = some (some (true, f)) → σ[i]? ≠ some (some (.ref Da)) := fun i f hi hs => by
      have := (atb.own_none hi hs).2.2.1
      rw [show (B'.pin Da (.lst vs)).h0 Da = some (.lst vs) from upd_same] at this
      cases this
    refine lks.done at1 (atb.unpin z') (fun a kvs od hG hH => ?_) fun H4 at4 k1 k2 k3 => ?_
    · exact st2.keep _ _ (fun m => by rw [at1.wd.cg a m] at hG; cases hG) hH
    · refine hr (.ref Da) cs2 G2 H4 (st1.trans ⟨st2.pre, fun a m => ?_, st2.le, fun a o n h => ?_⟩) at4 ⟨⟨Da, rfl, hpin.1, nD, zD, vs, ?_, rs⟩, fun _ _ => no, fun _ h => nomatch h⟩
      · exact (st2.new a m).imp id lks.nov
      · by_cases e : H2 a = H1 a
        · exact k1 a o h (e.trans h) (st2.keep a o n (e.trans h))
        · cases lks with
          | no => exact absurd rfl e
          | @yes d' od kvs hG hH nf =>
            by_cases y : a = d'
            · subst y; rw [hH] at h; cases h; exact k2 a _ hH e
            · rw [upd_ne y] at e; exact absurd rfl e
      · rw [k3 Da gD]; exact hpin.2
end
end Q
end

section
set_option Elab.async false
set_option linter.all false
set_option maxRecDepth 100000
set_option maxHeartbeats 4000000
namespace Q
open PySem PySem.Spec PyProof.Rows L2
/-! ### statements -/
structure Ssp (B : Bs) (cs : List Addr) (G H : Hp) (cs' : List Addr) (G' H' : Hp) : Prop where
  pre : Pre cs cs'
  new : ∀ a ∈ cs', a ∈ cs ∨ B.h0 a = none
  le : Le G G'
  kg : Kg G H H'
def Es (K : PySem.W.Frag) (B : Bs) (cs : List Addr) (G H : Hp) (E : Ends) (fl : Fl) (s' : S) : Prop := match fl with
  | .nx => ∀ σ' cs' G' H', Ssp B cs G H cs' G' H' → At K B cs' G' s' σ' H' → E.nx σ' H'
  | .bk => ∀ σ' cs' G' H', Ssp B cs G H cs' G' H' → At K B cs' G' s' σ' H' → E.bk σ' H'
  | .ct => ∀ σ' cs' G' H', Ssp B cs G H cs' G' H' → At K B cs' G' s' σ' H' → E.ct σ' H'
  | .ret o d => ∀ v σ' cs' G' H', Ssp B cs G H cs' G' H' → At K B cs' G' s' σ' H' → ValR K B cs' G' H' o v d → E.rt v H'
def tS (X : Cx) (C : Cl) (x : Sx) : TS := fun D σ H => ∃ B cs G s, At X.K B cs G s σ H ∧ Rn (xe C x s) (Es X.K B cs G H D)
def tSs (X : Cx) (C : Cl) (xs : List Sx) : TS := fun D σ H => ∃ B cs G s, At X.K B cs G s σ H ∧ Rn (xes C xs s) (Es X.K B cs G H D)
theorem psM {X : Cx} {st : Stmt} {t t' : TS} (h : PS X st t) (m : ∀ D σ H, t' D σ H → t D σ H) : PS X st t' := ⟨fun pins s σ H D I q => h.run pins s σ H D I (m D σ H q)⟩
theorem pssM {X : Cx} {st : List Stmt} {t t' : TS} (h : PSs X st t) (m : ∀ D σ H, t' D σ H → t D σ H) : PSs X st t' := ⟨fun pins s σ H D I q => h.run pins s σ H D I (m D σ H q)⟩
section
variable {K : PySem.W.Frag} {B B' : Bs} {cs cs' cs1 cs2 : List Addr} {G G' G1 G2 H H' H1 H2 : Hp} {s s0 s1 : S} {σ σ' : L2.St} {v w : V} {d dx dy : D} {p a : Addr} {o o' u : HO} {r : Row} {X : Cx} {C : Cl} {x y z : Ex} {xs ys : List Sx} {E E' : Ends} {fl : Fl}
theorem Ssp.refl : Ssp B cs G H cs G H := ⟨Pre.refl _, fun _ h => .inl h, Le.refl _, Kg.refl⟩
theorem Ssp.trans (a : Ssp B cs G H cs1 G1 H1) (b : Ssp B cs1 G1 H1 cs2 G2 H2) : Ssp B cs G H cs2 G2 H2 := ⟨a.pre.trans b.pre, fun x m => (b.new x m).elim (a.new x) .inr, a.le.trans b.le, fun x u o g h => by
  have h1 := a.kg x u o g h
  rcases a.le x u (.inl g) with z | ⟨od, z⟩
  · exact b.kg x _ o z h1
  · exact b.kg x _ o z h1⟩
theorem Stp.ssp (w : Wd K B cs G s.c H) (st : Stp cs G H cs1 G1 H1) : Ssp B cs G H cs1 G1 H1 := ⟨st.pre, fun x m => (st.new x m).imp id fun h => (w.fresh h).2.2, st.le, fun x u o g h => st.keep x o (fun m => by rw [w.cg x m] at g; cases g) h⟩
theorem Es.shift (h : Es K B cs G H E fl s1) (st : Ssp B cs G H cs1 G1 H1) : Es K B cs1 G1 H1 E fl s1 := by
  cases fl with
  | nx => exact fun σ' cs' G' H' st' => h σ' cs' G' H' (st.trans st')
  | bk => exact fun σ' cs' G' H' st' => h σ' cs' G' H' (st.trans st')
  | ct => exact fun σ' cs' G' H' st' => h σ' cs' G' H' (st.trans st')
  | ret o d => exact fun v σ' cs' G' H' st' => h v σ' cs' G' H' (st.trans st')
theorem r_nil : PSs X [] (tSs X C []) := pssM pss_nil fun D σ H ⟨B, cs, G, s, at_, h⟩ => h σ cs G H Ssp.refl at_
theorem r_cons {st : Stmt} {rest : List Stmt} {x : Sx} (h1 : PS X st (tS X C x)) (h2 : PSs X rest (tSs X C xs)) : PSs X (st :: rest) (tSs X C (x :: xs)) :=
  pssM (pss_cons h1 h2) fun D σ H ⟨B, cs, G, s, at_, h⟩ => by
    obtain ⟨fl, s1, e1, h⟩ := Rn.b2 h
    refine ⟨B, cs, G, s, at_, ?_⟩
    rw [e1]
    cases fl with
    | nx => exact fun σ' cs' G' H' st' at' => ⟨B, cs', G', s1, at', h.mono fun fl s' q => q.shift st'⟩
    | bk => exact h
    | ct => exact h
    | ret o d => exact h
theorem r_pass {pos : Pos} : PS X (.Pass pos) (tS X C .pass) := psM ps_pass fun D σ H ⟨B, cs, G, s, at_, h⟩ => h σ cs G H Ssp.refl at_
theorem r_brk {pos : Pos} : PS X (.Break pos) (tS X C .brk) := psM ps_break fun D σ H ⟨B, cs, G, s, at_, h⟩ => h σ cs G H Ssp.refl at_
theorem r_cnt {pos : Pos} : PS X (.Continue pos) (tS X C .cnt) := psM ps_continue fun D σ H ⟨B, cs, G, s, at_, h⟩ => h σ cs G H Ssp.refl at_
theorem r_doc {t : Str} {j : Nat} {pos pos' : Pos} : PS X (.Expr (.Constant (.str t) j pos) pos') (tS X C .pass) := psM ps_doc fun D σ H ⟨B, cs, G, s, at_, h⟩ => h σ cs G H Ssp.refl at_
theorem r_no {st : Stmt} : PS X st (tS X C .no) := psM ps_never fun D σ H ⟨B, cs, G, s, at_, h⟩ => h.elim
theorem r_raise {st : Stmt} {n : Nat} : PS X st (tS X C (.raise n)) := psM ps_never fun D σ H ⟨B, cs, G, s, at_, h⟩ => h.elim
theorem r_retN {pos : Pos} : PS X (.Return none pos) (tS X C .retN) := psM ps_retN fun D σ H ⟨B, cs, G, s, at_, h⟩ => h .non σ cs G H Ssp.refl at_ .non
theorem r_ret {e : Expr} {pos : Pos} (he : PE X e (tE X C x)) : PS X (.Return (some e) pos) (tS X C (.ret x)) :=
  psM (ps_ret he) fun D σ H ⟨B, cs, G, s, at_, h⟩ => by
    obtain ⟨od, s1, e1, h⟩ := Rn.b2 h
    exact tE_in at_ e1 fun v cs1 G1 H1 st1 at1 r1 => h v σ cs1 G1 H1 (st1.ssp at_.wd) at1 r1.1
/-- what drops nothing, what swaps nothing -/
def noComp : Expr → Bool
  | .ListComp .. => false
  | .SetComp .. => false
  | .DictComp .. => false
  | _ => true
theorem sw_no {e : Expr} (h : noComp e = true) (t : Option Expr) (l : Nat) (env : Env) : swapsWith e t l env = pure false := by
  cases e <;> first | rfl | (simp [noComp] at h)
theorem r_expr {e : Expr} {pos : Pos} (hn : noComp e = true) (he : PE X e (tE X C x)) : PS X (.Expr e pos) (tS X C (.expr x)) :=
  psM (ps_expr he (sw_no hn _ _ _)) fun D σ H ⟨B, cs, G, s, at_, h⟩ => by
    obtain ⟨od, s1, e1, h⟩ := Rn.b2 h
    exact tE_in at_ e1 fun v cs1 G1 H1 st1 at1 r1 => h σ cs1 G1 H1 (st1.ssp at_.wd) at1
theorem r_if {c : Expr} {a b : List Stmt} {pos : Pos} (hc : PT X c (tT X C x)) (ha : PSs X a (tSs X C xs)) (hb : PSs X b (tSs X C ys)) : PS X (.If c a b pos) (tS X C (.ite x xs ys)) :=
  psM (ps_if hc ha hb) fun D σ H ⟨B, cs, G, s, at_, h⟩ => by
    obtain ⟨od, s1, e1, h⟩ := Rn.b2 h
    obtain ⟨t, s2, e2, h⟩ := Rn.b2 h
    refine ⟨B, cs, G, s, at_, ?_⟩
    rw [e1, R.b_ok, e2]
    intro cs1 G1 H1 st1 at1
    cases t with
    | true => exact ⟨B, cs1, G1, s2, at1, h.mono fun fl s' q => q.shift (st1.ssp at_.wd)⟩
    | false => exact ⟨B, cs1, G1, s2, at1, h.mono fun fl s' q => q.shift (st1.ssp at_.wd)⟩
/-! names -/
theorem r_set {i : Nat} {n : Str} {e : Expr} {pos' pos : Pos} (hN : X.N.Nodup) (hi : X.N[i]? = some n) (hx : Loc X.env.scope n) (hf : X.fn n = true ∨ X.env.scope.names.lookup n = some .local) (hs : swapsWith e (some (.Name n pos')) pos.line X.env = pure false) (he : PE X e (tE X C x)) :
    PS X (.Assign [.Name n pos'] e pos) (tS X C (.set i x)) :=
  psM (ps_set hN hi hx he hs hf) fun D σ H ⟨B, cs, G, s, at_, h⟩ => by
    obtain ⟨od, s1, e1, h⟩ := Rn.b2 h
    split at h
    · exact h.elim
    rename_i hg
    refine tE_in at_ e1 fun v cs1 G1 H1 st1 at1 r1 => ?_
    obtain ⟨G2, le2, at2, rp⟩ := r1.freeze at1 (by simpa using hg)
    exact h _ cs1 G2 H1 ((st1.trans (Stp.grow le2)).ssp at_.wd) (at2.set rp)
theorem own_of {i : Nat} (at_ : At K B cs G s σ H) (r1 : Res K B cs G H s σ (isPk x) (vOf x) od v) (hg : (od.1 && isPk x) = false) : At K B cs G ⟨s.r.set i (some od), s.c⟩ (σ.set i (some v)) H :=
  at_.setO (b := od.1) (d := od.2) r1.1 fun h => r1.2.1 h (by simpa [h] using hg)
theorem r_own {i : Nat} {n : Str} {e : Expr} {pos' pos : Pos} (hN : X.N.Nodup) (hi : X.N[i]? = some n) (hx : Loc X.env.scope n) (hf : X.fn n = true ∨ X.env.scope.names.lookup n = some .local) (hs : swapsWith e (some (.Name n pos')) pos.line X.env = pure false) (he : PE X e (tE X C x)) :
    PS X (.Assign [.Name n pos'] e pos) (tS X C (.own i x)) :=
  psM (ps_set hN hi hx he hs hf) fun D σ H ⟨B, cs, G, s, at_, h⟩ => by
    obtain ⟨od, s1, e1, h⟩ := Rn.b2 h
    split at h
    · exact h.elim
    rename_i hg
    refine tE_in at_ e1 fun v cs1 G1 H1 st1 at1 r1 => ?_
    exact h _ cs1 G1 H1 (st1.ssp at_.wd) (own_of at1 r1 (by simpa using hg))
/-- a cell is made -/
theorem At.mkc {i : Nat} {ds : List D} (at_ : At K B cs G s σ H) (g : G p = none) (n : p ∉ cs) (z : B.h0 p = none) (ow : Own K cs G H p (.lst ds)) (no : ∀ (i : Nat) (e : D), s.r[i]? = some (some (true, e)) → σ[i]? ≠ some (some (.ref p))) :
    At K B (cs ++ [p]) G ⟨s.r.set i (some (false, .cel s.c.length)), s.c ++ [ds]⟩ (σ.set i (some (.ref p))) H := by
  obtain ⟨vs, hp, rs⟩ := ow
  have pre : Pre cs (cs ++ [p]) := fun k a h => by
    rw [List.getElem?_append_left (List.getElem?_eq_some_iff.mp h).1]; exact h
  have a1 : At K B (cs ++ [p]) G ⟨s.r, s.c ++ [ds]⟩ σ H := by
    refine ⟨⟨at_.wd.le, at_.wd.gl, at_.wd.gn, fun a m => ?_, ?_, by simp [at_.wd.len], fun k a es h1 h2 => ?_, at_.wd.lok, fun a o h m => at_.wd.fr a o h fun q => m (by simp [q])⟩, ⟨at_.en.len, fun i ob d h => ?_, at_.en.dis⟩⟩
    · rcases List.mem_append.mp m with q | q
      · exact at_.wd.cg a q
      · simp at q; subst q; exact g
    · rw [List.nodup_append]
      exact ⟨at_.wd.nd, by simp, fun a m b m2 => by simp at m2; subst m2; exact fun e => n (e ▸ m)⟩
    · by_cases hk : k < cs.length
      · rw [List.getElem?_append_left hk] at h1
        rw [List.getElem?_append_left (by rw [at_.wd.len]; exact hk)] at h2
        obtain ⟨ws, h3, h4⟩ := at_.wd.cel k a es h1 h2
        exact ⟨ws, h3, h4.mono pre (Le.refl _)⟩
      · have hk' : k = cs.length := by
          have := (List.getElem?_eq_some_iff.mp h1).1
          simp at this; omega
        subst hk'
        rw [List.getElem?_append_right (Nat.le_refl _)] at h1
        rw [List.getElem?_append_right (by rw [at_.wd.len]; exact Nat.le_refl _), at_.wd.len] at h2
        simp at h1 h2
        subst h1 h2
        exact ⟨vs, hp, rs.mono pre (Le.refl _)⟩
    · obtain ⟨v, e, vr⟩ := at_.en.val i ob d h
      refine ⟨v, e, ?_⟩
      cases ob with
      | false => exact Rep.mono pre (Le.refl _) vr
      | true =>
        obtain ⟨q, e1, g1, n1, z1, w⟩ := vr
        subst e1
        refine ⟨q, rfl, g1, fun m => ?_, z1, ?_⟩
        · rcases List.mem_append.mp m with m | m
          · exact n1 m
          · simp at m; subst m; exact no i d h e
        · cases d with
          | lst _ => obtain ⟨vs, x, y⟩ := w; exact ⟨vs, x, y.mono pre (Le.refl _)⟩
          | dct _ => obtain ⟨vs, x, y⟩ := w; exact ⟨vs, x, y.mono pre (Le.refl _)⟩
          | _ => exact w.elim
  exact a1.set (.cel (by rw [← at_.wd.len.symm, List.getElem?_append_right (Nat.le_refl _)]; simp))
theorem r_mkc {i : Nat} {n : Str} {e : Expr} {pos' pos : Pos} (hN : X.N.Nodup) (hi : X.N[i]? = some n) (hx : Loc X.env.scope n) (hf : X.fn n = true ∨ X.env.scope.names.lookup n = some .local) (hs : swapsWith e (some (.Name n pos')) pos.line X.env = pure false) (he : PE X e (tE X C x)) :
    PS X (.Assign [.Name n pos'] e pos) (tS X C (.mkc i x)) :=
  psM (ps_set hN hi hx he hs hf) fun D σ H ⟨B, cs, G, s, at_, h⟩ => by
    obtain ⟨od, s1, e1, h⟩ := Rn.b2 h
    split at h
    · rename_i ds
      split at h
      · exact h.elim
      rename_i hg
      refine tE_in at_ e1 fun v cs1 G1 H1 st1 at1 r1 => ?_
      obtain ⟨⟨p, rfl, g, n, z, ow⟩, no, _⟩ := r1
      have st := (st1.ssp at_.wd)
      refine h _ (cs1 ++ [p]) G1 H1 ⟨st.pre.trans fun k a h => ?_, fun a m => ?_, st.le, st.kg⟩ (at1.mkc g n z ow (no rfl (by simpa using hg)))
      · rw [List.getElem?_append_left (List.getElem?_eq_some_iff.mp h).1]; exact h
      · rcases List.mem_append.mp m with q | q
        · exact st.new a q
        · simp at q; subst q; exact .inr z
    · exact h.elim
theorem r_unp {t : Tg} {e tg : Expr} {pos : Pos} (hg : PG X tg (gT X.K t)) (hs : swapsWithSole [tg] e pos.line X.env = pure false) (hw : swappedStores [tg] e X.env = pure none) (h1 : (assignEach [tg] X.env).map (·.2) = [assign tg X.env]) (he : PE X e (tE X C x)) :
    PS X (.Assign [tg] e pos) (tS X C (.unp t x)) :=
  psM (ps_asg he hg hs hw h1) fun D σ H ⟨B, cs, G, s, at_, h⟩ => by
    obtain ⟨od, s1, e1, h⟩ := Rn.b2 h
    split at h
    · exact h.elim
    rename_i hg
    obtain ⟨r1, s2, e2, h⟩ := Rn.b2 h
    obtain ⟨e4, e3⟩ := R.of_eq e2
    subst e3
    refine tE_in at_ e1 fun v cs1 G1 H1 st1 at1 rs => ?_
    obtain ⟨G2, le2, at2, rp⟩ := rs.freeze at1 (by simpa using hg)
    exact asg_ok t s1 _ r1 v σ _ at2 rp e4 fun σ' at' _ => h σ' cs1 G2 H1 ((st1.trans (Stp.grow le2)).ssp at_.wd) at'
theorem r_aug {i : Nat} {n : Str} {e : Expr} {op : Op} {pos' pos : Pos} {oo : Operator} (ho : (op = .add ∧ oo = .Add) ∨ (op = .sub ∧ oo = .Sub)) (hN : X.N.Nodup) (hi : X.N[i]? = some n) (hx : Loc X.env.scope n) (hf : X.fn n = true ∨ X.env.scope.names.lookup n = some .local) (he : PE X e (tE X C x)) :
    PS X (.AugAssign (.Name n pos') oo e pos) (tS X C (.aug i op x)) := by
  have main : ∀ (f : Int → Int → Int) (D : Ends) (σ : L2.St) (H : Hp), (∃ B cs G s, At X.K B cs G s σ H ∧ ∃ k : Int, ∃ o, s.r[i]? = some (some (o, .int k)) ∧ Rn (ev C x s) fun y s' => ∃ m, y.2 = .int m ∧ Es X.K B cs G H D .nx ⟨s'.r.set i (some (false, .int (f k m))), s'.c⟩) → tAug i (tE X C x) (ipI f) D σ H := by
    rintro f D σ H ⟨B, cs, G, s, at_, k, o, hk, h⟩
    obtain ⟨v, e, vr⟩ := at_.en.val i o _ hk
    have e2 := vr.vw.int
    subst e2
    refine ⟨_, e, B, cs, G, s, at_, h.mono fun od s' q => ?_⟩
    obtain ⟨m, e3, q⟩ := q
    intro w cs1 G1 H1 st1 at1 r1
    have hw : Vw X.K cs1 G1 H1 w (.int m) := e3 ▸ r1.vw
    exact ⟨k, m, rfl, hw.int, q _ cs1 G1 H1 (st1.ssp at_.wd) (at1.set (.int _))⟩
  rcases ho with ⟨rfl, rfl⟩ | ⟨rfl, rfl⟩
  · refine psM (ps_aug hN hi hx he ip_add hf) fun D σ H ⟨B, cs, G, s, at_, h⟩ => main _ D σ H ⟨B, cs, G, s, at_, ?_⟩
    simp only [xe] at h
    split at h
    · rename_i o k hk
      refine ⟨k, o, hk, (Rn.b h).mono fun y s' q => ?_⟩
      obtain ⟨yo, yd⟩ := y
      cases yd with
      | int m => exact ⟨m, rfl, q⟩
      | _ => exact q.elim
    · exact h.elim
  · refine psM (ps_aug hN hi hx he ip_sub hf) fun D σ H ⟨B, cs, G, s, at_, h⟩ => main _ D σ H ⟨B, cs, G, s, at_, ?_⟩
    simp only [xe] at h
    split at h
    · rename_i o k hk
      refine ⟨k, o, hk, (Rn.b h).mono fun y s' q => ?_⟩
      obtain ⟨yo, yd⟩ := y
      cases yd with
      | int m => exact ⟨m, rfl, q⟩
      | _ => exact q.elim
    · exact h.elim
/-! what is owned changes -/
theorem At.ownset {i : Nat} {d' : D} (at_ : At K B cs G s σ H) (hi : s.r[i]? = some (some (true, d))) (hs : σ[i]? = some (some (.ref p))) (ow : Own K cs G (upd H p o) p d') : At K B cs G ⟨s.r.set i (some (true, d')), s.c⟩ σ (upd H p o) ∧ Kg G H (upd H p o) := by
  obtain ⟨g, n, z, _⟩ := at_.own_none hi hs
  have hl : i < s.r.length := (List.getElem?_eq_some_iff.mp hi).1
  have other : ∀ (j : Nat) (e : D), j ≠ i → s.r[j]? = some (some (true, e)) → σ[j]? ≠ some (some (.ref p)) := fun j e ne hj hs' => at_.en.dis i j d e _ (fun x => ne x.symm) hi hj hs hs'
  refine ⟨⟨⟨upd_le at_.wd.le g, at_.wd.gl, at_.wd.gn, at_.wd.cg, at_.wd.nd, at_.wd.len, fun k a es h1 h2 => ?_, fun q m => ?_, fun a w h m => ?_⟩, ⟨by simp [at_.en.len], fun j ob e h => ?_, fun j k e f v ne hj hk sj sk => ?_⟩⟩, fun a u w h h2 => ?_⟩
  · obtain ⟨vs, h3, h4⟩ := at_.wd.cel k a es h1 h2
    exact ⟨vs, by rw [upd_ne (fun y => n (by rw [← y]; exact List.mem_of_getElem? h1))]; exact h3, h4⟩
  · obtain ⟨w, h1, h2⟩ := at_.wd.lok q m
    exact ⟨w, h1, by rw [upd_ne (fun y => by rw [y, g] at h1; cases h1)]; exact h2⟩
  · have ne : a ≠ p := fun y => by rw [y, z] at h; cases h
    rcases at_.wd.fr a w h m with x | ⟨od, x, y⟩
    · exact .inl (by rw [upd_ne ne]; exact x)
    · exact .inr ⟨od, x, by rw [upd_ne ne]; exact y⟩
  · by_cases y : j = i
    · subst y
      rw [List.getElem?_set_self hl] at h
      cases h
      exact ⟨_, hs, p, rfl, g, n, z, ow⟩
    · rw [List.getElem?_set_ne (fun q => y q.symm)] at h
      obtain ⟨v, e1, vr⟩ := at_.en.val j ob e h
      refine ⟨v, e1, ?_⟩
      cases ob with
      | false => exact vr
      | true =>
        obtain ⟨q, e2, g1, n1, z1, w⟩ := vr
        subst e2
        have ne : q ≠ p := fun x => other j e y h (by rw [← x]; exact e1)
        refine ⟨q, rfl, g1, n1, z1, ?_⟩
        cases e with
        | lst _ => obtain ⟨vs, x, y⟩ := w; exact ⟨vs, by rw [upd_ne ne]; exact x, y⟩
        | dct _ => obtain ⟨vs, x, y⟩ := w; exact ⟨vs, by rw [upd_ne ne]; exact x, y⟩
        | _ => exact w.elim
  · have t : ∀ (m : Nat) (f : D), (s.r.set i (some (true, d')))[m]? = some (some (true, f)) → ∃ f', s.r[m]? = some (some (true, f')) := fun m f h => by
      by_cases x : m = i
      · subst x; exact ⟨d, hi⟩
      · rw [List.getElem?_set_ne (fun y => x y.symm)] at h; exact ⟨f, h⟩
    obtain ⟨e', a1⟩ := t j e hj
    obtain ⟨f', a2⟩ := t k f hk
    exact at_.en.dis j k e' f' v ne a1 a2 sj sk
  · rw [upd_ne (fun y => by rw [y, g] at h; cases h)]; exact h2
theorem r_app {i : Nat} {n : Str} {e : Expr} {apos p cpos pos : Pos} (hN : X.N[i]? = some n) (hv : Vis X.env.scope n) (hd : (n == ("__debug__" : Str)) = false) (hcd : (n == ("__classdict__" : Str)) = false) (hst : nStar e = true)
    (hfew : ((backTo cpos (starEach [e] X.env)).all (fun x => !x.1) && (backToKw cpos (keywordEach [] X.env)).all (fun x => x.1.isSome) && decide ([e].length + ([] : List Keyword).length + (if ([] : List Keyword).isEmpty then 0 else 1) < 30)) = true)
    (hline : (apos.endLine == cpos.line) = true) (he : PE X e (tE X C x)) : PS X (.Expr (.Call (.Attribute (.Name n p) "append" apos) [e] [] cpos) pos) (tS X C (.app i x)) :=
  psM (ps_expr (pe_bm PySem.F.plainAttrs_list PySem.F.slot_list_append PySem.F.type_list_append mt_append (pe_var (i := i) hN hv hd hcd) (pa_F (.cons ⟨he, hst⟩ .nil)) rfl hfew hline (star_of hst [] X.env) rfl) (sw_no rfl _ _ _)) fun D σ H ⟨B, cs, G, s, at_, h⟩ => by
    obtain ⟨od, s1, e1, h⟩ := Rn.b2 h
    split at h
    · exact h.elim
    rename_i hg
    split at h
    · rename_i ds hi
      split at h
      · rename_i hl
        have hi0 : s.r[i]? = some (some (true, .lst ds)) := by
          rcases (fol_ev _ _ _ _ e1).2 i (by simp) with q | ⟨d, q, q2⟩
          · rw [← q]; exact hi
          · rw [hi] at q2; cases q2
        obtain ⟨v, e2, p, e3, g, n, z, ow⟩ := at_.en.val i true _ hi0
        subst e3
        obtain ⟨vs, hp, rs⟩ := ow
        have e1' : evF C [x] s = .ok [od.2] s1 := by
          show (ev C x s).b _ = _
          rw [e1]
          show (if (od.1 && isPk x) = true then _ else _) = _
          rw [if_neg hg]; rfl
        refine ⟨_, e2, .inl ⟨rfl, vs, .of hp⟩, tF_in at_ e1' fun ws cs1 G1 H1 st1 at1 ar => ?_⟩
        cases ar with
        | cons r1 r2 =>
          cases r2
          obtain ⟨v', e4, p', e5, g1, n1, z1, ow1⟩ := at1.en.val i true _ hi
          rw [e2] at e4; cases e4; cases e5
          obtain ⟨vs1, hp1, rs1⟩ := ow1
          obtain ⟨at2, kg⟩ := at1.ownset (o := .lst (vs1 ++ [_])) (d' := .lst (ds ++ [od.2])) hi e2 ⟨_, upd_same, rs1.app (.cons r1 .nil)⟩
          exact ⟨p, vs1, _, rfl, rfl, hp1, by rw [rs1.len]; exact lim_lt hl, h σ cs1 G1 _ ((st1.ssp at_.wd).trans ⟨Pre.refl _, fun _ m => .inl m, Le.refl _, kg⟩) at2⟩
      · exact h.elim
    · exact h.elim
theorem RepK.any {k : D} {j : Key} (hk : keyD k = some j) : ∀ {kvs : List (Key × V)} {ds : List (D × D)}, RepK K cs G kvs ds → (kvs.any fun kv => decide (kv.1 = j)) = ds.any fun p => eqK p.1 k
  | _, _, .nil => rfl
  | _, _, .cons h1 h2 h3 => by
    rw [List.any_cons, List.any_cons, h3.any hk, eqK_iff h1 hk]
theorem RepK.put {k : D} {j : Key} (hk : keyD k = some j) (hv : Rep K cs G v d) {kvs : List (Key × V)} {ds : List (D × D)} (h : RepK K cs G kvs ds) : RepK K cs G (L2.putK kvs j v) (putD ds k d) := by
  unfold L2.putK putD
  rw [h.any hk]
  split
  · have : ∀ {kvs : List (Key × V)} {ds : List (D × D)}, RepK K cs G kvs ds → RepK K cs G (kvs.map (fun kv => if kv.1 = j then (kv.1, v) else kv)) (ds.map (fun p => if eqK p.1 k then (p.1, d) else p)) := by
      intro kvs ds h
      induction kvs generalizing ds with
      | nil => cases h; exact .nil
      | cons q r ih =>
        obtain ⟨qk, qv⟩ := q
        cases h with
        | cons h1 h2 h3 =>
          simp only [List.map_cons]
          rw [eqK_iff h1 hk]
          by_cases y : qk = j
          · rw [if_pos y, decide_eq_true y, if_pos rfl]
            exact .cons h1 hv (ih h3)
          · rw [if_neg y, decide_eq_false y, if_neg (by decide)]
            exact .cons h1 h2 (ih h3)
    exact this h
  · have : ∀ {kvs : List (Key × V)} {ds : List (D × D)}, RepK K cs G kvs ds → RepK K cs G (kvs ++ [(j, v)]) (ds ++ [(k, d)]) := by
      intro kvs ds h
      induction kvs generalizing ds with
      | nil => cases h; exact .cons hk hv .nil
      | cons q r ih =>
        cases h with
        | cons h1 h2 h3 => exact .cons h1 h2 (ih h3)
    exact this h
theorem r_put {i : Nat} {n : Str} {ke e : Expr} {p pos' pos : Pos} (hu : X.A.units + 1 < cLine) (hN : X.N[i]? = some n) (hv : Vis X.env.scope n) (hd : (n == ("__debug__" : Str)) = false) (hcd : (n == ("__classdict__" : Str)) = false)
    (hs : swapsWith e (some (.Subscript (.Name n p) ke pos')) pos.line X.env = pure false) (hk : PE X ke (tE X C y)) (he : PE X e (tE X C x)) : PS X (.Assign [.Subscript (.Name n p) ke pos'] e pos) (tS X C (.put i y x)) :=
  psM (ps_dput hu (pe_var (i := i) hN hv hd hcd) hk he hs) fun D σ H ⟨B, cs, G, s, at_, h⟩ => by
    obtain ⟨od, s1, e1, h⟩ := Rn.b2 h
    split at h
    · exact h.elim
    rename_i hg
    obtain ⟨kd, s2, e2, h⟩ := Rn.b2 h
    split at h
    · rename_i kvs hi
      split at h
      · rename_i hl
        rw [Bool.and_eq_true, decide_eq_true_eq] at hl
        obtain ⟨j, hj⟩ := keyD_of hl.1
        have hi1 : s1.r[i]? = some (some (true, .dct kvs)) := by
          rcases (fol_ev _ _ _ _ e2).2 i (by simp) with q | ⟨d, q, q2⟩
          · rw [← q]; exact hi
          · rw [hi] at q2; cases q2
        refine tE_in at_ e1 fun v cs1 G1 H1 st1 at1 r1 => ?_
        obtain ⟨G1', le1, at1', rv⟩ := r1.freeze at1 (by simpa using hg)
        obtain ⟨pv, e3, p, e4, _⟩ := at1'.en.val i true _ hi1
        subst e4
        refine ⟨_, e3, tE_in at1' e2 fun kv cs2 G2 H2 st2 at2 r2 => ?_⟩
        obtain ⟨v', e5, p', e6, g1, n1, z1, ow⟩ := at2.en.val i true _ hi
        rw [e3] at e5; cases e5; cases e6
        obtain ⟨ks, hp, rk⟩ := ow
        have ek := kV_rep hj r2.vw
        subst ek
        obtain ⟨at3, kg⟩ := at2.ownset (o := .dK (L2.putK ks j v)) (d' := .dct (putD kvs kd.2 od.2)) hi e3 ⟨_, upd_same, rk.put hj (rv.mono st2.pre st2.le)⟩
        exact ⟨p, _, rfl, DPut.k hp (by rw [rk.len]; exact lim_lt hl.2), h σ cs2 G2 _ ((((st1.trans (Stp.grow le1)).trans st2).ssp at_.wd).trans ⟨Pre.refl _, fun _ m => .inl m, Le.refl _, kg⟩) at3⟩
      · exact h.elim
    · exact h.elim
end
end Q
end

section
set_option Elab.async false
set_option linter.all false
set_option maxRecDepth 100000
set_option maxHeartbeats 4000000
namespace Q
open PySem PySem.Spec PyProof.Rows L2
/-! ### loops -/
section
variable {K : PySem.W.Frag} {B B' : Bs} {cs cs' cs1 cs2 : List Addr} {G G' G1 G2 H H' H1 H2 H3 : Hp} {s s0 s1 s2 : S} {σ σ' : L2.St} {v w : V} {d dx dy : D} {p a : Addr} {o o' u : HO} {r : Row} {X : Cx} {C : Cl} {x y z : Ex} {xs ys : List Sx} {E E' : Ends} {fl : Fl}
theorem r_while {c : Expr} {body : List Stmt} {pos : Pos} (hp : PassesOwn (model X.prog X.w) X.A X.env X.xe) (hc : PT X c (tT X C x)) (hb : PSs X body (tSs X C xs)) : PS X (.While c body [] pos) (tS X C (.whl x xs)) :=
  psM (ps_while hp hc hb) fun D σ H ⟨B, cs, G, s, at_, h⟩ => by
    refine ⟨fun m σ1 H1 => ∃ cs1 G1 s1, At X.K B cs1 G1 s1 σ1 H1 ∧ Ssp B cs G H cs1 G1 H1 ∧ Rn (whlL (fun s => (ev C x s).b fun x s => tru x s) (fun s => xes C xs s) m s1) (Es X.K B cs G H D), ⟨turns, cs, G, s, at_, Ssp.refl, h⟩, ?_⟩
    rintro m σ1 H1 ⟨cs1, G1, s1, at1, sp1, h⟩
    cases m with
    | zero => exact h.elim
    | succ m =>
      obtain ⟨b, s2, e2, h⟩ := Rn.b2 h
      refine ⟨B, cs1, G1, s1, at1, ?_⟩
      have e2 : (ev C x s1).b tru = .ok b s2 := e2
      rw [e2]
      intro cs2 G2 H2 st2 at2
      have sp2 := sp1.trans (st2.ssp at1.wd)
      cases b with
      | false =>
        rw [if_neg (by decide)]
        exact h σ1 cs2 G2 H2 sp2 at2
      | true =>
        rw [if_pos rfl]
        rw [if_pos rfl] at h
        refine ⟨_, fun σ' H' n => ⟨m, Nat.lt_succ_self _, n⟩, B, cs2, G2, s2, at2, (Rn.b h).mono fun fl s3 q => ?_⟩
        cases fl with
        | nx => exact fun σ' cs' G' H' sp at' => ⟨cs', G', s3, at', sp2.trans sp, q⟩
        | ct => exact fun σ' cs' G' H' sp at' => ⟨cs', G', s3, at', sp2.trans sp, q⟩
        | bk => exact fun σ' cs' G' H' sp at' => q σ' cs' G' H' (sp2.trans sp) at'
        | ret o d => exact fun v σ' cs' G' H' sp at' vr => q v σ' cs' G' H' (sp2.trans sp) at' vr
theorem Lks.fin {P : Hp → Prop} (l : Lks X B G1 H1 B' H2) (at1 : At X.K B cs1 G1 s1 σ H1) (st1 : Ssp B cs G H cs1 G1 H1) (at3 : At X.K B' cs2 G2 s2 σ' H3) (sp : Ssp B' cs1 G1 H2 cs2 G2 H3)
    (q : ∀ H4, At X.K B cs2 G2 s2 σ' H4 → Ssp B cs G H cs2 G2 H4 → (∀ o v d, ValR X.K B' cs2 G2 H3 o v d → ValR X.K B cs2 G2 H4 o v d) → P H4) : Unl X P H3 := by
  refine l.done at1 at3 (fun a kvs od hG hH => sp.kg a _ _ hG hH) fun H4 at4 k1 k2 k3 => q H4 at4 (st1.trans ⟨sp.pre, fun a m => by rw [← l.h0]; exact sp.new a m, sp.le, fun a u o hG h => ?_⟩) fun ob v d vr => ?_
  · by_cases e : H2 a = H1 a
    · exact k1 a o h (e.trans h) (sp.kg a u o hG (e.trans h))
    · cases l with
      | no => exact absurd rfl e
      | @yes d' od kvs hG' hH nf =>
        by_cases y : a = d'
        · subst y; rw [hH] at h; cases h; exact k2 a _ hH e
        · rw [upd_ne y] at e; exact absurd rfl e
  · cases ob with
    | false => exact vr
    | true =>
      obtain ⟨p, e1, g, n, z, ow⟩ := vr
      refine ⟨p, e1, g, n, by rw [← l.h0]; exact z, ?_⟩
      have e2 := k3 p (sp.le.nov g)
      cases d with
      | lst _ => obtain ⟨vs, x, y⟩ := ow; exact ⟨vs, by rw [e2]; exact x, y⟩
      | dct _ => obtain ⟨vs, x, y⟩ := ow; exact ⟨vs, by rw [e2]; exact x, y⟩
      | _ => exact ow.elim
theorem r_for {tg iter : Expr} {body : List Stmt} {pos : Pos} {t : Tg} {k : Ik} {its : List Ex} (hp : PassesOwn (model X.prog X.w) X.A X.env X.xe) (hc : X.calm = true) (hi : PI X tg iter (tIf X C k its)) (hg : PG X tg (gT X.K t)) (hb : PSs X body (tSs X C xs))
    (hs : ∀ x, foldedSetIterable iter X.env x = pure x) : PS X (.For tg iter body [] pos) (tS X C (.for_ t k its xs)) :=
  psM (ps_unl (ps_for hp hc hi hg hb hs)) fun E σ H ⟨B, cs, G, s, at_, h⟩ => by
    obtain ⟨ds, s1, e1, h⟩ := Rn.b2 h
    obtain ⟨ys, s2, e2', h⟩ := Rn.b2 h
    obtain ⟨e2, e3⟩ := R.of_eq e2'
    subst e3
    refine ⟨B, cs, G, s, at_, ?_⟩
    rw [e1]
    show Rn (R.of (itD k ds) _) _
    rw [e2]
    intro J cs1 G1 H1 B' H2 st1 at1 lks W
    have ssp1 := st1.ssp at_.wd
    have at1' := lks.at_ at1
    refine for_it W (fun i σ' H' => ∃ cs2 G2 s2, At X.K B' cs2 G2 s2 σ' H' ∧ Ssp B' cs1 G1 H2 cs2 G2 H' ∧ Rn (forL (fun x s => (R.of (asg t x s.r) s).b fun r s => xes C xs ⟨r, s.c⟩) (ys.drop i) s2) (Es X.K B cs G H E)) ?_ ?_ ?_ ?_
    · exact ⟨cs1, G1, s1, at1', Ssp.refl, h⟩
    · rintro i σ' H' hi ⟨cs2, G2, s2, at2, sp2, hr⟩
      exact sp2.kg
    · rintro i x σ' H3 H4 hi ⟨cs2, G2, s2, at2, sp2, hr⟩ ⟨d, hd, y⟩
      rw [drop_of hd] at hr
      obtain ⟨fl, s3, f1, hr⟩ := Rn.b2 hr
      obtain ⟨r1, s2', f2, f1⟩ := R.b_eq f1
      obtain ⟨f4, e3⟩ := R.of_eq f2
      subst e3
      have : ∃ G3, At X.K B' cs2 G3 s2 σ' H4 ∧ Ssp B' cs1 G1 H2 cs2 G3 H4 ∧ Rep X.K cs2 G3 x d := by
        rcases y with ⟨rfl, rp⟩ | ⟨T, ws, es, rfl, hT, rfl, rfl, rp⟩
        · exact ⟨G2, at2, sp2, rp.mono sp2.pre sp2.le⟩
        · obtain ⟨gT, nT, zT⟩ := at2.wd.fresh hT
          have a1 := at2.alloc (o := .tup ws) hT
          exact ⟨_, a1.grow upd_same nT gT zT (at2.nown hT), sp2.trans (((Stp.alloc at2.wd hT).trans (Stp.grow (Le.new gT))).ssp at2.wd), .tup (.of upd_same) (rp.mono sp2.pre (sp2.le.trans (Le.new gT)))⟩
      obtain ⟨G3, at3, sp3, rx⟩ := this
      refine asg_ok t s2 d r1 x σ' _ at3 rx f4 fun σ2 at4 _ => ⟨B', cs2, G3, _, at4, ?_⟩
      rw [f1]
      cases fl with
      | nx => exact fun σ' cs' G' H' sp at' => ⟨cs', G', s3, at', sp3.trans sp, hr⟩
      | ct => exact fun σ' cs' G' H' sp at' => ⟨cs', G', s3, at', sp3.trans sp, hr⟩
      | bk => exact fun σ' cs' G' H' sp at' => lks.fin at1 ssp1 at' (sp3.trans sp) fun H4 at4 sp4 _ => hr σ' cs' G' H4 sp4 at4
      | ret o d => exact fun v σ' cs' G' H' sp at' vr => lks.fin at1 ssp1 at' (sp3.trans sp) fun H4 at4 sp4 q => hr v σ' cs' G' H4 sp4 at4 (q _ _ _ vr)
    · rintro σ' H3 ⟨cs2, G2, s2, at2, sp2, hr⟩
      rw [List.drop_length] at hr
      exact lks.fin at1 ssp1 at2 sp2 fun H4 at4 sp4 _ => hr σ' cs2 G2 H4 sp4 at4
/-! ### list comprehensions -/
theorem r_lc {elt tg iter : Expr} {ifs : List Expr} {scope : Scope} {own : List (Str × Nat)} {pos : Pos} {t : Tg} {k : Ik} {its : List Ex} {cond : Option Ex} (hc : X.calm = true) (hN : X.N.Nodup) (hi : PI X tg iter (tIc X C k its)) (ok : BlkOk X.N X.env.scope scope own)
    (hg : ∀ (s : Shared) (H : Hp) (C : Addr) (cl : List (Str × Addr)) (fp : List Addr), PG (X.blk s H scope (compEnvC scope cl C X.env) fp) tg (gT X.K t)) (ht : ∀ (s : Shared) (H : Hp) (C' : Addr) (cl : List (Str × Addr)) (fp : List Addr), PTs (X.blk s H scope (compEnvC scope cl C' X.env) fp) ifs (tC X C cond))
    (he : ∀ (s : Shared) (H : Hp) (C' : Addr) (cl : List (Str × Addr)) (fp : List Addr), PE (X.blk s H scope (compEnvC scope cl C' X.env) fp) elt (tE X C x)) (hs : ∀ x, foldedSetIterable iter X.env x = pure x) :
    PE X (.ListComp elt [⟨tg, iter, ifs, 0⟩] scope pos) (tE X C (.lc x t k its cond (own.map (·.2)))) :=
  peM (pe_unl (pe_lc hc hN hi ok hg ht he hs)) fun σ H Q h => lc_ok h
/-! ### a, b = x, y -/
def PR (K : PySem.W.Frag) (B : Bs) (cs : List Addr) (G H : Hp) (r : Row) (σ : L2.St) : List V → List (Bool × D) → Prop
  | [], [] => True
  | v :: vs, od :: ods => (ValR K B cs G H od.1 v od.2 ∧ (od.1 = true → (∀ (i : Nat) (e : D), r[i]? = some (some (true, e)) → σ[i]? ≠ some (some v)) ∧ ∀ (k : Nat) (d : D), ods[k]? = some (true, d) → vs[k]? ≠ some v)) ∧ PR K B cs G H r σ vs ods
  | _, _ => False
def tP (X : Cx) (C : Cl) (es : List Ex) : TA := fun σ H Q => ∃ B cs G s, At X.K B cs G s σ H ∧ Rn (evP C es s) fun ds s' => ∀ vs cs' G' H', Stp cs G H cs' G' H' → At X.K B cs' G' s' σ H' → PR X.K B cs' G' H' s'.r σ vs ds → Q vs H'
theorem PR.unpin {Da : Addr} : ∀ {vs : List V} {ods : List (Bool × D)}, PR K (B.pin Da o) cs G H r σ vs ods → PR K B cs G H r σ vs ods
  | [], [], h => h
  | v :: vs, (b, d) :: ods, h => ⟨⟨by
      have := h.1.1
      cases b with
      | false => exact this
      | true =>
        obtain ⟨p, e, g, n, z, ow⟩ := this
        exact ⟨p, e, g, n, (upd_none z).2, ow⟩, h.1.2⟩, h.2.unpin⟩
  | [], _ :: _, h => h.elim
  | _ :: _, [], h => h.elim
theorem PR.ne {Da : Addr} : ∀ {vs : List V} {ods : List (Bool × D)}, PR K (B.pin Da o) cs G H r σ vs ods → ∀ (k : Nat) (d : D), ods[k]? = some (true, d) → vs[k]? ≠ some (.ref Da)
  | [], [], h, k, d, e => by simp at e
  | v :: vs, od :: ods, h, 0, d, e => fun e2 => by
      simp at e e2
      subst e e2
      obtain ⟨p, e3, g, n, z, ow⟩ := h.1.1
      cases e3
      exact (upd_none z).1 rfl
  | v :: vs, od :: ods, h, k + 1, d, e => by simpa using h.2.ne k d (by simpa using e)
  | [], _ :: _, h, _, _, _ => h.elim
  | _ :: _, [], h, _, _, _ => h.elim
theorem pa_P : ∀ {es : List Expr} {xs : List Ex}, Prs X C es xs → PA X es (tP X C xs)
  | _, _, .nil => ⟨fun pos pins s σ H Q I h => pa_nil.run pos pins s σ H Q I (by
      obtain ⟨B, cs, G, s, at_, h⟩ := h
      exact h [] cs G H (Stp.refl _ _ _) at_ trivial)⟩
  | _, _, .cons (a := e) (b := x) (l₁ := es) (l₂ := xs) ⟨he, hst⟩ hr => ⟨fun pos pins s σ H Q I h => (pa_cons he (pa_P hr) (star_of hst es X.env)).run pos pins s σ H Q I (by
      obtain ⟨B, cs, G, s, at_, h⟩ := h
      obtain ⟨od, s1, e1, h⟩ := Rn.b2 h
      split at h
      · exact h.elim
      rename_i hg
      refine tE_in at_ e1 fun v cs1 G1 H1 st1 at1 r1 => ?_
      obtain ⟨b, d⟩ := od
      cases b with
      | false =>
        refine ⟨B, cs1, G1, s1, at1, (Rn.b h).mono fun ds s' q => ?_⟩
        intro vs cs2 G2 H2 st2 at2 pr
        exact q (v :: vs) cs2 G2 H2 (st1.trans st2) at2 ⟨⟨Rep.mono st2.pre st2.le r1.1, fun h => nomatch h⟩, pr⟩
      | true =>
        obtain ⟨⟨p, rfl, g, n, z, ow⟩, no, _⟩ := r1
        obtain ⟨o, ho⟩ := ow.there
        have no := no rfl (by simpa using hg)
        have g0 : B.g0 p = none := at1.wd.gl.nov g
        refine ⟨B.pin p o, cs1, G1, s1, at1.pin ho n g no, (Rn.b h).mono fun ds s' q => ?_⟩
        intro vs cs2 G2 H2 st2 at2 pr
        have n2 := st2.nin n ho
        refine q (.ref p :: vs) cs2 G2 H2 (st1.trans st2) (at2.unpin z) ⟨⟨⟨p, rfl, (at2.pinned g0 n2).1, n2, z, ow.mono st2 n⟩, fun _ => ⟨fun i e hi hs => ?_, fun k d hk => pr.ne k d hk⟩⟩, pr.unpin⟩
        have := (at2.own_none hi hs).2.2.1
        rw [show (B.pin p o).h0 p = some o from upd_same] at this
        cases this)⟩
/-- names stored one after another -/
def stS : List (Nat × Bool) → List V → L2.St → L2.St
  | (i, _) :: is, v :: vs, σ => stS is vs (σ.set i (some v))
  | _, _, σ => σ
theorem PR.step {i : Nat} {b : Bool} : ∀ {vs : List V} {ods : List (Bool × D)}, PR K B cs G H r σ vs ods → Le G G' → (∀ (k : Nat) (d : D) (p : Addr), ods[k]? = some (true, d) → vs[k]? = some (.ref p) → G' p = none) →
    (b = true → ∀ (k : Nat) (d : D), ods[k]? = some (true, d) → vs[k]? ≠ some w) → PR K B cs G' H (r.set i (some (b, d))) (σ.set i (some w)) vs ods
  | [], [], h, _, _, _ => h
  | v :: vs, (o, d') :: ods, h, le, hg, hw => by
    refine ⟨⟨?_, fun ho => ⟨fun j e hj hs => ?_, (h.1.2 ho).2⟩⟩, h.2.step le (fun k d p e1 e2 => hg (k + 1) d p (by simpa using e1) (by simpa using e2)) fun hb k d e => by simpa using hw hb (k + 1) d (by simpa using e)⟩
    · have := h.1.1
      cases o with
      | false => exact Rep.mono (Pre.refl _) le this
      | true =>
        obtain ⟨p, e, g, n, z, ow⟩ := this
        subst e
        refine ⟨p, rfl, hg 0 d' p rfl rfl, n, z, ?_⟩
        cases d' with
        | lst _ => obtain ⟨vs, x, y⟩ := ow; exact ⟨vs, x, y.mono (Pre.refl _) le⟩
        | dct _ => obtain ⟨vs, x, y⟩ := ow; exact ⟨vs, x, y.mono (Pre.refl _) le⟩
        | _ => exact ow.elim
    · have ho : o = true := ho
      subst ho
      by_cases x : j = i
      · subst x
        have hl : j < r.length := by simpa using (List.getElem?_eq_some_iff.mp hj).1
        rw [List.getElem?_set_self hl] at hj
        cases hj
        have hl2 : j < σ.length := by simpa using (List.getElem?_eq_some_iff.mp hs).1
        rw [List.getElem?_set_self hl2] at hs
        cases hs
        exact hw rfl 0 d' rfl rfl
      · rw [List.getElem?_set_ne (fun y => x y.symm)] at hj hs
        exact (h.1.2 rfl).1 j e hj hs
  | [], _ :: _, h, _, _, _ => h.elim
  | _ :: _, [], h, _, _, _ => h.elim
theorem PR.own : ∀ {vs : List V} {ods : List (Bool × D)}, PR K B cs G H r σ vs ods → ∀ (k : Nat) (d : D) (p : Addr), ods[k]? = some (true, d) → vs[k]? = some (.ref p) → G p = none
  | [], [], h, k, d, p, e, _ => by simp at e
  | v :: vs, od :: ods, h, 0, d, p, e, e2 => by
      simp at e e2
      subst e e2
      obtain ⟨p, e3, g, n, z, ow⟩ := h.1.1
      cases e3
      exact g
  | v :: vs, od :: ods, h, k + 1, d, p, e, e2 => h.2.own k d p (by simpa using e) (by simpa using e2)
  | [], _ :: _, h, _, _, _, _, _ => h.elim
  | _ :: _, [], h, _, _, _, _, _ => h.elim
theorem parR_ok : ∀ (is : List (Nat × Bool)) (vs : List V) (ods : List (Bool × D)) (r : Row) (c : Cells) (σ : L2.St) (G : Hp) (r1 : Row), At K B cs G ⟨r, c⟩ σ H → PR K B cs G H r σ vs ods → parR is ods r = some r1 → ∃ G', Le G G' ∧ At K B cs G' ⟨r1, c⟩ (stS is vs σ) H
  | [], [], [], r, c, σ, G, r1, at_, pr, e => by cases e; exact ⟨G, Le.refl _, at_⟩
  | [], _ :: _, [], r, c, σ, G, r1, at_, pr, e => by exact pr.elim
  | [], _, _ :: _, r, c, σ, G, r1, at_, pr, e => by simp [parR] at e
  | (i, o) :: is, [], [], r, c, σ, G, r1, at_, pr, e => by simp [parR] at e
  | (i, o) :: is, [], _ :: _, r, c, σ, G, r1, at_, pr, e => by exact pr.elim
  | (i, o) :: is, _ :: _, [], r, c, σ, G, r1, at_, pr, e => by exact pr.elim
  | (i, o) :: is, v :: vs, (b, d) :: ods, r, c, σ, G, r1, at_, pr, e => by
    obtain ⟨⟨vr, no⟩, pr2⟩ := pr
    cases b with
    | false =>
      have e : parR is ods (r.set i (some (o && false, d))) = some r1 := e
      rw [Bool.and_false] at e
      exact parR_ok is vs ods _ c _ G r1 (at_.set (s := ⟨r, c⟩) vr) (pr2.step (Le.refl _) pr2.own fun h => nomatch h) e
    | true =>
      obtain ⟨no1, no2⟩ := no rfl
      cases o with
      | true => exact parR_ok is vs ods _ c _ G r1 (at_.setO (s := ⟨r, c⟩) (b := true) vr fun _ => no1) (pr2.step (Le.refl _) pr2.own fun _ => no2) e
      | false =>
        have res : Res K B cs G H ⟨r, c⟩ σ false none (true, d) v := ⟨vr, fun _ _ => no1, fun _ h => nomatch h⟩
        obtain ⟨p, rfl, g, n, z, ow⟩ := vr
        have : ∃ o, H p = some o ∧ Rep K cs (upd G p o) (.ref p) d := by
          cases d with
          | lst ds => obtain ⟨vs, x, y⟩ := ow; exact ⟨_, x, .lst (.of upd_same) (y.mono (Pre.refl _) (Le.new g))⟩
          | dct ds => obtain ⟨vs, x, y⟩ := ow; exact ⟨_, x, .dct (.inl upd_same) (y.mono (Pre.refl _) (Le.new g))⟩
          | _ => exact ow.elim
        obtain ⟨ob, hp, rp⟩ := this
        have at2 := at_.grow hp n g z no1
        obtain ⟨G', le', at'⟩ := parR_ok is vs ods _ c _ _ r1 (at2.set (s := ⟨r, c⟩) rp) (pr2.step (Le.new g) (fun k d q e1 e2 => by
          rw [upd_ne (fun x => no2 k d e1 (by rw [← x]; exact e2))]; exact pr2.own k d q e1 e2) fun h => nomatch h) e
        exact ⟨G', (Le.new g).trans le', at'⟩
theorem PR.len : ∀ {vs : List V} {ods : List (Bool × D)}, PR K B cs G H r σ vs ods → vs.length = ods.length
  | [], [], h => rfl
  | v :: vs, od :: ods, h => by simp [h.2.len]
  | [], _ :: _, h => h.elim
  | _ :: _, [], h => h.elim
theorem evP_len : ∀ {xs : List Ex} {s : S} {ds : List (Bool × D)} {s1 : S}, evP C xs s = .ok ds s1 → ds.length = xs.length
  | [], s, ds, s1, h => by cases h; rfl
  | x :: xs, s, ds, s1, h => by
    obtain ⟨o, s2, h1, h⟩ := R.b_eq h
    split at h
    · cases h
    · obtain ⟨o2, s3, h2, h⟩ := R.b_eq h
      cases h
      simp [evP_len h2]
theorem tP_ok {is : List (Nat × Bool)} {es : List Ex} {D : Ends} (h : tS X C (.par is es) D σ H) : tP X C es σ H fun vs H1 => D.nx (stS is vs σ) H1 := by
  obtain ⟨B, cs, G, s, at_, h⟩ := h
  refine ⟨B, cs, G, s, at_, (Rn.b h).mono fun ods s1 q => ?_⟩
  obtain ⟨r1, s2, e2, q⟩ := Rn.b2 q
  obtain ⟨e2, e3⟩ := R.of_eq e2
  subst e3
  intro vs cs1 G1 H1 st1 at1 pr
  obtain ⟨G2, le2, at2⟩ := parR_ok is vs ods s1.r s1.c σ G1 r1 at1 pr (by assumption)
  exact q _ cs1 G2 H1 ((st1.trans (Stp.grow le2)).ssp at_.wd) at2
theorem r_par2 {i j : Nat} {bi bj : Bool} {n m : Str} {a b : Expr} {px py pt pos : Pos} {kt k2 pt2} (hc : X.calm = true) (hN : X.N.Nodup) (hi : X.N[i]? = some n) (hj : X.N[j]? = some m) (hij : i ≠ j)
    (hx : X.env.scope.names.lookup n = some .local) (hy : X.env.scope.names.lookup m = some .local) (ha : Prs X C [a, b] [x, y])
    (hw : swappedStores [.Tuple [.Name n px, .Name m py] kt pt] (.Tuple [a, b] k2 pt2) X.env = pure (some [n, m])) :
    PS X (.Assign [.Tuple [.Name n px, .Name m py] kt pt] (.Tuple [a, b] k2 pt2) pos) (tS X C (.par [(i, bi), (j, bj)] [x, y])) :=
  psM (ps_par hc hN hi hj hij hx hy (pa_P ha) hw rfl) fun D σ H h => by
    have h1 := tP_ok h
    obtain ⟨B, cs, G, s, at_, h1⟩ := h1
    refine ⟨B, cs, G, s, at_, ?_⟩
    obtain ⟨ods, s1, e1, h1⟩ := Rn.eq h1
    rw [e1]
    intro vs cs1 G1 H1 st1 at1 pr
    have hl := pr.len
    rw [evP_len e1] at hl
    match vs, hl with
    | [v, w], _ => exact ⟨v, w, rfl, h1 [v, w] cs1 G1 H1 st1 at1 pr⟩
theorem r_par3 {i j l : Nat} {bi bj bl : Bool} {n m q : Str} {a b c : Expr} {px py pz pt pos : Pos} {kt k2 pt2} (hc : X.calm = true) (hN : X.N.Nodup) (hi : X.N[i]? = some n) (hj : X.N[j]? = some m) (hl : X.N[l]? = some q) (hij : i ≠ j) (hil : i ≠ l) (hjl : j ≠ l)
    (hx : X.env.scope.names.lookup n = some .local) (hy : X.env.scope.names.lookup m = some .local) (hz : X.env.scope.names.lookup q = some .local) (ha : Prs X C [a, b, c] [x, y, z])
    (hw : swappedStores [.Tuple [.Name n px, .Name m py, .Name q pz] kt pt] (.Tuple [a, b, c] k2 pt2) X.env = pure (some [n, m, q])) :
    PS X (.Assign [.Tuple [.Name n px, .Name m py, .Name q pz] kt pt] (.Tuple [a, b, c] k2 pt2) pos) (tS X C (.par [(i, bi), (j, bj), (l, bl)] [x, y, z])) :=
  psM (ps_par3 hc hN hi hj hl hij hil hjl hx hy hz (pa_P ha) hw rfl) fun D σ H h => by
    have h1 := tP_ok h
    obtain ⟨B, cs, G, s, at_, h1⟩ := h1
    refine ⟨B, cs, G, s, at_, ?_⟩
    obtain ⟨ods, s1, e1, h1⟩ := Rn.eq h1
    rw [e1]
    intro vs cs1 G1 H1 st1 at1 pr
    have hl := pr.len
    rw [evP_len e1] at hl
    match vs, hl with
    | [u, v, w], _ => exact ⟨u, v, w, rfl, h1 [u, v, w] cs1 G1 H1 st1 at1 pr⟩
end
end Q
end

section
set_option Elab.async false
set_option linter.all false
set_option maxRecDepth 100000
set_option maxHeartbeats 4000000
namespace Q
open PySem PySem.Spec PyProof.Rows L2
section
variable {K : PySem.W.Frag} {B B' : Bs} {cs cs' cs1 cs2 : List Addr} {G G' G1 G2 H H' H1 H2 H3 : Hp} {s s0 s1 s2 : S} {σ σ' : L2.St} {v w : V} {d dx dy : D} {p a : Addr} {o o' u : HO} {r : Row} {X : Cx} {C : Cl} {x y z : Ex} {E E' : Ends} {fl : Fl}
/-! name = [..] on one line -/
theorem r_setLc {i : Nat} {n : Str} {py : Pos} {elt tg iter : Expr} {ifs : List Expr} {scope : Scope} {own : List (Str × Nat)} {pos spos : Pos} {t : Tg} {k : Ik} {its : List Ex} {cond : Option Ex} (hc : X.calm = true) (hN : X.N.Nodup) (hy : X.N[i]? = some n) (hyl : X.env.scope.names.lookup n = some .local)
    (hsw : swapsWith (.ListComp elt [⟨tg, iter, ifs, 0⟩] scope pos) (some (.Name n py)) spos.line X.env = pure true) (hi : PI X tg iter (tIc X C k its)) (ok : BlkOk X.N X.env.scope scope own)
    (hg : ∀ (s : Shared) (H : Hp) (C : Addr) (cl : List (Str × Addr)) (fp : List Addr), PG (X.blk s H scope (compEnvC scope cl C X.env) fp) tg (gT X.K t)) (ht : ∀ (s : Shared) (H : Hp) (C' : Addr) (cl : List (Str × Addr)) (fp : List Addr), PTs (X.blk s H scope (compEnvC scope cl C' X.env) fp) ifs (tC X C cond))
    (he : ∀ (s : Shared) (H : Hp) (C' : Addr) (cl : List (Str × Addr)) (fp : List Addr), PE (X.blk s H scope (compEnvC scope cl C' X.env) fp) elt (tE X C x)) (hs : ∀ x, foldedSetIterable iter X.env x = pure x) :
    PS X (.Assign [.Name n py] (.ListComp elt [⟨tg, iter, ifs, 0⟩] scope pos) spos) (fun D σ H => tE X C (.lc x t k its cond (own.map (·.2))) σ H fun v H1 => D.nx (σ.set i (some v)) H1) :=
  psM (ps_unl (ps_setLc hc hN hy hyl hsw hi ok hg ht he hs)) fun D σ H h => lc_ok h
theorem set_of {st : Stmt} {i : Nat} (h : PS X st (fun D σ H => tE X C x σ H fun v H1 => D.nx (σ.set i (some v)) H1)) : PS X st (tS X C (.set i x)) :=
  psM h fun D σ H ⟨B, cs, G, s, at_, h⟩ => by
    obtain ⟨od, s1, e1, h⟩ := Rn.b2 h
    split at h
    · exact h.elim
    rename_i hg
    refine tE_in at_ e1 fun v cs1 G1 H1 st1 at1 r1 => ?_
    obtain ⟨G2, le2, at2, rp⟩ := r1.freeze at1 (by simpa using hg)
    exact h _ cs1 G2 H1 ((st1.trans (Stp.grow le2)).ssp at_.wd) (at2.set rp)
theorem own_of' {st : Stmt} {i : Nat} (h : PS X st (fun D σ H => tE X C x σ H fun v H1 => D.nx (σ.set i (some v)) H1)) : PS X st (tS X C (.own i x)) :=
  psM h fun D σ H ⟨B, cs, G, s, at_, h⟩ => by
    obtain ⟨od, s1, e1, h⟩ := Rn.b2 h
    split at h
    · exact h.elim
    rename_i hg
    refine tE_in at_ e1 fun v cs1 G1 H1 st1 at1 r1 => ?_
    exact h _ cs1 G1 H1 (st1.ssp at_.wd) (own_of at1 r1 (by simpa using hg))
/-! displays of dicts -/
def flK : List (Ex × Ex) → List Ex
  | [] => []
  | (a, b) :: r => a :: b :: flK r
def PsR (K : PySem.W.Frag) (cs : List Addr) (G : Hp) : List (V × V) → List D → Prop
  | [], [] => True
  | (a, b) :: ps, x :: y :: ds => Rep K cs G a x ∧ Rep K cs G b y ∧ PsR K cs G ps ds
  | _, _ => False
theorem tPairs_in : ∀ {kx : List (Ex × Ex)} {s : S} {ds : List D} {s1 : S} {cs : List Addr} {G H : Hp} {Q0 : List (V × V) → Hp → Prop}, At X.K B cs G s σ H → evF C (flK kx) s = .ok ds s1 →
    (∀ ps cs1 G1 H1, Stp cs G H cs1 G1 H1 → At X.K B cs1 G1 s1 σ H1 → PsR X.K cs1 G1 ps ds → ps.length = kx.length → Q0 ps H1) → tPairs (kx.map fun p => (tE X C p.1, tE X C p.2)) σ H Q0
  | [], s, ds, s1, cs, G, H, Q0, at_, e, k => by cases e; exact k [] cs G H (Stp.refl _ _ _) at_ trivial rfl
  | (a, b) :: kx, s, ds, s1, cs, G, H, Q0, at_, e, k => by
    obtain ⟨oa, s2, e1, e⟩ := R.b_eq e
    split at e
    · cases e
    rename_i ha
    obtain ⟨da, s3, e2, e⟩ := R.b_eq e
    cases e
    obtain ⟨ob, s4, e3, e2⟩ := R.b_eq e2
    split at e2
    · cases e2
    rename_i hb
    obtain ⟨db, s5, e4, e2⟩ := R.b_eq e2
    cases e2
    refine tE_in at_ e1 fun v cs1 G1 H1 st1 at1 r1 => ?_
    obtain ⟨G1', le1, at1', rv⟩ := r1.freeze at1 (by simpa using ha)
    refine tE_in at1' e3 fun w cs2 G2 H2 st2 at2 r2 => ?_
    obtain ⟨G2', le2, at2', rw'⟩ := r2.freeze at2 (by simpa using hb)
    refine tPairs_in at2' e4 fun ps cs3 G3 H3 st3 at3 rs hl => ?_
    have st12 := st2.trans (Stp.grow (H := H2) (cs := cs2) le2)
    refine k _ cs3 G3 H3 (((st1.trans (Stp.grow le1)).trans st12).trans st3) at3 ⟨(rv.mono st12.pre st12.le).mono st3.pre st3.le, rw'.mono st3.pre st3.le, rs⟩ (by simp [hl])
theorem mkD_rep : ∀ {ps : List (V × V)} {ds : List D} {ka : List (Key × V)} {acc out : List (D × D)}, PsR K cs G ps ds → mkD ds acc = some out → RepK K cs G ka acc →
    ∃ kvs : List (Key × V), ps = kvs.map (fun kv => (kV kv.1, kv.2)) ∧ RepK K cs G (mergeK ka kvs) out
  | [], [], ka, acc, out, _, e, h => by cases e; exact ⟨[], rfl, h⟩
  | (a, b) :: ps, x :: y :: ds, ka, acc, out, ⟨h1, h2, h3⟩, e, h => by
    simp only [mkD] at e
    split at e
    · rename_i hk
      obtain ⟨j, hj⟩ := keyD_of hk
      have ea := kV_rep (H := G) hj (.inl h1)
      subst ea
      obtain ⟨kvs, e1, e2⟩ := mkD_rep h3 e (h.put hj h2)
      exact ⟨(j, b) :: kvs, by rw [e1]; rfl, e2⟩
    · cases e
  | [], _ :: _, _, _, _, h, _, _ => h.elim
  | _ :: _, [], _, _, _, h, _, _ => h.elim
  | _ :: _, [_], _, _, _, h, _, _ => h.elim
theorem r_dct0 {pos : Pos} : PE X (.Dict [] [] pos) (tE X C (.dct [])) := peM pe_dnewK fun σ H Q ⟨B, cs, G, s, at_, h⟩ p hp => Ps.dct at_ .nil hp h
theorem pps_of {pos : Pos} : ∀ {ks : List (Option Expr)} {vs : List Expr} {kx : List (Ex × Ex)}, Paired (fun (e : Option Expr) (x : Ex × Ex) => ∃ k, e = some k ∧ PE X k (tE X C x.1)) ks kx → Paired (fun e (x : Ex × Ex) => PE X e (tE X C x.2)) vs kx → PPs X pos ks vs (kx.map fun p => (tE X C p.1, tE X C p.2))
  | _, _, _, .nil, .nil => pps_nil
  | _, _, _, .cons ⟨k, e, h⟩ r, .cons h2 r2 => by subst e; exact pps_cons h h2 (pps_of r r2)
theorem Paired.len {α β : Type} {F : α → β → Prop} : ∀ {l : List α} {m : List β}, Paired F l m → l.length = m.length
  | _, _, .nil => rfl
  | _, _, .cons _ r => by simp [Paired.len r]
theorem r_dct {pos : Pos} {ks : List (Option Expr)} {vs : List Expr} {kx : List (Ex × Ex)} (hk : Paired (fun (e : Option Expr) (x : Ex × Ex) => ∃ k, e = some k ∧ PE X k (tE X C x.1)) ks kx) (hv : Paired (fun e (x : Ex × Ex) => PE X e (tE X C x.2)) vs kx) (h0 : ks ≠ []) (h15 : ks.length ≤ 15) :
    PE X (.Dict ks vs pos) (tE X C (.dct (flK kx))) := by
  have hall : ks.all (·.isSome) = true := by
    clear hv h0 h15
    induction hk with
    | nil => rfl
    | cons h r ih => obtain ⟨k, rfl, _⟩ := h; simpa using ih
  refine peM (pe_disp (pps_of hk hv) hall (by rw [Paired.len hk, Paired.len hv]) h0 h15) fun σ H Q ⟨B, cs, G, s, at_, h⟩ p hp => ?_
  obtain ⟨ds, s1, e1, h⟩ := Rn.b2 h
  obtain ⟨out, s2, e2', h⟩ := Rn.b2 h
  obtain ⟨e2, e3⟩ := R.of_eq e2'
  subst e3
  obtain ⟨g, n, z⟩ := at_.wd.fresh hp
  have g0 : B.g0 p = none := at_.wd.gl.nov g
  refine tPairs_in ((at_.alloc hp).pin (o := .dK []) upd_same n g (at_.nown hp)) e1 fun ps cs1 G1 H1 st1 at1 rs hl => ?_
  have n1 : p ∉ cs1 := st1.nin n upd_same
  obtain ⟨g1, hp1⟩ := at1.pinned g0 n1
  obtain ⟨kvs, e4, rk⟩ := mkD_rep rs e2 (.nil (K := X.K) (cs := cs1) (G := G1))
  refine ⟨hp1, kvs, e4, ?_, ?_⟩
  · have : kvs.length = ps.length := by rw [e4]; simp
    rw [this, hl, ← Paired.len hk]; exact h15
  · have at2 := (at1.repin (o' := .dK (mergeK [] kvs)) g0 n1)
    have no : ∀ (i : Nat) (f : D), s1.r[i]? = some (some (true, f)) → σ[i]? ≠ some (some (.ref p)) := fun i f hi hs => by
      have := (at2.own_none hi hs).2.2.1
      rw [show (B.pin p (.dK (mergeK [] kvs))).h0 p = some (.dK (mergeK [] kvs)) from upd_same] at this
      cases this
    refine h (.ref p) cs1 G1 _ ⟨st1.pre, fun a m => ?_, st1.le, fun a o n' h' => ?_⟩ (at2.unpin z) ⟨⟨p, rfl, g1, n1, z, _, upd_same, rk⟩, fun _ _ => no, fun _ h => nomatch h⟩
    · rcases st1.new a m with q | q
      · exact .inl q
      · exact .inr (upd_none q).2
    · have ne := ne_of_none h' hp
      rw [upd_ne ne]
      exact st1.keep a o n' (by rw [upd_ne ne]; exact h')
end
end Q
end

section
set_option Elab.async false
set_option linter.all false
set_option maxRecDepth 100000
set_option maxHeartbeats 4000000
namespace Q
open PySem PySem.Spec PyProof.Rows L2
/-! ### statements that raise -/
def XPost (X : Cx) (W : WX) (B : Bs) (cs : List Addr) (G H : Hp) (e : Nat) (c : Cells) : Prop := ∀ cv cs' G' H' σ', X.mg (xn e) = some cv → Ssp B cs G H cs' G' H' → Wd X.K B cs' G' c H' → W cv none σ' H'
def tXS (X : Cx) (C : Cl) (W : WX) (x : Sx) : TS := fun _ σ H => ∃ B cs G s e c, At X.K B cs G s σ H ∧ xx C x s = some (e, c) ∧ XPost X W B cs G H e c
def tXSs (X : Cx) (C : Cl) (W : WX) (xs : List Sx) : TS := fun _ σ H => ∃ B cs G s e c, At X.K B cs G s σ H ∧ xxs C xs s = some (e, c) ∧ XPost X W B cs G H e c
def tW (X : Cx) (C : Cl) (W : WX) (x : Sx) : TS := fun D σ H => tS X C x D σ H ∨ tXS X C W x D σ H
def tWs (X : Cx) (C : Cl) (W : WX) (xs : List Sx) : TS := fun D σ H => tSs X C xs D σ H ∨ tXSs X C W xs D σ H
section
variable {K : PySem.W.Frag} {B B' : Bs} {cs cs' cs1 cs2 : List Addr} {G G' G1 G2 H H' H1 H2 H3 : Hp} {s s0 s1 s2 : S} {σ σ' : L2.St} {v w : V} {d : D} {X : Cx} {C : Cl} {x y z : Ex} {W : WX} {xs ys : List Sx} {st : Stmt} {pos : Pos}
theorem ps_or {t t' : TS} (h : PS X st t) (h' : PS X st t') : PS X st (fun D σ H => t D σ H ∨ t' D σ H) := ⟨fun pins s σ H D I q => q.elim (h.run pins s σ H D I) (h'.run pins s σ H D I)⟩
theorem pss_or {sts : List Stmt} {t t' : TS} (h : PSs X sts t) (h' : PSs X sts t') : PSs X sts (fun D σ H => t D σ H ∨ t' D σ H) := ⟨fun pins s σ H D I q => q.elim (h.run pins s σ H D I) (h'.run pins s σ H D I)⟩
/-- a statement that raises nothing -/
theorem w_ol {a : Sx} (hx : ∀ s, xx C a s = none) (h : PS X st (tS X C a)) : PS X st (tW X C W a) :=
  ps_or h (psM ps_never fun D σ H ⟨B, cs, G, s, e, c, at_, h, _⟩ => by rw [hx] at h; cases h)
theorem w_of {a : Sx} (h : PS X st (tS X C a)) (h' : PS X st (tXS X C W a)) : PS X st (tW X C W a) := ps_or h h'
theorem XPost.shift {e : Nat} {c : Cells} (h : XPost X W B cs G H e c) (st : Ssp B cs G H cs1 G1 H1) : XPost X W B cs1 G1 H1 e c := fun cv cs' G' H' σ' m s w => h cv cs' G' H' σ' m (st.trans s) w
theorem w_nil : PSs X [] (tWs X C W []) := pss_or r_nil (pssM pss_nil fun D σ H ⟨B, cs, G, s, e, c, at_, h, _⟩ => by cases h)
theorem w_cons {rest : List Stmt} {a : Sx} (h1 : PS X st (tW X C W a)) (h2 : PSs X rest (tWs X C W xs)) : PSs X (st :: rest) (tWs X C W (a :: xs)) := by
  refine pssM (pss_cons h1 h2) fun D σ H q => ?_
  rcases q with ⟨B, cs, G, s, at_, h⟩ | ⟨B, cs, G, s, e, c, at_, h, p⟩
  · obtain ⟨fl, s1, e1, h⟩ := Rn.b2 h
    refine .inl ⟨B, cs, G, s, at_, ?_⟩
    rw [e1]
    cases fl with
    | nx => exact fun σ' cs' G' H' st' at' => .inl ⟨B, cs', G', s1, at', h.mono fun fl s' q => q.shift st'⟩
    | bk => exact h
    | ct => exact h
    | ret o d => exact h
  · simp only [xxs] at h
    split at h
    · rename_i q hq
      cases h
      exact .inr ⟨B, cs, G, s, e, c, at_, hq, p⟩
    · split at h
      · rename_i s1 e1
        refine .inl ⟨B, cs, G, s, at_, ?_⟩
        rw [e1]
        exact fun σ' cs' G' H' st' at' => .inr ⟨B, cs', G', s1, e, c, at', h, p.shift st'⟩
      · cases h
theorem w_if {c : Expr} {a b : List Stmt} (hc : PT X c (tT X C x)) (ha : PSs X a (tWs X C W xs)) (hb : PSs X b (tWs X C W ys)) : PS X (.If c a b pos) (tW X C W (.ite x xs ys)) := by
  refine psM (ps_if hc ha hb) fun D σ H q => ?_
  rcases q with ⟨B, cs, G, s, at_, h⟩ | ⟨B, cs, G, s, e, c, at_, h, p⟩
  · obtain ⟨od, s1, e1, h⟩ := Rn.b2 h
    obtain ⟨t, s2, e2, h⟩ := Rn.b2 h
    refine ⟨B, cs, G, s, at_, ?_⟩
    rw [e1, R.b_ok, e2]
    intro cs1 G1 H1 st1 at1
    cases t with
    | true => exact .inl ⟨B, cs1, G1, s2, at1, h.mono fun fl s' q => q.shift (st1.ssp at_.wd)⟩
    | false => exact .inl ⟨B, cs1, G1, s2, at1, h.mono fun fl s' q => q.shift (st1.ssp at_.wd)⟩
  · simp only [xx] at h
    split at h
    · rename_i t s2 e1
      refine ⟨B, cs, G, s, at_, ?_⟩
      rw [e1]
      intro cs1 G1 H1 st1 at1
      cases t with
      | true => exact .inr ⟨B, cs1, G1, s2, e, c, at1, h, p.shift (st1.ssp at_.wd)⟩
      | false => exact .inr ⟨B, cs1, G1, s2, e, c, at1, h, p.shift (st1.ssp at_.wd)⟩
    · cases h
/-- how a call raises, told by the interpreter -/
theorem xcl_in {i : Nat} {es : List Ex} {e : Nat} {c : Cells} (at_ : At X.K B cs G s σ H) (h : xcl C (.call i es) s = some (e, c)) (p : XPost X W B cs G H e c) :
    ∃ B cs G s, At X.K B cs G s σ H ∧ Rn ((evA C es s).b fun ds s => callD (flp C) i es ds s) (Ps X.K B cs G H σ false none (QX X.mg fun cv d H' => W cv d σ H')) := by
  simp only [xcl] at h
  split at h
  · rename_i ds s1 e1
    split at h
    · rename_i e0 s2 e2
      cases h
      refine ⟨B, cs, G, s, at_, ?_⟩
      rw [e1, R.b_ok, e2]
      intro v cs1 G1 H1 st1 at1 res e' cv ev hm
      have hv := (show Rep X.K cs1 G1 v (.int e0) from res.1).int_inv
      rw [hv] at ev
      cases ev
      exact p cv cs1 G1 H1 σ hm (st1.ssp at_.wd) at1.wd
    · cases h
  · cases h
end
end Q
end

section
set_option Elab.async false
set_option linter.all false
set_option maxRecDepth 100000
set_option maxHeartbeats 4000000
namespace Q
open PySem PySem.Spec PyProof.Rows L2
/-! ### from Python to Q -/
structure Sc where
  N : List Str
  names : List (Str × NameKind)
  tn : List (Str × NameKind)
  defs : List (Str × Nat)
  gi : List (Str × Int)
  ow : List Str
  cl : List Str
  xs : List (Str × Nat) := []
  gd : List (Str × List (Str × Int)) := []
  tr : List (Str × Str) := []
  tb : List (Nat × List Bool) := []
def ixS : List Str → Str → Nat → Option Nat
  | [], _, _ => none
  | y :: ys, x, n => if y = x then some n else ixS ys x (n + 1)
theorem ixS_ok : ∀ {ys : List Str} {x : Str} {n i : Nat}, ixS ys x n = some i → ∃ j, i = n + j ∧ ys[j]? = some x
  | [], x, n, i, h => by cases h
  | y :: ys, x, n, i, h => by
    unfold ixS at h
    split at h
    · rename_i e; cases h; exact ⟨0, rfl, by rw [e]; rfl⟩
    · obtain ⟨j, e1, e2⟩ := ixS_ok h
      exact ⟨j + 1, by omega, by simpa using e2⟩
def badN (x : Str) : Bool := x == ("__debug__" : Str) || x == ("__classdict__" : Str)
def visB (ns : List (Str × NameKind)) (x : Str) : Bool := match ns.lookup x with
  | some .local => true
  | some .cell => true
  | some .free => true
  | _ => false
def locB (ns : List (Str × NameKind)) (x : Str) : Bool := match ns.lookup x with
  | some .local => true
  | some .cell => true
  | _ => false
def glB (ns : List (Str × NameKind)) (x : Str) : Bool := match ns.lookup x with
  | some .globalImplicit => !(x == ("__debug__" : Str))
  | _ => false
def opOf : Operator → Option Op
  | .Add => some .add | .Sub => some .sub | .Mult => some .mul | .FloorDiv => some .fdiv | .Mod => some .mod | .Pow => some .pow
  | _ => none
theorem opOf_ok {o : Operator} {p : Op} (h : opOf o = some p) : o = opP p := by cases o <;> cases h <;> rfl
def cmOf : CmpOp → Option Cm
  | .Eq => some .eq | .NotEq => some .ne | .Lt => some .lt | .LtE => some .le | .Gt => some .gt | .GtE => some .ge | .Is => some .is | .IsNot => some .isn
  | _ => none
theorem cmOf_ok {o : CmpOp} {p : Cm} (h : cmOf o = some p) : o = cmP p := by cases o <;> cases h <;> rfl
def bis : List Bi := [.len, .abs, .max, .min, .sum, .int, .all, .list, .repr]
def biOf (x : Str) : Option Bi := bis.find? fun b => decide (x = (biP b).1)
theorem biOf_ok {x : Str} {b : Bi} (h : biOf x = some b) : x = (biP b).1 := by
  have := List.find?_some h
  simpa using this
def tys : List Ty := [.int, .bool, .str, .tup, .lst, .dct]
def tyOf (x : Str) : Option Ty := tys.find? fun t => decide (x = Str.ofString (tyP t))
theorem tyOf_ok {x : Str} {b : Ty} (h : tyOf x = some b) : x = Str.ofString (tyP b) := by
  have := List.find?_some h
  simpa using this
def relN (ns out : List (Str × NameKind)) : List (Str × NameKind) := ns.map fun (n, k) => if (k == .free && (ScopeKind.function == .function) && out.lookup n == some .cell) then (n, .cell) else (n, k)
def ownOf (N : List Str) (ns : List (Str × NameKind)) : List (Str × Nat) := ns.filterMap fun (n, k) => if k == .local || k == .cell then (ixS N n 0).map fun i => (n, i) else none
def noSet : Expr → Bool
  | .Set .. => false
  | _ => true
theorem noSet_ok {e : Expr} (h : noSet e = true) (env : Env) (x : Value) : foldedSetIterable e env x = pure x := by
  cases e <;> first | rfl | (simp [noSet] at h)
def isName : Expr → Bool
  | .Name .. => true
  | _ => false
def isTup : Expr → Bool
  | .Tuple .. => true
  | _ => false
/-- what isTrue looks at as a value -/
def plainT : Expr → Bool
  | .Name .. => true
  | .Call .. => true
  | .Subscript .. => true
  | .Constant .. => true
  | .BinOp .. => true
  | .List .. => true
  | .Tuple .. => true
  | .ListComp .. => true
  | _ => false
theorem plainT_ok {e : Expr} (h : plainT e = true) (env : Env) (whole : Sem Value) : isTrue e env whole = (do let v ← whole; standAt e.pos; holding [v] (truthy v)) := by
  cases e <;> first | rfl | (simp [plainT] at h)
def mapO {α β : Type} (f : α → Option β) : List α → Option (List β)
  | [] => some []
  | a :: r => match f a with
    | some b => (mapO f r).map (b :: ·)
    | none => none
theorem mapO_ok {α β : Type} {f : α → Option β} {F : α → β → Prop} (hf : ∀ a b, f a = some b → F a b) : ∀ {l : List α} {m : List β}, mapO f l = some m → Paired F l m
  | [], m, h => by cases h; exact .nil
  | a :: r, m, h => by
    unfold mapO at h
    split at h
    · rename_i b hb
      cases hr : mapO f r with
      | none => rw [hr] at h; cases h
      | some l => rw [hr] at h; cases h; exact .cons (hf _ _ hb) (mapO_ok hf hr)
    · cases h
def gdOf (z : Sc) : Expr → Option (Str × List (Str × Int))
  | .Name x _ => if glB z.names x && (ixS z.N x 0).isNone then (z.gd.lookup x).map fun g => (x, g) else none
  | _ => none
def cO (f : Expr → Option Ex) : Option Expr → Option (Option Ex)
  | none => some none
  | some e => (f e).map some
mutual
def cE : Nat → Sc → Bool → Expr → Option Ex
  | 0, _, _, _ => none
  | n + 1, z, kp, e => match e with
    | .Constant c _ _ => match c with
      | .none => some (.c .non)
      | .bool b => some (.c (.bl b))
      | .int i => some (.c (.int i))
      | .str x => some (.c (.str x))
      | _ => none
    | .Name x _ => if badN x then none else match ixS z.N x 0 with
      | some i => if visB z.names x then some (if kp && decide (x ∈ z.ow) then .fz i else .v i) else none
      | none => if glB z.names x then (z.gi.lookup x).map fun i => .c (.int i) else none
    | .BinOp (.List es lp) .Mult b _ => match cE n z false (.List es lp), cE n z false b with
      | some a, some b => some (.rep a b)
      | _, _ => none
    | .BinOp a o b _ => match opOf o, cE n z false a, cE n z false b with
      | some o, some a, some b => some (.bin o a b)
      | _, _, _ => none
    | .UnaryOp .USub a _ => (cE n z false a).map .neg
    | .UnaryOp .Not a _ => (cE n z false a).map .not
    | .Compare a [.In] [b] _ => if !nSet b then none else match gdOf z b, cE n z false a with
      | some (x, g), some a => some (.gin false a x g)
      | none, some a => (cE n z false b).map (.cin false a)
      | _, none => none
    | .Compare a [.NotIn] [b] _ => if !nSet b then none else match gdOf z b, cE n z false a with
      | some (x, g), some a => some (.gin true a x g)
      | none, some a => (cE n z false b).map (.cin true a)
      | _, none => none
    | .Compare a [o] [b] _ => match cmOf o, cE n z false a, cE n z false b with
      | some o, some a, some b => some (.cmp o a b)
      | _, _, _ => none
    | .Compare a [o, p] [b, c] _ => match cmOf o, cmOf p, cE n z false a, cE n z false b, cE n z false c with
      | some o, some p, some a, some b, some c => some (.chn o p a b c)
      | _, _, _, _, _ => none
    | .BoolOp op (a :: rest) pos => match rest with
      | [] => cE n z kp a
      | b :: r => match cE n z kp a, cE n z kp (.BoolOp op (b :: r) pos) with
        | some a, some b => some (match op with | .And => .and a b | .Or => .or a b)
        | _, _ => none
    | .IfExp c a b _ => match cT n z c, cE n z kp a, cE n z kp b with
      | some c, some a, some b => some (.ite c a b)
      | _, _, _ => none
    | .Tuple es _ _ => if es.length ≤ 1000 && es.all nStar then (mapO (cE n z true) es).map .tup else none
    | .List es _ => if es.length ≤ 1000 && es.all nStar then (mapO (cE n z true) es).map .lst else none
    | .Dict ks vs _ => match ks with
      | [] => match vs with
        | [] => some (.dct [])
        | _ :: _ => none
      | k :: kr => if (k :: kr).length ≤ 15 && decide ((k :: kr).length = vs.length) then (match mapO (fun o => match o with | some k => cE n z true k | none => none) (k :: kr), mapO (cE n z true) vs with
        | some kx, some vx => some (.dct (flK (kx.zip vx)))
        | _, _ => none) else none
    | .Subscript a b _ => match b with
      | .Slice lo hi none _ => match cE n z false a, cO (cE n z false) lo, cO (cE n z false) hi with
        | some a, some lo, some hi => some (.sl a lo hi)
        | _, _, _ => none
      | b => if nSl b then (match gdOf z a with
        | some (x, g) => (cE n z false b).map (.gix x g)
        | none => match cE n z false a, cE n z false b with
          | some a, some b => some (.ix a b)
          | _, _ => none) else none
    | .ListComp elt [g] scope _ => match g with
      | ⟨tg, it, ifs, async⟩ => if decide (async = 0) && noSet it && blkC z.N { scope with names := z.names } scope (ownOf z.N scope.names) then (match cI n z false tg it, cG n { z with names := relN scope.names z.names, tn := scope.names } tg, cE n { z with names := relN scope.names z.names, tn := scope.names } true elt with
        | some (k, its), some t, some x => match ifs with
          | [] => some (.lc x t k its none ((ownOf z.N scope.names).map (·.2)))
          | [c] => (cT n { z with names := relN scope.names z.names, tn := scope.names } c).map fun c => .lc x t k its (some c) ((ownOf z.N scope.names).map (·.2))
          | _ => none
        | _, _, _ => none) else none
    | .Call f args [] pos => match f with
      | .Name f _ => if glB z.names f then (match args with
        | .Starred a _ :: b :: es => match z.defs.lookup f with
          | some i => if (b :: es).all nStar then (match cE n z false a, mapO (fun e => cE n z (!isName e) e) (b :: es) with
            | some a, some xs => some (.callS i a xs)
            | _, _ => none) else none
          | none => none
        | _ => if !args.all nStar then none else match z.defs.lookup f with
          | some i => (mapO (fun e => cE n z (!isName e) e) args).map fun xs => .call i xs
          | none => if decide (f = ("isinstance" : Str)) then (match args with
              | [a, .Name t _] => if glB z.names t then (match tyOf t, cE n z false a with
                | some t, some a => some (.isi a t)
                | _, _ => none) else none
              | _ => none)
            else match args with
              | [] => none
              | a :: r => match biOf f with
                | some b => match b, r, a with
                  | .list, [], .Call (.Name g _) [a2] [] _ => if decide (g = ("reversed" : Str)) && glB z.names g && nStar a2 then (cE n z false a2).map .lrev else (mapO (fun e => cE n z (!isName e) e) (a :: r)).map fun xs => .bi b xs
                  | _, _, _ => (mapO (fun e => cE n z (!isName e) e) (a :: r)).map fun xs => .bi b xs
                | none => none) else none
      | .Attribute a m ap => if !(ap.endLine == pos.line) then none else match args with
        | [k, d] => if decide (m = ("get" : Str)) && nCall a && nStar k && nStar d then (match cE n z false a, cE n z false k, cE n z true d with
          | some a, some k, some d => some (.get a k d)
          | _, _, _ => none) else none
        | [] => if decide (m = ("pop" : Str)) then (match a with
          | .Name x _ => if badN x || !visB z.names x then none else (ixS z.N x 0).map .pop
          | _ => none) else none
        | [k] => if decide (m = ("get" : Str)) && nStar k then (match gdOf z a with
          | some (x, g) => (cE n z false k).map (.gget x g)
          | none => none) else none
        | _ => none
      | _ => none
    | _ => none
def cT : Nat → Sc → Expr → Option Ex
  | 0, _, _ => none
  | n + 1, z, e => match e with
    | .UnaryOp .Not a _ => (cT n z a).map .not
    | .Compare a [.In] [b] _ => if !nSet b then none else match gdOf z b, cE n z false a with
      | some (x, g), some a => some (.gin false a x g)
      | none, some a => (cE n z false b).map (.cin false a)
      | _, none => none
    | .Compare a [.NotIn] [b] _ => if !nSet b then none else match gdOf z b, cE n z false a with
      | some (x, g), some a => some (.gin true a x g)
      | none, some a => (cE n z false b).map (.cin true a)
      | _, none => none
    | .Compare a [o] [b] _ => match cmOf o, cE n z false a, cE n z false b with
      | some o, some a, some b => some (.cmp o a b)
      | _, _, _ => none
    | .Compare a [o, p] [b, c] _ => match cmOf o, cmOf p, cE n z false a, cE n z false b, cE n z false c with
      | some o, some p, some a, some b, some c => some (.chn o p a b c)
      | _, _, _, _, _ => none
    | .BoolOp op (a :: rest) pos => match rest with
      | [] => cT n z a
      | b :: r => match cT n z a, cT n z (.BoolOp op (b :: r) pos) with
        | some a, some b => some (match op with | .And => .and a b | .Or => .or a b)
        | _, _ => none
    | e => if plainT e then cE n z false e else none
def cI : Nat → Sc → Bool → Expr → Expr → Option (Ik × List Ex)
  | 0, _, _, _, _ => none
  | n + 1, z, kp, tg, e => match e with
    | .Call (.Name f _) [a] [] _ => if !nStar a then none else if decide (f = ("range" : Str)) && glB z.names f then (cE n z (kp || !isName a) a).map fun x => (.rng, [x])
      else if decide (f = ("enumerate" : Str)) && glB z.names f && isTup tg then (cE n z (kp || !isName a) a).map fun x => (.enu, [x])
      else if decide (f = ("reversed" : Str)) && glB z.names f then (cE n z (kp || !isName a) a).map fun x => (.rev, [x])
      else (cE n z (kp || !isName e) e).map fun x => (.seq, [x])
    | .Call (.Name f _) [a, b] [] _ => if decide (f = ("range" : Str)) && glB z.names f && nStar a && nStar b then (match cE n z (kp || !isName a) a, cE n z (kp || !isName b) b with
        | some x, some y => some (.rng, [x, y])
        | _, _ => none)
      else if decide (f = ("zip" : Str)) && glB z.names f && nStar a && nStar b && isTup tg && !kp then (match cE n z (kp || !isName a) a, cE n z (kp || !isName b) b with
        | some x, some y => some (.zip, [x, y])
        | _, _ => none)
      else (cE n z (kp || !isName e) e).map fun x => (.seq, [x])
    | .Call (.Attribute a m ap) [] [] pos => if decide (m = ("values" : Str)) && nCall a && (ap.endLine == pos.line) then (cE n z (kp || !isName a) a).map fun x => (.vals, [x]) else none
    | e => (cE n z (kp || !isName e) e).map fun x => (.seq, [x])
def cG : Nat → Sc → Expr → Option Tg
  | 0, _, _ => none
  | n + 1, z, e => match e with
    | .Name x _ => if locB z.tn x then (ixS z.N x 0).map .n else none
    | .Tuple es _ _ => if es.all nStar then (mapO (cG n z) es).map .t else none
    | _ => none
end
structure Cg (X : Cx) (C : Cl) (z : Sc) : Prop where
  calm : X.calm = true
  nd : X.N.Nodup
  N : X.N = z.N
  names : X.env.scope.names = z.names
  kind : X.env.scope.kind = .function
  un : X.A.units + 80 < cLine
  gu : X.A.guards = some []
  tn : ∀ x, locB z.tn x = true → L2.Loc X.env.scope x ∧ (X.fn x = true ∨ X.env.scope.names.lookup x = some .local)
  defs : ∀ x i, z.defs.lookup x = some i → ∃ k f fd ps, FnC X C i k f fd ps ∧ Room k X.A ∧ X.mg x = some (.ref f) ∧ PySem.W.keepIn X.K (.ref f) = true ∧ Binds X.K fd ps []
  gi : ∀ x i, z.gi.lookup x = some i → ∃ t, X.mg x = some (.int i t)
  bi : ∀ b, X.mg (biP b).1 = none
  ty : ∀ t, X.mg (Str.ofString (tyP t)) = none
  oth : X.mg ("isinstance" : Str) = none ∧ X.mg ("range" : Str) = none ∧ X.mg ("enumerate" : Str) = none ∧ X.mg ("reversed" : Str) = none ∧ X.mg ("list" : Str) = none ∧ X.mg ("zip" : Str) = none
  gd : ∀ x g, z.gd.lookup x = some g → GdOk X x g
section
variable {X : Cx} {C : Cl} {z : Sc}
theorem Cg.vis (g : Cg X C z) {x : Str} (h : visB z.names x = true) : Vis X.env.scope x := by
  unfold Vis
  rw [g.names]
  unfold visB at h
  split at h <;> first | exact .inl (by assumption) | exact .inr (.inl (by assumption)) | exact .inr (.inr (by assumption)) | cases h
theorem Cg.gl (g : Cg X C z) {x : Str} (h : glB z.names x = true) : Gl X x ∧ (x == ("__debug__" : Str)) = false := by
  unfold Gl Env.kindOf
  rw [g.names]
  unfold glB at h
  split at h
  · rename_i e; exact ⟨e, by simpa using h⟩
  · cases h
theorem Cg.ix (g : Cg X C z) {x : Str} {i : Nat} (h : ixS z.N x 0 = some i) : X.N[i]? = some x := by
  obtain ⟨j, e1, e2⟩ := ixS_ok h
  rw [g.N, e1, Nat.zero_add]; exact e2
theorem bad_ok {x : Str} (h : badN x = false) : (x == ("__debug__" : Str)) = false ∧ (x == ("__classdict__" : Str)) = false := by
  unfold badN at h
  simpa using h
theorem Cg.blk (g : Cg X C z) (scope : Scope) (s : Shared) (H : Hp) (D : Addr) (cl : List (Str × Addr)) (fp : List Addr) (hk : scope.kind = .function) : Cg (X.blk s H scope (compEnvC scope cl D X.env) fp) C { z with names := relN scope.names z.names, tn := scope.names } where
  calm := g.calm
  nd := g.nd
  N := g.N
  names := by
    show (relabel scope X.env).names = _
    unfold relabel relN
    simp only [Env.kindOf, g.names, g.kind]
  kind := hk
  un := g.un
  gu := g.gu
  tn := fun x h => by
    have e : (compEnvC scope cl D X.env).scope.names = scope.names.map fun (n, k) => if (k == NameKind.free && X.env.scope.kind == .function && X.env.scope.names.lookup n == some .cell) then (n, NameKind.cell) else (n, k) := rfl
    unfold L2.Loc
    rw [show (X.blk s H scope (compEnvC scope cl D X.env) fp).env = compEnvC scope cl D X.env from rfl, e]
    unfold locB at h
    split at h
    · rename_i q
      have := lookup_relS_keep (sc := X.env.scope) (by decide) q
      exact ⟨.inl this, .inr this⟩
    · rename_i q
      have := lookup_relS_keep (sc := X.env.scope) (by decide) q
      refine ⟨.inr this, .inl ?_⟩
      show (scope.names.lookup x == some .cell) = true
      rw [q]; rfl
    · cases h
  defs := g.defs
  gi := g.gi
  bi := g.bi
  ty := g.ty
  oth := g.oth
  gd := g.gd
theorem Cg.gdOf (g : Cg X C z) {e : Expr} {x : Str} {t : List (Str × Int)} (h : gdOf z e = some (x, t)) : ∃ p, e = .Name x p ∧ Gl X x ∧ (x == ("__debug__" : Str)) = false ∧ GdOk X x t := by
  unfold _root_.Q.gdOf at h
  split at h
  · rename_i y p
    split at h
    · rename_i hh
      rw [Bool.and_eq_true] at hh
      cases hl : z.gd.lookup y with
      | none => rw [hl] at h; cases h
      | some t' =>
        rw [hl] at h
        cases h
        exact ⟨p, rfl, (g.gl hh.1).1, (g.gl hh.1).2, g.gd _ _ hl⟩
    · cases h
  · cases h
end
end Q
end

section
set_option Elab.async false
set_option linter.all false
set_option maxRecDepth 100000
set_option maxHeartbeats 4000000
namespace Q
open PySem PySem.Spec PyProof.Rows L2
/-! ### the translation is sound -/
structure Snd (n : Nat) : Prop where
  e : ∀ (X : Cx) (C : Cl) (z : Sc), Cg X C z → ∀ (kp : Bool) (e : Expr) (x : Ex), cE n z kp e = some x → PE X e (tE X C x)
  t : ∀ (X : Cx) (C : Cl) (z : Sc), Cg X C z → ∀ (e : Expr) (x : Ex), cT n z e = some x → PT X e (tT X C x) ∧ ∀ op vs pos, e = .BoolOp op vs pos → PW X e (tT X C x)
  i : ∀ (X : Cx) (C : Cl) (z : Sc), Cg X C z → ∀ (kp : Bool) (tg e : Expr) (k : Ik) (its : List Ex), cI n z kp tg e = some (k, its) → PI X tg e (tIc X C k its) ∧ (kp = true → PI X tg e (tIf X C k its))
  g : ∀ (X : Cx) (C : Cl) (z : Sc), Cg X C z → ∀ (e : Expr) (t : Tg), cG n z e = some t → PG X e (gT X.K t)
theorem blkC_names {N : List Str} {sc sc' scope : Scope} {own : List (Str × Nat)} (h : sc.names = sc'.names) : blkC N sc scope own = blkC N sc' scope own := by
  unfold blkC
  rw [h]
theorem blkC_kind {N : List Str} {sc scope : Scope} {own : List (Str × Nat)} (h : blkC N sc scope own = true) : scope.kind = .function := (blkOk_by h).kind
theorem Paired.both {α β : Type} {F : α → β → Prop} {P : α → Bool} : ∀ {l : List α} {m : List β}, Paired F l m → l.all P = true → Paired (fun a b => F a b ∧ P a = true) l m
  | _, _, .nil, _ => .nil
  | _, _, .cons x r, h => by
    rw [List.all_cons, Bool.and_eq_true] at h
    exact .cons ⟨x, h.1⟩ (Paired.both r h.2)
theorem Paired.nempty {α β : Type} {F : α → β → Prop} {a : α} {l : List α} {m : List β} (h : Paired F (a :: l) m) : m ≠ [] := by cases h; simp
section
variable {n : Nat} {X : Cx} {C : Cl} {z : Sc}
theorem snd_prs (S : Snd n) (g : Cg X C z) {kf : Expr → Bool} {es : List Expr} {xs : List Ex} (h : mapO (fun e => cE n z (kf e) e) es = some xs) (hs : es.all nStar = true) : Prs X C es xs :=
  Paired.both (mapO_ok (F := fun e x => PE X e (tE X C x)) (fun e x hx => S.e X C z g _ e x hx) h) hs
/-! targets -/
theorem asgE_tup {X : Cx} : ∀ {es : List Expr}, es.all nStar = true → (assignEach es X.env).length = es.length ∧ (assignEach es X.env).findIdx? (·.1) = none ∧ (assignEach es X.env).map (·.2) = es.map fun e => assign e X.env
  | [], _ => ⟨rfl, rfl, rfl⟩
  | e :: es, h => by
    rw [List.all_cons, Bool.and_eq_true] at h
    obtain ⟨h1, h2, h3⟩ := asgE_tup (X := X) h.2
    have : assignEach (e :: es) X.env = (false, assign e X.env) :: assignEach es X.env := by
      cases e <;> first | rfl | (simp [nStar] at h)
    rw [this]
    refine ⟨by simp [h1], ?_, by simp [h3]⟩
    rw [List.findIdx?_cons]
    simp [h2]
theorem pgs_of : ∀ {es : List Expr} {ts : List Tg}, Paired (fun e t => PG X e (gT X.K t)) es ts → es.all nStar = true → PGs X es (gTs X.K ts)
  | _, _, .nil, _ => pgs_nil
  | e :: es, _, .cons h r, hs => by
    have hs' := hs
    rw [List.all_cons, Bool.and_eq_true] at hs
    have h3 := (asgE_tup (X := X) hs').2.2
    have h4 := (asgE_tup (X := X) hs.2).2.2
    exact pgs_cons h (pgs_of r hs.2) (by rw [h3, h4]; rfl)
theorem pg_or {tg : Expr} {t t' : TG} (h : PG X tg t) (h' : PG X tg t') : PG X tg (fun v σ H Q => t v σ H Q ∨ t' v σ H Q) := ⟨fun pins s σ H v u Q I r q => q.elim (h.run pins s σ H v u Q I r) (h'.run pins s σ H v u Q I r)⟩
theorem snd_g (S : Snd n) (g : Cg X C z) {e : Expr} {t : Tg} (h : cG (n + 1) z e = some t) : PG X e (gT X.K t) := by
  unfold cG at h
  split at h
  · split at h
    · rename_i hl
      cases hi : ixS z.N _ 0 with
      | none => rw [hi] at h; cases h
      | some i =>
        rw [hi] at h; cases h
        obtain ⟨l1, l2⟩ := g.tn _ hl
        exact pg_name g.nd (g.ix hi) l1 l2
    · cases h
  · split at h
    · rename_i es kk pos hs
      cases hm : mapO (cG n z) es with
      | none => rw [hm] at h; cases h
      | some ts =>
        rw [hm] at h; cases h
        have hp := mapO_ok (F := fun e t => PG X e (gT X.K t)) (fun e t he => S.g X C z g e t he) hm
        have hgs := pgs_of hp hs
        have hl : (assignEach es X.env).length = ts.length := by rw [(asgE_tup hs).1]; exact Paired.len hp
        exact pg_or (pg_tup g.calm hgs hl (asgE_tup hs).2.1) (pg_lst g.calm hgs hl (asgE_tup hs).2.1)
    · cases h
  · cases h
/-! what is walked -/
theorem snd_i (S : Snd n) (g : Cg X C z) {kp : Bool} {tg e : Expr} {k : Ik} {its : List Ex} (h : cI (n + 1) z kp tg e = some (k, its)) : PI X tg e (tIc X C k its) ∧ (kp = true → PI X tg e (tIf X C k its)) := by
  have seq : ∀ {b : Bool} {e : Expr}, (cE n z b e).map (fun x => (Ik.seq, [x])) = some (k, its) → PI X tg e (tIc X C k its) ∧ (kp = true → PI X tg e (tIf X C k its)) := fun {b e} h => by
    cases hx : cE n z b e with
    | none => rw [hx] at h; cases h
    | some x => rw [hx] at h; cases h; exact ⟨pc_seq (S.e X C z g _ _ _ hx), fun _ => pf_seq (S.e X C z g _ _ _ hx)⟩
  unfold cI at h
  split at h
  · rename_i f fp a pos
    split at h
    · cases h
    rename_i hs
    have hs : nStar a = true := by simpa using hs
    split at h
    · rename_i hf
      rw [Bool.and_eq_true, decide_eq_true_eq] at hf
      obtain ⟨hf, hg⟩ := hf
      subst hf
      cases hx : cE n z (kp || !isName a) a with
      | none => rw [hx] at h; cases h
      | some x => rw [hx] at h; cases h; exact ⟨pc_rng1 (g.gl hg).1 g.oth.2.1 (S.e X C z g _ _ _ hx) hs, fun _ => pf_rng1 (g.gl hg).1 g.oth.2.1 (S.e X C z g _ _ _ hx) hs⟩
    · split at h
      · rename_i hf
        simp only [Bool.and_eq_true, decide_eq_true_eq] at hf
        obtain ⟨⟨hf, hg⟩, ht⟩ := hf
        subst hf
        cases tg <;> simp only [isTup, Bool.false_eq_true] at ht
        cases hx : cE n z (kp || !isName a) a with
        | none => rw [hx] at h; cases h
        | some x => rw [hx] at h; cases h; exact ⟨pc_enu (g.gl hg).1 g.oth.2.2.1 (S.e X C z g _ _ _ hx) hs, fun _ => pf_enu (g.gl hg).1 g.oth.2.2.1 (S.e X C z g _ _ _ hx) hs⟩
      · split at h
        · rename_i hf
          rw [Bool.and_eq_true, decide_eq_true_eq] at hf
          obtain ⟨hf, hg⟩ := hf
          subst hf
          cases hx : cE n z (kp || !isName a) a with
          | none => rw [hx] at h; cases h
          | some x => rw [hx] at h; cases h; exact ⟨pc_rev (g.gl hg).1 g.oth.2.2.2.1 (S.e X C z g _ _ _ hx) hs, fun _ => pf_rev (g.gl hg).1 g.oth.2.2.2.1 (S.e X C z g _ _ _ hx) hs⟩
        · exact seq h
  · rename_i f fp a b pos
    split at h
    · rename_i hf
      simp only [Bool.and_eq_true, decide_eq_true_eq] at hf
      obtain ⟨⟨⟨hf, hg⟩, ha⟩, hb⟩ := hf
      subst hf
      split at h
      · rename_i x y hx hy
        cases h
        exact ⟨pc_rng2 (g.gl hg).1 g.oth.2.1 (S.e X C z g _ _ _ hx) ha (S.e X C z g _ _ _ hy) hb, fun _ => pf_rng2 (g.gl hg).1 g.oth.2.1 (S.e X C z g _ _ _ hx) ha (S.e X C z g _ _ _ hy) hb⟩
      · cases h
    · split at h
      · rename_i hf
        simp only [Bool.and_eq_true, decide_eq_true_eq, Bool.not_eq_true'] at hf
        obtain ⟨⟨⟨⟨⟨hf, hg⟩, ha⟩, hb⟩, ht⟩, hk⟩ := hf
        subst hf
        subst hk
        cases tg <;> simp only [isTup, Bool.false_eq_true] at ht
        split at h
        · rename_i x y hx hy
          cases h
          exact ⟨pc_zip (g.gl hg).1 g.oth.2.2.2.2.2 (S.e X C z g _ _ _ hx) ha (S.e X C z g _ _ _ hy) hb, fun z => (by cases z)⟩
        · cases h
      · exact seq h
  · rename_i a m ap pos
    split at h
    · rename_i hf
      simp only [Bool.and_eq_true, decide_eq_true_eq] at hf
      obtain ⟨⟨hf, hc⟩, hl⟩ := hf
      subst hf
      cases hx : cE n z (kp || !isName a) a with
      | none => rw [hx] at h; cases h
      | some x => rw [hx] at h; cases h; exact ⟨pc_vals (S.e X C z g _ _ _ hx) (base_of hc _ _) hl, fun _ => pf_vals (S.e X C z g _ _ _ hx) (base_of hc _ _) hl⟩
    · cases h
  · exact seq h
/-! tests -/
theorem snd_t (S : Snd n) (g : Cg X C z) {e : Expr} {x : Ex} (h : cT (n + 1) z e = some x) : PT X e (tT X C x) ∧ ∀ op vs pos, e = .BoolOp op vs pos → PW X e (tT X C x) := by
  have un64 : X.A.units + 64 < cLine := Nat.lt_of_le_of_lt (by omega) g.un
  unfold cT at h
  split at h
  · rename_i a pos
    cases hx : cT n z a with
    | none => rw [hx] at h; cases h
    | some x => rw [hx] at h; cases h; exact ⟨r_notT (S.t X C z g _ _ hx).1, fun _ _ _ e => nomatch e⟩
  · -- in
    rename_i a b pos
    split at h
    · cases h
    rename_i hs
    rw [Bool.not_eq_true, Bool.not_eq_false'] at hs
    split at h
    · rename_i x t xa hg ha
      cases h
      obtain ⟨p, rfl, g1, g2, g3⟩ := g.gdOf hg
      exact ⟨r_ginT false g1 g2 g3 (S.e X C z g _ _ _ ha), fun _ _ _ e => nomatch e⟩
    · rename_i xa hg ha
      cases hb : cE n z false b with
      | none => rw [hb] at h; cases h
      | some y => rw [hb] at h; cases h; exact ⟨r_cinT (Nat.lt_of_le_of_lt (by omega) g.un) false hs (S.e X C z g _ _ _ ha) (S.e X C z g _ _ _ hb), fun _ _ _ e => nomatch e⟩
    · cases h
  · -- not in
    rename_i a b pos
    split at h
    · cases h
    rename_i hs
    rw [Bool.not_eq_true, Bool.not_eq_false'] at hs
    split at h
    · rename_i x t xa hg ha
      cases h
      obtain ⟨p, rfl, g1, g2, g3⟩ := g.gdOf hg
      exact ⟨r_ginT true g1 g2 g3 (S.e X C z g _ _ _ ha), fun _ _ _ e => nomatch e⟩
    · rename_i xa hg ha
      cases hb : cE n z false b with
      | none => rw [hb] at h; cases h
      | some y => rw [hb] at h; cases h; exact ⟨r_cinT (Nat.lt_of_le_of_lt (by omega) g.un) true hs (S.e X C z g _ _ _ ha) (S.e X C z g _ _ _ hb), fun _ _ _ e => nomatch e⟩
    · cases h
  · rename_i a o b pos
    split at h
    · rename_i o' x y ho hx hy
      cases h
      rw [cmOf_ok ho]
      exact ⟨r_cmpT un64 _ (S.e X C z g _ _ _ hx) (S.e X C z g _ _ _ hy), fun _ _ _ e => nomatch e⟩
    · cases h
  · rename_i a o p b c pos
    split at h
    · rename_i o' p' x y w ho hp hx hy hw
      cases h
      rw [cmOf_ok ho, cmOf_ok hp]
      exact ⟨r_chnT un64 _ _ (S.e X C z g _ _ _ hx) (S.e X C z g _ _ _ hy) (S.e X C z g _ _ _ hw), fun _ _ _ e => nomatch e⟩
    · cases h
  · rename_i op a rest pos
    have key : PW X (.BoolOp op (a :: rest) pos) (tT X C x) := by
      split at h
      · have := r_oneT (pos := pos) (S.t X C z g _ _ h).1
        cases op
        · exact this.1
        · exact this.2
      · rename_i b r
        split at h
        · rename_i xa xb ha hb
          cases h
          cases op
          · exact r_andT (S.t X C z g _ _ ha).1 ((S.t X C z g _ _ hb).2 _ _ _ rfl)
          · exact r_orT (S.t X C z g _ _ ha).1 ((S.t X C z g _ _ hb).2 _ _ _ rfl)
        · cases h
    exact ⟨key.pt, fun _ _ _ e => key⟩
  · split at h
    · rename_i hp
      refine ⟨r_tru (S.e X C z g _ _ _ h) (plainT_ok hp _), fun _ _ _ e => ?_⟩
      subst e
      simp [plainT] at hp
    · cases h
end
end Q
end

section
set_option Elab.async false
set_option linter.all false
set_option maxRecDepth 100000
set_option maxHeartbeats 4000000
namespace Q
open PySem PySem.Spec PyProof.Rows L2
section
variable {n : Nat} {X : Cx} {C : Cl} {z : Sc}
theorem lim_th {k : Nat} (h : k ≤ 1000) : k ≤ lim := by unfold lim; omega
theorem opt_map {α β : Type} {f : α → β} {o : Option α} {b : β} (h : o.map f = some b) : ∃ a, o = some a ∧ f a = b := by
  cases o with
  | none => cases h
  | some a => cases h; exact ⟨a, rfl, rfl⟩
theorem zip_pairs {es : List (Option Expr)} {vs : List Expr} : ∀ {kx vx : List Ex}, Paired (fun (e : Option Expr) (x : Ex) => ∃ k, e = some k ∧ PE X k (tE X C x)) es kx → Paired (fun e x => PE X e (tE X C x)) vs vx → kx.length = vx.length →
    Paired (fun (e : Option Expr) (x : Ex × Ex) => ∃ k, e = some k ∧ PE X k (tE X C x.1)) es (kx.zip vx) ∧ Paired (fun e (x : Ex × Ex) => PE X e (tE X C x.2)) vs (kx.zip vx) := by
  intro kx
  induction kx generalizing es vs with
  | nil => intro vx h1 h2 hl; cases vx with
    | nil => cases h1; cases h2; exact ⟨.nil, .nil⟩
    | cons _ _ => simp at hl
  | cons k kx ih => intro vx h1 h2 hl; cases vx with
    | nil => simp at hl
    | cons v vx =>
      cases h1 with
      | cons a b =>
        cases h2 with
        | cons c d =>
          obtain ⟨p, q⟩ := ih b d (by simpa using hl)
          exact ⟨.cons a p, .cons c q⟩
theorem snd_e (S : Snd n) (g : Cg X C z) {kp : Bool} {e : Expr} {x : Ex} (h : cE (n + 1) z kp e = some x) : PE X e (tE X C x) := by
  have un1 : X.A.units + 1 < cLine := Nat.lt_of_le_of_lt (by omega) g.un
  have un64 : X.A.units + 64 < cLine := Nat.lt_of_le_of_lt (by omega) g.un
  unfold cE at h
  split at h
  · -- constants
    split at h <;> cases h
    · exact r_non
    · exact r_bl
    · exact r_int
    · exact r_str
  · -- names
    split at h
    · cases h
    rename_i hb
    obtain ⟨b1, b2⟩ := bad_ok (by simpa using hb)
    split at h
    · rename_i i hi
      split at h
      · rename_i hv
        cases h
        split
        · exact r_fz (g.ix hi) (g.vis hv) b1 b2
        · exact r_v (g.ix hi) (g.vis hv) b1 b2
      · cases h
    · split at h
      · rename_i hg
        obtain ⟨i, hi, rfl⟩ := opt_map h
        obtain ⟨t, ht⟩ := g.gi _ _ hi
        exact r_glob (g.gl hg).1 ht b1
      · cases h
  · -- [..] * n
    split at h
    · rename_i a b ha hb
      cases h
      exact r_rep (S.e X C z g _ _ _ ha) (S.e X C z g _ _ _ hb)
    · cases h
  · split at h
    · rename_i o a b ho ha hb
      cases h
      rw [opOf_ok ho]
      exact r_bin _ (S.e X C z g _ _ _ ha) (S.e X C z g _ _ _ hb)
    · cases h
  · obtain ⟨a, ha, rfl⟩ := opt_map h
    exact r_neg (S.e X C z g _ _ _ ha)
  · obtain ⟨a, ha, rfl⟩ := opt_map h
    exact r_not (S.e X C z g _ _ _ ha)
  · -- in
    rename_i a b pos
    split at h
    · cases h
    rename_i hs
    rw [Bool.not_eq_true, Bool.not_eq_false'] at hs
    split at h
    · rename_i x t xa hg ha
      cases h
      obtain ⟨p, rfl, g1, g2, g3⟩ := g.gdOf hg
      exact r_gin false g1 g2 g3 (S.e X C z g _ _ _ ha)
    · rename_i xa hg ha
      obtain ⟨y, hb, rfl⟩ := opt_map h
      exact r_cin (Nat.lt_of_le_of_lt (by omega) g.un) false hs (S.e X C z g _ _ _ ha) (S.e X C z g _ _ _ hb)
    · cases h
  · -- not in
    rename_i a b pos
    split at h
    · cases h
    rename_i hs
    rw [Bool.not_eq_true, Bool.not_eq_false'] at hs
    split at h
    · rename_i x t xa hg ha
      cases h
      obtain ⟨p, rfl, g1, g2, g3⟩ := g.gdOf hg
      exact r_gin true g1 g2 g3 (S.e X C z g _ _ _ ha)
    · rename_i xa hg ha
      obtain ⟨y, hb, rfl⟩ := opt_map h
      exact r_cin (Nat.lt_of_le_of_lt (by omega) g.un) true hs (S.e X C z g _ _ _ ha) (S.e X C z g _ _ _ hb)
    · cases h
  · split at h
    · rename_i o a b ho ha hb
      cases h
      rw [cmOf_ok ho]
      exact r_cmp un64 _ (S.e X C z g _ _ _ ha) (S.e X C z g _ _ _ hb)
    · cases h
  · split at h
    · rename_i o p a b c ho hp ha hb hc
      cases h
      rw [cmOf_ok ho, cmOf_ok hp]
      exact r_chn un64 _ _ (S.e X C z g _ _ _ ha) (S.e X C z g _ _ _ hb) (S.e X C z g _ _ _ hc)
    · cases h
  · -- and, or
    rename_i op a rest pos
    split at h
    · exact r_one (S.e X C z g _ _ _ h)
    · rename_i b r
      split at h
      · rename_i xa xb ha hb
        cases h
        cases op
        · exact r_and (S.e X C z g _ _ _ ha) (S.e X C z g _ _ _ hb)
        · exact r_or (S.e X C z g _ _ _ ha) (S.e X C z g _ _ _ hb)
      · cases h
  · split at h
    · rename_i c a b hc ha hb
      cases h
      exact r_ite (S.t X C z g _ _ hc).1 (S.e X C z g _ _ _ ha) (S.e X C z g _ _ _ hb)
    · cases h
  · split at h
    · rename_i hs
      rw [Bool.and_eq_true, decide_eq_true_eq] at hs
      obtain ⟨xs, hx, rfl⟩ := opt_map h
      have hp := snd_prs (kf := fun _ => true) S g hx hs.2
      exact r_tup (lim_th (by rw [← Paired.len hp]; exact hs.1)) hp
    · cases h
  · split at h
    · rename_i hs
      rw [Bool.and_eq_true, decide_eq_true_eq] at hs
      obtain ⟨xs, hx, rfl⟩ := opt_map h
      have hp := snd_prs (kf := fun _ => true) S g hx hs.2
      exact r_lst (lim_th (by rw [← Paired.len hp]; exact hs.1)) hp
    · cases h
  · -- dicts
    split at h
    · split at h
      · cases h; exact r_dct0
      · cases h
    · rename_i k kr
      split at h
      · rename_i hl
        rw [Bool.and_eq_true, decide_eq_true_eq, decide_eq_true_eq] at hl
        split at h
        · rename_i kx vx hk hv
          cases h
          have p1 := mapO_ok (F := fun (e : Option Expr) (x : Ex) => ∃ k, e = some k ∧ PE X k (tE X C x)) (fun o x ho => by
            cases o with
            | none => cases ho
            | some k => exact ⟨k, rfl, S.e X C z g _ _ _ ho⟩) hk
          have p2 := mapO_ok (F := fun e x => PE X e (tE X C x)) (fun e x he => S.e X C z g _ _ _ he) hv
          obtain ⟨q1, q2⟩ := zip_pairs p1 p2 (by rw [← Paired.len p1, ← Paired.len p2]; exact hl.2)
          exact r_dct q1 q2 (by simp) hl.1
        · cases h
      · cases h
  · split at h
    · -- slices
      split at h
      · rename_i xa xl xh ha hl hh
        cases h
        have po : ∀ {o : Option Expr} {x : Option Ex}, cO (cE n z false) o = some x → PoR X C o x := fun {o x} h => by
          cases o with
          | none => cases h; exact .no
          | some e =>
            obtain ⟨y, hy, rfl⟩ := opt_map h
            exact .yes (S.e X C z g _ _ _ hy)
        exact r_sl (S.e X C z g _ _ _ ha) (po hl) (po hh)
      · cases h
    · split at h
      · rename_i hs
        split at h
        · rename_i x t hg
          obtain ⟨y, hb, rfl⟩ := opt_map h
          obtain ⟨p, rfl, g1, g2, g3⟩ := g.gdOf hg
          exact r_gix g1 g2 g3 hs (S.e X C z g _ _ _ hb)
        · split at h
          · rename_i xa xb ha hb
            cases h
            exact r_ix un1 hs (S.e X C z g _ _ _ ha) (S.e X C z g _ _ _ hb)
          · cases h
      · cases h
  · -- comprehensions
    rename_i elt gn scope pos
    obtain ⟨tg, it, ifs, async⟩ := gn
    simp only at h
    split at h
    · rename_i hc
      simp only [Bool.and_eq_true, decide_eq_true_eq] at hc
      obtain ⟨⟨ha, hset⟩, hblk⟩ := hc
      subst ha
      rw [blkC_names (sc' := X.env.scope) g.names.symm, ← g.N] at hblk
      have ok := blkOk_by hblk
      have gb := fun s H D cl fp => g.blk scope s H D cl fp ok.kind
      rw [g.N] at ok
      split at h
      · rename_i k its t x hi ht hx
        have hio : PI X tg it (tIc X C k its) := (S.i X C z g _ _ _ _ _ hi).1
        split at h
        · cases h
          refine r_lc g.calm g.nd hio (by rw [g.N]; exact ok) (fun s H D cl fp => S.g _ C _ (gb s H D cl fp) _ _ ht) (fun s H D cl fp => pts_nil) (fun s H D cl fp => S.e _ C _ (gb s H D cl fp) _ _ _ hx) (noSet_ok hset X.env)
        · obtain ⟨c, hc, rfl⟩ := opt_map h
          refine r_lc g.calm g.nd hio (by rw [g.N]; exact ok) (fun s H D cl fp => S.g _ C _ (gb s H D cl fp) _ _ ht) (fun s H D cl fp => pts_one (S.t _ C _ (gb s H D cl fp) _ _ hc).1) (fun s H D cl fp => S.e _ C _ (gb s H D cl fp) _ _ _ hx) (noSet_ok hset X.env)
        · cases h
      · cases h
    · cases h
  · -- calls
    split at h
    · rename_i f p
      split at h
      · rename_i hgl
        obtain ⟨hG, hd⟩ := g.gl hgl
        split at h
        · -- *a, ..
          rename_i a q b es
          split at h
          · rename_i i hi
            split at h
            · rename_i hst
              split at h
              · rename_i xa xs ha hxs
                cases h
                obtain ⟨k, fa, fd, ps, F, hr, hm, hk, hb⟩ := g.defs _ _ hi
                have hp := snd_prs (kf := fun e => !isName e) S g hxs hst
                exact r_callS F g.gu hr hG hm hk hb hd (S.e X C z g _ _ _ ha) (Paired.nempty hp) hp
              · cases h
            · cases h
          · cases h
        · split at h
          · cases h
          rename_i hst
          have hst := by simpa using hst
          split at h
          · rename_i i hi
            obtain ⟨xs, hx, rfl⟩ := opt_map h
            obtain ⟨k, fa, fd, ps, F, hr, hm, hk, hb⟩ := g.defs _ _ hi
            exact r_call F g.gu hr hG hm hk hb hd (snd_prs (kf := fun e => !isName e) S g hx (by simpa using hst))
          · split at h
            · rename_i hf
              rw [decide_eq_true_eq] at hf
              subst hf
              split at h
              · rename_i a t tp
                split at h
                · rename_i hg2
                  split at h
                  · rename_i ty xa hty ha
                    cases h
                    have e := tyOf_ok hty
                    subst e
                    exact r_isi _ hG g.oth.1 (g.gl hg2).1 (g.ty _) (by simp at hst; exact hst.1) (S.e X C z g _ _ _ ha)
                  · cases h
                · cases h
              · cases h
            · split at h
              · cases h
              · rename_i a r _ _
                split at h
                · rename_i b hbi
                  have e := biOf_ok hbi
                  have gen : ∀ {h' : List Ex} {pos : Pos}, mapO (fun e => cE n z (!isName e) e) (a :: r) = some h' → PE X (.Call (.Name f p) (a :: r) [] pos) (tE X C (.bi b h')) := fun {h' pos} hx => by
                    have hp := snd_prs (kf := fun e => !isName e) S g hx (by simpa using hst)
                    subst e
                    exact r_bi g.calm g.gu un64 b hG (g.bi b) (Paired.nempty hp) hp
                  split at h
                  · rename_i gg gp a2 pos2
                    split at h
                    · rename_i hh
                      simp only [Bool.and_eq_true, decide_eq_true_eq] at hh
                      obtain ⟨⟨h1, h2⟩, h3⟩ := hh
                      obtain ⟨xa, ha, rfl⟩ := opt_map h
                      subst h1
                      subst e
                      exact r_lrev g.calm hG g.oth.2.2.2.2.1 (g.gl h2).1 g.oth.2.2.2.1 h3 (S.e X C z g _ _ _ ha)
                    · obtain ⟨xs, hx, rfl⟩ := opt_map h
                      exact gen hx
                  · obtain ⟨xs, hx, rfl⟩ := opt_map h
                    exact gen hx
                · cases h
      · cases h
    · -- methods
      rename_i a m ap
      split at h
      · cases h
      rename_i hl
      rw [Bool.not_eq_true, Bool.not_eq_false'] at hl
      split at h
      · rename_i k d
        split at h
        · rename_i hh
          simp only [Bool.and_eq_true, decide_eq_true_eq] at hh
          obtain ⟨⟨⟨h1, h2⟩, h3⟩, h4⟩ := hh
          subst h1
          split at h
          · rename_i xa xk xd ha hk hd
            cases h
            exact r_get un1 h2 h3 h4 hl (S.e X C z g _ _ _ ha) (S.e X C z g _ _ _ hk) (S.e X C z g _ _ _ hd)
          · cases h
        · cases h
      · split at h
        · rename_i h1
          rw [decide_eq_true_eq] at h1
          subst h1
          split at h
          · rename_i x xp
            split at h
            · cases h
            · rename_i hb
              simp only [Bool.or_eq_true, Bool.not_eq_true', not_or, Bool.not_eq_true, Bool.not_eq_false] at hb
              obtain ⟨i, hi, rfl⟩ := opt_map h
              obtain ⟨b1, b2⟩ := bad_ok hb.1
              exact r_pop (g.ix hi) (g.vis hb.2) b1 b2 hl
          · cases h
        · cases h
      · split at h
        · rename_i hh
          simp only [Bool.and_eq_true, decide_eq_true_eq] at hh
          obtain ⟨h1, h2⟩ := hh
          subst h1
          split at h
          · rename_i x t hg
            obtain ⟨y, hb, rfl⟩ := opt_map h
            obtain ⟨p, rfl, g1, g2, g3⟩ := g.gdOf hg
            exact r_gget g1 g2 g3 h2 hl (S.e X C z g _ _ _ hb)
          · cases h
        · cases h
      · cases h
    · cases h
  · cases h
end
theorem snd_all : ∀ n, Snd n
  | 0 => ⟨fun _ _ _ _ _ _ _ h => (by cases h), fun _ _ _ _ _ _ h => (by cases h), fun _ _ _ _ _ _ _ _ _ h => (by cases h), fun _ _ _ _ _ _ h => (by cases h)⟩
  | n + 1 => ⟨fun X C z g _ _ _ h => snd_e (snd_all n) g h, fun X C z g _ _ h => snd_t (snd_all n) g h, fun X C z g _ _ _ _ _ h => snd_i (snd_all n) g h, fun X C z g _ _ h => snd_g (snd_all n) g h⟩
end Q
end

section
set_option Elab.async false
set_option linter.all false
set_option maxRecDepth 100000
set_option maxHeartbeats 4000000
namespace Q
open PySem PySem.Spec PyProof.Rows L2 L2H
/-! ### a def that looks at the exception that is handled -/
structure FnP (P : Program) (w : World) (K : PySem.W.Frag) (mg : Str → Option Value) (base : Heap) (cx : CXT) (k : Nat) (f : Addr) (fd : FuncData) (ps : List Str) (sp : Addr × Obj → Sp) : Prop where
  len : ∀ p vs H Q E, sp p vs H Q E → vs.length = ps.length
  run : ∀ (A : Around) (fr : List Env) (s : Shared) (H : Hp) (ar : Args) (us : List Value) (vs : List V) (Q : VK) (E : XK) (p : Addr × Obj), RoomH k A → Hot1 A p → PinOk fr H s p → Env0 P w K mg base A fr s H → BindsTo s fd ar (ps.zip us) → Vals vs us → sp p vs H Q E →
    codeAny (model P w) A (.call (.ref f) ar) (CR cx fr P w H s Q E) s
section
variable {P : Program} {w : World} {K : PySem.W.Frag} {mg : Str → Option Value} {base : Heap} {cx : CXT} {k : Nat} {f : Addr} {fd : FuncData} {ps N : List Str} {sp : Addr × Obj → Sp} {x qual : Str} {params : Arguments} {body : List Stmt} {scope : Scope} {dvs : List V} {kws : List (Str × V)}
theorem FnP.of (F : FunD K x qual params body scope dvs kws f fd) (S : FnScope N ps scope) (len : ∀ p vs H Q E, sp p vs H Q E → vs.length = ps.length)
    (hb : ∀ (cv : Value) (A : Around) (fr : List Env) (s : Shared) (H : Hp) (vs : List V) (Q : VK) (E : XK) (p : Addr × Obj), Hot1 A p → RoomH k (A.deeper (envOfC qual scope s.heap.objs.size f cv)) → sp p vs H Q E →
      ∃ t, PSs (cxH cx P w K mg base N qual scope f cv A fr s H E p) body t ∧ t { nx := fun _ H' => Q .non H', rt := Q } (L2.start N vs) H) : FnP P w K mg base cx (k + 1) f fd ps sp := by
  obtain ⟨oc, od, dV, kV, doc, pm, an, cv, ct, osl, rfl, lk, hc, _, _⟩ := F.ex
  refine ⟨len, fun A fr s H ar us vs Q E p hr hot pin e0 bi rv h => ?_⟩
  have hlen := len _ _ _ _ _ h
  have kin : K.In s.heap := e0.mod.kin.keeps fun b o e => (e0.bs b o e).1
  have nol : s.heap.NoLimit := e0.mod.nolimit.keeps fun b o e => (e0.bs b o e).1
  have kinds : ∀ y ∈ ps.zip us, scope.names.lookup y.1 = some .local ∨ (scope.names.lookup y.1 = some .cell ∧ ((cellsFrom (s.heap.objs.size + 1) scope.names []).lookup y.1).isSome = true) := by
    rintro ⟨n, v⟩ hy
    exact (S.par n (List.of_mem_zip hy).1).imp id fun q => ⟨q, PySem.W.cellsFrom_some _ _ _ (.inl q)⟩
  refine codeAny_call_function hr.depth (kin _ _ lk) rfl S.co S.gen rfl (PySem.W.codeRec_of kin hc) (bi _ _ _ _ (wpAny_newFunctionEnv_cells S.kind kinds fun env he s1 inc => ?_))
  subst he
  refine ⟨nol.keeps inc.toInCall.keep, codeAny_func ?_⟩
  obtain ⟨t, pt, tq⟩ := hb cv A fr s H vs Q E p hot (hr.deeper _) h
  have I0 : Inv (cxH cx P w K mg base N qual scope f cv A fr s H E p) [] (L2.start N vs) H s1 := inv_startH S pin e0 hlen rv inc
  refine wpAny_mono (pt.run [] s1 (L2.start N vs) H _ I0 tq) (fun fl s2 q => ?_) fun _ _ z => z
  have done : ∀ {σ2 : L2.St} {H2 : Hp} {v2 : V} {u2 : Value}, Inv (cxH cx P w K mg base N qual scope f cv A fr s H E p) [] σ2 H2 s2 → RelV v2 u2 → Q v2 H2 → CE fr P w H s Q u2 s2 :=
    fun {_ H2 v2 _} J r2 q2 => ⟨v2, H2, J.os, J.bare, J.base, J.hok, r2, q2⟩
  match fl, q with
  | .ret u2, q => obtain ⟨v2, σ2, H2, J, r2, q2⟩ := q; exact done J r2 q2
  | .next, q => obtain ⟨σ2, H2, J, q2⟩ := q; exact done (v2 := V.non) (u2 := Value.none) J rfl q2
  | .brk, q => obtain ⟨_, _, _, z⟩ := q; exact z.elim
  | .cont, q => obtain ⟨_, _, _, z⟩ := q; exact z.elim
end
section
variable {X : Cx} {cx : CXT} {k : Nat} {f : Addr} {fd : FuncData} {ps : List Str} {sp : Addr × Obj → Sp} {n : Str} {p pos : Pos} {e : Expr} {es : List Expr} {t : TA} {pr : Addr × Obj}
theorem pe_callP (F : FnP X.prog X.w X.K X.mg X.base cx k f fd ps sp) (hr : RoomH k X.A) (hot : Hot1 X.A pr) (hp : pr ∈ X.pn) (hg : Gl X n) (hm : X.mg n = some (.ref f)) (hk : PySem.W.keepIn X.K (.ref f) = true) (hb : Binds X.K fd ps []) (hx : ∀ σ, PassesAt cx X σ E0)
    (ha : PA X (e :: es) t) (hd : (n == ("__debug__" : Str)) = false) (he : starEach (e :: es) X.env = (false, eval e X.env) :: starEach es X.env) (hpl : (backTo pos (starEach es X.env)).any (·.1) = false) :
    PE X (.Call (.Name n p) (e :: es) [] pos) (fun σ H Q => t σ H fun vs H1 => sp pr vs H1 Q E0) := by
  refine ⟨fun pins s σ H Q I h => wpAny_Call_Name_kw (ld_glob I hg hm (PySem.W.callWith_K (h₀ := X.base) I.ok.mod.kin hk (thn (ha.run pos pins s σ H _ I h) fun us s1 ⟨vs, H1, I1, rv, q⟩ => ⟨I1.kIn, ?_⟩) he hpl) hd)⟩
  have hlen : us.length = ps.length := by rw [← rv.length]; exact F.len _ _ _ _ _ q
  have bi := hb s1 us I1.kIn (by rw [List.append_nil]; exact hlen)
  rw [List.append_nil] at bi
  obtain ⟨g1, g2, g3, g4, g5⟩ := I1.pin pr (List.mem_append_left _ hp)
  have pin : PinOk X.stack H1 s1 pr := ⟨g1, g2, fun hm => by
    rcases List.mem_cons.mp (I1.stkSub pr.1 hm) with z | z
    · exact g3 z
    · exact g4 z, g5⟩
  refine wpAny_call (codeAny_mono (F.run X.A X.stack s1 H1 ⟨us, []⟩ us vs Q E0 pr hr hot pin I1.env0 bi rv q) fun r s2 q => ?_)
  match r, q with
  | .error u, q => exact hx σ pins H1 s1 u s2 I1 q
  | .ok (.ret u), q => exact I1.after q
  | .ok .next, q => exact q.elim
  | .ok .brk, q => exact q.elim
  | .ok .cont, q => exact q.elim
end
/-! ### isinstance of it -/
theorem call_isP {X : Cx} {a D : Addr} {oe : Obj} (C : ExcC X.K D) (hz : Zc (.ref D) none oe) (hf : ∃ vs, oe.data = .fields vs) (hp : (a, oe) ∈ X.pn) : CallR X (.builtin "isinstance") (rIsE X.K D a) := by
  intro pins s σ H xs us Q I r h
  obtain ⟨c, cv, b, rfl, hcv, e, q⟩ := h
  obtain ⟨u1, us1, rfl, r1, r2⟩ : ∃ u1 us1, us = u1 :: us1 ∧ RelV (.ref a) u1 ∧ Vals [c] us1 := by cases r with | cons r1 r2 => exact ⟨_, _, rfl, r1, r2⟩
  obtain ⟨u2, rfl, r3⟩ := vals1 r2
  cases r1
  have ec := hcv _ r3
  subst ec
  have hget := (I.pin (a, oe) (List.mem_append_left _ hp)).1
  obtain ⟨vs, hv⟩ := hf
  have J : PySem.W.InstAt s.heap a oe D none := by
    cases oe with
    | mk oc od oda osl =>
      obtain ⟨h1, h2⟩ := hz
      dsimp only at h1 h2 hv
      subst h1 h2 hv
      exact ⟨hget, rfl, rfl, trivial⟩
  exact PySem.W.kia_one (PySem.W.handS_kitx_exc C.hg C.hk C.hs C.hd C.ha C.hn C.ht C.hm) I.kIn J e (fun z => nomatch z) fun tk => ⟨.bl b, H, I.kept (t' := tk) fun _ _ z => z, rfl, q⟩
/-- what an exception of the class D is, as the list C, .. asks -/
def IsR (K : PySem.W.Frag) (mg : Str → Option Value) (D : Addr) : List Str → List Bool → Prop
  | [], [] => True
  | n :: ns, b :: bs => (∃ C, mg n = some (.ref C) ∧ PySem.W.kitOne K (.ref D) (.ref C) = some b) ∧ IsR K mg D ns bs
  | _, _ => False
/-- isinstance(e, C), .. -/
def flE (ns : List (Str × NameKind)) (y : Str) : List Expr → Option (List Str)
  | [] => some []
  | .Call (.Name i _) [.Name e _, .Name c _] [] _ :: r => if decide (i = ("isinstance" : Str)) && glB ns i && decide (e = y) && glB ns c then (flE ns y r).map (c :: ·) else none
  | _ => none
theorem fl_pa {X : Cx} {a D : Addr} {oe : Obj} {y : Str} (C : ExcC X.K D) (hz : Zc (.ref D) none oe) (hf : ∃ vs, oe.data = .fields vs) (hp : (a, oe) ∈ X.pn) (hi : X.mg ("isinstance" : Str) = none) (hy : X.N[0]? = some y) (hv : Vis X.env.scope y) (hb : badN y = false)
    (gl : ∀ x, glB X.env.scope.names x = true → Gl X x ∧ (x == ("__debug__" : Str)) = false) : ∀ {es : List Expr} {ns : List Str} {bs : List Bool}, flE X.env.scope.names y es = some ns → IsR X.K X.mg D ns bs → PA X es (fun σ H Q => σ[0]? = some (some (.ref a)) ∧ Q (bs.map V.bl) H)
  | [], ns, bs, h, r => by
    cases h
    cases bs with
    | cons _ _ => exact r.elim
    | nil => exact ⟨fun pos pins s σ H Q I h => pa_nil.run pos pins s σ H Q I h.2⟩
  | e :: es, ns, bs, h, r => by
    unfold flE at h
    split at h
    · cases h; rename_i q; cases q
    · rename_i i pi e1 pe c pc pos r' q
      cases q
      split at h
      · rename_i hh
        simp only [Bool.and_eq_true, decide_eq_true_eq] at hh
        obtain ⟨⟨⟨h1, h2⟩, h3⟩, h4⟩ := hh
        subst h1
        subst h3
        cases hr : flE X.env.scope.names e1 es with
        | none => rw [hr] at h; cases h
        | some ns' =>
          rw [hr] at h
          cases h
          cases bs with
          | nil => exact r.elim
          | cons b bs =>
            obtain ⟨⟨C', hm, hk⟩, r⟩ := r
            have ih := fl_pa C hz hf hp hi hy hv hb gl hr r
            have hbb : (e1 == ("__debug__" : Str)) = false ∧ (e1 == ("__classdict__" : Str)) = false := by
              unfold badN at hb
              simpa using hb
            have he : PE X (.Call (.Name "isinstance" pi) [.Name e1 pe, .Name c pc] [] pos) (tCB (rIsE X.K D a) (tCons (tVar 0) (tCons (L2.tC (V.ref C')) tNil))) :=
              pe_callB (call_isP C hz hf hp) (gl _ h2).1 hi PyProof.Rows.boot_isinstance (pa_cons (pe_var hy hv hbb.1 hbb.2) (pa_cons (pe_glob (v := .ref C') (gl _ h4).1 hm rfl (gl _ h4).2) pa_nil rfl) rfl) (by decide) (by decide) rfl rfl
            exact ⟨fun pos pins s σ H Q I h => (pa_cons he ih rfl).run pos pins s σ H Q I ⟨_, h.1, V.ref C', Value.ref C', b, rfl, fun u e => e, hk, h.1, h.2⟩⟩
      · cases h
    · cases h
end Q
end

section
set_option Elab.async false
set_option linter.all false
set_option maxRecDepth 100000
set_option maxHeartbeats 4000000
namespace Q
open PySem PySem.Spec PyProof.Rows L2 L2H
/-- what the def that looks at the exception tells -/
def spF (mg : Str → Option Value) (tb : List (Nat × List Bool)) (p : Addr × Obj) : Sp := fun vs H Q _ => ∃ (e : Nat) (D : Addr) (bs : List Bool), vs = [.ref p.1] ∧ mg (xn e) = some (.ref D) ∧ Zc (.ref D) none p.2 ∧ tb.lookup e = some bs ∧
  (∃ us, p.2.data = .fields us) ∧ ∀ q, H q = none → Q (.ref q) (upd H q (.lst (bs.map V.bl)))
theorem IsR.len {K : PySem.W.Frag} {mg : Str → Option Value} {D : Addr} : ∀ {ns : List Str} {bs : List Bool}, IsR K mg D ns bs → bs.length = ns.length
  | [], [], _ => rfl
  | n :: ns, b :: bs, h => by simp [h.2.len]
  | [], _ :: _, h => h.elim
  | _ :: _, [], h => h.elim
section
variable {P : Program} {w : World} {K : PySem.W.Frag} {mg : Str → Option Value} {base : Heap} {cx : CXT} {f : Addr} {fd : FuncData} {x qual y : Str} {params : Arguments} {scope : Scope} {es : List Expr} {ns : List Str} {lp rp : Pos} {tb : List (Nat × List Bool)}
theorem flag_ok (F : FunD K x qual params [.Return (some (.List es lp)) rp] scope [] [] f fd) (S : FnScope [y] [y] scope) (hE : flE scope.names y es = some ns) (hl : ns.length ≤ 100) (hb : badN y = false) (hi : mg ("isinstance" : Str) = none)
    (hT : ∀ e D bs, mg (xn e) = some (.ref D) → tb.lookup e = some bs → ExcC K D ∧ IsR K mg D ns bs) : FnP P w K mg base cx 1 f fd [y] (spF mg tb) := by
  refine FnP.of F S (fun p vs H Q E h => ?_) fun cv A fr s H vs Q E p hot hr h => ?_
  · obtain ⟨e, D, bs, h, _⟩ := h
    rw [h]; rfl
  · obtain ⟨e, D, bs, rfl, hm, hz, ht, hf, q⟩ := h
    obtain ⟨C, r⟩ := hT e D bs hm ht
    have hv : Vis scope y := by
      rcases S.par y (by simp) with z | z
      · exact .inl z
      · exact .inr (.inl z)
    have pa := fl_pa (X := cxH cx P w K mg base [y] qual scope f cv A fr s H E p) (a := p.1) (oe := p.2) C hz hf (List.mem_singleton.mpr rfl) hi rfl hv hb (fun z hz => by
      unfold glB at hz
      split at hz
      · rename_i e; exact ⟨e, by simpa using hz⟩
      · cases hz) hE r
    refine ⟨_, pss_cons (ps_ret (pe_lst pa)) pss_nil, ?_⟩
    refine ⟨rfl, ?_, fun q' hq => q q' hq⟩
    rw [List.length_map, r.len]
    exact Nat.le_trans hl (by decide)
end
section
variable {X : Cx} {C : Cl} {W : WX}
theorem pssLen {sts : List Stmt} {t : TS} (h : PSs X sts t) : PSs X sts (fun D σ H => σ.length = X.N.length → t D σ H) := ⟨fun pins s σ H D I q => h.run pins s σ H D I (q I.len)⟩
theorem En.wiped {K : PySem.W.Frag} {B : Bs} {cs : List Addr} {G H : Hp} {n : Nat} : En K B cs G H (List.replicate n none) (List.replicate n none) := by
  refine ⟨by simp, fun i o d h => ?_, fun i j d e v ne h => ?_⟩
  · rw [List.getElem?_replicate] at h
    split at h <;> cases h
  · rw [List.getElem?_replicate] at h
    split at h <;> cases h
theorem lookup_map {α β : Type} {f : α → β} {e : Nat} : ∀ {l : List (Nat × α)} {d : β}, (l.map fun q => (q.1, f q.2)).lookup e = some d → ∃ a, l.lookup e = some a ∧ d = f a
  | [], d, h => by cases h
  | (k, a) :: l, d, h => by
    simp only [List.map_cons, List.lookup_cons] at h ⊢
    split at h
    · cases h; exact ⟨a, rfl, rfl⟩
    · exact lookup_map h
theorem reps_bls {K : PySem.W.Frag} {cs : List Addr} {G : Hp} : ∀ bs : List Bool, Reps K cs G (bs.map V.bl) (bs.map D.bl)
  | [] => .nil
  | b :: bs => .cons (.bl b) (reps_bls bs)
/-- try: .. except C as n: return f(n) -/
theorem w_try {body : List Stmt} {xs : List Sx} {i k : Nat} {n y ct F : Str} {cc f : Addr} {fd : FuncData} {tb : List (Nat × List Bool)} {np fp ep cp rp hp pos : Pos} (hs : X.stack = X.env :: X.outer) (hf : X.env.frame = some X.env.locals) (hN : X.N.Nodup) (hi : X.N[i]? = some n) (hln : X.env.kindOf n = some .local)
    (hc : Names X ct (.ref cc)) (tk : L2N.Takes X W) (hb : ∀ (W' : WX) (pn : List (Addr × Obj)) (xe : Value → Shared → Prop), L2N.Takes (X.tr pn xe) W' → PassesOwn (model X.prog X.w) X.A X.env xe → PSs (X.tr pn xe) body (tWs X C W' xs))
    (hF : FnP X.prog X.w X.K X.mg X.base (CXN X) k f fd [y] (spF X.mg tb)) (hr : Room k X.A) (gF : Gl X F) (mF : X.mg F = some (.ref f)) (kF : PySem.W.keepIn X.K (.ref f) = true) (bF : Binds X.K fd [y] []) (dF : (F == ("__debug__" : Str)) = false) (hnb : badN n = false)
    (hcls : ∀ e bs D, tb.lookup e = some bs → X.mg (xn e) = some (.ref D) → PySem.W.exmOne X.K (.ref D) (.ref cc) = some true) (href : ∀ e bs, tb.lookup e = some bs → ∃ D, X.mg (xn e) = some (.ref D)) :
    PS X (.Try body [.ExceptHandler (some (.Name ct np)) (some n) [.Return (some (.Call (.Name F fp) [.Name n ep] [] cp)) rp] hp] [] [] pos) (tS X C (.tryF xs (tb.map fun q => (q.1, D.lst (q.2.map D.bl))))) := by
  have hlt : i < X.N.length := (List.getElem?_eq_some_iff.mp hi).1
  have hnb2 : (n == ("__debug__" : Str)) = false ∧ (n == ("__classdict__" : Str)) = false := by
    unfold badN at hnb
    simpa using hnb
  refine psM (L2N.ps_try_as (Wout := W) (tb := fun W' => tWs X C W' xs) (ts := fun a cls d => fun D σ H => σ.length = X.N.length → ∃ e Dd bs, cls = .ref Dd ∧ d = none ∧ X.mg (xn e) = some (.ref Dd) ∧ tb.lookup e = some bs ∧ σ[i]? = some (some (.ref a)) ∧ ∀ q, H q = none → D.rt (.ref q) (upd H q (.lst (bs.map V.bl))))
    hs hf hN hi hln hc tk hb fun a oe cls d pn hz hv => ?_) fun Dn σ H h => ?_
  · have hot : Hot1 (X.suite a ((a, oe) :: pn)).A (a, oe) := by
      obtain ⟨us, e⟩ := hv
      exact ⟨rfl, us, e, hz.2.2 us e⟩
    have hr' : RoomH k (X.suite a ((a, oe) :: pn)).A := ⟨hr.dp, hr.un⟩
    have hv2 : Vis X.env.scope n := .inl hln
    have call := pe_callP (X := X.suite a ((a, oe) :: pn)) (pr := (a, oe)) (p := fp) (pos := cp) hF hr' hot (List.mem_cons_self ..) gF mF kF bF (fun σ => passE) (pa_cons (pe_var (X := X.suite a ((a, oe) :: pn)) (pos := ep) hi hv2 hnb2.1 hnb2.2) pa_nil rfl) dF rfl rfl
    refine pssM (pssLen (pss_cons (ps_ret call) pss_nil)) fun D σ H h hl => ?_
    obtain ⟨e, Dd, bs, rfl, rfl, hm, ht, hσ, q⟩ := h hl
    exact ⟨_, hσ, e, Dd, bs, rfl, hm, hz.zc, ht, hv, q⟩
  · obtain ⟨B, cs, G, s, at_, h⟩ := h
    have h : Rn (match xes C xs s with
      | .ok fl s => .ok fl s
      | .exc _ _ => match xxs C xs s with
        | some (e, c) => match (tb.map fun q => (q.1, D.lst (q.2.map D.bl))).lookup e with
          | some d => .ok (.ret true d) ⟨List.replicate s.r.length none, c⟩
          | none => .bad
        | none => .bad
      | .bad => .bad) (Es X.K B cs G H Dn) := h
    split at h
    · rename_i fl s1 e1
      refine .inl ⟨B, cs, G, s, at_, ?_⟩
      rw [e1]
      exact h
    · split at h
      · rename_i e c e1
        split at h
        · rename_i d e2
          obtain ⟨bs, e3, rfl⟩ := lookup_map (f := fun bs : List Bool => D.lst (bs.map D.bl)) e2
          refine .inr ⟨B, cs, G, s, e, c, at_, e1, fun cv cs' G' H' σ' hm sp wd => ?_⟩
          obtain ⟨Dd, hD⟩ := href e bs e3
          rw [hm] at hD
          cases hD
          refine ⟨true, hcls e bs Dd e3 hm, fun _ a ha hl => ⟨e, Dd, bs, rfl, rfl, hm, e3, ?_, fun q hq => ?_⟩, fun z => by cases z⟩
          · rw [List.length_set] at hl
            rw [List.getElem?_set_self (by rw [hl]; exact hlt)]
          · obtain ⟨g, n', z⟩ := wd.fresh hq
            exact h (.ref q) (List.replicate s.r.length none) cs' G' _ (sp.trans ((Stp.alloc wd hq).ssp (s := ⟨[], c⟩) wd)) ⟨wd.alloc hq, En.wiped⟩ ⟨q, rfl, g, n', z, _, upd_same, reps_bls bs⟩
        · exact h.elim
      · exact h.elim
    · exact h.elim
end
end Q
end

section
set_option Elab.async false
set_option linter.all false
set_option maxRecDepth 100000
set_option maxHeartbeats 4000000
namespace Q
open PySem PySem.Spec PyProof.Rows L2
/-! ### statements from Python to Q -/
def swpD (kind : Str → Option NameKind) (ts vs : List Expr) : Option (Option (List Str)) :=
  if (!(ts.length == 2 || ts.length == 3) || vs.length != ts.length) = true then some none else
  if (vs.any fun | .Starred .. => true | _ => false) = true then some none else
  if ((ts.filterMap fun
    | .Name id pos => if (kind id == some .local && pos.line == (ts.head?.map (·.pos.line)).getD 0) = true then some id else none
    | _ => none).length != ts.length || (ts.filterMap fun
    | .Name id pos => if (kind id == some .local && pos.line == (ts.head?.map (·.pos.line)).getD 0) = true then some id else none
    | _ => none).eraseDups.length != (ts.filterMap fun
    | .Name id pos => if (kind id == some .local && pos.line == (ts.head?.map (·.pos.line)).getD 0) = true then some id else none
    | _ => none).length) = true then some none else
  if vs.all (foldedForSure 8) = true then some none else
  if vs.all (constantsAlone 8) = true then none else
  some (some (ts.filterMap fun
    | .Name id pos => if (kind id == some .local && pos.line == (ts.head?.map (·.pos.line)).getD 0) = true then some id else none
    | _ => none))
theorem swp_ok {env : Env} {ts vs : List Expr} {k k2 : Nat} {p p2 : Pos} {r : Option (List Str)} (hb : env.scope.kind = .function) (h : swpD env.kindOf ts vs = some r) : swappedStores [.Tuple ts k p] (.Tuple vs k2 p2) env = pure r := by
  have hbk : env.blockKind = .function := by unfold Env.blockKind; rw [hb]; rfl
  unfold swpD at h
  unfold swappedStores
  simp only [hbk]
  split at h
  · rename_i h1
    cases h
    have : ((!(ts.length == 2 || ts.length == 3) || vs.length != ts.length || ScopeKind.function != ScopeKind.function) = true) := by simpa using h1
    rw [if_pos this]
  rename_i h1
  have : ¬ ((!(ts.length == 2 || ts.length == 3) || vs.length != ts.length || ScopeKind.function != ScopeKind.function) = true) := by simpa using h1
  rw [if_neg this]
  split at h
  · rename_i h2
    cases h
    refine Eq.trans (if_pos ?_) rfl
    exact h2
  rename_i h2
  refine Eq.trans (if_neg ?_) ?_
  · exact h2
  split at h
  · rename_i h3
    cases h
    refine Eq.trans (if_pos ?_) rfl
    exact h3
  rename_i h3
  refine Eq.trans (if_neg ?_) ?_
  · exact h3
  split at h
  · rename_i h4
    cases h
    refine Eq.trans (if_pos ?_) rfl
    exact h4
  rename_i h4
  refine Eq.trans (if_neg ?_) ?_
  · exact h4
  split at h
  · cases h
  rename_i h5
  refine Eq.trans (if_neg ?_) ?_
  · exact h5
  cases h
  rfl
def swB (ns : List (Str × NameKind)) (scope : Scope) (y : Str) (py pos : Pos) : Bool := ScopeKind.function == .function && ns.lookup y == some .local && py.line == pos.line && !(scope.names.any fun (n, k) => n == y && (k == .local || k == .cell))
theorem sw_lc {env : Env} {elt : Expr} {gs : List Comprehension} {scope : Scope} {pos py : Pos} {y : Str} {l : Nat} (hk : env.scope.kind = .function) : swapsWith (.ListComp elt gs scope pos) (some (.Name y py)) l env = pure (swB env.scope.names scope y py pos) := by
  have hb : env.blockKind = .function := by unfold Env.blockKind; rw [hk]; rfl
  unfold swapsWith swB
  simp only [hb]
  rfl
theorem sw_tup {e : Expr} {ts : List Expr} {k : Nat} {p : Pos} {l : Nat} {env : Env} : swapsWith e (some (.Tuple ts k p)) l env = pure false := by cases e <;> rfl
theorem sw_sub {e : Expr} {a b : Expr} {p : Pos} {l : Nat} {env : Env} : swapsWith e (some (.Subscript a b p)) l env = pure false := by cases e <;> rfl
theorem ss_no {e : Expr} {t : Expr} {env : Env} (h : isTup e = false) : swappedStores [t] e env = pure none := by
  cases e <;> first | (cases t <;> rfl) | (simp [isTup] at h)
def setOf (z : Sc) (x : Str) (i : Nat) (v : Ex) : Sx := if decide (x ∈ z.ow) then .own i v else .set i v
def isLc : Expr → Bool
  | .ListComp _ [_] _ _ => true
  | _ => false
def isCl : Ex → Bool
  | .call .. => true
  | _ => false
theorem xcl_no {C : Cl} {x : Ex} (h : isCl x = false) (s : S) : xcl C x s = none := by cases x <;> first | rfl | (simp [isCl] at h)
/-- a call of a def -/
def cCl (n : Nat) (z : Sc) : Expr → Option (Nat × List Ex)
  | .Call (.Name f _) args [] _ => if glB z.names f && args.all nStar then (match z.defs.lookup f with
    | some i => (mapO (fun e => cE n z (!isName e) e) args).map fun xs => (i, xs)
    | none => none) else none
  | _ => none
def cS : Nat → Nat → Sc → Stmt → Option Sx
  | 0, _, _, _ => none
  | n + 1, m, z, st => match st with
    | .Pass _ => some .pass
    | .Break _ => some .brk
    | .Continue _ => some .cnt
    | .Return none _ => some .retN
    | .Return (some e) _ => match cCl m z e with
      | some (i, xs) => some (.ret (.call i xs))
      | none => (cE m z false e).bind fun x => if isCl x then none else some (.ret x)
    | .Expr e _ => match e with
      | .Constant (.str _) _ _ => some .pass
      | .Call (.Attribute (.Name x _) a ap) [arg] [] cpos => if decide (a = ("append" : Str)) && nStar arg && (ap.endLine == cpos.line) && !badN x && visB z.names x then (match ixS z.N x 0, cE m z true arg with
        | some i, some v => some (.app i v)
        | _, _ => none) else none
      | e => if noComp e then (match cCl m z e with
        | some (i, xs) => some (.expr (.call i xs))
        | none => (cE m z false e).bind fun x => if isCl x then none else some (.expr x)) else none
    | .If c a b _ => (cT m z c).map fun c => .ite c (a.map fun s => (cS n m z s).getD .no) (b.map fun s => (cS n m z s).getD .no)
    | .While c b [] _ => (cT m z c).map fun c => .whl c (b.map fun s => (cS n m z s).getD .no)
    | .For tg it b [] _ => if noSet it then (match cI m z true tg it, cG m z tg with
      | some (k, its), some t => some (.for_ t k its (b.map fun s => (cS n m z s).getD .no))
      | _, _ => none) else none
    | .AugAssign (.Name x _) o e _ => if locB z.tn x then (match ixS z.N x 0, o, cE m z false e with
      | some i, .Add, some v => some (.aug i .add v)
      | some i, .Sub, some v => some (.aug i .sub v)
      | _, _, _ => none) else none
    | .Assign [tg] e pos => match tg with
      | .Name x px => if locB z.tn x then (match ixS z.N x 0 with
        | none => none
        | some i => if noComp e then (cE m z true e).map fun v => if decide (x ∈ z.cl) then .mkc i v else setOf z x i v
          else match e with
            | .ListComp elt [g] scope cpos => (cE m z true (.ListComp elt [g] scope cpos)).map (setOf z x i)
            | _ => none) else none
      | .Subscript (.Name x _) ke _ => if badN x || !visB z.names x then none else (match ixS z.N x 0, cE m z false ke, cE m z true e with
        | some i, some k, some v => some (.put i k v)
        | _, _, _ => none)
      | .Tuple ts k p => if !(ts.all nStar) then none else match e with
        | .Tuple vs _ _ => match swpD (fun y => z.names.lookup y) ts vs with
          | some none => (match cG m z (.Tuple ts k p), cE m z true e with
            | some t, some v => some (.unp t v)
            | _, _ => none)
          | some (some ns) => if !(vs.all nStar) then none else (match ts, vs with
            | [.Name a _, .Name b _], [u, v] => if decide (ns = [a, b]) && decide (z.names.lookup a = some .local) && decide (z.names.lookup b = some .local) then (match ixS z.N a 0, ixS z.N b 0, cE m z true u, cE m z true v with
              | some i, some j, some u, some v => if decide (i = j) then none else some (.par [(i, decide (a ∈ z.ow)), (j, decide (b ∈ z.ow))] [u, v])
              | _, _, _, _ => none) else none
            | [.Name a _, .Name b _, .Name c _], [u, v, w] => if decide (ns = [a, b, c]) && decide (z.names.lookup a = some .local) && decide (z.names.lookup b = some .local) && decide (z.names.lookup c = some .local) then (match ixS z.N a 0, ixS z.N b 0, ixS z.N c 0, cE m z true u, cE m z true v, cE m z true w with
              | some i, some j, some l, some u, some v, some w => if decide (i = j) || decide (i = l) || decide (j = l) then none else some (.par [(i, decide (a ∈ z.ow)), (j, decide (b ∈ z.ow)), (l, decide (c ∈ z.ow))] [u, v, w])
              | _, _, _, _, _, _ => none) else none
            | _, _ => none)
          | none => none
        | e => if isTup e then none else (match cG m z (.Tuple ts k p), cE m z true e with
            | some t, some v => some (.unp t v)
            | _, _ => none)
      | _ => none
    | .Raise (some (.Call (.Name x _) [.Constant (.str _) _ _] [] _)) none _ => if glB z.names x then (z.xs.lookup x).map .raise else none
    | .Try b [.ExceptHandler (some (.Name ct _)) (some y) [.Return (some (.Call (.Name f _) [.Name y2 _] [] _)) _] _] [] [] _ => match ixS z.N y 0 with
      | some _ => if decide (y2 = y) && decide (z.names.lookup y = some .local) && !badN y && glB z.names ct && glB z.names f && z.tr.contains (ct, f) then some (.tryF (b.map fun s => (cS n m z s).getD .no) (z.tb.map fun q => (q.1, D.lst (q.2.map D.bl)))) else none
      | none => none
    | _ => none
def cSs (n m : Nat) (z : Sc) (sts : List Stmt) : List Sx := sts.map fun s => (cS n m z s).getD .no
section
variable {n m : Nat} {X : Cx} {C : Cl} {z : Sc}
theorem snd_lc (g : Cg X C z) {kp : Bool} {elt : Expr} {gn : Comprehension} {scope : Scope} {pos py spos : Pos} {x : Ex} {y : Str} {i : Nat} (h : cE (n + 1) z kp (.ListComp elt [gn] scope pos) = some x) (hy : X.N[i]? = some y) (hyl : X.env.scope.names.lookup y = some .local)
    (hsw : swapsWith (.ListComp elt [gn] scope pos) (some (.Name y py)) spos.line X.env = pure true) : PS X (.Assign [.Name y py] (.ListComp elt [gn] scope pos) spos) (fun D σ H => tE X C x σ H fun v H1 => D.nx (σ.set i (some v)) H1) := by
  have S := snd_all n
  unfold cE at h
  obtain ⟨tg, it, ifs, async⟩ := gn
  simp only at h
  split at h
  · rename_i hc
    simp only [Bool.and_eq_true, decide_eq_true_eq] at hc
    obtain ⟨⟨ha, hset⟩, hblk⟩ := hc
    subst ha
    rw [blkC_names (sc' := X.env.scope) g.names.symm, ← g.N] at hblk
    have ok := blkOk_by hblk
    have gb := fun s H D cl fp => g.blk scope s H D cl fp ok.kind
    rw [g.N] at ok
    split at h
    · rename_i k its t x hi ht hx
      have hio : PI X tg it (tIc X C k its) := (S.i X C z g _ _ _ _ _ hi).1
      split at h
      · cases h
        refine r_setLc g.calm g.nd hy hyl hsw hio (by rw [g.N]; exact ok) (fun s H D cl fp => S.g _ C _ (gb s H D cl fp) _ _ ht) (fun s H D cl fp => pts_nil) (fun s H D cl fp => S.e _ C _ (gb s H D cl fp) _ _ _ hx) (noSet_ok hset X.env)
      · obtain ⟨c, hc, rfl⟩ := opt_map h
        refine r_setLc g.calm g.nd hy hyl hsw hio (by rw [g.N]; exact ok) (fun s H D cl fp => S.g _ C _ (gb s H D cl fp) _ _ ht) (fun s H D cl fp => pts_one (S.t _ C _ (gb s H D cl fp) _ _ hc).1) (fun s H D cl fp => S.e _ C _ (gb s H D cl fp) _ _ _ hx) (noSet_ok hset X.env)
      · cases h
    · cases h
  · cases h
theorem psl_of {W : WX} (hS : ∀ st x, cS n m z st = some x → PS X st (tW X C W x)) : ∀ sts : List Stmt, PSs X sts (tWs X C W (sts.map fun s => (cS n m z s).getD .no))
  | [] => w_nil
  | st :: sts => w_cons (by
      show PS X st (tW X C W ((cS n m z st).getD .no))
      cases h : cS n m z st with
      | none => exact w_ol (fun _ => rfl) r_no
      | some x => exact hS st x h) (psl_of hS sts)
/-- what a def's body may raise and catch -/
structure Ce (X : Cx) (C : Cl) (z : Sc) (W : WX) : Prop where
  tk : L2N.Takes X W
  hs : X.stack = X.env :: X.outer
  hf : X.env.frame = some X.env.locals
  hp : PassesOwn (model X.prog X.w) X.A X.env X.xe
  rs : ∀ x e, z.xs.lookup x = some e → xn e = x ∧ ∃ Ca, X.mg x = some (.ref Ca) ∧ PySem.W.excIn X.K Ca He.veBase "ValueError.__new__" = true ∧ PySem.W.keepIn X.K (.ref Ca) = true ∧ Raises X (.ref Ca)
  tr : ∀ ct F, (ct, F) ∈ z.tr → ∃ cc f fd y k, X.mg ct = some (.ref cc) ∧ FnP X.prog X.w X.K X.mg X.base (CXN X) k f fd [y] (spF X.mg z.tb) ∧ Room k X.A ∧ X.mg F = some (.ref f) ∧ PySem.W.keepIn X.K (.ref f) = true ∧ Binds X.K fd [y] [] ∧
    (∀ e bs D, z.tb.lookup e = some bs → X.mg (xn e) = some (.ref D) → PySem.W.exmOne X.K (.ref D) (.ref cc) = some true) ∧ ∀ e bs, z.tb.lookup e = some bs → ∃ D, X.mg (xn e) = some (.ref D)
theorem Ce.to {W W' : WX} (c : Ce X C z W) {pn : List (Addr × Obj)} {xe : Value → Shared → Prop} (tk : L2N.Takes (X.tr pn xe) W') (hp : PassesOwn (model X.prog X.w) X.A X.env xe) : Ce (X.tr pn xe) C z W' := ⟨tk, c.hs, c.hf, hp, c.rs, c.tr⟩
theorem Cg.to (g : Cg X C z) (pn : List (Addr × Obj)) (xe : Value → Shared → Prop) : Cg (X.tr pn xe) C z := ⟨g.calm, g.nd, g.N, g.names, g.kind, g.un, g.gu, g.tn, g.defs, g.gi, g.bi, g.ty, g.oth, g.gd⟩
/-- a call of a def, both ways -/
theorem cCl_ok {W : WX} (g : Cg X C z) (tk : L2N.Takes X W) {e : Expr} {i : Nat} {xs : List Ex} (h : cCl m z e = some (i, xs)) : PE X e (tE X C (.call i xs)) ∧
    PE X e (fun σ H _ => ∃ B cs G s, At X.K B cs G s σ H ∧ Rn ((evA C xs s).b fun ds s => callD (flp C) i xs ds s) (Ps X.K B cs G H σ false none (QX X.mg fun cv d H' => W cv d σ H'))) := by
  unfold cCl at h
  split at h
  · rename_i f fp args pos
    split at h
    · rename_i hh
      rw [Bool.and_eq_true] at hh
      obtain ⟨hG, hd⟩ := g.gl hh.1
      split at h
      · rename_i j hj
        cases hx : mapO (fun e => cE m z (!isName e) e) args with
        | none => rw [hx] at h; cases h
        | some ys =>
          rw [hx] at h
          cases h
          obtain ⟨k, fa, fd, ps, F, hr, hm, hk, hb⟩ := g.defs _ _ hj
          have hp := snd_prs (snd_all m) g (kf := fun e => !isName e) hx hh.2
          exact ⟨r_call F g.gu hr hG hm hk hb hd hp, r_callX tk F g.gu hr hG hm hk hb hd hp⟩
      · cases h
    · cases h
  · cases h
theorem w_expr {W : WX} {e : Expr} {pos : Pos} {i : Nat} {xs : List Ex} (hn : noComp e = true) (h1 : PE X e (tE X C (.call i xs))) (h2 : PE X e (fun σ H _ => ∃ B cs G s, At X.K B cs G s σ H ∧ Rn ((evA C xs s).b fun ds s => callD (flp C) i xs ds s) (Ps X.K B cs G H σ false none (QX X.mg fun cv d H' => W cv d σ H')))) :
    PS X (.Expr e pos) (tW X C W (.expr (.call i xs))) := w_of (r_expr hn h1) (psM (ps_expr h2 (sw_no hn _ _ _)) fun D σ H ⟨B, cs, G, s, e, c, at_, h, p⟩ => xcl_in at_ h p)
theorem w_ret {W : WX} {e : Expr} {pos : Pos} {i : Nat} {xs : List Ex} (h1 : PE X e (tE X C (.call i xs))) (h2 : PE X e (fun σ H _ => ∃ B cs G s, At X.K B cs G s σ H ∧ Rn ((evA C xs s).b fun ds s => callD (flp C) i xs ds s) (Ps X.K B cs G H σ false none (QX X.mg fun cv d H' => W cv d σ H')))) :
    PS X (.Return (some e) pos) (tW X C W (.ret (.call i xs))) := w_of (r_ret h1) (psM (ps_ret h2) fun D σ H ⟨B, cs, G, s, e, c, at_, h, p⟩ => xcl_in at_ h p)
theorem w_raise {W : WX} {x t : Str} {e j : Nat} {p p2 cp pos : Pos} (hc : X.calm = true) (ce : Ce X C z W) (hg : Gl X x) (hd : (x == ("__debug__" : Str)) = false) (he : z.xs.lookup x = some e) : PS X (.Raise (some (.Call (.Name x p) [.Constant (.str t) j p2] [] cp)) none pos) (tW X C W (.raise e)) := by
  obtain ⟨hn, Ca, hm, h1, h2, h3⟩ := ce.rs x e he
  refine w_of r_raise (psM (L2N.ps_raise hc ce.tk (L2N.pmk_own PySem.F.excBase_ValueError h1 hm h2 h3 hg hd)) fun D σ H ⟨B, cs, G, s, e', c, at_, h, q⟩ => ?_)
  cases h
  exact q (.ref Ca) cs G H σ (by rw [hn]; exact hm) Ssp.refl at_.wd
theorem snd_s : ∀ {n : Nat} {X : Cx} {W : WX} (g : Cg X C z) (ce : Ce X C z W) {st : Stmt} {x : Sx}, cS n m z st = some x → PS X st (tW X C W x) := by
  have S := snd_all m
  intro n
  induction n with
  | zero => intro X W g ce st x h; cases h
  | succ n ih =>
    intro X W g ce st x h
    have un1 : X.A.units + 1 < cLine := Nat.lt_of_le_of_lt (by omega) g.un
    have hp := ce.hp
    have bodyW := psl_of (X := X) (C := C) (n := n) (m := m) (z := z) (W := W) fun st x h => ih g ce h
    have body : ∀ sts : List Stmt, PSs X sts (tSs X C (sts.map fun s => (cS n m z s).getD .no)) := fun sts => pssM (bodyW sts) fun D σ H h => .inl h
    unfold cS at h
    split at h
    · cases h; exact w_ol (fun _ => rfl) r_pass
    · cases h; exact w_ol (fun _ => rfl) r_brk
    · cases h; exact w_ol (fun _ => rfl) r_cnt
    · cases h; exact w_ol (fun _ => rfl) r_retN
    · split at h
      · rename_i i xs hc
        cases h
        obtain ⟨h1, h2⟩ := cCl_ok g ce.tk hc
        exact w_ret h1 h2
      · cases hx : cE m z false _ with
        | none => rw [hx] at h; cases h
        | some x' =>
          rw [hx] at h
          simp only [Option.bind_some] at h
          split at h
          · cases h
          · rename_i hc
            cases h
            exact w_ol (fun s => xcl_no (by simpa using hc) s) (r_ret (S.e X C z g _ _ _ hx))
    · split at h
      · cases h; exact w_ol (fun _ => rfl) r_doc
      · rename_i x0 xp a ap arg cpos
        split at h
        · rename_i hh
          simp only [Bool.and_eq_true, decide_eq_true_eq, Bool.not_eq_true'] at hh
          obtain ⟨⟨⟨⟨h1, h2⟩, h3⟩, h4⟩, h5⟩ := hh
          subst h1
          split at h
          · rename_i i v hi hv
            cases h
            obtain ⟨b1, b2⟩ := bad_ok h4
            exact w_ol (fun _ => rfl) (r_app (g.ix hi) (g.vis h5) b1 b2 h2 (by rw [star_of h2]; rfl) h3 (S.e X C z g _ _ _ hv))
          · cases h
        · cases h
      · split at h
        · rename_i hn
          split at h
          · rename_i i xs hc
            cases h
            obtain ⟨h1, h2⟩ := cCl_ok g ce.tk hc
            exact w_expr hn h1 h2
          · cases hx : cE m z false _ with
            | none => rw [hx] at h; cases h
            | some x' =>
              rw [hx] at h
              simp only [Option.bind_some] at h
              split at h
              · cases h
              · rename_i hc
                cases h
                exact w_ol (fun s => xcl_no (by simpa using hc) s) (r_expr hn (S.e X C z g _ _ _ hx))
        · cases h
    · obtain ⟨a, ha, rfl⟩ := opt_map h
      exact w_if (S.t X C z g _ _ ha).1 (bodyW _) (bodyW _)
    · obtain ⟨a, ha, rfl⟩ := opt_map h
      exact w_ol (fun _ => rfl) (r_while hp (S.t X C z g _ _ ha).1 (body _))
    · split at h
      · rename_i hset
        split at h
        · rename_i k its t hi ht
          cases h
          exact w_ol (fun _ => rfl) (r_for hp g.calm ((S.i X C z g _ _ _ _ _ hi).2 rfl) (S.g X C z g _ _ ht) (body _) (noSet_ok hset X.env))
        · cases h
      · cases h
    · split at h
      · rename_i hl
        obtain ⟨l1, l2⟩ := g.tn _ hl
        split at h
        · rename_i i v hi hv
          cases h
          exact w_ol (fun _ => rfl) (r_aug (.inl ⟨rfl, rfl⟩) g.nd (g.ix hi) l1 l2 (S.e X C z g _ _ _ hv))
        · rename_i i v hi hv
          cases h
          exact w_ol (fun _ => rfl) (r_aug (.inr ⟨rfl, rfl⟩) g.nd (g.ix hi) l1 l2 (S.e X C z g _ _ _ hv))
        · cases h
      · cases h
    · -- assignments
      rename_i tg e pos
      split at h
      · rename_i x0 px
        split at h
        · rename_i hl
          obtain ⟨l1, l2⟩ := g.tn _ hl
          split at h
          · cases h
          · rename_i i hi
            split at h
            · rename_i hn
              obtain ⟨v, hv, rfl⟩ := opt_map h
              split
              · exact w_ol (fun _ => rfl) (r_mkc g.nd (g.ix hi) l1 l2 (sw_no hn _ _ _) (S.e X C z g _ _ _ hv))
              · unfold setOf
                split
                · exact w_ol (fun _ => rfl) (r_own g.nd (g.ix hi) l1 l2 (sw_no hn _ _ _) (S.e X C z g _ _ _ hv))
                · exact w_ol (fun _ => rfl) (r_set g.nd (g.ix hi) l1 l2 (sw_no hn _ _ _) (S.e X C z g _ _ _ hv))
            · split at h
              · rename_i elt gn scope cpos _
                obtain ⟨v, hv, rfl⟩ := opt_map h
                cases hs : swB X.env.scope.names scope x0 px cpos with
                | false =>
                  have sw : ∀ l, swapsWith (.ListComp elt [gn] scope cpos) (some (.Name x0 px)) l X.env = pure false := fun l => by rw [sw_lc g.kind, hs]
                  unfold setOf
                  split
                  · exact w_ol (fun _ => rfl) (r_own g.nd (g.ix hi) l1 l2 (sw _) (S.e X C z g _ _ _ hv))
                  · exact w_ol (fun _ => rfl) (r_set g.nd (g.ix hi) l1 l2 (sw _) (S.e X C z g _ _ _ hv))
                | true =>
                  have sw : ∀ l, swapsWith (.ListComp elt [gn] scope cpos) (some (.Name x0 px)) l X.env = pure true := fun l => by rw [sw_lc g.kind, hs]
                  have hloc : X.env.scope.names.lookup x0 = some .local := by
                    unfold swB at hs
                    simp only [Bool.and_eq_true, beq_iff_eq] at hs
                    exact hs.1.1.2
                  cases m with
                  | zero => cases hv
                  | succ m =>
                    have key := snd_lc (py := px) (spos := pos) g hv (g.ix hi) hloc (sw _)
                    unfold setOf
                    split
                    · exact w_ol (fun _ => rfl) (own_of' key)
                    · exact w_ol (fun _ => rfl) (set_of key)
              · cases h
        · cases h
      · -- d[k] = v
        split at h
        · cases h
        · rename_i hb
          simp only [Bool.or_eq_true, Bool.not_eq_true', not_or, Bool.not_eq_true, Bool.not_eq_false] at hb
          obtain ⟨b1, b2⟩ := bad_ok hb.1
          split at h
          · rename_i i k v hi hk hv
            cases h
            exact w_ol (fun _ => rfl) (r_put un1 (g.ix hi) (g.vis hb.2) b1 b2 sw_sub (S.e X C z g _ _ _ hk) (S.e X C z g _ _ _ hv))
          · cases h
      · -- a, b = ..
        rename_i ts k p
        split at h
        · cases h
        rename_i hts
        rw [Bool.not_eq_true, Bool.not_eq_false'] at hts
        have swt : ∀ (e : Expr) (l : Nat), swapsWithSole [Expr.Tuple ts k p] e l X.env = pure false := fun e l => (show swapsWith e (some (Expr.Tuple ts k p)) l X.env = pure false from sw_tup)
        have one : (assignEach [Expr.Tuple ts k p] X.env).map (·.2) = [assign (Expr.Tuple ts k p) X.env] := rfl
        have hkind : X.env.kindOf = fun y => z.names.lookup y := by funext q; unfold Env.kindOf; rw [g.names]
        split at h
        · rename_i vs k2 p2
          split at h
          · rename_i hsw
            split at h
            · rename_i t v ht hv
              cases h
              exact w_ol (fun _ => rfl) (r_unp (S.g X C z g _ _ ht) (swt _ _) (swp_ok g.kind (by rw [hkind]; exact hsw)) one (S.e X C z g _ _ _ hv))
            · cases h
          · rename_i ns hsw
            split at h
            · cases h
            rename_i hvs
            rw [Bool.not_eq_true, Bool.not_eq_false'] at hvs
            split at h
            · rename_i a pa b pb u v
              split at h
              · rename_i hh
                simp only [Bool.and_eq_true, decide_eq_true_eq] at hh
                obtain ⟨⟨h1, h2⟩, h3⟩ := hh
                subst h1
                split at h
                · rename_i i j u' v' hi hj hu hv
                  split at h
                  · cases h
                  rename_i hij
                  cases h
                  simp only [List.all_cons, Bool.and_eq_true] at hvs
                  exact w_ol (fun _ => rfl) (r_par2 g.calm g.nd (g.ix hi) (g.ix hj) (by simpa using hij) (by rw [g.names]; exact h2) (by rw [g.names]; exact h3) (.cons ⟨S.e X C z g _ _ _ hu, hvs.1⟩ (.cons ⟨S.e X C z g _ _ _ hv, hvs.2.1⟩ .nil)) (swp_ok g.kind (by rw [hkind]; exact hsw)))
                · cases h
              · cases h
            · rename_i a pa b pb c pc u v w
              split at h
              · rename_i hh
                simp only [Bool.and_eq_true, decide_eq_true_eq] at hh
                obtain ⟨⟨⟨h1, h2⟩, h3⟩, h4⟩ := hh
                subst h1
                split at h
                · rename_i i j l u' v' w' hi hj hl hu hv hw
                  split at h
                  · cases h
                  rename_i hij
                  cases h
                  simp only [Bool.or_eq_true, decide_eq_true_eq, not_or] at hij
                  simp only [List.all_cons, Bool.and_eq_true] at hvs
                  exact w_ol (fun _ => rfl) (r_par3 g.calm g.nd (g.ix hi) (g.ix hj) (g.ix hl) hij.1.1 hij.1.2 hij.2 (by rw [g.names]; exact h2) (by rw [g.names]; exact h3) (by rw [g.names]; exact h4) (.cons ⟨S.e X C z g _ _ _ hu, hvs.1⟩ (.cons ⟨S.e X C z g _ _ _ hv, hvs.2.1⟩ (.cons ⟨S.e X C z g _ _ _ hw, hvs.2.2.1⟩ .nil))) (swp_ok g.kind (by rw [hkind]; exact hsw)))
                · cases h
              · cases h
            · cases h
          · cases h
        · split at h
          · cases h
          rename_i htup
          split at h
          · rename_i t v ht hv
            cases h
            exact w_ol (fun _ => rfl) (r_unp (S.g X C z g _ _ ht) (swt _ _) (ss_no (by simpa using htup)) one (S.e X C z g _ _ _ hv))
          · cases h
      · cases h
    · split at h
      · rename_i hg
        obtain ⟨e, he, rfl⟩ := opt_map h
        exact w_raise g.calm ce (g.gl hg).1 (g.gl hg).2 he
      · cases h
    · split at h
      · rename_i i hi
        split at h
        · rename_i hh
          simp only [Bool.and_eq_true, decide_eq_true_eq, Bool.not_eq_true'] at hh
          obtain ⟨⟨⟨⟨⟨h1, h2⟩, h3⟩, h4⟩, h5⟩, h6⟩ := hh
          subst h1
          cases h
          obtain ⟨cc, f, fd, y, k, m1, m2, m3, m4, m5, m6, m7, m8⟩ := ce.tr _ _ (List.contains_iff_mem.mp h6)
          exact w_ol (fun _ => rfl) (w_try ce.hs ce.hf g.nd (g.ix hi) (by unfold Env.kindOf; rw [g.names]; exact h2) ⟨(g.gl h4).1, (g.gl h4).2, .inl m1⟩ ce.tk (fun W' pn xe tk' hp' => psl_of (X := X.tr pn xe) (fun st x h => ih (g.to pn xe) (ce.to tk' hp') h) _) m2 m3 (g.gl h5).1 m4 m5 m6 (g.gl h5).2 h3 m7 m8)
        · cases h
      · cases h
    · cases h
theorem snd_ss {W : WX} (g : Cg X C z) (ce : Ce X C z W) (sts : List Stmt) : PSs X sts (tWs X C W (cSs n m z sts)) := psl_of (fun _ _ h => snd_s g ce h) sts
end
end Q
end

section
set_option Elab.async false
set_option linter.all false
set_option maxRecDepth 100000
set_option maxHeartbeats 4000000
namespace Q
open PySem PySem.Spec PyProof.Rows L2
section
variable {P : Program} {w : World} {K : PySem.W.Frag} {mg mb : Str → Option Value} {cx : CXT} {k : Nat} {fa a : Addr} {fd : FuncData} {x : Str} {sp : Sp} {s : Shared} {vs : List Value} {ns : List Int} {H : Hp}
/-- at the top, over a heap in which the script alone is tracked -/
theorem top_core (kx : K.In s.heap) (gns : s.heap.Ns mainGlobals mg) (bns : s.heap.Ns builtinsNs mb) (bb : ∀ z : Str, z ≠ "__name__" → mb z = bootBuiltins z) (nl : s.heap.NoLimit) (gens : s.gens = #[])
    (at_ : s.heap.get? a = some { cls := .type "list", data := .seq vs.toArray }) (hr : Room k callerA) (F : ∀ base : Heap, K.In base → base.Ns mainGlobals mg → FnG P w K mg base cx k fa fd [x] sp) (bi : ∀ (s : Shared) (u : Value), BindsTo s fd ⟨[u], []⟩ [(x, u)])
    (h : sp [.ref a] H (fun v _ => v = .bl true) fun _ _ _ => False) (no : ∀ e s2, cx [] H s (fun _ _ _ => False) e s2 → False) (only : Only H) (hok : HOk P w H s.heap) (one : ∀ b, H b ≠ none → b = a) (free : H a ≠ none → K.lookup a = none) :
    codeAny (model P w) callerA (.call (.ref fa) ⟨[.ref a], []⟩) (fun r s2 => r = .ok (.ret (.bool true)) ∧ OldK s.heap s2.heap ∧ s2.os = s.os ∧ AllBare s2.gens) s := by
  have none_or : ∀ b, H b = none ∨ b = a := fun b => by
    cases q : H b with
    | none => exact .inl rfl
    | some u => exact .inr (one b (by simp [q]))
  have noD : ∀ {b : Addr} {o : Obj} {es : Array DictEntry} {ep : Nat}, s.heap.get? b = some o → o.data = .dict es ep → H b = none := fun {b o es ep} e d => by
    rcases none_or b with z | z
    · exact z
    · subst z
      rw [at_] at e
      cases e
      exact Data.noConfusion d
  have nsH : ∀ {b : Addr} {m : Str → Option Value}, s.heap.Ns b m → (hidT s.heap H).Ns b m := fun {b m} q => by
    obtain ⟨o, es, ep, e, d, r⟩ := q
    exact ⟨o, es, ep, hidT_get e (noD e d), d, r⟩
  have kb : K.In (hidT s.heap H) := fun b o e => hidT_get (kx b o e) (by
    rcases none_or b with z | z
    · exact z
    · subst z
      cases q : H b with
      | none => rfl
      | some u => rw [free (by simp [q])] at e; cases e)
  obtain ⟨mc, l1, l2⟩ := nl
  have env : Env0 P w K mg (hidT s.heap H) callerA [] s H := ⟨rfl, ⟨kb, nsH gns, ⟨mb, nsH bns, bb⟩, ⟨mc, nsH l1, l2⟩⟩, fun b o e => of_hidT e, Nat.le_of_eq (hidT_size _ _), trivial, fun b m => (by cases m), hok, .of_eq gens⟩
  refine codeAny_mono ((F _ kb (nsH gns)).run callerA [] s H ⟨[.ref a], []⟩ [.ref a] [.ref a] _ _ rfl hr env (bi s (.ref a)) (.cons rfl .nil) h) fun r s2 q => ?_
  match r, q with
  | .error e, q => exact (no e s2 q).elim
  | .ok .next, q => exact q.elim
  | .ok .brk, q => exact q.elim
  | .ok .cont, q => exact q.elim
  | .ok (.ret u), q =>
    obtain ⟨v, H2, os, bare, un, hok2, rv, q⟩ := q
    have q : v = .bl true := q
    subst q
    obtain rfl : u = Value.bool true := rv
    refine ⟨rfl, OldK.of_keep fun b o e => ?_, os, bare⟩
    rcases only b with z | ⟨ob, xs, z⟩
    · exact un.keep b o e z (fun m => (by cases m)) (fun m => (by cases m))
    · have y1 := (hok b _ z).1
      have y2 := (hok2 b _ (un.frzs b ob _ z)).1
      rw [e] at y1
      cases y1
      exact y2
theorem top_call (kx : K.In s.heap) (gns : s.heap.Ns mainGlobals mg) (bns : s.heap.Ns builtinsNs mb) (bb : ∀ z : Str, z ≠ "__name__" → mb z = bootBuiltins z) (nl : s.heap.NoLimit) (gens : s.gens = #[])
    (at_ : s.heap.get? a = some { cls := .type "list", data := .seq vs.toArray }) (hi : IntsAre vs ns) (hl : ns.length ≤ sizeLine) (hr : Room k callerA) (F : ∀ base : Heap, K.In base → base.Ns mainGlobals mg → FnG P w K mg base cx k fa fd [x] sp) (bi : ∀ (s : Shared) (u : Value), BindsTo s fd ⟨[u], []⟩ [(x, u)])
    (h : ∀ H : Hp, Only H → SqL K H a (ns.map V.int) → sp [.ref a] H (fun v _ => v = .bl true) fun _ _ _ => False) (no : ∀ H e s2, cx [] H s (fun _ _ _ => False) e s2 → False) :
    codeAny (model P w) callerA (.call (.ref fa) ⟨[.ref a], []⟩) (fun r s2 => r = .ok (.ret (.bool true)) ∧ OldK s.heap s2.heap ∧ s2.os = s.os ∧ AllBare s2.gens) s := by
  have rv := vals_ints hi
  have lv := hi.length
  cases kl : K.lookup a with
  | some o =>
    have e := kx a o kl
    rw [at_] at e
    cases e
    have only : Only fun _ => none := fun _ => .inl rfl
    exact top_core kx gns bns bb nl gens at_ hr F bi (h _ only (.inr ⟨_, vs.toArray, _, kl, rfl, rfl, rfl, by rw [List.size_toArray, lv]; exact hl, by simpa using rv⟩)) (no _) only (fun b u z => by cases z) (fun b z => (z rfl).elim) fun z => (z rfl).elim
  | none =>
    let o : Obj := { cls := .type "list", data := .seq vs.toArray }
    have eq : ∀ b, (upd (fun _ => none) a (.frz o (.lst (ns.map V.int))) : Hp) b ≠ none → b = a := fun b z => by
      apply Classical.byContradiction
      intro ne
      exact z (by rw [upd_ne ne])
    have only : Only (upd (fun _ => none) a (.frz o (.lst (ns.map V.int)))) := fun b => by
      by_cases e : b = a
      · subst e; exact .inr ⟨_, _, upd_same⟩
      · exact .inl (by rw [upd_ne e])
    refine top_core kx gns bns bb nl gens at_ hr F bi (h _ only (.inl (.inr ⟨o, upd_same⟩))) (no _) only (fun b u z => ?_) eq fun _ => kl
    have e := eq b (by rw [z]; simp)
    subst e
    rw [upd_same] at z
    cases z
    exact ⟨at_, by rw [List.length_map]; exact hl, vs, _, rv, at_⟩
end
/-- the goal of the head -/
theorem walk_ofG {l : PySem.W.OpenLaw} {n k : Nat} {q : Program} {loose : List Str} {XP : (Str → Option Value) → Heap → Prop} {YP : World → Heap → Prop} {d : DefRec} {cx : Program → World → CXT} {x : Str} (hn : l.most = some n) (hz : n ≤ sizeLine) (hdf : d.params.defaults = []) (hr : Room k callerA)
    (F : ∀ (w : World) (mg : Str → Option Value) (fa : Addr) (h : Heap), YP w h → h.Ns mainGlobals mg → mg d.name = some (.ref fa) →
      ∃ (K : PySem.W.Frag) (fd : FuncData) (sp : Sp), K.In h ∧ (∀ (s : Shared) (u : Value), BindsTo s fd ⟨[u], []⟩ [(x, u)]) ∧
        (∀ (H : Hp) (a : Addr) (ns : List Int), ns.length ≤ n → Only H → SqL K H a (ns.map V.int) → sp [.ref a] H (fun v _ => v = .bl true) fun _ _ _ => False) ∧
        (∀ (H : Hp) (s : Shared) (e : Value) (s2 : Shared), cx l.prog w [] H s (fun _ _ _ => False) e s2 → False) ∧ ∀ base : Heap, K.In base → base.Ns mainGlobals mg → FnG l.prog w K mg base (cx l.prog w) k fa fd [x] sp) :
    PySem.W.WalkO q loose XP YP l.row.toRowW d [] (fun f vs => PySem.call f vs) := by
  refine Att.attach_call hn hdf fun w s0 s1 mg mb fa o pm cd doc a vs ns G Y ho hd hcd hmg hobj hints hlen hg => ?_
  obtain ⟨K, fd, sp, kx, bi, hs, no, hF⟩ := F w mg fa _ Y G.T.g hmg
  exact top_call kx G.T.g G.T.b G.T.builtins G.T.nolimit hg hobj hints (Nat.le_trans hlen hz) hr hF bi (fun H only q => hs H a ns hlen only q) fun H e s2 => no H s1 e s2
end Q
end

section
set_option Elab.async false
set_option linter.all false
set_option maxRecDepth 100000
set_option maxHeartbeats 4000000
namespace Q
open PySem PySem.Spec PyProof.Rows L2
/-! ### a program -/
structure Pg where
  ds : List (Str × Nat)
  gi : List (Str × Int)
  xs : List (Str × Nat) := []
  gd : List (Str × List (Str × Int)) := []
  tr : List (Str × Str) := []
  tb : List (Nat × List Bool) := []
structure Gl0 (K : PySem.W.Frag) (w : World) (mg : Str → Option Value) (pg : Pg) : Prop where
  gi : ∀ x i, pg.gi.lookup x = some i → ∃ t, mg x = some (.int i t)
  bi : ∀ b, mg (biP b).1 = none
  ty : ∀ t, mg (Str.ofString (tyP t)) = none
  oth : mg ("isinstance" : Str) = none ∧ mg ("range" : Str) = none ∧ mg ("enumerate" : Str) = none ∧ mg ("reversed" : Str) = none ∧ mg ("list" : Str) = none ∧ mg ("zip" : Str) = none
  rs : ∀ x e, pg.xs.lookup x = some e → xn e = x ∧ ∃ Ca, mg x = some (.ref Ca) ∧ PySem.W.excIn K Ca He.veBase "ValueError.__new__" = true ∧ PySem.W.keepIn K (.ref Ca) = true ∧ PySem.W.subIn K (.ref Ca) (.type "BaseException") = some true ∧ PySem.W.typeIn K (.ref Ca) = some (.type "type")
  gd : ∀ n g, pg.gd.lookup n = some g → ∃ d es k, mg n = some (.ref d) ∧ KDict K w d es k ∧ ∀ z, (∀ i, g.lookup z = some i → ∃ t, PySem.W.nsIn K d z = some (some (.int i t))) ∧ (g.lookup z = none → PySem.W.nsIn K d z = some none)
  tr : ∀ ct F, (ct, F) ∈ pg.tr → ∃ cc f fd y, mg ct = some (.ref cc) ∧ (∀ P cx base, FnP P w K mg base cx 1 f fd [y] (spF mg pg.tb)) ∧ mg F = some (.ref f) ∧ PySem.W.keepIn K (.ref f) = true ∧ Binds K fd [y] [] ∧
    (∀ e bs D, pg.tb.lookup e = some bs → mg (xn e) = some (.ref D) → PySem.W.exmOne K (.ref D) (.ref cc) = some true) ∧ ∀ e bs, pg.tb.lookup e = some bs → ∃ D, mg (xn e) = some (.ref D)
/-- a def as it stands, and as it is in Q -/
structure Gd (K : PySem.W.Frag) (mg : Str → Option Value) (pg : Pg) (T : List Fd) (nm : Str) (i : Nat) (f : Addr) (fd : FuncData) (ps : List Str) : Prop where
  ex : ∃ x qual params body scope, FunD K x qual params body scope [] [] f fd ∧ ∃ z : Sc, FnScope z.N ps scope ∧ z.names = scope.names ∧ z.tn = scope.names ∧ z.defs = pg.ds ∧ z.gi = pg.gi ∧ z.xs = pg.xs ∧ z.gd = pg.gd ∧ z.tr = pg.tr ∧ z.tb = pg.tb ∧ T[i]? = some ⟨ps.length, z.N.length, cSs 60 100 z body⟩
  mg : mg nm = some (.ref f)
  bd : Binds K fd ps []
theorem locB_ok {ns : List (Str × NameKind)} {x : Str} (h : locB ns x = true) : ns.lookup x = some .local ∨ ns.lookup x = some .cell := by
  unfold locB at h
  split at h
  · exact .inl (by assumption)
  · exact .inr (by assumption)
  · cases h
section
variable {P : Program} {w : World} {K : PySem.W.Frag} {mg : Str → Option Value} {base : Heap} {pg : Pg} {T : List Fd}
theorem Gd.kp {nm : Str} {i : Nat} {f : Addr} {fd : FuncData} {ps : List Str} (g : Gd K mg pg T nm i f fd ps) : PySem.W.keepIn K (.ref f) = true := by
  obtain ⟨x, qual, params, body, scope, F, _⟩ := g.ex
  exact F.kp
theorem sp_zero {i : Nat} {vs : List V} {H : Hp} {Q : VK} {E : XK} (h : spG K mg (call T 0) i vs H Q E) : False := by
  rcases h with h | h
  · obtain ⟨cs, G, c, ds, _, _, h⟩ := h
    exact h.elim
  · obtain ⟨cs, G, c, ds, _, _, h⟩ := h
    exact h.elim
theorem fn_zero {f : Addr} {fd : FuncData} {ps : List Str} {i : Nat} {cx : CXT} : FnG P w K mg base cx 1 f fd ps (spG K mg (call T 0) i) :=
  ⟨fun vs H Q E h => (sp_zero h).elim, fun A outer s H args us vs Q E _ _ _ _ _ h => (sp_zero h).elim⟩
theorem start_at {cs : List Addr} {G H : Hp} {c : Cells} {vs : List V} {xs : List D} {fd : Fd} {N : List Str} (wd : Wd K ⟨H, G, []⟩ cs G c H) (rs : Reps K cs G vs xs) (hp : xs.length = fd.np) (hn : fd.nn = N.length) : At K ⟨H, G, []⟩ cs G ⟨frame fd xs, c⟩ (start N vs) H := by
  have hl := rs.len
  refine ⟨wd, ⟨by simp [frame, L2.start, hl, hp, hn], fun i o d h => ?_, fun i j d e v ne hi => ?_⟩⟩
  · unfold frame at h
    by_cases hi : i < (xs.map fun d => some (false, d)).length
    · rw [List.getElem?_append_left hi, List.getElem?_map] at h
      cases hx : xs[i]? with
      | none => rw [hx] at h; cases h
      | some d' =>
        rw [hx] at h
        cases h
        obtain ⟨v, e, r⟩ := rs.get hx
        refine ⟨v, ?_, r⟩
        unfold L2.start
        rw [List.getElem?_append_left (by simp at hi ⊢; omega), List.getElem?_map, e]
        rfl
    · rw [List.getElem?_append_right (Nat.le_of_not_lt hi)] at h
      rw [List.getElem?_replicate] at h
      split at h <;> cases h
  · unfold frame at hi
    by_cases h : i < (xs.map fun d => some (false, d)).length
    · rw [List.getElem?_append_left h, List.getElem?_map] at hi
      cases hx : xs[i]? with
      | none => rw [hx] at hi; cases hi
      | some d' => rw [hx] at hi; cases hi
    · rw [List.getElem?_append_right (Nat.le_of_not_lt h), List.getElem?_replicate] at hi
      split at hi <;> cases hi
theorem stp_end {cs cs' : List Addr} {G G' H H' : Hp} {c : Cells} (sp : Ssp ⟨H, G, []⟩ cs G H cs' G' H') (wd : Wd K ⟨H, G, []⟩ cs' G' c H') : Stp cs G H cs' G' H' := by
  refine ⟨sp.pre, sp.new, sp.le, fun a u n h => ?_⟩
  rcases wd.fr a u h (fun m => by
    rcases sp.new a m with y | y
    · exact n y
    · rw [show (⟨H, G, []⟩ : Bs).h0 a = H a from rfl, h] at y; cases y) with x | ⟨od, x, _⟩
  · exact x
  · cases x
/-- what a body's end is worth to the caller -/
theorem end_ok {cs : List Addr} {G H : Hp} {Q : VK} {o : Bool} {d : D} {s' : S} (q : ∀ v cs' G' H', Stp cs G H cs' G' H' → Wd K ⟨H, G, []⟩ cs' G' s'.c H' → ValR K ⟨H, G, []⟩ cs' G' H' o v d → Q v H')
    (v : V) (σ' : L2.St) (cs' : List Addr) (G' H' : Hp) (sp : Ssp ⟨H, G, []⟩ cs G H cs' G' H') (at' : At K ⟨H, G, []⟩ cs' G' s' σ' H') (vr : ValR K ⟨H, G, []⟩ cs' G' H' o v d) : Q v H' := q v cs' G' H' (stp_end sp at'.wd) at'.wd vr
theorem call_len {C : Cl} {i k : Nat} {fd : Fd} {xs : List D} {c c' : Cells} {o : Bool × D} (hT : T[i]? = some fd) (h : call T (k + 1) i xs c = .ok o c' ∨ ∃ e, call T (k + 1) i xs c = .exc e c') : xs.length = fd.np := by
  simp only [call, hT] at h
  split at h
  · assumption
  · rcases h with h | ⟨e, h⟩ <;> cases h
theorem prog (hall : ∀ nm i, pg.ds.lookup nm = some i → ∃ f fd ps, Gd K mg pg T nm i f fd ps) (g0 : Gl0 K w mg pg) : ∀ (k : Nat) (nm : Str) (i : Nat) (f : Addr) (fd : FuncData) (ps : List Str), pg.ds.lookup nm = some i → Gd K mg pg T nm i f fd ps → FnG P w K mg base (L2N.CX P w) (k + 1) f fd ps (spG K mg (call T k) i) := by
  intro k
  induction k with
  | zero => intro nm i f fd ps _ _; exact fn_zero
  | succ k ih =>
    intro nm i f fd ps hnm gd
    obtain ⟨x, qual, params, body, scope, F, z, S, e1, e2, e3, e4, e5, e6, e7, e8, hT⟩ := gd.ex
    refine FnG.of F S (fun vs H Q E h => ?_) (fun cdv A outer s H vs Q E gu hr h => ⟨tWs (cxOf (L2N.CX P w) P w K mg base z.N qual scope f cdv A outer s H E) (call T k) (fun cls d _ H => E cls d H) (cSs 60 100 z body), ?_, ?_⟩)
    · rcases h with h | h
      · obtain ⟨cs, G, c, xs, wd, rs, h⟩ := h
        obtain ⟨o, c', h, _⟩ := Rn.eq h
        rw [rs.len]
        exact call_len (C := call T k) (fd := ⟨ps.length, z.N.length, cSs 60 100 z body⟩) hT (.inl h)
      · obtain ⟨cs, G, c, xs, wd, rs, h⟩ := h
        obtain ⟨o, c', h, _⟩ := Rn.eq h
        rw [rs.len]
        unfold flp at h
        split at h
        · rename_i e c2 he
          exact call_len (C := call T k) (o := (false, .non)) (fd := ⟨ps.length, z.N.length, cSs 60 100 z body⟩) hT (.inr ⟨e, he⟩)
        · cases h
    · have un := hr.un
      refine snd_ss (X := cxOf (L2N.CX P w) P w K mg base z.N qual scope f cdv A outer s H E) ⟨rfl, S.nd, rfl, e1.symm, S.kind, ?_, gu, fun x hx => ?_, fun x j hx => ?_, fun x j hx => ?_, g0.bi, g0.ty, g0.oth, fun n g hx => ?_⟩ ⟨L2N.takes_of rfl rfl rfl rfl, rfl, rfl, passes_of rfl, fun x e hx => ?_, fun ct F hx => ?_⟩ body
      · exact Nat.lt_of_le_of_lt (by show (A.deeper _).units + 80 ≤ (A.deeper _).units + 16 * (k + 1) + 200; omega) un
      · rw [e2] at hx
        exact ⟨locB_ok hx, .inl rfl⟩
      · rw [e3] at hx
        obtain ⟨f', fd', ps', gd'⟩ := hall x j hx
        exact ⟨k + 1, f', fd', ps', ih x j f' fd' ps' hx gd', hr, gd'.mg, gd'.kp, gd'.bd⟩
      · rw [e4] at hx
        exact g0.gi x j hx
      · rw [e6] at hx
        exact g0.gd n g hx
      · rw [e5] at hx
        obtain ⟨h1, Ca, h2, h3, h4, h5, h6⟩ := g0.rs x e hx
        exact ⟨h1, Ca, h2, h3, h4, raises_own h5 h6⟩
      · rw [e7] at hx
        obtain ⟨cc, f', fd', y, h1, h2, h3, h4, h5, h6, h7⟩ := g0.tr ct F hx
        rw [e8]
        exact ⟨cc, f', fd', y, 1, h1, h2 _ _ _, hr.mono (by omega), h3, h4, h5, h6, h7⟩
    · rcases h with h | h
      · obtain ⟨cs, G, c, xs, wd, rs, h⟩ := h
        have hl : xs.length = ps.length := by
          obtain ⟨o, c', h, _⟩ := Rn.eq h
          exact call_len (C := call T k) (fd := ⟨ps.length, z.N.length, cSs 60 100 z body⟩) hT (.inl h)
        simp only [call, hT, hl, if_true] at h
        refine .inl ⟨⟨H, G, []⟩, cs, G, _, start_at (fd := ⟨ps.length, z.N.length, cSs 60 100 z body⟩) wd rs hl rfl, ?_⟩
        cases hx : xes (call T k) (cSs 60 100 z body) ⟨frame ⟨ps.length, z.N.length, cSs 60 100 z body⟩ xs, c⟩ with
        | bad => rw [hx] at h; exact h.elim
        | exc e c' =>
          rw [hx] at h
          simp only at h
          split at h <;> exact h.elim
        | ok fl s' =>
          rw [hx] at h
          cases fl with
          | nx => exact fun σ' cs' G' H' sp at' => end_ok (o := false) (d := .non) h .non σ' cs' G' H' sp at' .non
          | bk => exact h.elim
          | ct => exact h.elim
          | ret o d => exact fun v σ' cs' G' H' sp at' vr => end_ok h v σ' cs' G' H' sp at' vr
      · obtain ⟨cs, G, c, xs, wd, rs, h⟩ := h
        obtain ⟨o, c', h, q⟩ := Rn.eq h
        unfold flp at h
        split at h
        · rename_i e c2 he
          cases h
          have hl : xs.length = ps.length := call_len (C := call T k) (o := (false, .non)) (fd := ⟨ps.length, z.N.length, cSs 60 100 z body⟩) hT (.inr ⟨e, he⟩)
          simp only [call, hT, hl, if_true] at he
          refine .inr ⟨⟨H, G, []⟩, cs, G, _, e, _, start_at (fd := ⟨ps.length, z.N.length, cSs 60 100 z body⟩) wd rs hl rfl, ?_, fun cv cs' G' H' σ' hm sp wd' => q (.int e) cs' G' H' (stp_end sp wd') wd' (.int _) e cv rfl hm⟩
          split at he
          · cases he
          · cases he
          · split at he
            · rename_i e3 c3 hx
              cases he
              exact hx
            · cases he
          · cases he
        · cases h
/-- the law's def -/
theorem law_sp {i k : Nat} {a : Addr} {ns : List Int} {H : Hp} {c : Cells} (hS : SqL K H a (ns.map V.int)) (h : call T k i [.lst (ns.map D.int)] [] = .ok (false, .bl true) c) : spG K mg (call T k) i [.ref a] H (fun v _ => v = .bl true) E0 := by
  have rs : ∀ ns : List Int, Reps K [] H (ns.map V.int) (ns.map D.int) := fun ns => by
    induction ns with
    | nil => exact .nil
    | cons n r ih => exact .cons (.int n) ih
  refine .inl ⟨[], H, [], [.lst (ns.map D.int)], ⟨Le.refl _, Le.refl _, fun a o h => .inl (by rw [show (⟨H, H, []⟩ : Bs).g0 a = H a from rfl, h]; simp), fun a m => (by cases m), List.nodup_nil, rfl, fun n a ds h => (by simp at h), fun p m => (by cases m), fun a o h _ => .inl h⟩, .cons (.lst hS (rs ns)) .nil, ?_⟩
  rw [h]
  intro v cs' G' H' st wd vr
  exact (show Rep K cs' G' v (.bl true) from vr).bl_inv
end
end Q
end

section
set_option Elab.async false
set_option linter.all false
set_option maxRecDepth 100000
set_option maxHeartbeats 4000000
/-! ### how Q runs -/
namespace Q
theorem smI_of {i : Int} (h : i.natAbs < 2 ^ 1000) : smI i = true := by
  unfold smI
  rw [decide_eq_true_eq]
  exact Nat.lt_of_lt_of_le h (Nat.pow_le_pow_right (by decide) (by decide))
theorem call_eq {T : List Fd} {k f : Nat} {ds : List D} {c : Cells} {fd : Fd} (h : T[f]? = some fd) (hl : ds.length = fd.np) : call T (k + 1) f ds c = (match xes (call T k) fd.body ⟨frame fd ds, c⟩ with
      | .ok .nx s => .ok (false, .non) s.c
      | .ok (.ret o d) s => .ok (o, d) s.c
      | .exc _ _ => match xxs (call T k) fd.body ⟨frame fd ds, c⟩ with
        | some (e, c) => .exc e c
        | none => .bad
      | _ => .bad) := by
  unfold call
  rw [h]
  simp only [hl, if_pos]
  all_goals rfl
theorem whl_iter {t : S → R S Bool} {f : S → R S Fl} {st : Nat → S} {M : Nat} (h1 : ∀ k, k < M → t (st k) = .ok true (st k) ∧ (f (st k) = .ok .nx (st (k + 1)) ∨ f (st k) = .ok .ct (st (k + 1)))) (h2 : t (st M) = .ok false (st M)) : ∀ {n : Nat}, M < n → whlL t f n (st 0) = .ok .nx (st M) := by
  have : ∀ (j : Nat), j ≤ M → ∀ n, j < n → whlL t f n (st (M - j)) = .ok .nx (st M) := by
    intro j
    induction j with
    | zero => intro _ n hn; cases n with
      | zero => omega
      | succ n => simp only [whlL, Nat.sub_zero, h2, R.b_ok]; rfl
    | succ j ih => intro hj n hn; cases n with
      | zero => omega
      | succ n =>
        obtain ⟨e1, e2⟩ := h1 (M - (j + 1)) (by omega)
        have e3 : M - (j + 1) + 1 = M - j := by omega
        simp only [whlL, e1, R.b_ok, if_true]
        rcases e2 with e2 | e2 <;> (rw [e2, e3]; exact ih (by omega) n (by omega))
  intro n hn
  have := this M (Nat.le_refl _) n hn
  rwa [Nat.sub_self] at this
theorem for_iter {f : D → S → R S Fl} : ∀ {xs : List D} {st : Nat → S}, (∀ k x, xs[k]? = some x → f x (st k) = .ok .nx (st (k + 1)) ∨ f x (st k) = .ok .ct (st (k + 1))) → forL f xs (st 0) = .ok .nx (st xs.length)
  | [], st, h => rfl
  | x :: xs, st, h => by
    have h0 := h 0 x rfl
    have ih := for_iter (f := f) (xs := xs) (st := fun k => st (k + 1)) fun k y hy => h (k + 1) y (by simpa using hy)
    simp only [forL]
    rcases h0 with h0 | h0 <;> (rw [h0]; exact ih)
/-- an invariant through a for -/
theorem for_inv {f : D → S → R S Fl} {I : Nat → S → Prop} : ∀ {xs : List D} {i : Nat} {s : S}, I i s → (∀ k x s, xs[k]? = some x → I (i + k) s → ∃ s', (f x s = .ok .nx s' ∨ f x s = .ok .ct s') ∧ I (i + k + 1) s') → ∃ s', forL f xs s = .ok .nx s' ∧ I (i + xs.length) s'
  | [], i, s, h, _ => ⟨s, rfl, h⟩
  | x :: xs, i, s, h, hs => by
    obtain ⟨s1, e, h1⟩ := hs 0 x s rfl h
    obtain ⟨s2, e2, h2⟩ := for_inv (f := f) (I := I) (xs := xs) (i := i + 1) h1 fun k y s hy hi => by
      have := hs (k + 1) y s (by simpa using hy) (by rw [show i + (k + 1) = i + 1 + k by omega]; exact hi)
      rwa [show i + (k + 1) + 1 = i + 1 + k + 1 by omega] at this
    refine ⟨s2, ?_, by rw [List.length_cons, show i + (xs.length + 1) = i + 1 + xs.length by omega]; exact h2⟩
    simp only [forL]
    rcases e with e | e <;> (rw [e]; exact e2)
def lcFn (C : Cl) (e : Ex) (t : Tg) (cond : Option Ex) (own : List Nat) : D → S → R S (Option D) := fun x s => (R.of (asg t x (wipeR s.r own)) s).b fun r s => (evT C cond ⟨r, s.c⟩).b fun b s =>
  if b then (ev C e s).b fun y s => if y.1 && isPk e then .bad else .ok (some y.2) s else .ok none s
theorem lcL_map {f : D → S → R S (Option D)} {h : D → Option D} {w : Row} {own : List Nat} {c : Cells} : ∀ {xs : List D} {s : S} {acc : List D}, (∀ x ∈ xs, ∀ s, wipeR s.r own = w → s.c = c → ∃ s', f x s = .ok (h x) s' ∧ wipeR s'.r own = w ∧ s'.c = c) → wipeR s.r own = w → s.c = c → acc.length + xs.length ≤ lim →
    ∃ s', lcL f xs s acc = .ok (acc ++ xs.filterMap h) s' ∧ wipeR s'.r own = w ∧ s'.c = c
  | [], s, acc, _, hw, hc, _ => ⟨s, by simp [lcL], hw, hc⟩
  | x :: xs, s, acc, hf, hw, hc, hl => by
    obtain ⟨s1, e1, w1, c1⟩ := hf x (by simp) s hw hc
    simp only [List.length_cons] at hl
    cases hx : h x with
    | none =>
      obtain ⟨s2, e2, w2, c2⟩ := lcL_map (f := f) (h := h) (xs := xs) (acc := acc) (fun y hy => hf y (by simp [hy])) w1 c1 (by omega)
      refine ⟨s2, ?_, w2, c2⟩
      simp only [lcL, e1, hx, R.b_ok, List.filterMap_cons]
      exact e2
    | some d =>
      obtain ⟨s2, e2, w2, c2⟩ := lcL_map (f := f) (h := h) (xs := xs) (acc := acc ++ [d]) (fun y hy => hf y (by simp [hy])) w1 c1 (by simp; omega)
      refine ⟨s2, ?_, w2, c2⟩
      simp only [lcL, e1, hx, R.b_ok, List.filterMap_cons]
      rw [if_pos (by omega), e2]
      simp
theorem back_wipe {old : Row} : ∀ {own : List Nat} {r : Row}, wipeR r own = wipeR old own → (∀ i ∈ own, i < old.length) → backR old r own = old := by
  intro own r hw hl
  have hlen : r.length = old.length := by
    have := congrArg List.length hw
    rwa [wipe_len, wipe_len] at this
  apply List.ext_getElem?
  intro i
  by_cases m : i ∈ own
  · exact back_in _ _ _ _ hlen m
  · rw [back_out _ _ _ _ m, ← wipe_out' r own i m, hw, wipe_out' _ _ _ m]
/-- a comprehension whose turns tell h -/
theorem ev_lc {C : Cl} {e : Ex} {t : Tg} {k : Ik} {its : List Ex} {cond : Option Ex} {own : List Nat} {s s1 : S} {ds xs : List D} (h : D → Option D) (hg : (tgIn own t && notOwn own s.r) = true) (h1 : evA C its s = .ok ds s1) (h2 : itD k ds = some xs) (hl : xs.length ≤ lim) (ho : ∀ i ∈ own, i < s1.r.length)
    (hf : ∀ x ∈ xs, ∀ s', wipeR s'.r own = wipeR (fzD its s1.r) own → s'.c = s1.c → ∃ s'', lcFn C e t cond own x s' = .ok (h x) s'' ∧ wipeR s''.r own = wipeR (fzD its s1.r) own ∧ s''.c = s1.c) :
    ev C (.lc e t k its cond own) s = .ok (true, .lst (xs.filterMap h)) ⟨fzD its s1.r, s1.c⟩ := by
  obtain ⟨s2, e2, w2, c2⟩ := lcL_map (f := lcFn C e t cond own) (h := h) (w := wipeR (fzD its s1.r) own) (own := own) (c := s1.c) (xs := xs) (s := ⟨fzD its s1.r, s1.c⟩) (acc := []) hf rfl rfl (by simpa using hl)
  have e : ev C (.lc e t k its cond own) s = (if !(tgIn own t && notOwn own s.r) then .bad else (evA C its s).b fun ds s => (R.of (itD k ds) ⟨fzD its s.r, s.c⟩).b fun xs s0 =>
      (lcL (lcFn C e t cond own) xs s0 []).b fun acc s => .ok (true, .lst acc) ⟨backR s0.r s.r own, s.c⟩) := rfl
  rw [e, hg, h1]
  simp only [Bool.not_true, Bool.false_eq_true, if_false, R.b_ok, h2, R.of_some]
  rw [e2]
  simp only [R.b_ok, List.nil_append]
  rw [back_wipe w2 (fun i hi => by rw [(fol_fzD its s1.r).1]; exact ho i hi), c2]
section
variable {C : Cl} {s : S} {a b c e x y z : Ex} {es : List Ex} {xs ys : List Sx} {d : D} {i : Nat}
@[simp] theorem ev_c : ev C (.c d) s = .ok (false, d) s := (rfl)
@[simp] theorem ev_v : ev C (.v i) s = (match s.r[i]? with | some (some od) => .ok od s | _ => .bad) := (rfl)
@[simp] theorem ev_fz : ev C (.fz i) s = (match s.r[i]? with | some (some od) => .ok (false, od.2) ⟨s.r.set i (some (false, od.2)), s.c⟩ | _ => .bad) := (rfl)
@[simp] theorem ev_bin {o : Op} : ev C (.bin o a b) s = (ev C a s).b fun x s => (ev C b s).b fun y s => R.of (binD o x.2 y.2) s := (rfl)
@[simp] theorem ev_neg : ev C (.neg a) s = (ev C a s).b fun x s => (match x.2 with | .int i => .ok (false, .int (-i)) s | _ => .bad) := (rfl)
@[simp] theorem ev_cmp {o : Cm} : ev C (.cmp o a b) s = (ev C a s).b fun x s => (ev C b s).b fun y s => (R.of (cmpD o x.2 y.2) s).b fun t s => .ok (false, .bl t) s := (rfl)
@[simp] theorem ev_chn {o p : Cm} : ev C (.chn o p a b c) s = (ev C a s).b fun x s => (ev C b s).b fun y s => (R.of (cmpD o x.2 y.2) s).b fun t s =>
      if t then (ev C c s).b fun z s => (R.of (cmpD p y.2 z.2) s).b fun t s => .ok (false, .bl t) s else .ok (false, .bl false) s := (rfl)
@[simp] theorem ev_and : ev C (.and a b) s = (ev C a s).b fun x s => (tru x s).b fun t s => if t then ev C b s else .ok x s := (rfl)
@[simp] theorem ev_or : ev C (.or a b) s = (ev C a s).b fun x s => (tru x s).b fun t s => if t then .ok x s else ev C b s := (rfl)
@[simp] theorem ev_not : ev C (.not a) s = (ev C a s).b fun x s => (tru x s).b fun t s => .ok (false, .bl (!t)) s := (rfl)
@[simp] theorem ev_ite : ev C (.ite c a b) s = (ev C c s).b fun x s => (tru x s).b fun t s => if t then ev C a s else ev C b s := (rfl)
@[simp] theorem ev_tup : ev C (.tup es) s = (evF C es s).b fun ds s => .ok (false, .tup ds) s := (rfl)
@[simp] theorem ev_lst : ev C (.lst es) s = (evF C es s).b fun ds s => .ok (true, .lst ds) s := (rfl)
@[simp] theorem ev_dct : ev C (.dct es) s = (evF C es s).b fun ds s => (R.of (mkD ds []) s).b fun kvs s => .ok (true, .dct kvs) s := (rfl)
@[simp] theorem ev_ix : ev C (.ix a b) s = (ev C a s).b fun x s => (ev C b s).b fun y s => (R.of (ixD x.2 y.2) s).b fun d s => .ok (false, d) s := (rfl)
@[simp] theorem ev_call : ev C (.call i es) s = (evA C es s).b fun ds s => callD C i es ds s := (rfl)
@[simp] theorem ev_callS : ev C (.callS i a es) s = (ev C a s).b fun x s => (evA C es s).b fun ds s => (match x.2 with | .tup xs => callD C i es (xs ++ ds) s | _ => .bad) := (rfl)
@[simp] theorem ev_bi {t : Bi} : ev C (.bi t es) s = (evA C es s).b fun ds s => R.of (biD t ds s.c) s := (rfl)
@[simp] theorem ev_isi {t : Ty} : ev C (.isi a t) s = (ev C a s).b fun x s => (R.of (isD x.2 t) s).b fun t s => .ok (false, .bl t) s := (rfl)
@[simp] theorem ev_get : ev C (.get a b c) s = (ev C a s).b fun x s => (ev C b s).b fun y s => (ev C c s).b fun z s => (match x.2 with
    | .dct kvs => if isKey y.2 && !(z.1 && isPk c) then .ok (false, (getD kvs y.2).getD z.2) s else .bad
    | _ => .bad) := (rfl)
@[simp] theorem ev_lrev : ev C (.lrev a) s = (ev C a s).b fun x s => (match x.2 with | .lst xs => .ok (true, .lst xs.reverse) s | _ => .bad) := (rfl)
@[simp] theorem ev_rep : ev C (.rep a b) s = (ev C a s).b fun x s => (ev C b s).b fun y s => (match x, y.2 with
    | (true, .lst xs), .int j => if decide (xs.length * j.toNat ≤ lim) && isRng j && !isPk a then .ok (true, .lst (List.replicate j.toNat xs).flatten) s else .bad
    | _, _ => .bad) := (rfl)
@[simp] theorem ev_cin {n : Bool} : ev C (.cin n a b) s = (ev C a s).b fun x s => (ev C b s).b fun y s => (R.of (inD x.2 y.2) s).b fun t s => .ok (false, .bl (t != n)) s := (rfl)
@[simp] theorem ev_sl {l h : Option Ex} : ev C (.sl a l h) s = (ev C a s).b fun x s => (evO C l s).b fun l s => (evO C h s).b fun h s => R.of (slD x.2 l h) s := (rfl)
@[simp] theorem evO_none : evO C none s = .ok none s := (rfl)
@[simp] theorem evO_some : evO C (some e) s = (ev C e s).b fun x s => (match x.2 with | .int i => .ok (some i) s | _ => .bad) := (rfl)
@[simp] theorem ev_gin {n : Bool} {x : PySem.Str} {g : List (PySem.Str × Int)} : ev C (.gin n a x g) s = (ev C a s).b fun x s => (match x.2 with | .str z => .ok (false, .bl ((g.lookup z).isSome != n)) s | _ => .bad) := (rfl)
@[simp] theorem ev_gix {x : PySem.Str} {g : List (PySem.Str × Int)} : ev C (.gix x g a) s = (ev C a s).b fun x s => (match x.2 with | .str z => (match g.lookup z with | some i => .ok (false, .int i) s | none => .bad) | _ => .bad) := (rfl)
@[simp] theorem ev_gget {x : PySem.Str} {g : List (PySem.Str × Int)} : ev C (.gget x g a) s = (ev C a s).b fun x s => (match x.2 with | .str z => (match g.lookup z with | some i => .ok (false, .int i) s | none => .ok (false, .non) s) | _ => .bad) := (rfl)
@[simp] theorem evA_nil : evA C [] s = .ok [] s := (rfl)
@[simp] theorem evA_cons : evA C (e :: es) s = (ev C e s).b fun x s => if x.1 && isPk e && !isV e then .bad else (evA C es s).b fun ds s => .ok (x.2 :: ds) s := (rfl)
@[simp] theorem evF_nil : evF C [] s = .ok [] s := (rfl)
@[simp] theorem evF_cons : evF C (e :: es) s = (ev C e s).b fun x s => if x.1 && isPk e then .bad else (evF C es s).b fun ds s => .ok (x.2 :: ds) s := (rfl)
@[simp] theorem evP_nil : evP C [] s = .ok [] s := (rfl)
@[simp] theorem evP_cons : evP C (e :: es) s = (ev C e s).b fun x s => if x.1 && isPk e then .bad else (evP C es s).b fun ds s => .ok (x :: ds) s := (rfl)
@[simp] theorem evT_none : evT C none s = .ok true s := (rfl)
@[simp] theorem evT_some : evT C (some e) s = (ev C e s).b fun x s => tru x s := (rfl)
@[simp] theorem xes_nil : xes C [] s = .ok .nx s := (rfl)
theorem xes_cons {x : Sx} : xes C (x :: xs) s = (xe C x s).b fun fl s => (match fl with | .nx => xes C xs s | .ret o d => .ok (.ret o d) s | .bk => .ok .bk s | .ct => .ok .ct s) := rfl
theorem xes_nx {x : Sx} {s1 : S} (h : xe C x s = .ok .nx s1) : xes C (x :: xs) s = xes C xs s1 := by rw [xes_cons, h]; rfl
theorem xes_ret {x : Sx} {s1 : S} {o : Bool} {d : D} (h : xe C x s = .ok (.ret o d) s1) : xes C (x :: xs) s = .ok (.ret o d) s1 := by rw [xes_cons, h]; rfl
@[simp] theorem xe_set : xe C (.set i e) s = (ev C e s).b fun x s => if x.1 && isPk e then .bad else .ok .nx ⟨s.r.set i (some (false, x.2)), s.c⟩ := (rfl)
@[simp] theorem xe_own : xe C (.own i e) s = (ev C e s).b fun x s => if x.1 && isPk e then .bad else .ok .nx ⟨s.r.set i (some x), s.c⟩ := (rfl)
@[simp] theorem xe_unp {t : Tg} : xe C (.unp t e) s = (ev C e s).b fun x s => if x.1 && isPk e then .bad else (R.of (asg t x.2 s.r) s).b fun r s => .ok .nx ⟨r, s.c⟩ := (rfl)
@[simp] theorem xe_par {is : List (Nat × Bool)} : xe C (.par is es) s = (evP C es s).b fun ds s => (R.of (parR is ds s.r) s).b fun r s => .ok .nx ⟨r, s.c⟩ := (rfl)
@[simp] theorem xe_aug {o : Op} : xe C (.aug i o e) s = (match s.r[i]? with
    | some (some (_, .int n)) => (ev C e s).b fun y s => (match o, y.2 with
      | .add, .int m => .ok .nx ⟨s.r.set i (some (false, .int (n + m))), s.c⟩
      | .sub, .int m => .ok .nx ⟨s.r.set i (some (false, .int (n - m))), s.c⟩
      | _, _ => .bad)
    | _ => .bad) := (rfl)
@[simp] theorem xe_app : xe C (.app i e) s = (ev C e s).b fun x s => if x.1 && isPk e then .bad else (match s.r[i]? with
    | some (some (true, .lst ds)) => if ds.length < lim then .ok .nx ⟨s.r.set i (some (true, .lst (ds ++ [x.2]))), s.c⟩ else .bad
    | _ => .bad) := (rfl)
@[simp] theorem xe_expr : xe C (.expr e) s = (ev C e s).b fun _ s => .ok .nx s := (rfl)
@[simp] theorem xe_ret : xe C (.ret e) s = (ev C e s).b fun x s => .ok (.ret x.1 x.2) s := (rfl)
@[simp] theorem xe_retN : xe C .retN s = .ok (.ret false .non) s := (rfl)
@[simp] theorem xe_ite : xe C (.ite c xs ys) s = (ev C c s).b fun x s => (tru x s).b fun t s => if t then xes C xs s else xes C ys s := (rfl)
@[simp] theorem xe_pass : xe C .pass s = .ok .nx s := (rfl)
@[simp] theorem xe_raise : xe C (.raise i) s = .exc i s.c := (rfl)
theorem xe_whl : xe C (.whl c xs) s = whlL (fun s => (ev C c s).b fun x s => tru x s) (fun s => xes C xs s) turns s := rfl
theorem xe_for {t : Tg} {k : Ik} : xe C (.for_ t k es xs) s = (evF C es s).b fun ds s => (R.of (itD k ds) s).b fun ys s => forL (fun x s => (R.of (asg t x s.r) s).b fun r s => xes C xs ⟨r, s.c⟩) ys s := rfl
@[simp] theorem xes_one {x : Sx} : xes C [x] s = xe C x s := by
  rw [xes_cons]
  cases h : xe C x s with
  | ok a s => cases a <;> rfl
  | exc e c => rfl
  | bad => rfl
@[simp] theorem tru_bl {b t : Bool} : tru (t, .bl b) s = .ok b s := (rfl)
@[simp] theorem binD_add {i j : Int} : binD .add (.int i) (.int j) = some (false, .int (i + j)) := (rfl)
@[simp] theorem binD_sub {i j : Int} : binD .sub (.int i) (.int j) = some (false, .int (i - j)) := (rfl)
@[simp] theorem binD_mul {i j : Int} : binD .mul (.int i) (.int j) = if smI i && smI j then some (false, .int (i * j)) else none := (rfl)
@[simp] theorem binD_fdiv {i j : Int} : binD .fdiv (.int i) (.int j) = if decide (0 < j) && smI j then some (false, .int (i / j)) else none := (rfl)
@[simp] theorem binD_mod {i j : Int} : binD .mod (.int i) (.int j) = if 0 < j then some (false, .int (i % j)) else none := (rfl)
@[simp] theorem cmp_eq_int {i j : Int} : cmpD .eq (.int i) (.int j) = some (decide (i = j)) := by
  have h : eqD (.int i) (.int j) = (i == j) := by unfold eqD; rfl
  show (if pl 60 (.int i) && pl 60 (.int j) then some (eqD (.int i) (.int j)) else none) = _
  rw [h]
  by_cases e : i = j <;> simp [pl, e]
@[simp] theorem cmp_ne_int {i j : Int} : cmpD .ne (.int i) (.int j) = some (!decide (i = j)) := by
  have h : eqD (.int i) (.int j) = (i == j) := by unfold eqD; rfl
  show (if pl 60 (.int i) && pl 60 (.int j) then some (!eqD (.int i) (.int j)) else none) = _
  rw [h]
  by_cases e : i = j <;> simp [pl, e]
@[simp] theorem cmp_ne_bl {i j : Bool} : cmpD .ne (.bl i) (.bl j) = some (i != j) := by
  cases i <;> cases j <;> simp [cmpD, eqD, pl]
@[simp] theorem cmp_lt {i j : Int} : cmpD .lt (.int i) (.int j) = some (decide (i < j)) := (rfl)
@[simp] theorem cmp_le {i j : Int} : cmpD .le (.int i) (.int j) = some (decide (i ≤ j)) := (rfl)
@[simp] theorem cmp_gt {i j : Int} : cmpD .gt (.int i) (.int j) = some (decide (j < i)) := (rfl)
@[simp] theorem cmp_ge {i j : Int} : cmpD .ge (.int i) (.int j) = some (decide (j ≤ i)) := (rfl)
@[simp] theorem cmp_is_non {x : D} : cmpD .is x .non = some (isNon x) := by cases x <;> rfl
@[simp] theorem cmp_isn_non {x : D} : cmpD .isn x .non = some (!isNon x) := by cases x <;> rfl
@[simp] theorem cmp_isn_bl {a b : Bool} : cmpD .isn (.bl a) (.bl b) = some (a != b) := (rfl)
@[simp] theorem ix_tup0 {x : D} {ds : List D} : ixD (.tup (x :: ds)) (.int 0) = some x := by simp [ixD, atD, ixN]
@[simp] theorem ix_tup1 {x y : D} {ds : List D} : ixD (.tup (x :: y :: ds)) (.int 1) = some y := by
  have : (1 : Int) < (ds.length : Int) + 1 + 1 := by omega
  simp [ixD, atD, ixN, this]
@[simp] theorem ix_tup2 {x y z : D} {ds : List D} : ixD (.tup (x :: y :: z :: ds)) (.int 2) = some z := by
  have : (2 : Int) < (ds.length : Int) + 1 + 1 + 1 := by omega
  simp [ixD, atD, ixN, this]
theorem ix_lst {ds : List D} {j : Nat} {x : D} {i : Int} (hi : i = (j : Nat)) (h : ds[j]? = some x) : ixD (.lst ds) (.int i) = some x := by
  have hl := (List.getElem?_eq_some_iff.mp h).1
  subst hi
  have : (j : Int) < ds.length := by omega
  simp [ixD, atD, ixN, this, h]
@[simp] theorem ix_last {ds : List D} {x : D} : ixD (.lst (ds ++ [x])) (.int (-1)) = some x := by
  have h2 : -((ds.length : Int) + 1) ≤ -1 := by omega
  have h3 : ((-1 : Int) + ((ds.length : Int) + 1)).toNat = ds.length := by omega
  simp [ixD, atD, ixN, h2, h3]
end
section
@[simp] theorem bi_min {i j : Int} {c : Cells} : biD .min [.int i, .int j] c = some (false, .int (min i j)) := by
  show some (false, D.int (if j < i then j else i)) = _
  congr 3
  split <;> omega
@[simp] theorem bi_max {i j : Int} {c : Cells} : biD .max [.int i, .int j] c = some (false, .int (max i j)) := by
  show some (false, D.int (if j > i then j else i)) = _
  congr 3
  split <;> omega
@[simp] theorem bi_abs {i : Int} {c : Cells} : biD .abs [.int i] c = some (false, .int (i.natAbs : Int)) := by
  show some (false, D.int (if i < 0 then -i else i)) = _
  congr 3
  split <;> omega
@[simp] theorem bi_lenl {ds : List D} {c : Cells} : biD .len [.lst ds] c = some (false, .int ds.length) := (rfl)
@[simp] theorem bi_lent {ds : List D} {c : Cells} : biD .len [.tup ds] c = some (false, .int ds.length) := (rfl)
@[simp] theorem bi_int {i : Int} {c : Cells} : biD .int [.int i] c = some (false, .int i) := (rfl)
@[simp] theorem bi_intb {b : Bool} {c : Cells} : biD .int [.bl b] c = some (false, .int (bI b)) := (rfl)
theorem ints_map : ∀ ns : List Int, intsD (ns.map .int) = some ns
  | [] => rfl
  | n :: ns => by simp [intsD, ints_map ns]
theorem bi_sum {ns : List Int} {c : Cells} : biD .sum [.lst (ns.map .int)] c = some (false, .int ns.sum) := by
  show (intsD (ns.map .int)).map _ = _
  rw [ints_map]; rfl
theorem bls_map : ∀ ns : List Bool, blsD (ns.map .bl) = some ns
  | [] => rfl
  | n :: ns => by simp [blsD, bls_map ns]
theorem bi_all {ns : List Bool} {c : Cells} : biD .all [.lst (ns.map .bl)] c = some (false, .bl (ns.all id)) := by
  show (blsD (ns.map .bl)).map _ = _
  rw [bls_map]; rfl
/-- smallness -/
def sml (k : Nat) (i : Int) : Prop := i.natAbs < 2 ^ k
theorem sml.sm {k : Nat} {i : Int} (h : sml k i) (hk : k ≤ 6000) : smI i = true := by
  unfold smI
  rw [decide_eq_true_eq]
  exact Nat.lt_of_lt_of_le h (Nat.pow_le_pow_right (by decide) hk)
theorem sml.mono {k j : Nat} {i : Int} (h : sml k i) (hk : k ≤ j) : sml j i := Nat.lt_of_lt_of_le h (Nat.pow_le_pow_right (by decide) hk)
theorem sml.two {k : Nat} {i : Int} (h : sml k i) : sml (k + 1) (2 * i) := by
  unfold sml at *
  rw [Nat.pow_succ]
  omega
theorem sml.le {k : Nat} {i j : Int} (h : sml k i) (h0 : 0 ≤ j) (hj : j ≤ i) : sml k j := by
  unfold sml at *
  omega
end
theorem call_ret {T : List Fd} {k f np nn : Nat} {b : List Sx} {ds : List D} {c : Cells} {o : Bool} {d : D} {s : S} (h : T[f]? = some ⟨np, nn, b⟩) (hl : ds.length = np) (e : xes (call T k) b ⟨ds.map (fun d => some (false, d)) ++ List.replicate (nn - np) none, c⟩ = .ok (.ret o d) s) : call T (k + 1) f ds c = .ok (o, d) s.c := by
  rw [call_eq h hl]
  have e : xes (call T k) b (⟨frame ⟨np, nn, b⟩ ds, c⟩ : S) = _ := e
  rw [e]
theorem call_nx {T : List Fd} {k f np nn : Nat} {b : List Sx} {ds : List D} {c : Cells} {s : S} (h : T[f]? = some ⟨np, nn, b⟩) (hl : ds.length = np) (e : xes (call T k) b ⟨ds.map (fun d => some (false, d)) ++ List.replicate (nn - np) none, c⟩ = .ok .nx s) : call T (k + 1) f ds c = .ok (false, .non) s.c := by
  rw [call_eq h hl]
  have e : xes (call T k) b (⟨frame ⟨np, nn, b⟩ ds, c⟩ : S) = _ := e
  rw [e]
theorem call_exc {T : List Fd} {k f np nn e e' : Nat} {b : List Sx} {ds : List D} {c c' c2 : Cells} (h : T[f]? = some ⟨np, nn, b⟩) (hl : ds.length = np) (e1 : xes (call T k) b ⟨ds.map (fun d => some (false, d)) ++ List.replicate (nn - np) none, c⟩ = .exc e c') (e2 : xxs (call T k) b ⟨ds.map (fun d => some (false, d)) ++ List.replicate (nn - np) none, c⟩ = some (e', c2)) : call T (k + 1) f ds c = .exc e' c2 := by
  rw [call_eq h hl]
  have e1 : xes (call T k) b (⟨frame ⟨np, nn, b⟩ ds, c⟩ : S) = _ := e1
  have e2 : xxs (call T k) b (⟨frame ⟨np, nn, b⟩ ds, c⟩ : S) = _ := e2
  rw [e1]
  simp only
  rw [e2]
theorem whl_true {t : S → R S Bool} {f : S → R S Fl} {n : Nat} {s s1 s2 : S} (h : t s = .ok true s1) (h2 : f s1 = .ok .nx s2) : whlL t f (n + 1) s = whlL t f n s2 := by
  simp only [whlL, h, R.b_ok, if_true, h2]
theorem whl_false {t : S → R S Bool} {f : S → R S Fl} {n : Nat} {s s1 : S} (h : t s = .ok false s1) : whlL t f (n + 1) s = .ok .nx s1 := by
  simp only [whlL, h, R.b_ok]
  rfl
theorem whl_ret {t : S → R S Bool} {f : S → R S Fl} {n : Nat} {s s1 s2 : S} {o : Bool} {d : D} (h : t s = .ok true s1) (h2 : f s1 = .ok (.ret o d) s2) : whlL t f (n + 1) s = .ok (.ret o d) s2 := by
  simp only [whlL, h, R.b_ok, if_true, h2]
/-- a comprehension whose turns leave all as it is -/
theorem ev_lcP {C : Cl} {e : Ex} {t : Tg} {k : Ik} {its : List Ex} {cond : Option Ex} {own : List Nat} {s s1 : S} {ds xs ys : List D} {w : Row} (h : D → Option D) (h1 : evA C its s = .ok ds s1) (h2 : itD k ds = some xs) (hg : (tgIn own t && notOwn own s.r) = true) (hl : xs.length ≤ lim) (ho : ∀ i ∈ own, i < s1.r.length) (hw : wipeR (fzD its s1.r) own = w)
    (hf : ∀ x ∈ xs, ∃ r1, asg t x w = some r1 ∧ wipeR r1 own = w ∧ ((evT C cond ⟨r1, s1.c⟩ = .ok false ⟨r1, s1.c⟩ ∧ h x = none) ∨ (evT C cond ⟨r1, s1.c⟩ = .ok true ⟨r1, s1.c⟩ ∧ ∃ y, ev C e ⟨r1, s1.c⟩ = .ok y ⟨r1, s1.c⟩ ∧ (y.1 && isPk e) = false ∧ h x = some y.2))) (hy : xs.filterMap h = ys) :
    ev C (.lc e t k its cond own) s = .ok (true, .lst ys) ⟨fzD its s1.r, s1.c⟩ := by
  rw [← hy]
  refine ev_lc h hg h1 h2 hl ho fun x hx s' hw' hc' => ?_
  obtain ⟨r1, e1, e2, e3⟩ := hf x hx
  rw [hw] at hw' ⊢
  unfold lcFn
  rw [hw', e1]
  simp only [R.of_some, R.b_ok, hc']
  rcases e3 with ⟨e3, e4⟩ | ⟨e3, y, e4, e5, e6⟩
  · rw [e3]
    simp only [R.b_ok]
    exact ⟨⟨r1, s1.c⟩, by rw [e4]; rfl, e2, rfl⟩
  · rw [e3]
    simp only [R.b_ok, if_true]
    rw [e4]
    simp only [R.b_ok, e5]
    exact ⟨⟨r1, s1.c⟩, by rw [e6]; rfl, e2, rfl⟩
theorem itD_rng {i : Int} (h : isRng i = true) : itD .rng [.int i] = some (rngD 0 i.toNat) := if_pos h
theorem itD_rng2 {i j : Int} (h : isRng i = true) (h2 : isRng j = true) : itD .rng [.int i, .int j] = some (rngD i (j - i).toNat) := if_pos (by rw [h, h2]; rfl)
theorem rng_ok {i : Int} (h : 0 ≤ i) (h2 : i ≤ 1000000) : isRng i = true := by
  unfold isRng
  rw [Bool.and_eq_true, decide_eq_true_eq, decide_eq_true_eq]
  exact ⟨Int.le_trans (by decide) h, Int.lt_of_le_of_lt h2 (by decide)⟩
theorem xe_for_of {C : Cl} {t : Tg} {k : Ik} {es : List Ex} {xs : List Sx} {s s1 : S} {ds ys : List D} (h1 : evF C es s = .ok ds s1) (h2 : itD k ds = some ys) : xe C (.for_ t k es xs) s = forL (fun x s => (R.of (asg t x s.r) s).b fun r s => xes C xs ⟨r, s.c⟩) ys s1 := by
  rw [xe_for, h1, R.b_ok, h2]
  rfl
end Q
end

section
set_option Elab.async false
set_option linter.all false
set_option maxRecDepth 100000
set_option maxHeartbeats 4000000
namespace Q
open PySem PySem.Spec PyProof.Rows L2
/-! ### facts of the head -/
theorem lk_mem {α β : Type} [BEq α] [LawfulBEq α] {a : α} {b : β} : ∀ {l : List (α × β)}, l.lookup a = some b → (a, b) ∈ l
  | [], h => by cases h
  | (x, y) :: l, h => by
    rw [List.lookup_cons] at h
    split at h
    · rename_i e
      have := eq_of_beq e
      cases h; subst this; exact List.mem_cons_self
    · exact List.mem_cons_of_mem _ (lk_mem h)
def excCB (K : PySem.W.Frag) (D : Addr) : Bool :=
  decide (PySem.W.findIn K (.ref D) "__getattribute__" = some (some (.builtin "BaseException.__getattribute__"))) && (decide (PySem.W.findIn K (.ref D) "__getattr__" = some none) && (decide (PySem.W.subIn K (.ref D) (.type "BaseException") = some true) &&
  (PySem.W.hasDictIn K D && (decide (PySem.W.findIn K (.ref D) "__class__" = some (some (.builtin "object.__class__"))) && (decide (PySem.W.specialIn K (.builtin "object.__class__") "__get__" = some (some (.builtin "getset_descriptor.__get__"))) &&
  (decide (PySem.W.takesIn K (.builtin "object.__class__") = some true) && decide (PySem.W.mroIn K D (.type "object") = some true)))))))
theorem excCB_ok {K : PySem.W.Frag} {D : Addr} (h : excCB K D = true) : ExcC K D := by
  unfold excCB at h
  simp only [Bool.and_eq_true, decide_eq_true_eq] at h
  obtain ⟨h1, h2, h3, h4, h5, h6, h7, h8⟩ := h
  exact ⟨h1, h2, h3, h4, h5, h6, h7, h8⟩
def isRB (K : PySem.W.Frag) (D : Addr) : List Str → List Bool → Bool
  | [], [] => true
  | n :: ns, b :: bs => decide (PySem.W.nsIn K mainGlobals n = some (some (.ref (He.ga K n)))) && (decide (PySem.W.kitOne K (.ref D) (.ref (He.ga K n)) = some b) && isRB K D ns bs)
  | _, _ => false
theorem isRB_ok {K : PySem.W.Frag} {h : Heap} {mg : Str → Option Value} (X : K.In h) (G : h.Ns mainGlobals mg) {D : Addr} : ∀ {ns : List Str} {bs : List Bool}, isRB K D ns bs = true → IsR K mg D ns bs
  | [], [], _ => trivial
  | n :: ns, b :: bs, e => by
    simp only [isRB, Bool.and_eq_true, decide_eq_true_eq] at e
    exact ⟨⟨He.ga K n, PySem.W.mg_of X G e.1, e.2.1⟩, isRB_ok X G e.2.2⟩
  | [], _ :: _, e => by cases e
  | _ :: _, [], e => by cases e
/-- handled exceptions: their classes, and what the def asks of them -/
def hdB (K : PySem.W.Frag) (ns : List Str) (tb : List (Nat × List Bool)) : Bool := tb.all fun q => excCB K (He.ga K (xn q.1)) && isRB K (He.ga K (xn q.1)) ns q.2
theorem hdB_ok {K : PySem.W.Frag} {h : Heap} {mg : Str → Option Value} (X : K.In h) (G : h.Ns mainGlobals mg) {ns : List Str} {tb : List (Nat × List Bool)} (hb : hdB K ns tb = true) (hg : ∀ e bs, tb.lookup e = some bs → mg (xn e) = some (.ref (He.ga K (xn e)))) (e : Nat) (D : Addr) (bs : List Bool) (hm : mg (xn e) = some (.ref D)) (hl : tb.lookup e = some bs) : ExcC K D ∧ IsR K mg D ns bs := by
  have m := lk_mem hl
  have q := List.all_eq_true.mp hb _ m
  rw [Bool.and_eq_true] at q
  have := hg e bs hl
  rw [hm] at this
  cases this
  exact ⟨excCB_ok q.1, isRB_ok X G q.2⟩
/-! dicts of the module -/
def gdV (g : List (Str × Int)) : List (Str × He.Dv) := g.map fun q => (q.1, .int q.2)
theorem look_mem {g : List (Str × Int)} {z : Str} {i : Int} (h : g.lookup z = some i) : (z, He.Dv.int i) ∈ gdV g := List.mem_map.mpr ⟨(z, i), lk_mem h, rfl⟩
theorem look_no : ∀ {g : List (Str × Int)} {z : Str}, g.lookup z = none → z ∉ g.map (·.1)
  | [], z, _ => by simp
  | (k, i) :: g, z, h => by
    rw [List.lookup_cons] at h
    split at h
    · cases h
    · rename_i e
      simp only [List.map_cons, List.mem_cons, not_or]
      exact ⟨fun x => by subst x; simp at e, look_no h⟩
theorem find_no {z : Str} {P : Params} : ∀ {l : List DictEntry} {ks : List Str}, l.map He.keyOf = He.keysIn P ks → z ∉ ks → l.find? (·.key.isStr z) = none ∧ l.any (·.refKey) = false
  | [], _, _, _ => ⟨rfl, rfl⟩
  | e :: r, [], h, _ => by cases h
  | e :: r, k :: ks, h, n => by
    have h1 : He.keyOf e :: r.map He.keyOf = some (k, PyData.keyHash P k) :: He.keysIn P ks := h
    injection h1 with h2 h3
    simp only [List.mem_cons, not_or] at n
    obtain ⟨a, b⟩ := find_no h3 n.2
    unfold He.keyOf at h2
    split at h2
    · rename_i x t q
      have hx := (Prod.mk.inj (Option.some.inj h2)).1
      have e1 : e.key.isStr z = false := by
        rw [q]
        show (x == z) = false
        exact beq_eq_false_iff_ne.mpr fun y => n.1 (y.symm.trans hx)
      have e2 : e.refKey = false := by
        unfold DictEntry.refKey
        rw [q]
      refine ⟨?_, ?_⟩
      · rw [List.find?_cons, e1]; exact a
      · rw [List.any_cons, e2, Bool.false_or]; exact b
    · cases h2
theorem gd_of {K : PySem.W.Frag} {w : World} {mg : Str → Option Value} {n : Str} {g : List (Str × Int)} (hm : mg n = some (.ref (He.ga K n))) (hd : He.dicW K (He.ga K n) = some (He.keysIn w.params (g.map (·.1)))) (hv : He.valsB K (He.ga K n) (gdV g) = true) :
    ∃ d es k, mg n = some (.ref d) ∧ KDict K w d es k ∧ ∀ z, (∀ i, g.lookup z = some i → ∃ t, PySem.W.nsIn K d z = some (some (.int i t))) ∧ (g.lookup z = none → PySem.W.nsIn K d z = some none) := by
  obtain ⟨es, k, kd⟩ := He.dicW_ok hd
  refine ⟨_, es, k, hm, kd, fun z => ⟨fun i hl => ?_, fun hl => ?_⟩⟩
  · obtain ⟨u, e1, e2⟩ := He.valsB_ok hv (look_mem hl)
    obtain ⟨t, e3⟩ := (show ∃ t, u = Value.int i t from e2)
    exact ⟨t, by rw [e1, e3]⟩
  · have hk : es.toList.map He.keyOf = He.keysIn w.params (g.map (·.1)) := by
      unfold He.dicW at hd
      rw [kd.at_] at hd
      simp only at hd
      split at hd
      · exact Option.some.inj hd
      · cases hd
    obtain ⟨a, b⟩ := find_no hk (look_no hl)
    unfold PySem.W.nsIn
    rw [kd.at_]
    simp only [a, b]
    rfl
theorem tab_of {fa : List He.Fa} {fn : List He.DefD} {ts : List He.Tab} {w : World} {K : PySem.W.Frag} (c : He.SaysT fa fn ts w K) (i : Nat) {t : He.Tab} (h : ts[i]? = some t) : He.dicW K (t.1 K) = some (He.keysIn w.params t.2) := by
  have e : ts.map (fun t => He.dicW K (t.1 K)) = ts.map fun t => some (He.keysIn w.params t.2) := congrArg (fun z : He.AlT => z.2) c
  have e2 := congrArg (fun l => l[i]?) e
  simp only [List.getElem?_map, h, Option.map_some] at e2
  exact Option.some.inj e2
end Q
end

section
set_option Elab.async false
set_option linter.all false
set_option maxRecDepth 100000
set_option maxHeartbeats 0
namespace Hd
open PySem PySem.Spec PyProof.Rows L2
def top (i : Nat) : Stmt := PySem.Challenge.pw_coopward_k09_whole_faults_of_share_books.main.body.getD i (.Pass ⟨0, 0, 0, 0⟩)
def dd (i : Nat) (a x : Str) : He.DefD := ⟨(a, none), x, x, defArgs (top i), defBody (top i), defScope (top i), [], []⟩
def fn0 : List He.DefD := [dd 8 "is_integer" "is_integer", dd 9 "is_within" "is_within", dd 10 "is_name" "is_name", dd 11 "check" "check", dd 12 "is_count" "is_count", dd 28 "is_day" "is_day", dd 18 "is_day_sheets" "is_day", dd 20 "has_pence" "has_pence", dd 21 "fault_of" "fault_of", dd 22 "share_faults" "share_faults", dd 28 "is_day_shares" "is_day", dd 30 "is_share_entry" "is_share_entry", dd 31 "is_share_book" "is_share_book", dd 33 "_law_draws" "_law_draws", dd 34 "_law_take" "_law_take", dd 35 "_law_pick" "_law_pick", dd 36 "_law_same" "_law_same", dd 37 "_law_flags" "_law_flags", dd 38 "_law_is_name" "_law_is_name", dd 39 "_law_told" "_law_told", dd 40 "_law_is_number" "_law_is_number", dd 41 "_law_faults" "_law_faults", dd 42 "_law_draft" "_law_draft", dd 43 "law" "law"]
def fn : List He.DefD := fn0
def fa0 : List He.Fa := [.glo "is_integer", .glo "is_within", .glo "is_name", .glo "check", .glo "is_count", .glo "is_day", .glo "is_day_sheets", .glo "has_pence", .glo "fault_of", .glo "share_faults", .glo "is_day_shares", .glo "is_share_entry", .glo "is_share_book", .glo "_law_draws", .glo "_law_take", .glo "_law_pick", .glo "_law_same", .glo "_law_flags", .glo "_law_is_name", .glo "_law_told", .glo "_law_is_number", .glo "_law_faults", .glo "_law_draft", .glo "law", .free "len"]
def fa1 : List He.Fa := [.free "abs", .free "max", .free "min", .free "sum", .free "int", .free "all", .free "list", .free "repr", .free "bool", .free "str", .free "tuple", .free "dict", .free "isinstance", .free "range", .free "enumerate", .free "reversed", .free "zip", .int "MOST_SIGNS" 12, .int "MOST_ENTRIES_sheets" 200, .int "LAST_DAY_sheets" 100000, .int "MOST_SHARE_sheets" 10000000, .int "MOST_ENTRIES_shares" 200, .int "MOST_SHARE_shares" 10000000, .int "LAST_DAY_shares" 100000, .glo "NotRight"]
def fa2 : List He.Fa := [.glo "CoopError", .exc "NotRight", .exm "NotRight" "CoopError" true, .glo "SIZES_sheets", .glo "SIZES_shares"]
def fa : List He.Fa := fa0 ++ fa1 ++ fa2
abbrev R : PySem.W.OpenRow := PySem.W.OpenLaw.row PySem.Challenge.rw_coopward_k09_whole_faults_of_share_books
def lo0 : List PySem.Str := ["MOST_SIGNS", "CoopError", "NotRight", "NotThere", "NoAnswer", "TooLarge", "Malformed", "is_integer", "is_within", "is_name", "check", "is_count", "SIZES_sheets", "MOST_ENTRIES_sheets", "LAST_DAY_sheets", "MOST_SHARE_sheets", "is_day", "is_day_sheets", "has_pence", "fault_of", "share_faults", "MOST_ENTRIES_shares", "MOST_SHARE_shares", "LAST_DAY_shares", "SIZES_shares"]
def lo1 : List PySem.Str := ["is_day_shares", "is_share_entry", "is_share_book", "_law_draws", "_law_take", "_law_pick", "_law_same", "_law_flags", "_law_is_name", "_law_told", "_law_is_number", "_law_faults", "_law_draft"]
def names : List PySem.Str := lo0 ++ lo1
def gd0 : List (Str × Int) := [("join", 4), ("pay", 4), ("leave", 3), ("back", 4)]
def gd1 : List (Str × Int) := [("join", 4), ("pay", 4), ("leave", 3), ("back", 4)]
def ts : List He.Tab := [(fun K => He.ga K "SIZES_sheets", gd0.map (·.1)), (fun K => He.ga K "SIZES_shares", gd1.map (·.1))]
def tb : List (Nat × List Bool) := [(0, [true, false, false, false, false])]
def fns : List Str := ["NotRight", "NotThere", "NoAnswer", "TooLarge", "Malformed"]
def exB (K : PySem.W.Frag) : Bool := Q.hdB K fns tb && He.valsB K (He.ga K "SIZES_sheets") (Q.gdV gd0) && He.valsB K (He.ga K "SIZES_shares") (Q.gdV gd1)
abbrev hk : PySem.W.Hook := He.hookX 4 fa fn ts [] exB
def ob (s : PySem.W.SharedT) : He.AlX := He.obsX 4 fa fn ts [] exB (HandSHeadRun.getT s)
theorem ob_eq (s : PySem.W.SharedT) : ob s = hk.obs s.abs := He.obsX_eq (HandSHeadRun.getT_eq s)
theorem run_f (w : World) : HandSHeadRun.RunEq R (PySem.W.view R.prog [43]) hk ob 6000 names (w.withFollow "special-get-raises" false) := by
  intro os
  kernel_rfl
theorem run_t (w : World) : HandSHeadRun.RunEq R (PySem.W.view R.prog [43]) hk ob 6000 names (w.withFollow "special-get-raises" true) := by
  intro os
  kernel_rfl
theorem run (w : World) : HandSHeadRun.RunEq R (PySem.W.view R.prog [43]) hk ob 6000 names w := PySem.W.byRow2 "special-get-raises" (P := fun w => HandSHeadRun.RunEq R (PySem.W.view R.prog [43]) hk ob 6000 names w) run_f run_t w
def ds0 : List (Str × Nat) := [("is_integer", 0), ("is_within", 1), ("is_name", 2), ("check", 3), ("is_count", 4), ("is_day", 5), ("is_day_sheets", 6), ("has_pence", 7), ("fault_of", 8), ("share_faults", 9), ("is_day_shares", 10), ("is_share_entry", 11), ("is_share_book", 12), ("_law_draws", 13), ("_law_take", 14), ("_law_pick", 15), ("_law_same", 16), ("_law_flags", 17), ("_law_is_name", 18), ("_law_told", 19), ("_law_is_number", 20), ("_law_faults", 21), ("_law_draft", 22), ("law", 23)]
def ds : List (Str × Nat) := ds0
def gi0 : List (Str × Int) := [("MOST_SIGNS", 12), ("MOST_ENTRIES_sheets", 200), ("LAST_DAY_sheets", 100000), ("MOST_SHARE_sheets", 10000000), ("MOST_ENTRIES_shares", 200), ("MOST_SHARE_shares", 10000000), ("LAST_DAY_shares", 100000)]
def gi : List (Str × Int) := gi0
def xs0 : List (Str × Nat) := [("NotRight", 0)]
def xs : List (Str × Nat) := xs0
def gd : List (Str × List (Str × Int)) := [("SIZES_sheets", gd0), ("SIZES_shares", gd1)]
def tr : List (Str × Str) := [("CoopError", "_law_flags")]
def pg : Q.Pg := ⟨ds, gi, xs, gd, tr, tb⟩
def z0 : Q.Sc := ⟨["value"], (defScope (top 8)).names, (defScope (top 8)).names, ds, gi, [], [], xs, gd, tr, tb⟩
def b0 : List Q.Sx := Q.cSs 60 100 z0 (defBody (top 8))
def z1 : Q.Sc := ⟨["value", "low", "high"], (defScope (top 9)).names, (defScope (top 9)).names, ds, gi, [], [], xs, gd, tr, tb⟩
def b1 : List Q.Sx := Q.cSs 60 100 z1 (defBody (top 9))
def z2 : Q.Sc := ⟨["value", "sign"], (defScope (top 10)).names, (defScope (top 10)).names, ds, gi, [], [], xs, gd, tr, tb⟩
def b2 : List Q.Sx := Q.cSs 60 100 z2 (defBody (top 10))
def z3 : Q.Sc := ⟨["is_right"], (defScope (top 11)).names, (defScope (top 11)).names, ds, gi, [], [], xs, gd, tr, tb⟩
def b3 : List Q.Sx := Q.cSs 60 100 z3 (defBody (top 11))
def z4 : Q.Sc := ⟨["value"], (defScope (top 12)).names, (defScope (top 12)).names, ds, gi, [], [], xs, gd, tr, tb⟩
def b4 : List Q.Sx := Q.cSs 60 100 z4 (defBody (top 12))
def z5 : Q.Sc := ⟨["value"], (defScope (top 28)).names, (defScope (top 28)).names, ds, gi, [], [], xs, gd, tr, tb⟩
def b5 : List Q.Sx := Q.cSs 60 100 z5 (defBody (top 28))
def z6 : Q.Sc := ⟨["value"], (defScope (top 18)).names, (defScope (top 18)).names, ds, gi, [], [], xs, gd, tr, tb⟩
def b6 : List Q.Sx := Q.cSs 60 100 z6 (defBody (top 18))
def z7 : Q.Sc := ⟨["entry"], (defScope (top 20)).names, (defScope (top 20)).names, ds, gi, [], [], xs, gd, tr, tb⟩
def b7 : List Q.Sx := Q.cSs 60 100 z7 (defBody (top 20))
def z8 : Q.Sc := ⟨["entry", "at", "last"], (defScope (top 21)).names, (defScope (top 21)).names, ds, gi, [], [], xs, gd, tr, tb⟩
def b8 : List Q.Sx := Q.cSs 60 100 z8 (defBody (top 21))
def z9 : Q.Sc := ⟨["draft", "found", "last", "at", "entry", "fault"], (defScope (top 22)).names, (defScope (top 22)).names, ds, gi, ["found"], [], xs, gd, tr, tb⟩
def b9 : List Q.Sx := Q.cSs 60 100 z9 (defBody (top 22))
def z10 : Q.Sc := ⟨["value"], (defScope (top 28)).names, (defScope (top 28)).names, ds, gi, [], [], xs, gd, tr, tb⟩
def b10 : List Q.Sx := Q.cSs 60 100 z10 (defBody (top 28))
def z11 : Q.Sc := ⟨["value"], (defScope (top 30)).names, (defScope (top 30)).names, ds, gi, [], [], xs, gd, tr, tb⟩
def b11 : List Q.Sx := Q.cSs 60 100 z11 (defBody (top 30))
def z12 : Q.Sc := ⟨["value", "one", "other", "entry"], (defScope (top 31)).names, (defScope (top 31)).names, ds, gi, [], [], xs, gd, tr, tb⟩
def b12 : List Q.Sx := Q.cSs 60 100 z12 (defBody (top 31))
def z13 : Q.Sc := ⟨["script", "draws", "seed", "cell", "k", "number"], (defScope (top 33)).names, (defScope (top 33)).names, ds, gi, ["draws"], [], xs, gd, tr, tb⟩
def b13 : List Q.Sx := Q.cSs 60 100 z13 (defBody (top 33))
def z14 : Q.Sc := ⟨["draws", "bound"], (defScope (top 34)).names, (defScope (top 34)).names, ds, gi, [], [], xs, gd, tr, tb⟩
def b14 : List Q.Sx := Q.cSs 60 100 z14 (defBody (top 34))
def z15 : Q.Sc := ⟨["draws", "some"], (defScope (top 35)).names, (defScope (top 35)).names, ds, gi, [], [], xs, gd, tr, tb⟩
def b15 : List Q.Sx := Q.cSs 60 100 z15 (defBody (top 35))
def z16 : Q.Sc := ⟨["actual", "due", "k", "key"], (defScope (top 36)).names, (defScope (top 36)).names, ds, gi, [], [], xs, gd, tr, tb⟩
def b16 : List Q.Sx := Q.cSs 60 100 z16 (defBody (top 36))
def z17 : Q.Sc := ⟨["e"], (defScope (top 37)).names, (defScope (top 37)).names, ds, gi, [], [], xs, gd, tr, tb⟩
def b17 : List Q.Sx := Q.cSs 60 100 z17 (defBody (top 37))
def z18 : Q.Sc := ⟨["value", "sign"], (defScope (top 38)).names, (defScope (top 38)).names, ds, gi, [], [], xs, gd, tr, tb⟩
def b18 : List Q.Sx := Q.cSs 60 100 z18 (defBody (top 38))
def z19 : Q.Sc := ⟨["value", "e"], (defScope (top 39)).names, (defScope (top 39)).names, ds, gi, [], [], xs, gd, tr, tb⟩
def b19 : List Q.Sx := Q.cSs 60 100 z19 (defBody (top 39))
def z20 : Q.Sc := ⟨["value"], (defScope (top 40)).names, (defScope (top 40)).names, ds, gi, [], [], xs, gd, tr, tb⟩
def b20 : List Q.Sx := Q.cSs 60 100 z20 (defBody (top 40))
def z21 : Q.Sc := ⟨["draft", "k", "sizes", "found", "last", "entry", "word"], (defScope (top 41)).names, (defScope (top 41)).names, ds, gi, ["found"], [], xs, gd, tr, tb⟩
def b21 : List Q.Sx := Q.cSs 60 100 z21 (defBody (top 41))
def z22 : Q.Sc := ⟨["draws", "much", "k", "found", "day", "entry", "word", "odd", "name", "rows"], (defScope (top 42)).names, (defScope (top 42)).names, ds, gi, ["found"], [], xs, gd, tr, tb⟩
def b22 : List Q.Sx := Q.cSs 60 100 z22 (defBody (top 42))
def z23 : Q.Sc := ⟨["script", "draws", "turn", "many", "values", "got", "much", "draft", "k", "kept", "due", "value"], (defScope (top 43)).names, (defScope (top 43)).names, ds, gi, ["got"], ["draws"], xs, gd, tr, tb⟩
def b23 : List Q.Sx := Q.cSs 60 100 z23 (defBody (top 43))
def T0 : List Q.Fd := [⟨1, 1, b0⟩, ⟨3, 3, b1⟩, ⟨1, 2, b2⟩, ⟨1, 1, b3⟩, ⟨1, 1, b4⟩, ⟨1, 1, b5⟩, ⟨1, 1, b6⟩, ⟨1, 1, b7⟩, ⟨3, 3, b8⟩, ⟨1, 6, b9⟩, ⟨1, 1, b10⟩, ⟨1, 1, b11⟩, ⟨1, 4, b12⟩, ⟨1, 6, b13⟩, ⟨2, 2, b14⟩, ⟨2, 2, b15⟩, ⟨2, 4, b16⟩, ⟨1, 1, b17⟩, ⟨1, 2, b18⟩, ⟨1, 2, b19⟩, ⟨1, 1, b20⟩, ⟨1, 7, b21⟩, ⟨2, 10, b22⟩, ⟨1, 12, b23⟩]
def T : List Q.Fd := T0
end Hd
end

section
set_option Elab.async false
set_option linter.all false
set_option maxRecDepth 100000
namespace Ek09
open Q
/-- is_integer: value -/
def e0 : List Sx := [
  .ret (.and (.isi (.v 0) .int) (.not (.isi (.v 0) .bool)))]
/-- is_within: value low high -/
def e1 : List Sx := [
  .ret (.and (.call 0 [.v 0]) (.chn .le .le (.v 1) (.v 0) (.v 2)))]
/-- is_name: value sign -/
def e2 : List Sx := [
  .ite (.or (.not (.isi (.v 0) .str)) (.or (.not (.chn .le .le (.c (.int 1)) (.bi .len [.v 0]) (.c (.int 12)))) (.not (.chn .le .le (.c (.str "a")) (.ix (.v 0) (.c (.int 0))) (.c (.str "z")))))) [.ret (.c (.bl false))] [],
  .ret (.bi .all [.lc (.or (.chn .le .le (.c (.str "a")) (.v 1) (.c (.str "z"))) (.chn .le .le (.c (.str "0")) (.v 1) (.c (.str "9")))) (.n 1) .seq [.v 0] none [1]])]
/-- check: is_right -/
def e3 : List Sx := [
  .ite (.not (.v 0)) [.raise 0] []]
/-- is_count: value -/
def e4 : List Sx := [
  .ret (.and (.call 0 [.v 0]) (.cmp .ge (.v 0) (.c (.int 0))))]
/-- is_day: value -/
def e5 : List Sx := [
  .ret (.call 1 [.v 0, .c (.int 0), .c (.int 100000)])]
/-- is_day_sheets: value -/
def e6 : List Sx := [
  .ret (.call 1 [.v 0, .c (.int 0), .c (.int 100000)])]
/-- has_pence: entry -/
def e7 : List Sx := [
  .ite (.cmp .eq (.ix (.v 0) (.c (.int 0))) (.c (.str "leave"))) [.ret (.c (.bl true))] [],
  .ite (.cmp .eq (.ix (.v 0) (.c (.int 0))) (.c (.str "join"))) [.ret (.call 1 [.ix (.v 0) (.c (.int 3)), .c (.int 1), .c (.int 10000000)])] [],
  .ret (.and (.call 0 [.ix (.v 0) (.c (.int 3))]) (.cmp .gt (.ix (.v 0) (.c (.int 3))) (.c (.int 0))))]
/-- fault_of: entry at last -/
def e8 : List Sx := [
  .ite (.or (.cmp .eq (.bi .len [.v 0]) (.c (.int 0))) (.or (.not (.isi (.ix (.v 0) (.c (.int 0))) .str)) (.gin true (.ix (.v 0) (.c (.int 0))) "SIZES_sheets" [("join", 4), ("pay", 4), ("leave", 3), ("back", 4)]))) [.ret (.tup [.c (.str "word"), .v 1])] [],
  .ite (.cmp .ne (.bi .len [.v 0]) (.gix "SIZES_sheets" [("join", 4), ("pay", 4), ("leave", 3), ("back", 4)] (.ix (.v 0) (.c (.int 0))))) [.ret (.tup [.c (.str "form"), .v 1])] [],
  .ite (.not (.call 6 [.ix (.v 0) (.c (.int 1))])) [.ret (.tup [.c (.str "day"), .v 1])] [],
  .ite (.not (.call 2 [.ix (.v 0) (.c (.int 2))])) [.ret (.tup [.c (.str "name"), .v 1])] [],
  .ite (.not (.call 7 [.v 0])) [.ret (.tup [.c (.str "pence"), .v 1])] [],
  .ret (.ite (.cmp .lt (.ix (.v 0) (.c (.int 1))) (.v 2)) (.tup [.c (.str "back"), .v 1]) (.c .non))]
/-- share_faults: draft found last at entry fault -/
def e9 : List Sx := [
  .expr (.call 3 [.and (.isi (.v 0) .lst) (.bi .all [.lc (.isi (.v 4) .tup) (.n 4) .seq [.v 0] none [4]])]),
  .par [(1, true), (2, false)] [.lst [], .c (.int 0)],
  .ite (.cmp .gt (.bi .len [.v 0]) (.c (.int 200))) [.app 1 (.tup [.c (.str "many"), .bi .len [.v 0]])] [],
  .for_ (.t [.n 3, .n 4]) .enu [.v 0] [.set 5 (.call 8 [.v 4, .v 3, .v 2]), .ite (.cmp .isn (.v 5) (.c .non)) [.app 1 (.v 5)] [], .ite (.and (.cmp .gt (.bi .len [.v 4]) (.c (.int 1))) (.call 6 [.ix (.v 4) (.c (.int 1))])) [.set 2 (.ix (.v 4) (.c (.int 1)))] []],
  .ret (.v 1)]
/-- is_day_shares: value -/
def e10 : List Sx := [
  .ret (.call 1 [.v 0, .c (.int 0), .c (.int 100000)])]
/-- is_share_entry: value -/
def e11 : List Sx := [
  .ite (.or (.not (.isi (.v 0) .tup)) (.or (.cmp .lt (.bi .len [.v 0]) (.c (.int 3))) (.not (.isi (.ix (.v 0) (.c (.int 0))) .str)))) [.ret (.c (.bl false))] [],
  .ite (.or (.cmp .ne (.gget "SIZES_shares" [("join", 4), ("pay", 4), ("leave", 3), ("back", 4)] (.ix (.v 0) (.c (.int 0)))) (.bi .len [.v 0])) (.or (.not (.call 10 [.ix (.v 0) (.c (.int 1))])) (.not (.call 2 [.ix (.v 0) (.c (.int 2))])))) [.ret (.c (.bl false))] [],
  .ite (.cmp .eq (.ix (.v 0) (.c (.int 0))) (.c (.str "join"))) [.ret (.call 1 [.ix (.v 0) (.c (.int 3)), .c (.int 1), .c (.int 10000000)])] [],
  .ret (.or (.cmp .eq (.ix (.v 0) (.c (.int 0))) (.c (.str "leave"))) (.and (.call 4 [.ix (.v 0) (.c (.int 3))]) (.cmp .gt (.ix (.v 0) (.c (.int 3))) (.c (.int 0)))))]
/-- is_share_book: value one other entry -/
def e12 : List Sx := [
  .ite (.or (.not (.isi (.v 0) .lst)) (.or (.cmp .gt (.bi .len [.v 0]) (.c (.int 200))) (.not (.bi .all [.lc (.call 11 [.v 3]) (.n 3) .seq [.v 0] none [3]])))) [.ret (.c (.bl false))] [],
  .ret (.bi .all [.lc (.cmp .le (.ix (.v 1) (.c (.int 1))) (.ix (.v 2) (.c (.int 1)))) (.t [.n 1, .n 2]) .zip [.v 0, .sl (.v 0) (some (.c (.int 1))) none] none [1, 2]])]
/-- _law_draws: script draws seed cell k number -/
def e13 : List Sx := [
  .own 1 (.lst []),
  .set 2 (.c (.int 11)),
  .for_ (.n 3) .seq [.v 0] [.set 5 (.bi .abs [.bi .int [.v 3]]), .set 2 (.bin .mod (.bi .int [.bin .add (.bin .add (.bin .mul (.v 2) (.c (.int 48271))) (.v 5)) (.c (.int 1))]) (.c (.int 2147483647))), .ite (.cmp .lt (.v 5) (.bin .pow (.c (.int 10)) (.c (.int 18)))) [.app 1 (.bin .mod (.bi .int [.v 5]) (.c (.int 997))), .app 1 (.bin .mod (.bi .int [.v 2]) (.c (.int 65521))), .set 5 (.c (.int 0))] [], .for_ (.n 4) .rng [.c (.int 60)] [.ite (.cmp .gt (.v 5) (.c (.int 0))) [.app 1 (.bin .mod (.bi .int [.v 5]) (.c (.int 997))), .set 5 (.bin .fdiv (.v 5) (.c (.int 997)))] []]],
  .for_ (.n 4) .rng [.c (.int 1600)] [.set 2 (.bin .mod (.bi .int [.bin .add (.bin .mul (.v 2) (.c (.int 48271))) (.c (.int 69621))]) (.c (.int 2147483647))), .app 1 (.bin .fdiv (.v 2) (.c (.int 5)))],
  .ret (.lrev (.v 1))]
/-- _law_take: draws bound -/
def e14 : List Sx := [
  .ite (.cmp .eq (.bi .len [.v 0]) (.c (.int 0))) [.ret (.c (.int 0))] [],
  .ret (.bin .mod (.bi .int [.pop 0]) (.v 1))]
/-- _law_pick: draws some -/
def e15 : List Sx := [
  .ret (.ix (.v 1) (.call 14 [.v 0, .bi .len [.v 1]]))]
/-- _law_same: actual due k key -/
def e16 : List Sx := [
  .ite (.cmp .is (.v 1) (.c .non)) [.ret (.cmp .is (.v 0) (.c .non))] [],
  .ite (.or (.isi (.v 1) .tup) (.isi (.v 1) .lst)) [.ite (.or (.cmp .ne (.isi (.v 1) .tup) (.isi (.v 0) .tup)) (.cmp .ne (.isi (.v 1) .lst) (.isi (.v 0) .lst))) [.ret (.c (.bl false))] [], .ite (.cmp .ne (.bi .len [.v 0]) (.bi .len [.v 1])) [.ret (.c (.bl false))] [], .for_ (.n 2) .rng [.bi .len [.v 1]] [.ite (.not (.call 16 [.ix (.v 0) (.v 2), .ix (.v 1) (.v 2)])) [.ret (.c (.bl false))] []], .ret (.c (.bl true))] [],
  .ite (.isi (.v 1) .dct) [.ite (.or (.not (.isi (.v 0) .dct)) (.cmp .ne (.bi .len [.v 0]) (.bi .len [.v 1]))) [.ret (.c (.bl false))] [], .ret (.cmp .eq (.lc (.v 3) (.n 3) .seq [.v 1] (some (.or (.cin true (.v 3) (.v 0)) (.not (.call 16 [.ix (.v 0) (.v 3), .ix (.v 1) (.v 3)])))) [3]) (.lst []))] [],
  .ite (.cmp .ne (.isi (.v 1) .bool) (.isi (.v 0) .bool)) [.ret (.c (.bl false))] [],
  .ite (.or (.cmp .ne (.isi (.v 1) .int) (.isi (.v 0) .int)) (.cmp .ne (.isi (.v 1) .str) (.isi (.v 0) .str))) [.ret (.c (.bl false))] [],
  .ret (.cmp .eq (.v 0) (.v 1))]
/-- _law_flags: e -/
def e17 : List Sx := [
  .no]
/-- _law_is_name: value sign -/
def e18 : List Sx := [
  .ite (.or (.not (.isi (.v 0) .str)) (.or (.not (.chn .le .le (.c (.int 1)) (.bi .len [.v 0]) (.c (.int 12)))) (.cin true (.ix (.v 0) (.c (.int 0))) (.c (.str "abcdefghijklmnopqrstuvwxyz"))))) [.ret (.c (.bl false))] [],
  .ret (.cmp .eq (.lc (.v 1) (.n 1) .seq [.v 0] (some (.cin true (.v 1) (.c (.str "abcdefghijklmnopqrstuvwxyz0123456789")))) [1]) (.lst []))]
/-- _law_told: value e -/
def e19 : List Sx := [
  .tryF [.ret (.call 9 [.v 0])] [(0, .lst [.bl true, .bl false, .bl false, .bl false, .bl false])]]
/-- _law_is_number: value -/
def e20 : List Sx := [
  .ret (.and (.isi (.v 0) .int) (.not (.isi (.v 0) .bool)))]
/-- _law_faults: draft k sizes found last entry word -/
def e21 : List Sx := [
  .par [(2, false), (3, true), (4, false)] [.dct [.c (.str "join"), .c (.int 4), .c (.str "pay"), .c (.int 4), .c (.str "leave"), .c (.int 3), .c (.str "back"), .c (.int 4)], .rep (.lst [.tup [.c (.str "many"), .bi .len [.v 0]]]) (.bi .int [.cmp .gt (.bi .len [.v 0]) (.c (.int 200))]), .c (.int 0)],
  .for_ (.n 1) .rng [.bi .len [.v 0]] [.par [(5, false), (6, false)] [.ix (.v 0) (.v 1), .c .non], .ite (.or (.cmp .eq (.v 5) (.tup [])) (.or (.not (.isi (.ix (.v 5) (.c (.int 0))) .str)) (.cin true (.ix (.v 5) (.c (.int 0))) (.v 2)))) [.set 6 (.c (.str "word"))] [.ite (.cmp .ne (.bi .len [.v 5]) (.ix (.v 2) (.ix (.v 5) (.c (.int 0))))) [.set 6 (.c (.str "form"))] [.ite (.or (.not (.call 20 [.ix (.v 5) (.c (.int 1))])) (.not (.chn .le .le (.c (.int 0)) (.ix (.v 5) (.c (.int 1))) (.c (.int 100000))))) [.set 6 (.c (.str "day"))] [.ite (.not (.call 18 [.ix (.v 5) (.c (.int 2))])) [.set 6 (.c (.str "name"))] [.ite (.and (.cmp .ne (.ix (.v 5) (.c (.int 0))) (.c (.str "leave"))) (.or (.not (.call 20 [.ix (.v 5) (.c (.int 3))])) (.or (.cmp .lt (.ix (.v 5) (.c (.int 3))) (.c (.int 1))) (.and (.cmp .eq (.ix (.v 5) (.c (.int 0))) (.c (.str "join"))) (.cmp .gt (.ix (.v 5) (.c (.int 3))) (.bin .pow (.c (.int 10)) (.c (.int 7)))))))) [.set 6 (.c (.str "pence"))] [.ite (.cmp .lt (.ix (.v 5) (.c (.int 1))) (.v 4)) [.set 6 (.c (.str "back"))] []]]]]], .ite (.cmp .isn (.v 6) (.c .non)) [.app 3 (.tup [.v 6, .v 1])] [], .ite (.and (.cmp .gt (.bi .len [.v 5]) (.c (.int 1))) (.and (.call 20 [.ix (.v 5) (.c (.int 1))]) (.chn .le .le (.c (.int 0)) (.ix (.v 5) (.c (.int 1))) (.c (.int 100000))))) [.set 4 (.ix (.v 5) (.c (.int 1)))] []],
  .ret (.v 3)]
/-- _law_draft: draws much k found day entry word odd name rows -/
def e22 : List Sx := [
  .par [(3, true), (4, false)] [.lst [], .call 14 [.v 0, .c (.int 9)]],
  .for_ (.n 2) .rng [.v 1] [.set 4 (.bi .max [.c (.int 0), .bin .add (.v 4) (.call 15 [.v 0, .lst [.c (.int 0), .c (.int 0), .c (.int 1), .c (.int 3), .bin .sub (.c (.int 0)) (.bi .int [.cmp .eq (.call 14 [.v 0, .c (.int 9)]) (.c (.int 0))])]])]), .par [(6, false), (7, false), (8, false)] [.call 15 [.v 0, .lst [.c (.str "join"), .c (.str "pay"), .c (.str "leave"), .c (.str "back")]], .call 14 [.v 0, .c (.int 14)], .call 15 [.v 0, .lst [.c (.str "ann"), .c (.str "bob"), .c (.str "c3")]]], .set 5 (.tup [.v 6, .v 4, .v 8, .bin .add (.c (.int 1)) (.call 14 [.v 0, .c (.int 900)])]), .ite (.cmp .eq (.v 6) (.c (.str "leave"))) [.set 5 (.tup [.v 6, .v 4, .v 8])] [], .ite (.cmp .eq (.v 7) (.c (.int 0))) [.set 9 (.lst [.tup [], .tup [.c (.str "burn"), .v 4], .tup [.c .non, .v 4], .sl (.v 5) (some (.c (.int 1))) none, .bin .add (.v 5) (.tup [.c (.int 1)]), .sl (.v 5) none (some (.c (.int 2))), .bin .add (.tup [.v 6, .neg (.c (.int 1))]) (.sl (.v 5) (some (.c (.int 2))) none), .bin .add (.tup [.v 6, .c (.bl true)]) (.sl (.v 5) (some (.c (.int 2))) none)]), .set 5 (.call 15 [.v 0, .bin .add (.v 9) (.lst [.bin .add (.tup [.v 6, .c (.int 100001)]) (.sl (.v 5) (some (.c (.int 2))) none), .bin .add (.tup [.v 6, .v 4, .c (.str "Ann")]) (.sl (.v 5) (some (.c (.int 3))) none), .bin .add (.tup [.v 6, .v 4, .c .non]) (.sl (.v 5) (some (.c (.int 3))) none), .tup [.v 6]])])] [], .ite (.and (.cmp .eq (.v 7) (.c (.int 1))) (.cmp .gt (.bi .len [.v 5]) (.c (.int 3)))) [.set 5 (.bin .add (.sl (.v 5) none (some (.c (.int 3)))) (.tup [.call 15 [.v 0, .lst [.c (.int 0), .neg (.c (.int 5)), .c .non, .c (.bl true), .c (.str "1"), .bin .add (.bin .pow (.c (.int 10)) (.c (.int 7))) (.c (.int 1)), .bin .pow (.c (.int 10)) (.c (.int 7))]]]))] [], .app 3 (.v 5)],
  .ret (.v 3)]
/-- law: script draws turn many values got much draft k kept due value -/
def e23 : List Sx := [
  .mkc 1 (.call 13 [.v 0]),
  .for_ (.n 2) .rng [.c (.int 4)] [.for_ (.n 6) .seq [.lst [.call 14 [.v 1, .c (.int 6)], .call 14 [.v 1, .c (.int 20)]]] [.set 7 (.call 22 [.v 1, .v 6]), .par [(9, false), (10, false)] [.bi .repr [.v 7], .call 21 [.v 7]], .own 5 (.call 19 [.v 7]), .ite (.or (.not (.call 16 [.v 5, .v 10])) (.or (.not (.call 16 [.call 12 [.v 7], .cmp .eq (.v 10) (.lst [])])) (.cmp .ne (.bi .repr [.v 7]) (.v 9)))) [.ret (.c (.bl false))] [], .app 5 (.c (.str "more"))]],
  .set 3 (.lc (.tup [.c (.str "leave"), .bin .fdiv (.v 8) (.c (.int 2)), .c (.str "ann")]) (.n 8) .rng [.call 15 [.v 1, .lst [.c (.int 200), .c (.int 201)]]] none [8]),
  .ite (.not (.call 16 [.lst [.call 19 [.v 3], .call 12 [.v 3]], .lst [.rep (.lst [.tup [.c (.str "many"), .c (.int 201)]]) (.bi .int [.cmp .gt (.bi .len [.v 3]) (.c (.int 200))]), .cmp .lt (.bi .len [.v 3]) (.c (.int 201))]])) [.ret (.c (.bl false))] [],
  .set 4 (.lst [.c .non, .tup [], .tup [.tup [.c (.str "leave"), .c (.int 1), .c (.str "ann")]], .lst [.lst [.c (.str "leave"), .c (.int 1), .c (.str "ann")]], .lst [.c .non], .c (.str "text"), .dct []]),
  .ite (.not (.call 16 [.lc (.call 19 [.v 11]) (.n 11) .seq [.v 4] none [11], .rep (.lst [.lst [.c (.bl true), .c (.bl false), .c (.bl false), .c (.bl false), .c (.bl false)]]) (.c (.int 7))])) [.ret (.c (.bl false))] [],
  .own 5 (.lst [.call 9 [.lst [.tup [.c (.str "join"), .c (.int 5), .c (.str "ann"), .c (.int 1)], .tup [.c (.str "pay"), .c (.int 4), .c (.str "ann"), .c (.int 1)], .tup [.c (.str "leave"), .c (.int 6)], .tup [.c (.str "back"), .c (.int 7), .c (.str "Ann"), .c (.int 1)], .tup [.c (.str "pay"), .c (.int 8), .c (.str "ann"), .c (.int 0)]]]]),
  .own 5 (.bin .add (.v 5) (.lst [.call 9 [.lst [.tup [.c (.str "join"), .c (.int 1), .c (.str "Ann"), .c (.int 0)], .tup [.c (.str "join"), .c (.int 1), .c (.str "ann"), .bin .add (.bin .pow (.c (.int 10)) (.c (.int 7))) (.c (.int 1))], .tup [.c (.str "pay"), .c (.int 1), .c (.str "ann"), .bin .pow (.c (.int 10)) (.c (.int 9))]]]])),
  .own 5 (.bin .add (.v 5) (.lst [.call 9 [.lst []]])),
  .ret (.call 16 [.v 5, .lst [.lst [.tup [.c (.str "back"), .c (.int 1)], .tup [.c (.str "form"), .c (.int 2)], .tup [.c (.str "name"), .c (.int 3)], .tup [.c (.str "pence"), .c (.int 4)]], .lst [.tup [.c (.str "name"), .c (.int 0)], .tup [.c (.str "pence"), .c (.int 1)]], .lst []]])]
def T0 : List Fd := [⟨1, 1, e0⟩, ⟨3, 3, e1⟩, ⟨1, 2, e2⟩, ⟨1, 1, e3⟩, ⟨1, 1, e4⟩, ⟨1, 1, e5⟩, ⟨1, 1, e6⟩, ⟨1, 1, e7⟩, ⟨3, 3, e8⟩, ⟨1, 6, e9⟩, ⟨1, 1, e10⟩, ⟨1, 1, e11⟩, ⟨1, 4, e12⟩, ⟨1, 6, e13⟩, ⟨2, 2, e14⟩, ⟨2, 2, e15⟩, ⟨2, 4, e16⟩, ⟨1, 1, e17⟩, ⟨1, 2, e18⟩, ⟨1, 2, e19⟩, ⟨1, 1, e20⟩, ⟨1, 7, e21⟩, ⟨2, 10, e22⟩, ⟨1, 12, e23⟩]
def T : List Fd := T0
end Ek09
end

section
set_option Elab.async false
set_option linter.all false
set_option maxRecDepth 100000
set_option maxHeartbeats 0
namespace Hd
theorem x0 : b0 = Ek09.e0 := by kernel_rfl
theorem x1 : b1 = Ek09.e1 := by kernel_rfl
theorem x2 : b2 = Ek09.e2 := by kernel_rfl
theorem x3 : b3 = Ek09.e3 := by kernel_rfl
theorem x4 : b4 = Ek09.e4 := by kernel_rfl
theorem x5 : b5 = Ek09.e5 := by kernel_rfl
theorem x6 : b6 = Ek09.e6 := by kernel_rfl
theorem x7 : b7 = Ek09.e7 := by kernel_rfl
theorem x8 : b8 = Ek09.e8 := by kernel_rfl
theorem x9 : b9 = Ek09.e9 := by kernel_rfl
theorem x10 : b10 = Ek09.e10 := by kernel_rfl
theorem x11 : b11 = Ek09.e11 := by kernel_rfl
theorem x12 : b12 = Ek09.e12 := by kernel_rfl
theorem x13 : b13 = Ek09.e13 := by kernel_rfl
theorem x14 : b14 = Ek09.e14 := by kernel_rfl
theorem x15 : b15 = Ek09.e15 := by kernel_rfl
theorem x16 : b16 = Ek09.e16 := by kernel_rfl
theorem x17 : b17 = Ek09.e17 := by kernel_rfl
theorem x18 : b18 = Ek09.e18 := by kernel_rfl
theorem x19 : b19 = Ek09.e19 := by kernel_rfl
theorem x20 : b20 = Ek09.e20 := by kernel_rfl
theorem x21 : b21 = Ek09.e21 := by kernel_rfl
theorem x22 : b22 = Ek09.e22 := by kernel_rfl
theorem x23 : b23 = Ek09.e23 := by kernel_rfl
theorem T_eq : T = Ek09.T := by
  unfold T Ek09.T T0 Ek09.T0
  rw [x0, x1, x2, x3, x4, x5, x6, x7, x8, x9, x10, x11, x12, x13, x14, x15, x16, x17, x18, x19, x20, x21, x22, x23]
end Hd
end

section
set_option Elab.async false
set_option linter.all false
set_option maxRecDepth 100000
set_option maxHeartbeats 0
namespace Hd
open PySem PySem.Spec PyProof.Rows L2
section
variable {K : PySem.W.Frag} {mg : Str → Option Value} {h : Heap} {w : World}
theorem g0 (X : K.In h) (G : h.Ns mainGlobals mg) (c : He.SaysD fa fn K) : ∃ f fd ps, Q.Gd K mg pg T "is_integer" 0 f fd ps := by
  obtain ⟨fd, F⟩ := c.def_ 0 (d := dd 8 "is_integer" "is_integer") (by rfl)
  refine ⟨_, fd, ["value"], ⟨⟨_, _, _, _, _, F, z0, ⟨by rfl, by rfl, by rfl, by decide +kernel, by rfl, by decide +kernel, by decide +kernel⟩, rfl, rfl, rfl, rfl, rfl, rfl, rfl, rfl, by rfl⟩, He.glo_ok X G (c.fact 0 (f := .glo "is_integer") (by rfl)), F.bindsN fun _ _ _ _ _ _ us hl => match us, hl with | [_], _ => by rfl⟩⟩
theorem g1 (X : K.In h) (G : h.Ns mainGlobals mg) (c : He.SaysD fa fn K) : ∃ f fd ps, Q.Gd K mg pg T "is_within" 1 f fd ps := by
  obtain ⟨fd, F⟩ := c.def_ 1 (d := dd 9 "is_within" "is_within") (by rfl)
  refine ⟨_, fd, ["value", "low", "high"], ⟨⟨_, _, _, _, _, F, z1, ⟨by rfl, by rfl, by rfl, by decide +kernel, by rfl, by decide +kernel, by decide +kernel⟩, rfl, rfl, rfl, rfl, rfl, rfl, rfl, rfl, by rfl⟩, He.glo_ok X G (c.fact 1 (f := .glo "is_within") (by rfl)), F.bindsN fun _ _ _ _ _ _ us hl => match us, hl with | [_, _, _], _ => by rfl⟩⟩
theorem g2 (X : K.In h) (G : h.Ns mainGlobals mg) (c : He.SaysD fa fn K) : ∃ f fd ps, Q.Gd K mg pg T "is_name" 2 f fd ps := by
  obtain ⟨fd, F⟩ := c.def_ 2 (d := dd 10 "is_name" "is_name") (by rfl)
  refine ⟨_, fd, ["value"], ⟨⟨_, _, _, _, _, F, z2, ⟨by rfl, by rfl, by rfl, by decide +kernel, by rfl, by decide +kernel, by decide +kernel⟩, rfl, rfl, rfl, rfl, rfl, rfl, rfl, rfl, by rfl⟩, He.glo_ok X G (c.fact 2 (f := .glo "is_name") (by rfl)), F.bindsN fun _ _ _ _ _ _ us hl => match us, hl with | [_], _ => by rfl⟩⟩
theorem g3 (X : K.In h) (G : h.Ns mainGlobals mg) (c : He.SaysD fa fn K) : ∃ f fd ps, Q.Gd K mg pg T "check" 3 f fd ps := by
  obtain ⟨fd, F⟩ := c.def_ 3 (d := dd 11 "check" "check") (by rfl)
  refine ⟨_, fd, ["is_right"], ⟨⟨_, _, _, _, _, F, z3, ⟨by rfl, by rfl, by rfl, by decide +kernel, by rfl, by decide +kernel, by decide +kernel⟩, rfl, rfl, rfl, rfl, rfl, rfl, rfl, rfl, by rfl⟩, He.glo_ok X G (c.fact 3 (f := .glo "check") (by rfl)), F.bindsN fun _ _ _ _ _ _ us hl => match us, hl with | [_], _ => by rfl⟩⟩
theorem g4 (X : K.In h) (G : h.Ns mainGlobals mg) (c : He.SaysD fa fn K) : ∃ f fd ps, Q.Gd K mg pg T "is_count" 4 f fd ps := by
  obtain ⟨fd, F⟩ := c.def_ 4 (d := dd 12 "is_count" "is_count") (by rfl)
  refine ⟨_, fd, ["value"], ⟨⟨_, _, _, _, _, F, z4, ⟨by rfl, by rfl, by rfl, by decide +kernel, by rfl, by decide +kernel, by decide +kernel⟩, rfl, rfl, rfl, rfl, rfl, rfl, rfl, rfl, by rfl⟩, He.glo_ok X G (c.fact 4 (f := .glo "is_count") (by rfl)), F.bindsN fun _ _ _ _ _ _ us hl => match us, hl with | [_], _ => by rfl⟩⟩
theorem g5 (X : K.In h) (G : h.Ns mainGlobals mg) (c : He.SaysD fa fn K) : ∃ f fd ps, Q.Gd K mg pg T "is_day" 5 f fd ps := by
  obtain ⟨fd, F⟩ := c.def_ 5 (d := dd 28 "is_day" "is_day") (by rfl)
  refine ⟨_, fd, ["value"], ⟨⟨_, _, _, _, _, F, z5, ⟨by rfl, by rfl, by rfl, by decide +kernel, by rfl, by decide +kernel, by decide +kernel⟩, rfl, rfl, rfl, rfl, rfl, rfl, rfl, rfl, by rfl⟩, He.glo_ok X G (c.fact 5 (f := .glo "is_day") (by rfl)), F.bindsN fun _ _ _ _ _ _ us hl => match us, hl with | [_], _ => by rfl⟩⟩
theorem g6 (X : K.In h) (G : h.Ns mainGlobals mg) (c : He.SaysD fa fn K) : ∃ f fd ps, Q.Gd K mg pg T "is_day_sheets" 6 f fd ps := by
  obtain ⟨fd, F⟩ := c.def_ 6 (d := dd 18 "is_day_sheets" "is_day") (by rfl)
  refine ⟨_, fd, ["value"], ⟨⟨_, _, _, _, _, F, z6, ⟨by rfl, by rfl, by rfl, by decide +kernel, by rfl, by decide +kernel, by decide +kernel⟩, rfl, rfl, rfl, rfl, rfl, rfl, rfl, rfl, by rfl⟩, He.glo_ok X G (c.fact 6 (f := .glo "is_day_sheets") (by rfl)), F.bindsN fun _ _ _ _ _ _ us hl => match us, hl with | [_], _ => by rfl⟩⟩
theorem g7 (X : K.In h) (G : h.Ns mainGlobals mg) (c : He.SaysD fa fn K) : ∃ f fd ps, Q.Gd K mg pg T "has_pence" 7 f fd ps := by
  obtain ⟨fd, F⟩ := c.def_ 7 (d := dd 20 "has_pence" "has_pence") (by rfl)
  refine ⟨_, fd, ["entry"], ⟨⟨_, _, _, _, _, F, z7, ⟨by rfl, by rfl, by rfl, by decide +kernel, by rfl, by decide +kernel, by decide +kernel⟩, rfl, rfl, rfl, rfl, rfl, rfl, rfl, rfl, by rfl⟩, He.glo_ok X G (c.fact 7 (f := .glo "has_pence") (by rfl)), F.bindsN fun _ _ _ _ _ _ us hl => match us, hl with | [_], _ => by rfl⟩⟩
theorem g8 (X : K.In h) (G : h.Ns mainGlobals mg) (c : He.SaysD fa fn K) : ∃ f fd ps, Q.Gd K mg pg T "fault_of" 8 f fd ps := by
  obtain ⟨fd, F⟩ := c.def_ 8 (d := dd 21 "fault_of" "fault_of") (by rfl)
  refine ⟨_, fd, ["entry", "at", "last"], ⟨⟨_, _, _, _, _, F, z8, ⟨by rfl, by rfl, by rfl, by decide +kernel, by rfl, by decide +kernel, by decide +kernel⟩, rfl, rfl, rfl, rfl, rfl, rfl, rfl, rfl, by rfl⟩, He.glo_ok X G (c.fact 8 (f := .glo "fault_of") (by rfl)), F.bindsN fun _ _ _ _ _ _ us hl => match us, hl with | [_, _, _], _ => by rfl⟩⟩
theorem g9 (X : K.In h) (G : h.Ns mainGlobals mg) (c : He.SaysD fa fn K) : ∃ f fd ps, Q.Gd K mg pg T "share_faults" 9 f fd ps := by
  obtain ⟨fd, F⟩ := c.def_ 9 (d := dd 22 "share_faults" "share_faults") (by rfl)
  refine ⟨_, fd, ["draft"], ⟨⟨_, _, _, _, _, F, z9, ⟨by rfl, by rfl, by rfl, by decide +kernel, by rfl, by decide +kernel, by decide +kernel⟩, rfl, rfl, rfl, rfl, rfl, rfl, rfl, rfl, by rfl⟩, He.glo_ok X G (c.fact 9 (f := .glo "share_faults") (by rfl)), F.bindsN fun _ _ _ _ _ _ us hl => match us, hl with | [_], _ => by rfl⟩⟩
theorem g10 (X : K.In h) (G : h.Ns mainGlobals mg) (c : He.SaysD fa fn K) : ∃ f fd ps, Q.Gd K mg pg T "is_day_shares" 10 f fd ps := by
  obtain ⟨fd, F⟩ := c.def_ 10 (d := dd 28 "is_day_shares" "is_day") (by rfl)
  refine ⟨_, fd, ["value"], ⟨⟨_, _, _, _, _, F, z10, ⟨by rfl, by rfl, by rfl, by decide +kernel, by rfl, by decide +kernel, by decide +kernel⟩, rfl, rfl, rfl, rfl, rfl, rfl, rfl, rfl, by rfl⟩, He.glo_ok X G (c.fact 10 (f := .glo "is_day_shares") (by rfl)), F.bindsN fun _ _ _ _ _ _ us hl => match us, hl with | [_], _ => by rfl⟩⟩
theorem g11 (X : K.In h) (G : h.Ns mainGlobals mg) (c : He.SaysD fa fn K) : ∃ f fd ps, Q.Gd K mg pg T "is_share_entry" 11 f fd ps := by
  obtain ⟨fd, F⟩ := c.def_ 11 (d := dd 30 "is_share_entry" "is_share_entry") (by rfl)
  refine ⟨_, fd, ["value"], ⟨⟨_, _, _, _, _, F, z11, ⟨by rfl, by rfl, by rfl, by decide +kernel, by rfl, by decide +kernel, by decide +kernel⟩, rfl, rfl, rfl, rfl, rfl, rfl, rfl, rfl, by rfl⟩, He.glo_ok X G (c.fact 11 (f := .glo "is_share_entry") (by rfl)), F.bindsN fun _ _ _ _ _ _ us hl => match us, hl with | [_], _ => by rfl⟩⟩
theorem g12 (X : K.In h) (G : h.Ns mainGlobals mg) (c : He.SaysD fa fn K) : ∃ f fd ps, Q.Gd K mg pg T "is_share_book" 12 f fd ps := by
  obtain ⟨fd, F⟩ := c.def_ 12 (d := dd 31 "is_share_book" "is_share_book") (by rfl)
  refine ⟨_, fd, ["value"], ⟨⟨_, _, _, _, _, F, z12, ⟨by rfl, by rfl, by rfl, by decide +kernel, by rfl, by decide +kernel, by decide +kernel⟩, rfl, rfl, rfl, rfl, rfl, rfl, rfl, rfl, by rfl⟩, He.glo_ok X G (c.fact 12 (f := .glo "is_share_book") (by rfl)), F.bindsN fun _ _ _ _ _ _ us hl => match us, hl with | [_], _ => by rfl⟩⟩
theorem g13 (X : K.In h) (G : h.Ns mainGlobals mg) (c : He.SaysD fa fn K) : ∃ f fd ps, Q.Gd K mg pg T "_law_draws" 13 f fd ps := by
  obtain ⟨fd, F⟩ := c.def_ 13 (d := dd 33 "_law_draws" "_law_draws") (by rfl)
  refine ⟨_, fd, ["script"], ⟨⟨_, _, _, _, _, F, z13, ⟨by rfl, by rfl, by rfl, by decide +kernel, by rfl, by decide +kernel, by decide +kernel⟩, rfl, rfl, rfl, rfl, rfl, rfl, rfl, rfl, by rfl⟩, He.glo_ok X G (c.fact 13 (f := .glo "_law_draws") (by rfl)), F.bindsN fun _ _ _ _ _ _ us hl => match us, hl with | [_], _ => by rfl⟩⟩
theorem g14 (X : K.In h) (G : h.Ns mainGlobals mg) (c : He.SaysD fa fn K) : ∃ f fd ps, Q.Gd K mg pg T "_law_take" 14 f fd ps := by
  obtain ⟨fd, F⟩ := c.def_ 14 (d := dd 34 "_law_take" "_law_take") (by rfl)
  refine ⟨_, fd, ["draws", "bound"], ⟨⟨_, _, _, _, _, F, z14, ⟨by rfl, by rfl, by rfl, by decide +kernel, by rfl, by decide +kernel, by decide +kernel⟩, rfl, rfl, rfl, rfl, rfl, rfl, rfl, rfl, by rfl⟩, He.glo_ok X G (c.fact 14 (f := .glo "_law_take") (by rfl)), F.bindsN fun _ _ _ _ _ _ us hl => match us, hl with | [_, _], _ => by rfl⟩⟩
theorem g15 (X : K.In h) (G : h.Ns mainGlobals mg) (c : He.SaysD fa fn K) : ∃ f fd ps, Q.Gd K mg pg T "_law_pick" 15 f fd ps := by
  obtain ⟨fd, F⟩ := c.def_ 15 (d := dd 35 "_law_pick" "_law_pick") (by rfl)
  refine ⟨_, fd, ["draws", "some"], ⟨⟨_, _, _, _, _, F, z15, ⟨by rfl, by rfl, by rfl, by decide +kernel, by rfl, by decide +kernel, by decide +kernel⟩, rfl, rfl, rfl, rfl, rfl, rfl, rfl, rfl, by rfl⟩, He.glo_ok X G (c.fact 15 (f := .glo "_law_pick") (by rfl)), F.bindsN fun _ _ _ _ _ _ us hl => match us, hl with | [_, _], _ => by rfl⟩⟩
theorem g16 (X : K.In h) (G : h.Ns mainGlobals mg) (c : He.SaysD fa fn K) : ∃ f fd ps, Q.Gd K mg pg T "_law_same" 16 f fd ps := by
  obtain ⟨fd, F⟩ := c.def_ 16 (d := dd 36 "_law_same" "_law_same") (by rfl)
  refine ⟨_, fd, ["actual", "due"], ⟨⟨_, _, _, _, _, F, z16, ⟨by rfl, by rfl, by rfl, by decide +kernel, by rfl, by decide +kernel, by decide +kernel⟩, rfl, rfl, rfl, rfl, rfl, rfl, rfl, rfl, by rfl⟩, He.glo_ok X G (c.fact 16 (f := .glo "_law_same") (by rfl)), F.bindsN fun _ _ _ _ _ _ us hl => match us, hl with | [_, _], _ => by rfl⟩⟩
theorem g17 (X : K.In h) (G : h.Ns mainGlobals mg) (c : He.SaysD fa fn K) : ∃ f fd ps, Q.Gd K mg pg T "_law_flags" 17 f fd ps := by
  obtain ⟨fd, F⟩ := c.def_ 17 (d := dd 37 "_law_flags" "_law_flags") (by rfl)
  refine ⟨_, fd, ["e"], ⟨⟨_, _, _, _, _, F, z17, ⟨by rfl, by rfl, by rfl, by decide +kernel, by rfl, by decide +kernel, by decide +kernel⟩, rfl, rfl, rfl, rfl, rfl, rfl, rfl, rfl, by rfl⟩, He.glo_ok X G (c.fact 17 (f := .glo "_law_flags") (by rfl)), F.bindsN fun _ _ _ _ _ _ us hl => match us, hl with | [_], _ => by rfl⟩⟩
theorem g18 (X : K.In h) (G : h.Ns mainGlobals mg) (c : He.SaysD fa fn K) : ∃ f fd ps, Q.Gd K mg pg T "_law_is_name" 18 f fd ps := by
  obtain ⟨fd, F⟩ := c.def_ 18 (d := dd 38 "_law_is_name" "_law_is_name") (by rfl)
  refine ⟨_, fd, ["value"], ⟨⟨_, _, _, _, _, F, z18, ⟨by rfl, by rfl, by rfl, by decide +kernel, by rfl, by decide +kernel, by decide +kernel⟩, rfl, rfl, rfl, rfl, rfl, rfl, rfl, rfl, by rfl⟩, He.glo_ok X G (c.fact 18 (f := .glo "_law_is_name") (by rfl)), F.bindsN fun _ _ _ _ _ _ us hl => match us, hl with | [_], _ => by rfl⟩⟩
theorem g19 (X : K.In h) (G : h.Ns mainGlobals mg) (c : He.SaysD fa fn K) : ∃ f fd ps, Q.Gd K mg pg T "_law_told" 19 f fd ps := by
  obtain ⟨fd, F⟩ := c.def_ 19 (d := dd 39 "_law_told" "_law_told") (by rfl)
  refine ⟨_, fd, ["value"], ⟨⟨_, _, _, _, _, F, z19, ⟨by rfl, by rfl, by rfl, by decide +kernel, by rfl, by decide +kernel, by decide +kernel⟩, rfl, rfl, rfl, rfl, rfl, rfl, rfl, rfl, by rfl⟩, He.glo_ok X G (c.fact 19 (f := .glo "_law_told") (by rfl)), F.bindsN fun _ _ _ _ _ _ us hl => match us, hl with | [_], _ => by rfl⟩⟩
theorem g20 (X : K.In h) (G : h.Ns mainGlobals mg) (c : He.SaysD fa fn K) : ∃ f fd ps, Q.Gd K mg pg T "_law_is_number" 20 f fd ps := by
  obtain ⟨fd, F⟩ := c.def_ 20 (d := dd 40 "_law_is_number" "_law_is_number") (by rfl)
  refine ⟨_, fd, ["value"], ⟨⟨_, _, _, _, _, F, z20, ⟨by rfl, by rfl, by rfl, by decide +kernel, by rfl, by decide +kernel, by decide +kernel⟩, rfl, rfl, rfl, rfl, rfl, rfl, rfl, rfl, by rfl⟩, He.glo_ok X G (c.fact 20 (f := .glo "_law_is_number") (by rfl)), F.bindsN fun _ _ _ _ _ _ us hl => match us, hl with | [_], _ => by rfl⟩⟩
theorem g21 (X : K.In h) (G : h.Ns mainGlobals mg) (c : He.SaysD fa fn K) : ∃ f fd ps, Q.Gd K mg pg T "_law_faults" 21 f fd ps := by
  obtain ⟨fd, F⟩ := c.def_ 21 (d := dd 41 "_law_faults" "_law_faults") (by rfl)
  refine ⟨_, fd, ["draft"], ⟨⟨_, _, _, _, _, F, z21, ⟨by rfl, by rfl, by rfl, by decide +kernel, by rfl, by decide +kernel, by decide +kernel⟩, rfl, rfl, rfl, rfl, rfl, rfl, rfl, rfl, by rfl⟩, He.glo_ok X G (c.fact 21 (f := .glo "_law_faults") (by rfl)), F.bindsN fun _ _ _ _ _ _ us hl => match us, hl with | [_], _ => by rfl⟩⟩
theorem g22 (X : K.In h) (G : h.Ns mainGlobals mg) (c : He.SaysD fa fn K) : ∃ f fd ps, Q.Gd K mg pg T "_law_draft" 22 f fd ps := by
  obtain ⟨fd, F⟩ := c.def_ 22 (d := dd 42 "_law_draft" "_law_draft") (by rfl)
  refine ⟨_, fd, ["draws", "much"], ⟨⟨_, _, _, _, _, F, z22, ⟨by rfl, by rfl, by rfl, by decide +kernel, by rfl, by decide +kernel, by decide +kernel⟩, rfl, rfl, rfl, rfl, rfl, rfl, rfl, rfl, by rfl⟩, He.glo_ok X G (c.fact 22 (f := .glo "_law_draft") (by rfl)), F.bindsN fun _ _ _ _ _ _ us hl => match us, hl with | [_, _], _ => by rfl⟩⟩
theorem g23 (X : K.In h) (G : h.Ns mainGlobals mg) (c : He.SaysD fa fn K) : ∃ f fd ps, Q.Gd K mg pg T "law" 23 f fd ps := by
  obtain ⟨fd, F⟩ := c.def_ 23 (d := dd 43 "law" "law") (by rfl)
  refine ⟨_, fd, ["script"], ⟨⟨_, _, _, _, _, F, z23, ⟨by rfl, by rfl, by rfl, by decide +kernel, by rfl, by decide +kernel, by decide +kernel⟩, rfl, rfl, rfl, rfl, rfl, rfl, rfl, rfl, by rfl⟩, He.glo_ok X G (c.fact 23 (f := .glo "law") (by rfl)), F.bindsN fun _ _ _ _ _ _ us hl => match us, hl with | [_], _ => by rfl⟩⟩
theorem lkup {α β : Type} [BEq α] [LawfulBEq α] {a : α} {b : β} : ∀ {l : List (α × β)}, l.lookup a = some b → (a, b) ∈ l
  | [], h => by cases h
  | (x, y) :: l, h => by
    rw [List.lookup_cons] at h
    split at h
    · rename_i e
      have := eq_of_beq e
      cases h; subst this; exact List.mem_cons_self
    · exact List.mem_cons_of_mem _ (lkup h)
theorem good (X : K.In h) (G : h.Ns mainGlobals mg) (c : He.SaysD fa fn K) : ∀ nm i, pg.ds.lookup nm = some i → ∃ f fd ps, Q.Gd K mg pg T nm i f fd ps := by
  intro nm i hi
  have m : (nm, i) ∈ ds := lkup hi
  rw [show ds = ds0 from rfl] at m
  simp only [ds0, List.mem_cons, List.not_mem_nil, or_false, Prod.mk.injEq] at m
  rcases m with ⟨rfl, rfl⟩ | ⟨rfl, rfl⟩ | ⟨rfl, rfl⟩ | ⟨rfl, rfl⟩ | ⟨rfl, rfl⟩ | ⟨rfl, rfl⟩ | ⟨rfl, rfl⟩ | ⟨rfl, rfl⟩ | ⟨rfl, rfl⟩ | ⟨rfl, rfl⟩ | ⟨rfl, rfl⟩ | ⟨rfl, rfl⟩ | ⟨rfl, rfl⟩ | ⟨rfl, rfl⟩ | ⟨rfl, rfl⟩ | ⟨rfl, rfl⟩ | ⟨rfl, rfl⟩ | ⟨rfl, rfl⟩ | ⟨rfl, rfl⟩ | ⟨rfl, rfl⟩ | ⟨rfl, rfl⟩ | ⟨rfl, rfl⟩ | ⟨rfl, rfl⟩ | ⟨rfl, rfl⟩
  · exact g0 X G c
  · exact g1 X G c
  · exact g2 X G c
  · exact g3 X G c
  · exact g4 X G c
  · exact g5 X G c
  · exact g6 X G c
  · exact g7 X G c
  · exact g8 X G c
  · exact g9 X G c
  · exact g10 X G c
  · exact g11 X G c
  · exact g12 X G c
  · exact g13 X G c
  · exact g14 X G c
  · exact g15 X G c
  · exact g16 X G c
  · exact g17 X G c
  · exact g18 X G c
  · exact g19 X G c
  · exact g20 X G c
  · exact g21 X G c
  · exact g22 X G c
  · exact g23 X G c
theorem gl0 (X : K.In h) (G : h.Ns mainGlobals mg) (c : He.SaysX fa fn ts [] exB w h K) : Q.Gl0 K w mg pg where
  gi := fun x i hi => by
    have m : (x, i) ∈ gi := lkup hi
    rw [show gi = gi0 from rfl] at m
    simp only [gi0, List.mem_cons, List.not_mem_nil, or_false, Prod.mk.injEq] at m
    rcases m with ⟨rfl, rfl⟩ | ⟨rfl, rfl⟩ | ⟨rfl, rfl⟩ | ⟨rfl, rfl⟩ | ⟨rfl, rfl⟩ | ⟨rfl, rfl⟩ | ⟨rfl, rfl⟩
    · exact He.int_ok X G (c.t.d.fact 42 (f := .int "MOST_SIGNS" 12) (by rfl))
    · exact He.int_ok X G (c.t.d.fact 43 (f := .int "MOST_ENTRIES_sheets" 200) (by rfl))
    · exact He.int_ok X G (c.t.d.fact 44 (f := .int "LAST_DAY_sheets" 100000) (by rfl))
    · exact He.int_ok X G (c.t.d.fact 45 (f := .int "MOST_SHARE_sheets" 10000000) (by rfl))
    · exact He.int_ok X G (c.t.d.fact 46 (f := .int "MOST_ENTRIES_shares" 200) (by rfl))
    · exact He.int_ok X G (c.t.d.fact 47 (f := .int "MOST_SHARE_shares" 10000000) (by rfl))
    · exact He.int_ok X G (c.t.d.fact 48 (f := .int "LAST_DAY_shares" 100000) (by rfl))
  bi := fun b => by
    cases b
    · exact He.free_ok X G (c.t.d.fact 24 (f := .free "len") (by rfl))
    · exact He.free_ok X G (c.t.d.fact 25 (f := .free "abs") (by rfl))
    · exact He.free_ok X G (c.t.d.fact 26 (f := .free "max") (by rfl))
    · exact He.free_ok X G (c.t.d.fact 27 (f := .free "min") (by rfl))
    · exact He.free_ok X G (c.t.d.fact 28 (f := .free "sum") (by rfl))
    · exact He.free_ok X G (c.t.d.fact 29 (f := .free "int") (by rfl))
    · exact He.free_ok X G (c.t.d.fact 30 (f := .free "all") (by rfl))
    · exact He.free_ok X G (c.t.d.fact 31 (f := .free "list") (by rfl))
    · exact He.free_ok X G (c.t.d.fact 32 (f := .free "repr") (by rfl))
  ty := fun b => by
    cases b
    · exact He.free_ok X G (c.t.d.fact 29 (f := .free "int") (by rfl))
    · exact He.free_ok X G (c.t.d.fact 33 (f := .free "bool") (by rfl))
    · exact He.free_ok X G (c.t.d.fact 34 (f := .free "str") (by rfl))
    · exact He.free_ok X G (c.t.d.fact 35 (f := .free "tuple") (by rfl))
    · exact He.free_ok X G (c.t.d.fact 31 (f := .free "list") (by rfl))
    · exact He.free_ok X G (c.t.d.fact 36 (f := .free "dict") (by rfl))
  oth := ⟨He.free_ok X G (c.t.d.fact 37 (f := .free "isinstance") (by rfl)), He.free_ok X G (c.t.d.fact 38 (f := .free "range") (by rfl)), He.free_ok X G (c.t.d.fact 39 (f := .free "enumerate") (by rfl)), He.free_ok X G (c.t.d.fact 40 (f := .free "reversed") (by rfl)), He.free_ok X G (c.t.d.fact 31 (f := .free "list") (by rfl)), He.free_ok X G (c.t.d.fact 41 (f := .free "zip") (by rfl))⟩
  rs := fun x e hi => by
    have m : (x, e) ∈ xs := lkup hi
    rw [show xs = xs0 from rfl] at m
    simp only [xs0, List.mem_cons, List.not_mem_nil, or_false, Prod.mk.injEq] at m
    rcases m with ⟨rfl, rfl⟩
    · exact ⟨by rfl, _, He.glo_ok X G (c.t.d.fact 49 (f := .glo "NotRight") (by rfl)), He.exc_ok (c.t.d.fact 51 (f := .exc "NotRight") (by rfl))⟩
  gd := fun n g hi => by
    have m : (n, g) ∈ gd := lkup hi
    have q := c.more
    simp only [exB, Bool.and_eq_true] at q
    simp only [gd, List.mem_cons, List.not_mem_nil, or_false, Prod.mk.injEq] at m
    rcases m with ⟨rfl, rfl⟩ | ⟨rfl, rfl⟩
    · exact Q.gd_of (He.glo_ok X G (c.t.d.fact 53 (f := .glo "SIZES_sheets") (by rfl))) (Q.tab_of c.t 0 rfl) q.1.2
    · exact Q.gd_of (He.glo_ok X G (c.t.d.fact 54 (f := .glo "SIZES_shares") (by rfl))) (Q.tab_of c.t 1 rfl) q.2
  tr := fun ct F0 hi => by
    have q := c.more
    simp only [exB, Bool.and_eq_true] at q
    have hg : ∀ e bs, tb.lookup e = some bs → mg (Q.xn e) = some (.ref (He.ga K (Q.xn e))) := fun e bs hl => by
      have m : (e, bs) ∈ tb := lkup hl
      simp only [tb, List.mem_cons, List.not_mem_nil, or_false, Prod.mk.injEq] at m
      rcases m with ⟨rfl, rfl⟩
      · exact He.glo_ok X G (c.t.d.fact 49 (f := .glo "NotRight") (by rfl))
    have he : ∀ e bs D, tb.lookup e = some bs → mg (Q.xn e) = some (.ref D) → PySem.W.exmOne K (.ref D) (.ref (He.ga K "CoopError")) = some true := fun e bs D hl hm => by
      have h0 := hg e bs hl
      rw [hm] at h0
      cases h0
      have m : (e, bs) ∈ tb := lkup hl
      simp only [tb, List.mem_cons, List.not_mem_nil, or_false, Prod.mk.injEq] at m
      rcases m with ⟨rfl, rfl⟩
      · exact He.exm_ok (c.t.d.fact 52 (f := .exm "NotRight" "CoopError" true) (by rfl))
    obtain ⟨fd, F⟩ := c.t.d.def_ 17 (d := dd 37 "_law_flags" "_law_flags") (by rfl)
    have m : (ct, F0) ∈ tr := hi
    simp only [tr, List.mem_cons, List.not_mem_nil, or_false, Prod.mk.injEq] at m
    obtain ⟨rfl, rfl⟩ := m
    exact ⟨_, _, fd, "e", He.glo_ok X G (c.t.d.fact 50 (f := .glo "CoopError") (by rfl)), fun P cx base => Q.flag_ok (y := "e") (mg := mg) (tb := tb) (ns := fns) F ⟨by rfl, by rfl, by rfl, by decide +kernel, by rfl, by decide +kernel, by decide +kernel⟩ (by rfl) (by decide) (by rfl) (He.free_ok X G (c.t.d.fact 37 (f := .free "isinstance") (by rfl))) (fun e D bs hm hl => Q.hdB_ok X G q.1.1 hg e D bs hm hl), He.glo_ok X G (c.t.d.fact 17 (f := .glo "_law_flags") (by rfl)), F.kp, F.bindsN (fun _ _ _ _ _ _ us hl => match us, hl with | [_], _ => by rfl), he, fun e bs hl => ⟨_, hg e bs hl⟩⟩
end
theorem facts {P : Program} {w : World} {K : PySem.W.Frag} {h : Heap} {mg : Str → Option Value} {f : Addr} (kk : Nat) (X : K.In h) (G : h.Ns mainGlobals mg) (hfa : mg ("law" : Str) = some (.ref f)) (c : He.SaysX fa fn ts [] exB w h K) :
    ∃ fd : FuncData, (∀ (s : Shared) (v : Value), BindsTo s fd ⟨[v], []⟩ [("script", v)]) ∧ ∀ base : Heap, K.In base → base.Ns mainGlobals mg → Q.FnG P w K mg base (L2N.CX P w) (kk + 1) f fd ["script"] (Q.spG K mg (Q.call T kk) 23) := by
  obtain ⟨fd, F⟩ := c.t.d.def_ 23 (d := dd 43 "law" "law") (by rfl)
  have e := hfa.symm.trans (He.glo_ok X G (c.t.d.fact 23 (f := .glo "law") (by rfl)))
  cases e
  have b := FunD.bindsA (ps := ["script"]) F fun _ _ _ _ _ _ us hl => match us, hl with | [_], _ => by rfl
  refine ⟨fd, fun s v => b s [v] rfl, fun base _ _ => Q.prog (good X G c.t.d) (gl0 X G c) kk "law" 23 _ fd ["script"] (by decide +kernel) ?_⟩
  exact ⟨⟨_, _, _, _, _, F, z23, ⟨by rfl, by rfl, by rfl, by decide +kernel, by rfl, by decide +kernel, by decide +kernel⟩, rfl, rfl, rfl, rfl, rfl, rfl, rfl, rfl, by rfl⟩, hfa, F.bindsN fun _ _ _ _ _ _ us hl => match us, hl with | [_], _ => by rfl⟩
end Hd
end

section
set_option Elab.async false
set_option linter.all false
set_option maxRecDepth 100000
set_option maxHeartbeats 0
open PySem PySem.W PySem.Calls PyProof.Rows
theorem holds_of_k09 (hlaw : ∀ ns : List Int, ns.length ≤ 63 → ∃ c, Q.call Ek09.T 12 23 [.lst (ns.map Q.D.int)] [] = .ok (false, .bl true) c) : PySem.Challenge.rw_coopward_k09_whole_faults_of_share_books.Holds := by
  w_on; o_law
  refine HandSHeadRun.head_any (r := OpenLaw.row PySem.Challenge.rw_coopward_k09_whole_faults_of_share_books) (q := view (OpenLaw.row PySem.Challenge.rw_coopward_k09_whole_faults_of_share_books).prog [43]) (H := Hd.hk) (ob := Hd.ob) (M := 6000) (loose := Hd.names) (d := HandSHeadRun.topDef (OpenLaw.row PySem.Challenge.rw_coopward_k09_whole_faults_of_share_books).prog 43) (kwd := []) Hd.ob_eq
    (by kernel_rfl) (fun s => by kernel_rfl) Hd.run (by kernel_rfl) (by kernel_rfl) (by kernel_rfl) (by rfl) (by first | assumption | decide +kernel) (by decide +kernel) ⟨rfl, rfl, rfl, rfl, rfl, by decide +kernel⟩ ?hw ?hc
  case hw => w_witness2
  case hc =>
    refine Q.walk_ofG (l := PySem.Challenge.rw_coopward_k09_whole_faults_of_share_books) (n := 63) (k := 12 + 1) (x := "script") (cx := L2N.CX) rfl (by decide) (by kernel_rfl) ⟨rfl, by decide, by decide⟩ ?F
    intro w mg fa h Y G hmg0
    obtain ⟨K, KX, c⟩ := Y
    have hmg : mg ("law" : PySem.Str) = some (.ref fa) := by
      have e : (HandSHeadRun.topDef (OpenLaw.row PySem.Challenge.rw_coopward_k09_whole_faults_of_share_books).prog 43).name = ("law" : PySem.Str) := by kernel_rfl
      rw [← e]
      exact hmg0
    obtain ⟨fd, hb, hF⟩ := Hd.facts (P := (PySem.Challenge.rw_coopward_k09_whole_faults_of_share_books).prog) (w := w) 12 KX G hmg c
    refine ⟨K, fd, Q.spG K mg (Q.call Hd.T 12) 23, KX, hb, fun H a ns hl _ hS => ?_, fun H s e s2 z => ?_, hF⟩
    · rw [Hd.T_eq]
      obtain ⟨c, hc⟩ := hlaw ns hl
      exact Q.law_sp hS hc
    · obtain ⟨_, _, _, _, _, _, _, _, _, _, _, _, z⟩ := z
      exact z
end

section
set_option Elab.async false
set_option linter.all false
set_option maxRecDepth 100000
set_option maxHeartbeats 4000000
namespace V09
open Q Ek09 PySem
/-- a simple item -/
def sim : Q.D → Bool
  | .non => true
  | .bl _ => true
  | .int _ => true
  | .str x => PyData.strOk x
  | _ => false
def isI : Q.D → Bool
  | .int _ => true
  | _ => false
def isS : Q.D → Bool
  | .str _ => true
  | _ => false
def inR (a b : Int) : Q.D → Bool
  | .int i => decide (a ≤ i) && decide (i ≤ b)
  | _ => false
theorem is_integer (k : Nat) {d : Q.D} (h : sim d = true) (c : Cells) : call T (k + 1) 0 [d] c = .ok (false, .bl (isI d)) c := by
  rw [call_eq (fd := ⟨1, 1, e0⟩) rfl rfl]
  cases d <;> simp [sim] at h <;> simp [e0, frame, isD, isI]
theorem law_is_number (k : Nat) {d : Q.D} (h : sim d = true) (c : Cells) : call T (k + 1) 20 [d] c = .ok (false, .bl (isI d)) c := by
  rw [call_eq (fd := ⟨1, 1, e20⟩) rfl rfl]
  cases d <;> simp [sim] at h <;> simp [e20, frame, isD, isI]
theorem is_within (k : Nat) {d : Q.D} (h : sim d = true) (lo hi : Int) (c : Cells) : call T (k + 2) 1 [d, .int lo, .int hi] c = .ok (false, .bl (inR lo hi d)) c := by
  rw [call_eq (fd := ⟨3, 3, e1⟩) rfl rfl]
  have hi := is_integer k h
  cases d
  case int i =>
    simp [e1, frame, isPk, callD, anyO, hi, isI, inR]
    by_cases h : lo ≤ i <;> simp [h]
  all_goals simp [sim] at h
  all_goals simp [e1, frame, isPk, callD, anyO, hi, isI, inR]
theorem is_day5 (k : Nat) {d : Q.D} (h : sim d = true) (c : Cells) : call T (k + 3) 5 [d] c = .ok (false, .bl (inR 0 100000 d)) c := by
  rw [call_eq (fd := ⟨1, 1, e5⟩) rfl rfl]
  simp [e5, frame, isPk, isV, callD, anyO, is_within k h]
theorem is_day6 (k : Nat) {d : Q.D} (h : sim d = true) (c : Cells) : call T (k + 3) 6 [d] c = .ok (false, .bl (inR 0 100000 d)) c := by
  rw [call_eq (fd := ⟨1, 1, e6⟩) rfl rfl]
  simp [e6, frame, isPk, isV, callD, anyO, is_within k h]
theorem is_day10 (k : Nat) {d : Q.D} (h : sim d = true) (c : Cells) : call T (k + 3) 10 [d] c = .ok (false, .bl (inR 0 100000 d)) c := by
  rw [call_eq (fd := ⟨1, 1, e10⟩) rfl rfl]
  simp [e10, frame, isPk, isV, callD, anyO, is_within k h]
/-! names -/
inductive N5 : Q.D → Prop
  | ann : N5 (.str "ann")
  | bob : N5 (.str "bob")
  | c3 : N5 (.str "c3")
  | Ann : N5 (.str "Ann")
  | non : N5 .non
def nameOk : Q.D → Bool
  | .str x => x == "ann" || x == "bob" || x == "c3"
  | _ => false
theorem N5.sim {d : Q.D} (h : N5 d) : sim d = true := by cases h <;> kernel_rfl
theorem is_name (k : Nat) {d : Q.D} (h : N5 d) (c : Cells) : call T (k + 1) 2 [d] c = .ok (false, .bl (nameOk d)) c := by
  cases h <;> kernel_rfl
theorem law_is_name (k : Nat) {d : Q.D} (h : N5 d) (c : Cells) : call T (k + 1) 18 [d] c = .ok (false, .bl (nameOk d)) c := by
  cases h <;> kernel_rfl
theorem check_t (k : Nat) (c : Cells) : call T (k + 1) 3 [.bl true] c = .ok (false, .non) c := by
  rw [call_eq (fd := ⟨1, 1, e3⟩) rfl rfl]
  simp [e3, frame]
theorem check_f (k : Nat) (c : Cells) : call T (k + 1) 3 [.bl false] c = .exc 0 c := rfl
theorem is_count (k : Nat) {d : Q.D} (h : sim d = true) (c : Cells) : call T (k + 2) 4 [d] c = .ok (false, .bl (match d with | .int i => decide (0 ≤ i) | _ => false)) c := by
  rw [call_eq (fd := ⟨1, 1, e4⟩) rfl rfl]
  have hi := is_integer k h
  cases d <;> simp [sim] at h <;> simp [e4, frame, isPk, callD, anyO, hi, isI]
/-! words -/
def sz : List (Str × Int) := [("join", 4), ("pay", 4), ("leave", 3), ("back", 4)]
theorem sz_cases {x : Str} {n : Int} (h : sz.lookup x = some n) : (x = "join" ∧ n = 4) ∨ (x = "pay" ∧ n = 4) ∨ (x = "leave" ∧ n = 3) ∨ (x = "back" ∧ n = 4) := by
  unfold sz at h
  simp only [List.lookup_cons, List.lookup_nil] at h
  split at h
  · rename_i e; cases h; exact .inl ⟨eq_of_beq e, rfl⟩
  · split at h
    · rename_i e; cases h; exact .inr (.inl ⟨eq_of_beq e, rfl⟩)
    · split at h
      · rename_i e; cases h; exact .inr (.inr (.inl ⟨eq_of_beq e, rfl⟩))
      · split at h
        · rename_i e; cases h; exact .inr (.inr (.inr ⟨eq_of_beq e, rfl⟩))
        · cases h
def penOk (x : Str) (p : Q.D) : Bool := x == "leave" || (if x == "join" then inR 1 10000000 p else match p with | .int i => decide (0 < i) | _ => false)
theorem has_pence_lv (k : Nat) (d nm : Q.D) (c : Cells) : call T (k + 3) 7 [.tup [.str "leave", d, nm]] c = .ok (false, .bl true) c := by kernel_rfl
theorem has_pence_j (k : Nat) {d nm p : Q.D} (h : sim p = true) (c : Cells) : call T (k + 3) 7 [.tup [.str "join", d, nm, p]] c = .ok (false, .bl (inR 1 10000000 p)) c := by
  rw [call_eq (fd := ⟨1, 1, e7⟩) rfl rfl]
  have e1 : cmpD .eq (.str "join") (.str "leave") = some false := by kernel_rfl
  have e2 : cmpD .eq (.str "join") (.str "join") = some true := by kernel_rfl
  have e3 : ixD (.tup [.str "join", d, nm, p]) (.int 3) = some p := rfl
  simp [e7, frame, isPk, isV, callD, anyO, xes_cons, e1, e2, e3, is_within k h]
def posI : Q.D → Bool
  | .int i => decide (0 < i)
  | _ => false
theorem has_pence_o (k : Nat) {x : Str} (hx : x = "pay" ∨ x = "back") {d nm p : Q.D} (h : sim p = true) (c : Cells) : call T (k + 3) 7 [.tup [.str x, d, nm, p]] c = .ok (false, .bl (posI p)) c := by
  rw [call_eq (fd := ⟨1, 1, e7⟩) rfl rfl]
  have e1 : cmpD .eq (.str x) (.str "leave") = some false := by rcases hx with rfl | rfl <;> kernel_rfl
  have e2 : cmpD .eq (.str x) (.str "join") = some false := by rcases hx with rfl | rfl <;> kernel_rfl
  have e3 : ixD (.tup [.str x, d, nm, p]) (.int 3) = some p := rfl
  have hi := is_integer (k + 1) h
  cases p <;> simp [sim] at h <;> simp [e7, frame, isPk, isV, callD, anyO, xes_cons, e1, e2, e3, hi, isI, posI]
end V09
end

section
set_option Elab.async false
set_option linter.all false
set_option maxRecDepth 100000
set_option maxHeartbeats 4000000
namespace V09
open Q Ek09 PySem
/-! ### entries -/
inductive Wd where | join | pay | leave | back
def Wd.s : Wd → Str
  | .join => "join" | .pay => "pay" | .leave => "leave" | .back => "back"
def Wd.n : Wd → Int
  | .leave => 3
  | _ => 4
inductive En where
  | nil | odd (w : Q.D) (r : List Q.D) | bad (r : List Q.D) | frm (w : Wd) (r : List Q.D) | lv (d nm : Q.D) | jn (d nm p : Q.D) | ot (b : Bool) (d nm p : Q.D)
def oth : Bool → Str
  | false => "pay"
  | true => "back"
def En.ds : En → List Q.D
  | .nil => []
  | .odd w r => w :: r
  | .bad r => .str "burn" :: r
  | .frm w r => .str w.s :: r
  | .lv d nm => [.str "leave", d, nm]
  | .jn d nm p => [.str "join", d, nm, p]
  | .ot b d nm p => [.str (oth b), d, nm, p]
def En.ok : En → Prop
  | .nil => True
  | .odd w r => sim w = true ∧ isS w = false ∧ r.all sim = true ∧ r.length ≤ 10
  | .bad r => r.all sim = true ∧ r.length ≤ 10
  | .frm w r => r.all sim = true ∧ (r.length : Int) + 1 ≠ w.n ∧ r.length ≤ 10
  | .lv d nm => sim d = true ∧ N5 nm
  | .jn d nm p => sim d = true ∧ N5 nm ∧ sim p = true
  | .ot _ d nm p => sim d = true ∧ N5 nm ∧ sim p = true
def ltI : Q.D → Int → Bool
  | .int i, l => decide (i < l)
  | _, _ => false
def fl3 (d nm : Q.D) (p : Bool) (l : Int) : Option Str := if inR 0 100000 d then (if nameOk nm then (if p then (if ltI d l then some "back" else none) else some "pence") else some "name") else some "day"
def En.flt (l : Int) : En → Option Str
  | .nil => some "word"
  | .odd _ _ => some "word"
  | .bad _ => some "word"
  | .frm _ _ => some "form"
  | .lv d nm => fl3 d nm true l
  | .jn d nm p => fl3 d nm (inR 1 10000000 p) l
  | .ot _ d nm p => fl3 d nm (posI p) l
def fD (at_ : Int) : Option Str → Q.D
  | some w => .tup [.str w, .int at_]
  | none => .non
theorem ix0 {x : Q.D} {r : List Q.D} : ixD (.tup (x :: r)) (.int 0) = some x := by simp
theorem ix1 {x d : Q.D} {r : List Q.D} : ixD (.tup (x :: d :: r)) (.int 1) = some d := by simp
theorem ix2 {x d n : Q.D} {r : List Q.D} : ixD (.tup (x :: d :: n :: r)) (.int 2) = some n := by simp
theorem ix3 {x d n p : Q.D} : ixD (.tup [x, d, n, p]) (.int 3) = some p := rfl
theorem lk (w : Wd) : List.lookup w.s [(("join" : Str), (4 : Int)), ("pay", 4), ("leave", 3), ("back", 4)] = some w.n := by cases w <;> kernel_rfl
theorem lkl : List.lookup ("leave" : Str) [(("join" : Str), (4 : Int)), ("pay", 4), ("leave", 3), ("back", 4)] = some 3 := by kernel_rfl
theorem lkj : List.lookup ("join" : Str) [(("join" : Str), (4 : Int)), ("pay", 4), ("leave", 3), ("back", 4)] = some 4 := by kernel_rfl
theorem lko (b : Bool) : List.lookup (oth b) [(("join" : Str), (4 : Int)), ("pay", 4), ("leave", 3), ("back", 4)] = some 4 := by cases b <;> kernel_rfl
theorem lkb : List.lookup ("burn" : Str) [(("join" : Str), (4 : Int)), ("pay", 4), ("leave", 3), ("back", 4)] = none := by kernel_rfl
theorem isd_tup {ds : List Q.D} : isD (.tup ds) .str = some false := rfl
theorem len0 {x : Q.D} {r : List Q.D} : ¬ (((x :: r).length : Nat) : Int) = 0 := by simp only [List.length_cons]; omega
theorem isd_odd {w : Q.D} (h : sim w = true) (h2 : isS w = false) : isD w .str = some false := by cases w <;> simp [sim, isS] at h h2 <;> rfl
theorem cmp_lt_sim {d : Q.D} {l : Int} (h : inR 0 100000 d = true) : cmpD .lt d (.int l) = some (ltI d l) := by cases d <;> simp [inR] at h <;> rfl
theorem has_pence (k : Nat) {e : En} (he : e.ok) (c : Cells) : (∀ d nm, e = .lv d nm → call T (k + 3) 7 [.tup e.ds] c = .ok (false, .bl true) c) ∧ (∀ d nm p, e = .jn d nm p → call T (k + 3) 7 [.tup e.ds] c = .ok (false, .bl (inR 1 10000000 p)) c) ∧
    (∀ b d nm p, e = .ot b d nm p → call T (k + 3) 7 [.tup e.ds] c = .ok (false, .bl (posI p)) c) := by
  refine ⟨fun d nm h => ?_, fun d nm p h => ?_, fun b d nm p h => ?_⟩
  · subst h; exact has_pence_lv k d nm c
  · subst h; exact has_pence_j k he.2.2 c
  · subst h; exact has_pence_o k (by cases b <;> simp [oth]) he.2.2 c
theorem fault_of (k : Nat) {e : En} (he : e.ok) (a l : Int) (c : Cells) : call T (k + 4) 8 [.tup e.ds, .int a, .int l] c = .ok (false, fD a (e.flt l)) c := by
  rw [call_eq (fd := ⟨3, 3, e8⟩) rfl rfl]
  obtain ⟨hp1, hp2, hp3⟩ := has_pence k he c
  cases e with
  | nil => simp [e8, frame, En.ds, En.flt, fD, isPk, isV, xes_cons]
  | odd w r =>
    obtain ⟨h1, h2, h3, _⟩ := he
    have hl : ¬ ((r.length : Int) + 1 = 0) := by omega
    simp [e8, frame, En.ds, En.flt, fD, isPk, isV, xes_cons, hl, isd_odd h1 h2]
  | bad r =>
    have hl : ¬ ((r.length : Int) + 1 = 0) := by omega
    simp [e8, frame, En.ds, En.flt, fD, isPk, isV, xes_cons, hl, isD, lkb]
  | frm w r =>
    have hl : ¬ ((r.length : Int) + 1 = 0) := by omega
    have hl2 : ¬ ((r.length : Int) + 1 = w.n) := he.2.1
    simp [e8, frame, En.ds, En.flt, fD, isPk, isV, xes_cons, hl, hl2, isD, lk]
  | lv d nm =>
    have hp := hp1 d nm rfl
    simp only [En.ds] at hp
    have hd := is_day6 k he.1 c
    have hn := is_name (k + 2) he.2 c
    cases h1 : inR 0 100000 d with
    | false => simp [e8, frame, En.ds, En.flt, fl3, fD, isPk, isV, xes_cons, isD, lkl, callD, anyO, hd, h1]
    | true =>
      have hlt := cmp_lt_sim (l := l) h1
      cases h2 : nameOk nm with
      | false => simp [e8, frame, En.ds, En.flt, fl3, fD, isPk, isV, xes_cons, isD, lkl, callD, anyO, hd, h1, hn, h2]
      | true => cases h3 : ltI d l <;> simp [e8, frame, En.ds, En.flt, fl3, fD, isPk, isV, xes_cons, isD, lkl, callD, anyO, hd, h1, hn, h2, hp, hlt, h3]
  | jn d nm p =>
    have hp := hp2 d nm p rfl
    simp only [En.ds] at hp
    have hd := is_day6 k he.1 c
    have hn := is_name (k + 2) he.2.1 c
    cases h1 : inR 0 100000 d with
    | false => simp [e8, frame, En.ds, En.flt, fl3, fD, isPk, isV, xes_cons, isD, lkj, callD, anyO, hd, h1]
    | true =>
      have hlt := cmp_lt_sim (l := l) h1
      cases h2 : nameOk nm with
      | false => simp [e8, frame, En.ds, En.flt, fl3, fD, isPk, isV, xes_cons, isD, lkj, callD, anyO, hd, h1, hn, h2]
      | true => cases h4 : inR 1 10000000 p with
        | false => simp [e8, frame, En.ds, En.flt, fl3, fD, isPk, isV, xes_cons, isD, lkj, callD, anyO, hd, h1, hn, h2, hp, h4]
        | true => cases h3 : ltI d l <;> simp [e8, frame, En.ds, En.flt, fl3, fD, isPk, isV, xes_cons, isD, lkj, callD, anyO, hd, h1, hn, h2, hp, hlt, h3, h4]
  | ot b d nm p =>
    have hp := hp3 b d nm p rfl
    simp only [En.ds] at hp
    have hd := is_day6 k he.1 c
    have hn := is_name (k + 2) he.2.1 c
    cases h1 : inR 0 100000 d with
    | false => simp [e8, frame, En.ds, En.flt, fl3, fD, isPk, isV, xes_cons, isD, lko, callD, anyO, hd, h1]
    | true =>
      have hlt := cmp_lt_sim (l := l) h1
      cases h2 : nameOk nm with
      | false => simp [e8, frame, En.ds, En.flt, fl3, fD, isPk, isV, xes_cons, isD, lko, callD, anyO, hd, h1, hn, h2]
      | true => cases h4 : posI p with
        | false => simp [e8, frame, En.ds, En.flt, fl3, fD, isPk, isV, xes_cons, isD, lko, callD, anyO, hd, h1, hn, h2, hp, h4]
        | true => cases h3 : ltI d l <;> simp [e8, frame, En.ds, En.flt, fl3, fD, isPk, isV, xes_cons, isD, lko, callD, anyO, hd, h1, hn, h2, hp, hlt, h3, h4]
end V09
end

section
set_option Elab.async false
set_option linter.all false
set_option maxRecDepth 100000
set_option maxHeartbeats 4000000
namespace V09
open Q Ek09 PySem
/-! ### all faults -/
def En.d (e : En) : Q.D := .tup e.ds
def nx (l : Int) : List Q.D → Int
  | _ :: .int i :: _ => if decide (0 ≤ i) && decide (i ≤ 100000) then i else l
  | _ => l
def fls : List En → Int → Int → List Q.D
  | [], _, _ => []
  | e :: r, a, l => (match e.flt l with | some w => [.tup [.str w, .int a]] | none => []) ++ fls r (a + 1) (nx l e.ds)
def many (n : Nat) : List Q.D := if 200 < n then [.tup [.str "many", .int n]] else []
def faults (es : List En) : List Q.D := many es.length ++ fls es 0 0
def oks (es : List En) : Prop := ∀ e ∈ es, e.ok
theorem En.sims {e : En} (h : e.ok) : ∀ d ∈ e.ds, sim d = true := by
  have all : ∀ {r : List Q.D}, r.all sim = true → ∀ d ∈ r, sim d = true := fun h => List.all_eq_true.mp h
  have ws : ∀ w : Wd, sim (.str w.s) = true := fun w => by cases w <;> kernel_rfl
  have os : ∀ b, sim (.str (oth b)) = true := fun b => by cases b <;> kernel_rfl
  have bu : sim (.str "burn") = true := by kernel_rfl
  have lv : sim (.str "leave") = true := by kernel_rfl
  have jn : sim (.str "join") = true := by kernel_rfl
  intro d m
  cases e with
  | nil => simp [En.ds] at m
  | odd w r => simp only [En.ds, List.mem_cons] at m; rcases m with rfl | m; exact h.1; exact all h.2.2.1 d m
  | bad r => simp only [En.ds, List.mem_cons] at m; rcases m with rfl | m; exact bu; exact all h.1 d m
  | frm w r => simp only [En.ds, List.mem_cons] at m; rcases m with rfl | m; exact ws w; exact all h.1 d m
  | lv d0 nm => simp only [En.ds, List.mem_cons, List.not_mem_nil, or_false] at m; rcases m with rfl | rfl | rfl; exact lv; exact h.1; exact h.2.sim
  | jn d0 nm p => simp only [En.ds, List.mem_cons, List.not_mem_nil, or_false] at m; rcases m with rfl | rfl | rfl | rfl; exact jn; exact h.1; exact h.2.1.sim; exact h.2.2
  | ot b d0 nm p => simp only [En.ds, List.mem_cons, List.not_mem_nil, or_false] at m; rcases m with rfl | rfl | rfl | rfl; exact os b; exact h.1; exact h.2.1.sim; exact h.2.2
theorem fls_len : ∀ (es : List En) (a l : Int), (fls es a l).length ≤ es.length
  | [], _, _ => Nat.le_refl _
  | e :: r, a, l => by
    have := fls_len r (a + 1) (nx l e.ds)
    simp only [fls, List.length_append, List.length_cons]
    split <;> simp <;> omega
abbrev rw9 (v0 : Q.D) (acc : List Q.D) (l : Int) (x3 x4 x5 : Option (Bool × Q.D)) : Row := [some (false, v0), some (true, .lst acc), some (false, .int l), x3, x4, x5]
def b9 : List Sx := [.set 5 (.call 8 [.v 4, .v 3, .v 2]), .ite (.cmp .isn (.v 5) (.c .non)) [.app 1 (.v 5)] [], .ite (.and (.cmp .gt (.bi .len [.v 4]) (.c (.int 1))) (.call 6 [.ix (.v 4) (.c (.int 1))])) [.set 2 (.ix (.v 4) (.c (.int 1)))] []]
theorem turn9 (k : Nat) {e : En} (he : e.ok) (v0 : Q.D) (acc : List Q.D) (hl : acc.length < 10000) (l a : Int) (x5 : Option (Bool × Q.D)) (c : Cells) :
    xes (call T (k + 4)) b9 ⟨rw9 v0 acc l (some (false, .int a)) (some (false, .tup e.ds)) x5, c⟩ = .ok .nx ⟨rw9 v0 (acc ++ (match e.flt l with | some w => [.tup [.str w, .int a]] | none => [])) (nx l e.ds) (some (false, .int a)) (some (false, .tup e.ds)) (some (false, fD a (e.flt l))), c⟩ := by
  have hf := fault_of k he a l c
  have hlim : acc.length < lim := Nat.lt_of_lt_of_le hl (by decide)
  have hs := En.sims he
  refine (xes_nx (s1 := ⟨rw9 v0 acc l (some (false, .int a)) (some (false, .tup e.ds)) (some (false, fD a (e.flt l))), c⟩) (by simp [isPk, isV, callD, anyO, hf])).trans ?_
  refine (xes_nx (s1 := ⟨rw9 v0 (acc ++ (match e.flt l with | some w => [.tup [.str w, .int a]] | none => [])) l (some (false, .int a)) (some (false, .tup e.ds)) (some (false, fD a (e.flt l))), c⟩) ?_).trans ?_
  · cases e.flt l <;> simp [isPk, isV, fD, isNon, hlim]
  · generalize acc ++ _ = acc2
    generalize some (false, fD a (e.flt l)) = y5
    clear hf
    revert hs
    generalize e.ds = ds
    intro hs
    match ds, hs with
    | [], _ => simp [isPk, isV, nx]
    | [x], _ => simp [isPk, isV, nx]
    | x :: d :: r, hs =>
      have hd := is_day6 (k + 1) (hs d (by simp)) c
      have h2 : (1 : Int) < (r.length : Int) + 1 + 1 := by omega
      cases h : inR 0 100000 d with
      | false =>
        have : nx l (x :: d :: r) = l := by
          cases d <;> simp [nx]
          intro h3 h4
          simp [inR, h3, h4] at h
        simp [isPk, isV, callD, anyO, hd, h, h2, this]
      | true =>
        cases d <;> simp [inR] at h
        rename_i i
        simp [isPk, isV, callD, anyO, hd, h, h2, nx, inR]
theorem loop9 (k : Nat) (v0 : Q.D) (c : Cells) : ∀ (es : List En) (acc : List Q.D) (l : Int) (a : Nat) (x3 x4 x5 : Option (Bool × Q.D)), oks es → acc.length + es.length < 10000 →
    ∃ l' y3 y4 y5, forL (fun x s => (R.of (asg (.t [.n 3, .n 4]) x s.r) s).b fun r s => xes (call T (k + 4)) b9 ⟨r, s.c⟩) (enuD a (es.map En.d)) ⟨rw9 v0 acc l x3 x4 x5, c⟩ = .ok .nx ⟨rw9 v0 (acc ++ fls es a l) l' y3 y4 y5, c⟩
  | [], acc, l, a, x3, x4, x5, _, _ => ⟨l, x3, x4, x5, by simp [fls, enuD, forL]⟩
  | e :: es, acc, l, a, x3, x4, x5, h, hl => by
    simp only [List.length_cons] at hl
    have ht := turn9 k (h e (by simp)) v0 acc (by omega) l a x5 c
    have hlen : (match e.flt l with | some w => [Q.D.tup [.str w, .int a]] | none => []).length ≤ 1 := by split <;> simp
    obtain ⟨l', y3, y4, y5, ih⟩ := loop9 k v0 c es (acc ++ (match e.flt l with | some w => [.tup [.str w, .int a]] | none => [])) (nx l e.ds) (a + 1) _ _ (some (false, fD a (e.flt l))) (fun x hx => h x (by simp [hx])) (by rw [List.length_append]; omega)
    refine ⟨l', y3, y4, y5, ?_⟩
    simp only [List.map_cons, enuD, forL]
    have ea : (R.of (asg (.t [.n 3, .n 4]) (.tup [.int (a : Int), e.d]) (rw9 v0 acc l x3 x4 x5)) (⟨rw9 v0 acc l x3 x4 x5, c⟩ : S)) = .ok (rw9 v0 acc l (some (false, .int a)) (some (false, .tup e.ds)) x5) ⟨rw9 v0 acc l x3 x4 x5, c⟩ := by simp [asg, asgs, En.d]
    rw [ea]
    simp only [R.b_ok]
    rw [ht]
    simp only [R.b_ok]
    rw [ih]
    simp only [fls, List.append_assoc]
    congr
end V09
end

section
set_option Elab.async false
set_option linter.all false
set_option maxRecDepth 100000
set_option maxHeartbeats 4000000
namespace V09
open Q Ek09 PySem
abbrev dl (es : List En) : Q.D := .lst (es.map En.d)
theorem all_true {α : Type} (xs : List α) : (xs.filterMap fun _ => some (Q.D.bl true)) = (List.replicate xs.length true).map Q.D.bl := by
  induction xs with
  | nil => rfl
  | cons x xs ih => simp [ih, List.replicate_succ]
theorem all_rep (n : Nat) : (List.replicate n true).all id = true := by simp
/-- all items are tuples -/
theorem lc_tup (C : Cl) {es : List En} (hl : es.length ≤ 1000) (c : Cells) (a b d e f : Option (Bool × Q.D)) (he : e = none) (hn : notOwn [4] [some (false, dl es), a, b, d, e, f] = true) :
    ev C (.lc (.isi (.v 4) .tup) (.n 4) .seq [.v 0] none [4]) ⟨[some (false, dl es), a, b, d, e, f], c⟩ = .ok (true, .lst ((List.replicate es.length true).map Q.D.bl)) ⟨[some (false, dl es), a, b, d, e, f], c⟩ := by
  subst he
  refine ev_lcP (s1 := ⟨[some (false, dl es), a, b, d, none, f], c⟩) (ds := [dl es]) (xs := es.map En.d) (w := [some (false, dl es), a, b, d, none, f]) (fun _ => some (.bl true)) (by simp [isPk, isV]) rfl ?_ ?_ ?_ ?_ ?_ ?_
  · simp [tgIn, notOwn]
  · rw [List.length_map]; exact Nat.le_trans hl (by decide)
  · simp
  · simp [fzD, wipeR]
  · intro x hx
    obtain ⟨e, _, rfl⟩ := List.mem_map.mp hx
    exact ⟨[some (false, dl es), a, b, d, some (false, e.d), f], by simp [asg], by simp [wipeR], .inr ⟨rfl, (false, .bl true), by simp [isD, En.d], rfl, rfl⟩⟩
  · rw [all_true, List.length_map]
theorem share_faults (k : Nat) {es : List En} (h : oks es) (hl : es.length ≤ 1000) (c : Cells) : call T (k + 5) 9 [dl es] c = .ok (true, .lst (faults es)) c := by
  obtain ⟨l', y3, y4, y5, hlp⟩ := loop9 k (dl es) c es (many es.length) 0 0 none none none h (by unfold many; split <;> simp <;> omega)
  refine call_ret (b := e9) (s := ⟨rw9 (dl es) (many es.length ++ fls es 0 0) l' y3 y4 y5, c⟩) rfl rfl ?_
  show xes (call T (k + 4)) e9 ⟨[some (false, dl es), none, none, none, none, none], c⟩ = _
  have hlc := lc_tup (call T (k + 4)) hl c none none none none none rfl (by simp [notOwn])
  have hc := check_t (k + 3) c
  refine (xes_nx (s1 := ⟨[some (false, dl es), none, none, none, none, none], c⟩) ?_).trans ?_
  · simp only [xe_expr, ev_call, evA_cons, evA_nil, ev_and, ev_isi, ev_v, List.getElem?_cons_zero, R.b_ok, isD, R.of_some, tru_bl, if_true, ev_bi]
    rw [hlc]
    simp only [R.b_ok, isPk, Bool.and_false, Bool.false_and, Bool.false_eq_true, if_false, bi_all, all_rep, R.of_some, callD, hc]
    simp [anyO]
  refine (xes_nx (s1 := ⟨rw9 (dl es) [] 0 none none none, c⟩) (by simp [isPk, parR])).trans ?_
  refine (xes_nx (s1 := ⟨rw9 (dl es) (many es.length) 0 none none none, c⟩) ?_).trans ?_
  · by_cases hn : 200 < es.length
    · have : (200 : Int) < (es.length : Int) := by omega
      simp [isPk, isV, this, many, hn, lim]
    · have : ¬ (200 : Int) < (es.length : Int) := by omega
      simp [isPk, isV, this, many, hn]
  refine (xes_nx (s1 := ⟨rw9 (dl es) (many es.length ++ fls es 0 0) l' y3 y4 y5, c⟩) ?_).trans ?_
  · rw [xe_for_of (s1 := ⟨rw9 (dl es) (many es.length) 0 none none none, c⟩) (ds := [dl es]) (ys := enuD 0 (es.map En.d)) (by simp [isPk]) rfl]
    exact hlp
  · simp [faults]
end V09
end

section
set_option Elab.async false
set_option linter.all false
set_option maxRecDepth 100000
set_option maxHeartbeats 4000000
namespace V09
open Q Ek09 PySem
/-! ### the law's own look -/
def sd : Q.D := .dct [(.str "join", .int 4), (.str "pay", .int 4), (.str "leave", .int 3), (.str "back", .int 4)]
def wD : Option Str → Q.D
  | some w => .str w
  | none => .non
theorem pl_sim {d : Q.D} (h : sim d = true) (n : Nat) : pl n d = true := by cases d <;> cases n <;> simp [sim] at h <;> simp [pl, h]
theorem pl_tup {ds : List Q.D} (h : ∀ d ∈ ds, sim d = true) (n : Nat) : pl (n + 1) (.tup ds) = true := by
  simp only [pl, List.all_eq_true]
  exact fun d hd => pl_sim (h d hd) n
theorem eq_nil {x : Q.D} {ds : List Q.D} (h : ∀ d ∈ x :: ds, sim d = true) : cmpD .eq (.tup (x :: ds)) (.tup []) = some false := by
  simp only [cmpD, pl_tup h 59, Bool.true_and]
  simp [pl, eqD, eqDs]
theorem eq_nil0 : cmpD .eq (.tup []) (.tup []) = some true := by simp [cmpD, pl, eqD, eqDs]
theorem in_w (w : Wd) : inD (.str w.s) sd = some true := by cases w <;> kernel_rfl
theorem in_o (b : Bool) : inD (.str (oth b)) sd = some true := by cases b <;> kernel_rfl
theorem in_l : inD (.str "leave") sd = some true := by kernel_rfl
theorem in_j : inD (.str "join") sd = some true := by kernel_rfl
theorem in_b : inD (.str "burn") sd = some false := by kernel_rfl
theorem sz_w (w : Wd) : ixD sd (.str w.s) = some (.int w.n) := by cases w <;> kernel_rfl
theorem sz_o (b : Bool) : ixD sd (.str (oth b)) = some (.int 4) := by cases b <;> kernel_rfl
theorem sz_l : ixD sd (.str "leave") = some (.int 3) := by kernel_rfl
theorem sz_j : ixD sd (.str "join") = some (.int 4) := by kernel_rfl
theorem ne_l : cmpD .ne (.str "leave") (.str "leave") = some false := by kernel_rfl
theorem ne_j : cmpD .ne (.str "join") (.str "leave") = some true := by kernel_rfl
theorem ne_o (b : Bool) : cmpD .ne (.str (oth b)) (.str "leave") = some true := by cases b <;> kernel_rfl
theorem eq_j : cmpD .eq (.str "join") (.str "join") = some true := by kernel_rfl
theorem eq_o (b : Bool) : cmpD .eq (.str (oth b)) (.str "join") = some false := by cases b <;> kernel_rfl
theorem pw7 : binD .pow (.int 10) (.int 7) = some (false, .int 10000000) := by kernel_rfl
abbrev rw21 (v0 : Q.D) (k : Option (Bool × Q.D)) (acc : List Q.D) (l : Int) (x5 x6 : Option (Bool × Q.D)) : Row := [some (false, v0), k, some (false, sd), some (true, .lst acc), some (false, .int l), x5, x6]
def big : Sx := .ite (.or (.cmp .eq (.v 5) (.tup [])) (.or (.not (.isi (.ix (.v 5) (.c (.int 0))) .str)) (.cin true (.ix (.v 5) (.c (.int 0))) (.v 2)))) [.set 6 (.c (.str "word"))] [.ite (.cmp .ne (.bi .len [.v 5]) (.ix (.v 2) (.ix (.v 5) (.c (.int 0))))) [.set 6 (.c (.str "form"))] [.ite (.or (.not (.call 20 [.ix (.v 5) (.c (.int 1))])) (.not (.chn .le .le (.c (.int 0)) (.ix (.v 5) (.c (.int 1))) (.c (.int 100000))))) [.set 6 (.c (.str "day"))] [.ite (.not (.call 18 [.ix (.v 5) (.c (.int 2))])) [.set 6 (.c (.str "name"))] [.ite (.and (.cmp .ne (.ix (.v 5) (.c (.int 0))) (.c (.str "leave"))) (.or (.not (.call 20 [.ix (.v 5) (.c (.int 3))])) (.or (.cmp .lt (.ix (.v 5) (.c (.int 3))) (.c (.int 1))) (.and (.cmp .eq (.ix (.v 5) (.c (.int 0))) (.c (.str "join"))) (.cmp .gt (.ix (.v 5) (.c (.int 3))) (.bin .pow (.c (.int 10)) (.c (.int 7)))))))) [.set 6 (.c (.str "pence"))] [.ite (.cmp .lt (.ix (.v 5) (.c (.int 1))) (.v 4)) [.set 6 (.c (.str "back"))] []]]]]]
theorem inR_int {a b i : Int} : inR a b (.int i) = (decide (a ≤ i) && decide (i ≤ b)) := rfl
theorem inR_non {a b : Int} : inR a b .non = false := rfl
theorem inR_bl {a b : Int} {t : Bool} : inR a b (.bl t) = false := rfl
theorem inR_str {a b : Int} {t : Str} : inR a b (.str t) = false := rfl
/-- the day's test -/
theorem day_t (k : Nat) {d : Q.D} (hd : sim d = true) {x : Q.D} {r : List Q.D} (v0 : Q.D) (kk : Option (Bool × Q.D)) (acc : List Q.D) (l : Int) (x6 : Option (Bool × Q.D)) (c : Cells) :
    ev (call T (k + 1)) (.or (.not (.call 20 [.ix (.v 5) (.c (.int 1))])) (.not (.chn .le .le (.c (.int 0)) (.ix (.v 5) (.c (.int 1))) (.c (.int 100000))))) ⟨rw21 v0 kk acc l (some (false, .tup (x :: d :: r))) x6, c⟩ = .ok (false, .bl (!inR 0 100000 d)) ⟨rw21 v0 kk acc l (some (false, .tup (x :: d :: r))) x6, c⟩ := by
  have hn := law_is_number k hd c
  cases d <;> simp [sim] at hd <;> simp [isPk, isV, callD, anyO, hn, isI, inR]
  rename_i i
  by_cases h : 0 ≤ i <;> simp [h]
theorem big_ok (k : Nat) {e : En} (he : e.ok) (v0 : Q.D) (kk : Option (Bool × Q.D)) (acc : List Q.D) (l : Int) (c : Cells) :
    xe (call T (k + 1)) big ⟨rw21 v0 kk acc l (some (false, .tup e.ds)) (some (false, .non)), c⟩ = .ok .nx ⟨rw21 v0 kk acc l (some (false, .tup e.ds)) (some (false, wD (e.flt l))), c⟩ := by
  have hs := En.sims he
  unfold big
  cases e with
  | nil => simp [En.ds, En.flt, wD, eq_nil0, isPk]
  | odd w r =>
    have e1 := eq_nil hs
    simp [En.ds, En.flt, wD, e1, isPk, isd_odd he.1 he.2.1]
  | bad r =>
    have e1 := eq_nil hs
    simp [En.ds, En.flt, wD, e1, isPk, isD, in_b]
  | frm w r =>
    have e1 := eq_nil hs
    have hl2 : ¬ ((r.length : Int) + 1 = w.n) := he.2.1
    simp [En.ds, En.flt, wD, e1, isPk, isV, isD, in_w, sz_w, hl2]
  | lv d nm =>
    have e1 := eq_nil hs
    have hd := day_t (x := .str "leave") (r := [nm]) k he.1 v0 kk acc l (some (false, .non)) c
    have hn := law_is_name k he.2 c
    have h0 : ∀ ys zs, xe (call T (k + 1)) (.ite (.or (.cmp .eq (.v 5) (.tup [])) (.or (.not (.isi (.ix (.v 5) (.c (.int 0))) .str)) (.cin true (.ix (.v 5) (.c (.int 0))) (.v 2)))) ys [.ite (.cmp .ne (.bi .len [.v 5]) (.ix (.v 2) (.ix (.v 5) (.c (.int 0))))) [.set 6 (.c (.str "form"))] [zs]]) ⟨rw21 v0 kk acc l (some (false, .tup [.str "leave", d, nm])) (some (false, .non)), c⟩ = xe (call T (k + 1)) zs ⟨rw21 v0 kk acc l (some (false, .tup [.str "leave", d, nm])) (some (false, .non)), c⟩ := fun ys zs => by
      simp [e1, isPk, isV, isD, in_l, sz_l]
    simp only [En.ds]
    rw [h0, xe_ite, hd]
    cases h1 : inR 0 100000 d with
    | false => simp [En.flt, fl3, wD, h1, isPk]
    | true =>
      have hlt := cmp_lt_sim (l := l) h1
      cases h2 : nameOk nm with
      | false => simp [En.flt, fl3, wD, h1, h2, isPk, isV, callD, anyO, hn]
      | true => cases h3 : ltI d l <;> simp [En.flt, fl3, wD, h1, h2, isPk, isV, callD, anyO, hn, ne_l, hlt, h3]
  | jn d nm p =>
    have e1 := eq_nil hs
    have hd := day_t (x := .str "join") (r := [nm, p]) k he.1 v0 kk acc l (some (false, .non)) c
    have hn := law_is_name k he.2.1 c
    have hp := law_is_number k he.2.2 c
    have h0 : ∀ ys zs, xe (call T (k + 1)) (.ite (.or (.cmp .eq (.v 5) (.tup [])) (.or (.not (.isi (.ix (.v 5) (.c (.int 0))) .str)) (.cin true (.ix (.v 5) (.c (.int 0))) (.v 2)))) ys [.ite (.cmp .ne (.bi .len [.v 5]) (.ix (.v 2) (.ix (.v 5) (.c (.int 0))))) [.set 6 (.c (.str "form"))] [zs]]) ⟨rw21 v0 kk acc l (some (false, .tup [.str "join", d, nm, p])) (some (false, .non)), c⟩ = xe (call T (k + 1)) zs ⟨rw21 v0 kk acc l (some (false, .tup [.str "join", d, nm, p])) (some (false, .non)), c⟩ := fun ys zs => by
      simp [e1, isPk, isV, isD, in_j, sz_j]
    simp only [En.ds]
    rw [h0, xe_ite, hd]
    cases h1 : inR 0 100000 d with
    | false => simp [En.flt, fl3, wD, h1, isPk]
    | true =>
      have hlt := cmp_lt_sim (l := l) h1
      have h3p : sim p = true := he.2.2
      cases h2 : nameOk nm with
      | false => simp [En.flt, fl3, wD, h1, h2, isPk, isV, callD, anyO, hn]
      | true =>
        cases p <;> simp [sim] at h3p
        case int i =>
          by_cases g1 : i < 1
          · have g2 : ¬ 1 ≤ i := by omega
            simp [En.flt, fl3, wD, h1, h2, isPk, isV, callD, anyO, hn, ne_j, hlt, hp, isI, inR_int, inR_non, inR_bl, inR_str, eq_j, pw7, ix3, g1, g2]
          · have g2 : 1 ≤ i := by omega
            by_cases g3 : 10000000 < i
            · have g4 : ¬ i ≤ 10000000 := by omega
              simp [En.flt, fl3, wD, h1, h2, isPk, isV, callD, anyO, hn, ne_j, hlt, hp, isI, inR_int, inR_non, inR_bl, inR_str, eq_j, pw7, ix3, g1, g2, g3, g4]
            · have g4 : i ≤ 10000000 := by omega
              cases h3 : ltI d l <;> simp [En.flt, fl3, wD, h1, h2, isPk, isV, callD, anyO, hn, ne_j, hlt, hp, isI, inR_int, inR_non, inR_bl, inR_str, eq_j, pw7, ix3, g1, g2, g3, g4, h3]
        all_goals simp [En.flt, fl3, wD, h1, h2, isPk, isV, callD, anyO, hn, ne_j, hlt, hp, isI, inR_int, inR_non, inR_bl, inR_str, eq_j, pw7, ix3]
  | ot b d nm p =>
    have e1 := eq_nil hs
    have hd := day_t (x := .str (oth b)) (r := [nm, p]) k he.1 v0 kk acc l (some (false, .non)) c
    have hn := law_is_name k he.2.1 c
    have hp := law_is_number k he.2.2 c
    have h0 : ∀ ys zs, xe (call T (k + 1)) (.ite (.or (.cmp .eq (.v 5) (.tup [])) (.or (.not (.isi (.ix (.v 5) (.c (.int 0))) .str)) (.cin true (.ix (.v 5) (.c (.int 0))) (.v 2)))) ys [.ite (.cmp .ne (.bi .len [.v 5]) (.ix (.v 2) (.ix (.v 5) (.c (.int 0))))) [.set 6 (.c (.str "form"))] [zs]]) ⟨rw21 v0 kk acc l (some (false, .tup [.str (oth b), d, nm, p])) (some (false, .non)), c⟩ = xe (call T (k + 1)) zs ⟨rw21 v0 kk acc l (some (false, .tup [.str (oth b), d, nm, p])) (some (false, .non)), c⟩ := fun ys zs => by
      simp [e1, isPk, isV, isD, in_o, sz_o]
    simp only [En.ds]
    rw [h0, xe_ite, hd]
    cases h1 : inR 0 100000 d with
    | false => simp [En.flt, fl3, wD, h1, isPk]
    | true =>
      have hlt := cmp_lt_sim (l := l) h1
      have h3p : sim p = true := he.2.2
      cases h2 : nameOk nm with
      | false => simp [En.flt, fl3, wD, h1, h2, isPk, isV, callD, anyO, hn]
      | true =>
        cases p <;> simp [sim] at h3p
        case int i =>
          by_cases g1 : i < 1
          · have g2 : ¬ 0 < i := by omega
            simp [En.flt, fl3, wD, h1, h2, isPk, isV, callD, anyO, hn, ne_o, hlt, hp, isI, posI, eq_o, pw7, ix3, g1, g2]
          · have g2 : 0 < i := by omega
            cases h3 : ltI d l <;> simp [En.flt, fl3, wD, h1, h2, isPk, isV, callD, anyO, hn, ne_o, hlt, hp, isI, posI, eq_o, pw7, ix3, g1, g2, h3]
        all_goals simp [En.flt, fl3, wD, h1, h2, isPk, isV, callD, anyO, hn, ne_o, hlt, hp, isI, posI, eq_o, pw7, ix3]
end V09
end

section
set_option Elab.async false
set_option linter.all false
set_option maxRecDepth 100000
set_option maxHeartbeats 4000000
namespace V09
open Q Ek09 PySem
def b21 : List Sx := [.par [(5, false), (6, false)] [.ix (.v 0) (.v 1), .c .non], big, .ite (.cmp .isn (.v 6) (.c .non)) [.app 3 (.tup [.v 6, .v 1])] [], .ite (.and (.cmp .gt (.bi .len [.v 5]) (.c (.int 1))) (.and (.call 20 [.ix (.v 5) (.c (.int 1))]) (.chn .le .le (.c (.int 0)) (.ix (.v 5) (.c (.int 1))) (.c (.int 100000))))) [.set 4 (.ix (.v 5) (.c (.int 1)))] []]
theorem turn21 (k : Nat) {es : List En} {e : En} {a : Nat} (hx : es[a]? = some e) (he : e.ok) (acc : List Q.D) (hl : acc.length < 10000) (l : Int) (x5 x6 : Option (Bool × Q.D)) (c : Cells) :
    xes (call T (k + 1)) b21 ⟨rw21 (dl es) (some (false, .int a)) acc l x5 x6, c⟩ = .ok .nx ⟨rw21 (dl es) (some (false, .int a)) (acc ++ (match e.flt l with | some w => [.tup [.str w, .int a]] | none => [])) (nx l e.ds) (some (false, .tup e.ds)) (some (false, wD (e.flt l))), c⟩ := by
  have hlim : acc.length < lim := Nat.lt_of_lt_of_le hl (by decide)
  have hs := En.sims he
  have hix : ixD (dl es) (.int a) = some e.d := ix_lst (j := a) rfl (by rw [List.getElem?_map, hx]; rfl)
  refine (xes_nx (s1 := ⟨rw21 (dl es) (some (false, .int a)) acc l (some (false, .tup e.ds)) (some (false, .non)), c⟩) (by simp [isPk, parR, hix, En.d])).trans ?_
  refine (xes_nx (big_ok k he _ _ _ _ c)).trans ?_
  refine (xes_nx (s1 := ⟨rw21 (dl es) (some (false, .int a)) (acc ++ (match e.flt l with | some w => [.tup [.str w, .int a]] | none => [])) l (some (false, .tup e.ds)) (some (false, wD (e.flt l))), c⟩) ?_).trans ?_
  · cases e.flt l <;> simp [isPk, isV, wD, isNon, hlim]
  · generalize acc ++ _ = acc2
    generalize some (false, wD (e.flt l)) = y5
    clear hix
    revert hs
    generalize e.ds = ds
    intro hs
    match ds, hs with
    | [], _ => simp [isPk, isV, nx]
    | [x], _ => simp [isPk, isV, nx]
    | x :: d :: r, hs =>
      have hd := law_is_number k (hs d (by simp)) c
      have hsd := hs d (by simp)
      have h2 : (1 : Int) < (r.length : Int) + 1 + 1 := by omega
      cases d <;> simp [sim] at hsd
      case int i =>
        by_cases g1 : 0 ≤ i
        · by_cases g2 : i ≤ 100000
          · simp [isPk, isV, callD, anyO, hd, h2, nx, isI, g1, g2]
          · simp [isPk, isV, callD, anyO, hd, h2, nx, isI, g1, g2]
        · simp [isPk, isV, callD, anyO, hd, h2, nx, isI, g1]
      all_goals simp [isPk, isV, callD, anyO, hd, h2, nx, isI]
def idx : Nat → Nat → List Q.D
  | _, 0 => []
  | j, n + 1 => .int (j : Nat) :: idx (j + 1) n
theorem idx_get : ∀ (j n i : Nat), (idx j n)[i]? = if i < n then some (.int ((j + i : Nat) : Int)) else none
  | j, 0, i => by simp [idx]
  | j, n + 1, 0 => by simp [idx]
  | j, n + 1, i + 1 => by
    simp only [idx, List.getElem?_cons_succ, idx_get (j + 1) n i]
    by_cases h : i < n
    · rw [if_pos h, if_pos (by omega), show j + 1 + i = j + (i + 1) by omega]
    · rw [if_neg h, if_neg (by omega)]
theorem rng_idx (n : Nat) : rngD 0 n = idx 0 n := by
  apply List.ext_getElem?
  intro i
  rw [idx_get]
  unfold rngD
  rw [List.getElem?_map]
  by_cases h : i < n
  · simp [h]
  · simp [h]
theorem loop21 (k : Nat) (es : List En) (c : Cells) (h : oks es) : ∀ (r : List En) (j : Nat) (acc : List Q.D) (l : Int) (x1 x5 x6 : Option (Bool × Q.D)), es.drop j = r → acc.length + r.length < 10000 →
    ∃ l' y1 y5 y6, forL (fun x s => (R.of (asg (.n 1) x s.r) s).b fun r s => xes (call T (k + 1)) b21 ⟨r, s.c⟩) (idx j r.length) ⟨rw21 (dl es) x1 acc l x5 x6, c⟩ = .ok .nx ⟨rw21 (dl es) y1 (acc ++ fls r j l) l' y5 y6, c⟩
  | [], j, acc, l, x1, x5, x6, _, _ => ⟨l, x1, x5, x6, by simp [fls, idx, forL]⟩
  | e :: r, j, acc, l, x1, x5, x6, hd, hl => by
    simp only [List.length_cons] at hl
    have hx : es[j]? = some e := by
      have := congrArg (fun t => t[0]?) hd
      simpa using this
    have he : e.ok := h e (List.mem_of_getElem? hx)
    have hd2 : es.drop (j + 1) = r := by
      rw [← List.drop_drop, Nat.add_comm] at *
      have := congrArg List.tail hd
      simpa using this
    have ht := turn21 k hx he acc (by omega) l x5 x6 c
    have hlen : (match e.flt l with | some w => [Q.D.tup [.str w, .int j]] | none => []).length ≤ 1 := by split <;> simp
    obtain ⟨l', y1, y5, y6, ih⟩ := loop21 k es c h r (j + 1) (acc ++ (match e.flt l with | some w => [.tup [.str w, .int j]] | none => [])) (nx l e.ds) (some (false, .int j)) _ _ hd2 (by rw [List.length_append]; omega)
    refine ⟨l', y1, y5, y6, ?_⟩
    simp only [List.length_cons, idx, forL]
    have ea : (R.of (asg (.n 1) (.int (j : Int)) (rw21 (dl es) x1 acc l x5 x6)) (⟨rw21 (dl es) x1 acc l x5 x6, c⟩ : S)) = .ok (rw21 (dl es) (some (false, .int j)) acc l x5 x6) ⟨rw21 (dl es) x1 acc l x5 x6, c⟩ := by simp [asg]
    rw [ea]
    simp only [R.b_ok]
    rw [ht]
    simp only [R.b_ok]
    rw [ih]
    simp only [fls, List.append_assoc]
    congr
theorem law_faults (k : Nat) {es : List En} (h : oks es) (hl : es.length ≤ 1000) (c : Cells) : call T (k + 2) 21 [dl es] c = .ok (true, .lst (faults es)) c := by
  obtain ⟨l', y1, y5, y6, hlp⟩ := loop21 k es c h es 0 (many es.length) 0 none none none rfl (by unfold many; split <;> simp <;> omega)
  refine call_ret (b := e21) (s := ⟨rw21 (dl es) y1 (many es.length ++ fls es 0 0) l' y5 y6, c⟩) rfl rfl ?_
  show xes (call T (k + 1)) e21 ⟨[some (false, dl es), none, none, none, none, none, none], c⟩ = _
  have hmk : mkD [.str "join", .int 4, .str "pay", .int 4, .str "leave", .int 3, .str "back", .int 4] [] = some [(.str "join", .int 4), (.str "pay", .int 4), (.str "leave", .int 3), (.str "back", .int 4)] := by kernel_rfl
  refine (xes_nx (s1 := ⟨rw21 (dl es) none (many es.length) 0 none none, c⟩) ?_).trans ?_
  · by_cases hn : 200 < es.length
    · have : (200 : Int) < (es.length : Int) := by omega
      simp [isPk, isV, parR, hmk, this, many, hn, lim, bI, isRng, sd]
    · have : ¬ (200 : Int) < (es.length : Int) := by omega
      simp [isPk, isV, parR, hmk, this, many, hn, lim, bI, isRng, sd]
  refine (xes_nx (s1 := ⟨rw21 (dl es) y1 (many es.length ++ fls es 0 0) l' y5 y6, c⟩) ?_).trans ?_
  · rw [xe_for_of (s1 := ⟨rw21 (dl es) none (many es.length) 0 none none, c⟩) (ds := [.int es.length]) (ys := rngD 0 es.length) (by simp [isPk, isV]) (itD_rng (rng_ok (by omega) (by omega)))]
    rw [rng_idx]
    exact hlp
  · simp [faults]
end V09
end

section
set_option Elab.async false
set_option linter.all false
set_option maxRecDepth 100000
set_option maxHeartbeats 4000000
namespace V09
open Q Ek09 PySem
/-! ### share books -/
def En.good : En → Bool
  | .lv d nm => inR 0 100000 d && nameOk nm
  | .jn d nm p => inR 0 100000 d && nameOk nm && inR 1 10000000 p
  | .ot _ d nm p => inR 0 100000 d && nameOk nm && posI p
  | _ => false
theorem eq_l_l : cmpD .eq (.str "leave") (.str "leave") = some true := by kernel_rfl
theorem eq_l_j : cmpD .eq (.str "leave") (.str "join") = some false := by kernel_rfl
theorem eq_o_l (b : Bool) : cmpD .eq (.str (oth b)) (.str "leave") = some false := by cases b <;> kernel_rfl
theorem ne_non (i : Int) : cmpD .ne .non (.int i) = some true := by simp [cmpD, pl, eqD]
theorem isd_tt {ds : List Q.D} : isD (.tup ds) .tup = some true := rfl
theorem is_share_entry (k : Nat) {e : En} (he : e.ok) (c : Cells) : call T (k + 4) 11 [e.d] c = .ok (false, .bl e.good) c := by
  rw [call_eq (fd := ⟨1, 1, e11⟩) rfl rfl]
  cases e with
  | nil => simp [e11, frame, En.d, En.ds, En.good, isPk, isV, xes_cons, isD]
  | odd w r =>
    by_cases h : (r.length : Int) + 1 < 3 <;> simp [e11, frame, En.d, En.ds, En.good, isPk, isV, xes_cons, isd_tt, h, isd_odd he.1 he.2.1]
  | bad r =>
    by_cases h : (r.length : Int) + 1 < 3 <;> simp [e11, frame, En.d, En.ds, En.good, isPk, isV, xes_cons, isD, h, lkb, ne_non]
  | frm w r =>
    have hl : ¬ (w.n = (r.length : Int) + 1) := fun h => he.2.1 h.symm
    by_cases h : (r.length : Int) + 1 < 3 <;> simp [e11, frame, En.d, En.ds, En.good, isPk, isV, xes_cons, isD, h, lk, hl]
  | lv d nm =>
    have hd := is_day10 k he.1 c
    have hn := is_name (k + 2) he.2 c
    cases h1 : inR 0 100000 d with
    | false => simp [e11, frame, En.d, En.ds, En.good, isPk, isV, xes_cons, isD, lkl, callD, anyO, hd, h1]
    | true => cases h2 : nameOk nm <;> simp [e11, frame, En.d, En.ds, En.good, isPk, isV, xes_cons, isD, lkl, callD, anyO, hd, h1, hn, h2, eq_l_l, eq_l_j]
  | jn d nm p =>
    have hd := is_day10 k he.1 c
    have hn := is_name (k + 2) he.2.1 c
    have hp := is_within (k + 1) he.2.2 1 10000000 c
    cases h1 : inR 0 100000 d with
    | false => simp [e11, frame, En.d, En.ds, En.good, isPk, isV, xes_cons, isD, lkj, callD, anyO, hd, h1]
    | true => cases h2 : nameOk nm <;> simp [e11, frame, En.d, En.ds, En.good, isPk, isV, xes_cons, isD, lkj, callD, anyO, hd, h1, hn, h2, eq_j, hp, ix3]
  | ot b d nm p =>
    have hd := is_day10 k he.1 c
    have hn := is_name (k + 2) he.2.1 c
    have hp := is_count (k + 1) he.2.2 c
    have hps : sim p = true := he.2.2
    cases h1 : inR 0 100000 d with
    | false => simp [e11, frame, En.d, En.ds, En.good, isPk, isV, xes_cons, isD, lko, callD, anyO, hd, h1]
    | true =>
      cases h2 : nameOk nm with
      | false => simp [e11, frame, En.d, En.ds, En.good, isPk, isV, xes_cons, isD, lko, callD, anyO, hd, h1, hn, h2, eq_o, eq_o_l]
      | true =>
        cases p <;> simp [sim] at hps
        case int i =>
          by_cases g : 0 ≤ i
          · simp [e11, frame, En.d, En.ds, En.good, isPk, isV, xes_cons, isD, lko, callD, anyO, hd, h1, hn, h2, eq_o, eq_o_l, hp, ix3, posI, g]
          · have g2 : ¬ 0 < i := by omega
            simp [e11, frame, En.d, En.ds, En.good, isPk, isV, xes_cons, isD, lko, callD, anyO, hd, h1, hn, h2, eq_o, eq_o_l, hp, ix3, posI, g, g2]
        all_goals simp [e11, frame, En.d, En.ds, En.good, isPk, isV, xes_cons, isD, lko, callD, anyO, hd, h1, hn, h2, eq_o, eq_o_l, hp, ix3, posI]
/-- the day of an entry -/
def En.day (e : En) : Int := match e.ds with
  | _ :: .int i :: _ => i
  | _ => 0
def asc : List Int → Bool
  | a :: b :: r => decide (a ≤ b) && asc (b :: r)
  | _ => true
def ascF : Int → List Int → Bool
  | l, a :: r => decide (l ≤ a) && ascF a r
  | _, [] => true
theorem ascF_asc : ∀ (a : Int) (r : List Int), ascF a r = asc (a :: r)
  | _, [] => rfl
  | a, b :: r => by simp only [ascF, asc, ascF_asc b r]
theorem good_day {e : En} (h : e.good = true) : 0 ≤ e.day ∧ (∀ l, nx l e.ds = e.day) ∧ (∀ l, e.flt l = (if e.day < l then some ("back" : Str) else none)) ∧ ixD e.d (.int 1) = some (.int e.day) := by
  cases e with
  | lv d nm =>
    simp only [En.good, Bool.and_eq_true] at h
    cases d <;> simp [inR] at h
    rename_i i
    refine ⟨h.1.1, fun l => ?_, fun l => ?_, rfl⟩
    · simp [nx, En.ds, En.day, h.1.1, h.1.2]
    · have e0 : (En.lv (.int i) nm).day = i := rfl
      simp [En.flt, fl3, inR, h.1.1, h.1.2, h.2, ltI, e0]
  | jn d nm p =>
    simp only [En.good, Bool.and_eq_true] at h
    obtain ⟨⟨h1, h2⟩, h3⟩ := h
    cases d <;> simp [inR] at h1
    rename_i i
    refine ⟨h1.1, fun l => ?_, fun l => ?_, rfl⟩
    · simp [nx, En.ds, En.day, h1.1, h1.2]
    · have e0 : (En.jn (.int i) nm p).day = i := rfl
      simp only [En.flt, fl3, inR_int, h1.1, h1.2, h2, h3, ltI, e0]
      simp
  | ot b d nm p =>
    simp only [En.good, Bool.and_eq_true] at h
    obtain ⟨⟨h1, h2⟩, h3⟩ := h
    cases d <;> simp [inR] at h1
    rename_i i
    refine ⟨h1.1, fun l => ?_, fun l => ?_, rfl⟩
    · simp [nx, En.ds, En.day, h1.1, h1.2]
    · have e0 : (En.ot b (.int i) nm p).day = i := rfl
      simp only [En.flt, fl3, inR_int, h1.1, h1.2, h2, h3, ltI, e0]
      simp
  | _ => simp [En.good] at h
theorem bad_flt {e : En} (h : e.good = false) (l : Int) : ∃ w, e.flt l = some w := by
  cases e with
  | lv d nm =>
    simp only [En.good, Bool.and_eq_false_iff] at h
    simp only [En.flt, fl3]
    rcases h with h | h
    · rw [h]; exact ⟨_, rfl⟩
    · cases inR 0 100000 d <;> rw [h] <;> exact ⟨_, rfl⟩
  | jn d nm p =>
    simp only [En.good, Bool.and_eq_false_iff] at h
    simp only [En.flt, fl3]
    rcases h with (h | h) | h
    · rw [h]; exact ⟨_, rfl⟩
    · cases inR 0 100000 d <;> rw [h] <;> exact ⟨_, rfl⟩
    · cases inR 0 100000 d <;> cases nameOk nm <;> rw [h] <;> exact ⟨_, rfl⟩
  | ot b d nm p =>
    simp only [En.good, Bool.and_eq_false_iff] at h
    simp only [En.flt, fl3]
    rcases h with (h | h) | h
    · rw [h]; exact ⟨_, rfl⟩
    · cases inR 0 100000 d <;> rw [h] <;> exact ⟨_, rfl⟩
    · cases inR 0 100000 d <;> cases nameOk nm <;> rw [h] <;> exact ⟨_, rfl⟩
  | _ => exact ⟨_, rfl⟩
theorem fls_empty : ∀ (es : List En) (a l : Int), (fls es a l).isEmpty = (es.all En.good && ascF l (es.map En.day))
  | [], _, _ => rfl
  | e :: es, a, l => by
    cases h : e.good with
    | false =>
      obtain ⟨w, hw⟩ := bad_flt h l
      simp [fls, hw, h]
    | true =>
      obtain ⟨h1, h2, h3, _⟩ := good_day h
      have ih := fls_empty es (a + 1) (nx l e.ds)
      rw [h2] at ih
      have h4 := h3 l
      unfold fls
      rw [h2]
      simp only [List.all_cons, h, Bool.true_and, List.map_cons]
      show _ = (es.all En.good && (decide (l ≤ e.day) && ascF e.day (es.map En.day)))
      by_cases g : e.day < l
      · have g2 : ¬ l ≤ e.day := by omega
        rw [if_pos g] at h4
        rw [h4]
        simp [g2]
      · have g2 : l ≤ e.day := by omega
        rw [if_neg g] at h4
        rw [h4]
        simp only [List.nil_append, ih, g2, decide_true, Bool.true_and]
theorem faults_empty (es : List En) : (faults es).isEmpty = (decide (es.length ≤ 200) && (es.all En.good && asc (es.map En.day))) := by
  have h0 : es.all En.good = true → ascF 0 (es.map En.day) = asc (es.map En.day) := fun h => by
    cases es with
    | nil => rfl
    | cons e r =>
      simp only [List.all_cons, Bool.and_eq_true] at h
      rw [List.map_cons, ← ascF_asc]
      show (decide (0 ≤ e.day) && ascF e.day (r.map En.day)) = _
      rw [decide_eq_true (good_day h.1).1, Bool.true_and]
  unfold faults many
  by_cases h : 200 < es.length
  · have : ¬ es.length ≤ 200 := by omega
    simp [h, this]
  · have : es.length ≤ 200 := by omega
    simp only [h, if_false, List.nil_append, fls_empty, this, decide_true, Bool.true_and]
    cases g : es.all En.good with
    | false => rfl
    | true => rw [h0 g]
end V09
end

section
set_option Elab.async false
set_option linter.all false
set_option maxRecDepth 100000
set_option maxHeartbeats 4000000
namespace V09
open Q Ek09 PySem
theorem goods (k : Nat) (c : Cells) : ∀ {es : List En}, oks es → (es.map En.d).filterMap (fun x => match call T (k + 4) 11 [x] c with | .ok o _ => some o.2 | _ => none) = (es.map En.good).map Q.D.bl
  | [], _ => rfl
  | e :: es, h => by
    have h1 := is_share_entry k (h e (by simp)) c
    simp only [List.map_cons, List.filterMap_cons, h1]
    rw [goods k c fun x hx => h x (by simp [hx])]
theorem lc_good (k : Nat) {es : List En} (h : oks es) (hl : es.length ≤ 1000) (c : Cells) :
    ev (call T (k + 4)) (.lc (.call 11 [.v 3]) (.n 3) .seq [.v 0] none [3]) ⟨[some (false, dl es), none, none, none], c⟩ = .ok (true, .lst ((es.map En.good).map Q.D.bl)) ⟨[some (false, dl es), none, none, none], c⟩ := by
  refine ev_lcP (s1 := ⟨[some (false, dl es), none, none, none], c⟩) (ds := [dl es]) (xs := es.map En.d) (w := [some (false, dl es), none, none, none]) _ (by simp [isPk, isV]) rfl ?_ ?_ ?_ ?_ ?_ (goods k c h)
  · simp [tgIn, notOwn]
  · rw [List.length_map]; exact Nat.le_trans hl (by decide)
  · simp
  · simp [fzD, wipeR]
  · intro x hx
    obtain ⟨e, he, rfl⟩ := List.mem_map.mp hx
    have h1 := is_share_entry k (h e he) c
    refine ⟨[some (false, dl es), none, none, some (false, e.d)], by simp [asg], by simp [wipeR], .inr ⟨rfl, (false, .bl e.good), ?_, rfl, ?_⟩⟩
    · simp [isPk, isV, callD, anyO, h1]
    · rw [h1]
def prs : List Int → List Bool
  | a :: b :: r => decide (a ≤ b) :: prs (b :: r)
  | _ => []
theorem prs_all : ∀ ds : List Int, (prs ds).all id = asc ds
  | [] => rfl
  | [_] => rfl
  | a :: b :: r => by simp only [prs, asc, List.all_cons, prs_all (b :: r)]; rfl
def zp (xs : List Q.D) : List Q.D := (xs.zip (xs.drop 1)).map fun p => .tup [p.1, p.2]
def hz : Q.D → Option Q.D
  | .tup [a, b] => match ixD a (.int 1), ixD b (.int 1) with
    | some (.int i), some (.int j) => some (.bl (decide (i ≤ j)))
    | _, _ => none
  | _ => none
theorem zp_hz : ∀ {es : List En}, es.all En.good = true → (zp (es.map En.d)).filterMap hz = (prs (es.map En.day)).map Q.D.bl
  | [], _ => rfl
  | [e], _ => rfl
  | e :: f :: es, h => by
    simp only [List.all_cons, Bool.and_eq_true] at h
    have h1 := (good_day h.1).2.2.2
    have h2 := (good_day h.2.1).2.2.2
    have ih := zp_hz (es := f :: es) (by simp [h.2.1, h.2.2])
    have e1 : zp ((e :: f :: es).map En.d) = .tup [e.d, f.d] :: zp ((f :: es).map En.d) := rfl
    have e2 : hz (.tup [e.d, f.d]) = some (.bl (decide (e.day ≤ f.day))) := by simp only [hz, h1, h2]
    rw [e1, List.filterMap_cons, e2, ih]
    rfl
theorem zp_mem {x : Q.D} {es : List En} (h : x ∈ zp (es.map En.d)) : ∃ e f, e ∈ es ∧ f ∈ es ∧ x = .tup [e.d, f.d] := by
  obtain ⟨⟨a, b⟩, m, rfl⟩ := List.mem_map.mp h
  have m1 := (List.of_mem_zip m).1
  have m2 := List.drop_subset _ _ (List.of_mem_zip m).2
  obtain ⟨e, he, rfl⟩ := List.mem_map.mp m1
  obtain ⟨f, hf, rfl⟩ := List.mem_map.mp m2
  exact ⟨e, f, he, hf, rfl⟩
theorem cut1 {xs : List Q.D} : cutD xs (some 1) none = xs.drop 1 := by
  unfold cutD sIxD
  cases xs with
  | nil => rfl
  | cons x xs =>
    simp
theorem lc_zip (C : Cl) {es : List En} (h : es.all En.good = true) (hl : es.length ≤ 1000) (c : Cells) :
    ev C (.lc (.cmp .le (.ix (.v 1) (.c (.int 1))) (.ix (.v 2) (.c (.int 1)))) (.t [.n 1, .n 2]) .zip [.v 0, .sl (.v 0) (some (.c (.int 1))) none] none [1, 2]) ⟨[some (false, dl es), none, none, none], c⟩ = .ok (true, .lst ((prs (es.map En.day)).map Q.D.bl)) ⟨[some (false, dl es), none, none, none], c⟩ := by
  refine ev_lcP (s1 := ⟨[some (false, dl es), none, none, none], c⟩) (ds := [dl es, .lst ((es.map En.d).drop 1)]) (xs := zp (es.map En.d)) (w := [some (false, dl es), none, none, none]) hz (by simp [isPk, isV, slD, cut1]) rfl ?_ ?_ ?_ ?_ ?_ (zp_hz h)
  · simp [tgIn, tgsIn, notOwn]
  · unfold zp
    rw [List.length_map, List.length_zip, List.length_map]
    exact Nat.le_trans (Nat.min_le_left _ _) (Nat.le_trans hl (by decide))
  · simp
  · simp [fzD, wipeR]
  · intro x hx
    obtain ⟨e, f, he, hf, rfl⟩ := zp_mem hx
    have h1 := (good_day (List.all_eq_true.mp h e he)).2.2.2
    have h2 := (good_day (List.all_eq_true.mp h f hf)).2.2.2
    refine ⟨[some (false, dl es), some (false, e.d), some (false, f.d), none], by simp [asg, asgs], by simp [wipeR], .inr ⟨rfl, (false, .bl (decide (e.day ≤ f.day))), by simp [h1, h2], rfl, by simp only [hz, h1, h2]⟩⟩
theorem bi_all' {ns : List Bool} {c : Cells} : biD .all [.lst (ns.map .bl)] c = some (false, .bl (ns.all id)) := bi_all
theorem is_share_book (k : Nat) {es : List En} (h : oks es) (hl : es.length ≤ 1000) (c : Cells) : call T (k + 5) 12 [dl es] c = .ok (false, .bl (faults es).isEmpty) c := by
  rw [faults_empty]
  refine call_ret (b := e12) (s := ⟨[some (false, dl es), none, none, none], c⟩) rfl rfl ?_
  show xes (call T (k + 4)) e12 ⟨[some (false, dl es), none, none, none], c⟩ = _
  have hg := lc_good k h hl c
  have all_id : (es.map En.good).all id = es.all En.good := by rw [List.all_map]; rfl
  have ist : ∀ ds : List Q.D, isD (.lst ds) .lst = some true := fun _ => rfl
  by_cases hn : 200 < es.length
  · have hi : (200 : Int) < (es.length : Int) := by omega
    have hn2 : ¬ es.length ≤ 200 := by omega
    refine (xes_ret (o := false) (d := .bl false) (s1 := ⟨[some (false, dl es), none, none, none], c⟩) ?_).trans ?_
    · simp [isPk, isV, ist, hi]
    · simp [hn2]
  · have hi : ¬ (200 : Int) < (es.length : Int) := by omega
    have hn2 : es.length ≤ 200 := by omega
    have cond : ev (call T (k + 4)) (.or (.not (.isi (.v 0) .lst)) (.or (.cmp .gt (.bi .len [.v 0]) (.c (.int 200))) (.not (.bi .all [.lc (.call 11 [.v 3]) (.n 3) .seq [.v 0] none [3]])))) ⟨[some (false, dl es), none, none, none], c⟩ = .ok (false, .bl (!es.all En.good)) ⟨[some (false, dl es), none, none, none], c⟩ := by
      have e1 : ev (call T (k + 4)) (.bi .all [.lc (.call 11 [.v 3]) (.n 3) .seq [.v 0] none [3]]) ⟨[some (false, dl es), none, none, none], c⟩ = .ok (false, .bl (es.all En.good)) ⟨[some (false, dl es), none, none, none], c⟩ := by
        rw [ev_bi, evA_cons, hg]
        simp only [R.b_ok, isPk, Bool.and_false, Bool.false_and, Bool.false_eq_true, if_false, evA_nil, bi_all', all_id, R.of_some]
      have e2 : ev (call T (k + 4)) (.not (.bi .all [.lc (.call 11 [.v 3]) (.n 3) .seq [.v 0] none [3]])) ⟨[some (false, dl es), none, none, none], c⟩ = .ok (false, .bl (!es.all En.good)) ⟨[some (false, dl es), none, none, none], c⟩ := by
        rw [ev_not, e1]
        rfl
      have e3 : ev (call T (k + 4)) (.cmp .gt (.bi .len [.v 0]) (.c (.int 200))) ⟨[some (false, dl es), none, none, none], c⟩ = .ok (false, .bl false) ⟨[some (false, dl es), none, none, none], c⟩ := by simp [isPk, isV, hi]
      have e4 : ev (call T (k + 4)) (.not (.isi (.v 0) .lst)) ⟨[some (false, dl es), none, none, none], c⟩ = .ok (false, .bl false) ⟨[some (false, dl es), none, none, none], c⟩ := by simp [ist]
      rw [ev_or, e4]
      simp only [R.b_ok, tru_bl, Bool.false_eq_true, if_false]
      rw [ev_or, e3]
      simp only [R.b_ok, tru_bl, Bool.false_eq_true, if_false]
      exact e2
    cases hh : es.all En.good with
    | false =>
      rw [hh] at cond
      refine (xes_ret (o := false) (d := .bl false) (s1 := ⟨[some (false, dl es), none, none, none], c⟩) ?_).trans ?_
      · rw [xe_ite, cond]
        simp
      · simp
    | true =>
      rw [hh] at cond
      refine (xes_nx (s1 := ⟨[some (false, dl es), none, none, none], c⟩) ?_).trans ?_
      · rw [xe_ite, cond]
        simp
      · rw [xes_one, xe_ret, ev_bi, evA_cons, lc_zip _ hh hl c]
        simp only [R.b_ok, isPk, Bool.and_false, Bool.false_and, Bool.false_eq_true, if_false, evA_nil, bi_all', prs_all, R.of_some, decide_eq_true hn2, Bool.true_and]
end V09
end

section
set_option Elab.async false
set_option linter.all false
set_option maxRecDepth 100000
set_option maxHeartbeats 4000000
namespace V09
open Q Ek09 PySem
/-! ### what is the same -/
def sm : Nat → Q.D → Bool
  | _, .non => true
  | _, .bl _ => true
  | _, .int _ => true
  | _, .str x => PyData.strOk x
  | n + 1, .tup ds => decide (ds.length ≤ 10000) && ds.all (sm n)
  | n + 1, .lst ds => decide (ds.length ≤ 10000) && ds.all (sm n)
  | _, _ => false
def b16 : List Sx := [.ite (.not (.call 16 [.ix (.v 0) (.v 2), .ix (.v 1) (.v 2)])) [.ret (.c (.bl false))] []]
theorem ix_tup {ds : List Q.D} {j : Nat} {x : Q.D} {i : Int} (hi : i = (j : Nat)) (h : ds[j]? = some x) : ixD (.tup ds) (.int i) = some x := ix_lst (ds := ds) hi h
theorem loop16 (C : Cl) (x : Q.D) (ds : List Q.D) (hix : ∀ (j : Nat) d, ds[j]? = some d → ixD x (.int (j : Nat)) = some d) (c : Cells) (hc : ∀ d ∈ ds, C 16 [d, d] c = .ok (false, .bl true) c) : ∀ (r : List Q.D) (j : Nat) (y : Option (Bool × Q.D)), ds.drop j = r →
    ∃ y', forL (fun v s => (R.of (asg (.n 2) v s.r) s).b fun r s => xes C b16 ⟨r, s.c⟩) (idx j r.length) ⟨[some (false, x), some (false, x), y, none], c⟩ = .ok .nx ⟨[some (false, x), some (false, x), y', none], c⟩
  | [], j, y, _ => ⟨y, by simp [idx, forL]⟩
  | d :: r, j, y, hd => by
    have hx : ds[j]? = some d := by
      have := congrArg (fun t => t[0]?) hd
      simpa using this
    have hd2 : ds.drop (j + 1) = r := by
      have := congrArg List.tail hd
      simpa using this
    obtain ⟨y', ih⟩ := loop16 C x ds hix c hc r (j + 1) (some (false, .int j)) hd2
    refine ⟨y', ?_⟩
    have h1 := hix j d hx
    have h2 := hc d (List.mem_of_getElem? hx)
    have ea : (R.of (asg (.n 2) (.int (j : Int)) [some (false, x), some (false, x), y, none]) (⟨[some (false, x), some (false, x), y, none], c⟩ : S)) = .ok [some (false, x), some (false, x), some (false, .int j), none] ⟨[some (false, x), some (false, x), y, none], c⟩ := by simp [asg]
    have eb : xes C b16 ⟨[some (false, x), some (false, x), some (false, .int j), none], c⟩ = .ok .nx ⟨[some (false, x), some (false, x), some (false, .int j), none], c⟩ := by
      simp [b16, isPk, isV, callD, anyO, h1, h2]
    simp only [List.length_cons, idx, forL]
    rw [ea]
    simp only [R.b_ok]
    rw [eb]
    simp only [R.b_ok]
    exact ih
theorem same_seq (k : Nat) (x : Q.D) (ds : List Q.D) (hx : x = .tup ds ∨ x = .lst ds) (hl : ds.length ≤ 10000) (c : Cells) (hc : ∀ d ∈ ds, call T k 16 [d, d] c = .ok (false, .bl true) c) : call T (k + 1) 16 [x, x] c = .ok (false, .bl true) c := by
  have hix : ∀ (j : Nat) d, ds[j]? = some d → ixD x (.int (j : Nat)) = some d := fun j d h => by
    rcases hx with rfl | rfl
    · exact ix_tup rfl h
    · exact ix_lst rfl h
  obtain ⟨y', hlp⟩ := loop16 (call T k) x ds hix c hc ds 0 none rfl
  refine call_ret (b := e16) (s := ⟨[some (false, x), some (false, x), y', none], c⟩) rfl rfl ?_
  show xes (call T k) e16 ⟨[some (false, x), some (false, x), none, none], c⟩ = _
  have hn : isNon x = false := by rcases hx with rfl | rfl <;> rfl
  have hlen : ∀ c, biD .len [x] c = some (false, .int ds.length) := fun c => by rcases hx with rfl | rfl <;> rfl
  refine (xes_nx (s1 := ⟨[some (false, x), some (false, x), none, none], c⟩) (by simp [hn])).trans ?_
  have inner : xes (call T k) [.ite (.or (.cmp .ne (.isi (.v 1) .tup) (.isi (.v 0) .tup)) (.cmp .ne (.isi (.v 1) .lst) (.isi (.v 0) .lst))) [.ret (.c (.bl false))] [], .ite (.cmp .ne (.bi .len [.v 0]) (.bi .len [.v 1])) [.ret (.c (.bl false))] [], .for_ (.n 2) .rng [.bi .len [.v 1]] b16, .ret (.c (.bl true))] ⟨[some (false, x), some (false, x), none, none], c⟩ = .ok (.ret false (.bl true)) ⟨[some (false, x), some (false, x), y', none], c⟩ := by
    refine (xes_nx (s1 := ⟨[some (false, x), some (false, x), none, none], c⟩) ?_).trans ?_
    · rcases hx with rfl | rfl <;> simp [isD]
    refine (xes_nx (s1 := ⟨[some (false, x), some (false, x), none, none], c⟩) ?_).trans ?_
    · simp [isPk, isV, hlen]
    refine (xes_nx (s1 := ⟨[some (false, x), some (false, x), y', none], c⟩) ?_).trans ?_
    · rw [xe_for_of (s1 := ⟨[some (false, x), some (false, x), none, none], c⟩) (ds := [.int ds.length]) (ys := rngD 0 ds.length) (by simp [isPk, isV, hlen]) (itD_rng (rng_ok (by omega) (by omega)))]
      rw [rng_idx]
      exact hlp
    · simp
  refine (xes_ret (o := false) (d := .bl true) (s1 := ⟨[some (false, x), some (false, x), y', none], c⟩) ?_)
  rw [xe_ite]
  have ht : (ev (call T k) (.or (.isi (.v 1) .tup) (.isi (.v 1) .lst)) ⟨[some (false, x), some (false, x), none, none], c⟩).b tru = .ok true ⟨[some (false, x), some (false, x), none, none], c⟩ := by
    rcases hx with rfl | rfl <;> simp [isD]
  have ht2 : ∀ {P : Bool → S → R S Fl}, ((ev (call T k) (.or (.isi (.v 1) .tup) (.isi (.v 1) .lst)) ⟨[some (false, x), some (false, x), none, none], c⟩).b fun y s => (tru y s).b P) = ((ev (call T k) (.or (.isi (.v 1) .tup) (.isi (.v 1) .lst)) ⟨[some (false, x), some (false, x), none, none], c⟩).b tru).b P := fun {P} => by
    cases ev (call T k) (.or (.isi (.v 1) .tup) (.isi (.v 1) .lst)) ⟨[some (false, x), some (false, x), none, none], c⟩ <;> rfl
  rw [ht2, ht]
  simp only [R.b_ok, if_true]
  exact inner
theorem same0 (k : Nat) {x : Q.D} (h : sm 0 x = true) (c : Cells) : call T (k + 1) 16 [x, x] c = .ok (false, .bl true) c := by
  have ht : ∀ b, cmpD .eq (.bl b) (.bl b) = some true := fun b => by simp [cmpD, pl, eqD]
  rw [call_eq (fd := ⟨2, 4, e16⟩) rfl rfl]
  cases x with
  | non => simp [e16, frame, xes_cons, isNon]
  | bl b => simp [e16, frame, xes_cons, isNon, isD, ht]
  | int i => simp [e16, frame, xes_cons, isNon, isD]
  | str x =>
    have hs : cmpD .eq (.str x) (.str x) = some true := by
      have : PyData.strOk x = true := h
      simp [cmpD, pl, eqD, this]
    simp [e16, frame, xes_cons, isNon, isD, hs]
  | _ => simp [sm] at h
theorem same : ∀ (n : Nat) (x : Q.D), sm n x = true → ∀ (k : Nat) (c : Cells), call T (k + n + 1) 16 [x, x] c = .ok (false, .bl true) c
  | 0, x, h, k, c => same0 k h c
  | n + 1, x, h, k, c => by
    cases x with
    | non => exact same0 _ rfl c
    | bl b => exact same0 _ rfl c
    | int i => exact same0 _ rfl c
    | str x => exact same0 _ (show sm 0 (.str x) = true by simpa [sm] using h) c
    | tup ds =>
      simp only [sm, Bool.and_eq_true, decide_eq_true_eq] at h
      exact same_seq (k + n + 1) _ ds (.inl rfl) h.1 c fun d hd => same n d (List.all_eq_true.mp h.2 d hd) k c
    | lst ds =>
      simp only [sm, Bool.and_eq_true, decide_eq_true_eq] at h
      exact same_seq (k + n + 1) _ ds (.inr rfl) h.1 c fun d hd => same n d (List.all_eq_true.mp h.2 d hd) k c
    | _ => simp [sm] at h
end V09
end

section
set_option Elab.async false
set_option linter.all false
set_option maxRecDepth 100000
set_option maxHeartbeats 4000000
namespace V09
open Q Ek09 PySem
/-! ### what the law draws -/
def good (dr : List Q.D) : Prop := ∀ d ∈ dr, ∃ i : Int, d = .int i ∧ 0 ≤ i ∧ i < 429496730
theorem good.drop {dr : List Q.D} (h : good dr) : good dr.dropLast := fun d hd => h d (List.dropLast_subset _ hd)
theorem good.app {dr : List Q.D} (h : good dr) {i : Int} (h0 : 0 ≤ i) (h1 : i < 429496730) : good (dr ++ [.int i]) := fun d hd => by
  rcases List.mem_append.mp hd with x | x
  · exact h d x
  · simp at x; exact ⟨i, x, h0, h1⟩
theorem good.rev {dr : List Q.D} (h : good dr) : good dr.reverse := fun d hd => h d (List.mem_reverse.mp hd)
theorem len_cel {dr : List Q.D} : biD .len [.cel 0] [dr] = some (false, .int dr.length) := rfl
theorem law_take (k : Nat) {b : Int} (hb : 0 < b) {dr : List Q.D} (hg : good dr) : ∃ x dr', call T (k + 1) 14 [.cel 0, .int b] [dr] = .ok (false, .int x) [dr'] ∧ 0 ≤ x ∧ x < b ∧ x < 429496730 ∧ good dr' := by
  by_cases h0 : dr = []
  · subst h0
    refine ⟨0, [], ?_, by omega, hb, by omega, hg⟩
    refine call_ret (b := e14) (s := ⟨[some (false, .cel 0), some (false, .int b)], [[]]⟩) rfl rfl ?_
    simp [e14, xes_cons, isPk, isV, len_cel]
  · have hne : dr.getLast? = some (dr.getLast h0) := List.getLast?_eq_getLast h0
    obtain ⟨i, hi, h1, h2⟩ := hg _ (List.getLast_mem h0)
    rw [hi] at hne
    have hl : ¬ ((dr.length : Int) = 0) := by
      have := List.length_pos_iff.mpr h0
      omega
    refine ⟨i % b, dr.dropLast, ?_, Int.emod_nonneg _ (by omega), Int.emod_lt_of_pos _ hb, ?_, hg.drop⟩
    · refine call_ret (b := e14) (s := ⟨[some (false, .cel 0), some (false, .int b)], [dr.dropLast]⟩) rfl rfl ?_
      have e1 : xe (call T k) (.ite (.cmp .eq (.bi .len [.v 0]) (.c (.int 0))) [.ret (.c (.int 0))] []) ⟨[some (false, .cel 0), some (false, .int b)], [dr]⟩ = .ok .nx ⟨[some (false, .cel 0), some (false, .int b)], [dr]⟩ := by
        have e : ev (call T k) (.cmp .eq (.bi .len [.v 0]) (.c (.int 0))) ⟨[some (false, .cel 0), some (false, .int b)], [dr]⟩ = .ok (false, .bl false) ⟨[some (false, .cel 0), some (false, .int b)], [dr]⟩ := by
          simp only [ev_cmp, ev_bi, evA_cons, evA_nil, ev_v, ev_c, List.getElem?_cons_zero, R.b_ok, isPk, isV, Bool.and_true, Bool.false_and, if_false, Bool.false_eq_true, len_cel, R.of_some, cmp_eq_int, decide_eq_false hl]
        rw [xe_ite, e]
        simp
      have e2 : ev (call T k) (.pop 0) ⟨[some (false, .cel 0), some (false, .int b)], [dr]⟩ = .ok (false, .int i) ⟨[some (false, .cel 0), some (false, .int b)], [dr.dropLast]⟩ := by
        unfold ev
        simp [hne]
      refine (xes_nx e1).trans ?_
      rw [xes_one, xe_ret, ev_bin, ev_bi, evA_cons, e2]
      simp [isPk, hb]
    · have := Int.emod_lt_of_pos i hb
      have h3 := Int.emod_add_mul_ediv i b
      have h4 : 0 ≤ b * (i / b) := Int.mul_nonneg (by omega) (Int.ediv_nonneg h1 (by omega))
      omega
theorem law_pick (k : Nat) {ds : List Q.D} (hd : ds ≠ []) {dr : List Q.D} (hg : good dr) : ∃ x dr', call T (k + 2) 15 [.cel 0, .lst ds] [dr] = .ok (false, x) [dr'] ∧ x ∈ ds ∧ good dr' := by
  have hl : 0 < ds.length := List.length_pos_iff.mpr hd
  obtain ⟨x, dr', e, h1, h2, _, h4⟩ := law_take k (b := ds.length) (by omega) hg
  have hx : x.toNat < ds.length := by omega
  have e2 : ixD (.lst ds) (.int x) = some ds[x.toNat] := ix_lst (j := x.toNat) (by omega) (List.getElem?_eq_getElem hx)
  refine ⟨ds[x.toNat], dr', ?_, List.getElem_mem hx, h4⟩
  refine call_ret (b := e15) (s := ⟨[some (false, .cel 0), some (false, .lst ds)], [dr']⟩) rfl rfl ?_
  simp [e15, isPk, isV, callD, anyO, e, e2]
def drow (scr : Q.D) (dr : List Q.D) (seed : Int) (x3 x4 x5 : Option (Bool × Q.D)) : S := ⟨[some (false, scr), some (true, .lst dr), some (false, .int seed), x3, x4, x5], []⟩
theorem sm48271 : smI 48271 = true := sml.sm (k := 20) (by unfold sml; omega) (by decide)
theorem sm997 : smI 997 = true := sml.sm (k := 20) (by unfold sml; omega) (by decide)
theorem sm5 : smI 5 = true := sml.sm (k := 20) (by unfold sml; omega) (by decide)
theorem smSeed {s : Int} (h : 0 ≤ s) (h1 : s < 2147483647) : smI s = true := sml.sm (k := 40) (by unfold sml; omega) (by decide)
theorem pow18 {C : Cl} {s : S} : ev C (.bin .pow (.c (.int 10)) (.c (.int 18))) s = .ok (false, .int (10 ^ 18)) s := by
  rw [ev_bin]
  simp only [ev_c, R.b_ok]
  have : binD .pow (.int 10) (.int 18) = some (false, .int (10 ^ 18)) := by simp [binD]
  rw [this]
  rfl
section
variable {C : Cl} {scr : Q.D} {dr : List Q.D} {seed : Int} {x3 x4 x5 : Option (Bool × Q.D)} {num : Int}
theorem d_app {i : Int} {e : Ex} (he : ev C e (drow scr dr seed x3 x4 x5) = .ok (false, .int i) (drow scr dr seed x3 x4 x5)) (hl : dr.length < lim) : xe C (.app 1 e) (drow scr dr seed x3 x4 x5) = .ok .nx (drow scr (dr ++ [.int i]) seed x3 x4 x5) := by
  rw [xe_app, he]
  simp [drow, hl]
theorem d_in (j : Nat) (x : Q.D) (h0 : 0 ≤ num) (hg : good dr) (hl : dr.length < lim) : ∃ dr' num', (R.of (asg (.n 4) x (drow scr dr seed x3 x4 (some (false, .int num))).r) (drow scr dr seed x3 x4 (some (false, .int num)))).b (fun r s => xes C [.ite (.cmp .gt (.v 5) (.c (.int 0))) [.app 1 (.bin .mod (.bi .int [.v 5]) (.c (.int 997))), .set 5 (.bin .fdiv (.v 5) (.c (.int 997)))] []] ⟨r, s.c⟩) =
      .ok .nx (drow scr dr' seed x3 (some (false, x)) (some (false, .int num'))) ∧ 0 ≤ num' ∧ good dr' ∧ dr'.length ≤ dr.length + 1 := by
  by_cases hp : 0 < num
  · have h1 := Int.emod_nonneg num (show (997 : Int) ≠ 0 by omega)
    have h2 := Int.emod_lt_of_pos num (show (0 : Int) < 997 by omega)
    refine ⟨dr ++ [.int (num % 997)], num / 997, ?_, by omega, hg.app h1 (by omega), by simp⟩
    have e1 := d_app (C := C) (scr := scr) (dr := dr) (seed := seed) (x3 := x3) (x4 := some (false, x)) (x5 := some (false, .int num)) (i := num % 997) (e := .bin .mod (.bi .int [.v 5]) (.c (.int 997))) (by simp [drow, isPk, isV]) hl
    have e2 : xe C (.set 5 (.bin .fdiv (.v 5) (.c (.int 997)))) (drow scr (dr ++ [.int (num % 997)]) seed x3 (some (false, x)) (some (false, .int num))) = .ok .nx (drow scr (dr ++ [.int (num % 997)]) seed x3 (some (false, x)) (some (false, .int (num / 997)))) := by
      simp [drow, isPk, sm997]
    have e3 : xes C [.app 1 (.bin .mod (.bi .int [.v 5]) (.c (.int 997))), .set 5 (.bin .fdiv (.v 5) (.c (.int 997)))] (drow scr dr seed x3 (some (false, x)) (some (false, .int num))) = .ok .nx (drow scr (dr ++ [.int (num % 997)]) seed x3 (some (false, x)) (some (false, .int (num / 997)))) := (xes_nx e1).trans (by rw [xes_one, e2])
    have e0 : ev C (.cmp .gt (.v 5) (.c (.int 0))) (drow scr dr seed x3 (some (false, x)) (some (false, .int num))) = .ok (false, .bl true) (drow scr dr seed x3 (some (false, x)) (some (false, .int num))) := by simp [drow, hp]
    show xes C _ (drow scr dr seed x3 (some (false, x)) (some (false, .int num))) = _
    rw [xes_one, xe_ite, e0]
    simp only [R.b_ok, tru_bl, if_true]
    exact e3
  · refine ⟨dr, num, ?_, h0, hg, by omega⟩
    have e0 : ev C (.cmp .gt (.v 5) (.c (.int 0))) (drow scr dr seed x3 (some (false, x)) (some (false, .int num))) = .ok (false, .bl false) (drow scr dr seed x3 (some (false, x)) (some (false, .int num))) := by simp [drow, hp]
    show xes C _ (drow scr dr seed x3 (some (false, x)) (some (false, .int num))) = _
    rw [xes_one, xe_ite, e0]
    simp only [R.b_ok, tru_bl]
    rfl
theorem rngD_len {a : Int} {n : Nat} : (rngD a n).length = n := by simp [rngD]
theorem d_for60 (h0 : 0 ≤ num) (hg : good dr) (hl : dr.length < 3000000) : ∃ dr' x4' num', xe C (.for_ (.n 4) .rng [.c (.int 60)] [.ite (.cmp .gt (.v 5) (.c (.int 0))) [.app 1 (.bin .mod (.bi .int [.v 5]) (.c (.int 997))), .set 5 (.bin .fdiv (.v 5) (.c (.int 997)))] []]) (drow scr dr seed x3 x4 (some (false, .int num))) =
      .ok .nx (drow scr dr' seed x3 x4' (some (false, .int num'))) ∧ good dr' ∧ dr'.length ≤ dr.length + 60 := by
  have hf := for_inv (f := fun x s => (R.of (asg (.n 4) x s.r) s).b fun r s => xes C [.ite (.cmp .gt (.v 5) (.c (.int 0))) [.app 1 (.bin .mod (.bi .int [.v 5]) (.c (.int 997))), .set 5 (.bin .fdiv (.v 5) (.c (.int 997)))] []] ⟨r, s.c⟩)
    (I := fun i s => ∃ dr' x4' num', s = drow scr dr' seed x3 x4' (some (false, .int num')) ∧ 0 ≤ num' ∧ good dr' ∧ dr'.length ≤ dr.length + i) (xs := rngD 0 60) (i := 0) (s := drow scr dr seed x3 x4 (some (false, .int num))) ⟨dr, x4, num, rfl, h0, hg, by omega⟩ (fun k x s hk => by
      rintro ⟨dr', x4', num', rfl, a, b, d⟩
      have hk' : k < 60 := by have := (List.getElem?_eq_some_iff.mp hk).1; rwa [rngD_len] at this
      obtain ⟨dr2, num2, e, a2, b2, d2⟩ := d_in (C := C) (scr := scr) (seed := seed) (x3 := x3) (x4 := x4') k x a b (show dr'.length < 4000000 by omega)
      exact ⟨_, .inl e, dr2, _, num2, rfl, a2, b2, by omega⟩)
  obtain ⟨s', e, dr', x4', num', rfl, a, b, d⟩ := hf
  rw [rngD_len] at d
  exact ⟨dr', x4', num', (xe_for_of (ds := [.int 60]) (by simp [isPk]) (itD_rng (rng_ok (by omega) (by omega)))).trans e, b, by omega⟩
end
section
variable {C : Cl} {scr : Q.D} {dr : List Q.D} {seed : Int} {x3 x4 x5 : Option (Bool × Q.D)} {num : Int}
theorem d_ite (h0 : 0 ≤ num) (hs0 : 0 ≤ seed) (hg : good dr) (hl : dr.length < 2000000) : ∃ dr' num', xe C (.ite (.cmp .lt (.v 5) (.bin .pow (.c (.int 10)) (.c (.int 18)))) [.app 1 (.bin .mod (.bi .int [.v 5]) (.c (.int 997))), .app 1 (.bin .mod (.bi .int [.v 2]) (.c (.int 65521))), .set 5 (.c (.int 0))] []) (drow scr dr seed x3 x4 (some (false, .int num))) =
    .ok .nx (drow scr dr' seed x3 x4 (some (false, .int num'))) ∧ 0 ≤ num' ∧ good dr' ∧ dr'.length ≤ dr.length + 2 := by
  have e0 : ev C (.cmp .lt (.v 5) (.bin .pow (.c (.int 10)) (.c (.int 18)))) (drow scr dr seed x3 x4 (some (false, .int num))) = .ok (false, .bl (decide (num < 10 ^ 18))) (drow scr dr seed x3 x4 (some (false, .int num))) := by
    have a : ev C (.v 5) (drow scr dr seed x3 x4 (some (false, .int num))) = .ok (false, .int num) (drow scr dr seed x3 x4 (some (false, .int num))) := rfl
    rw [ev_cmp, a]
    simp only [R.b_ok]
    rw [pow18]
    simp only [R.b_ok, cmp_lt, R.of_some]
  by_cases hp : num < 10 ^ 18
  · have h1 := Int.emod_nonneg num (show (997 : Int) ≠ 0 by omega)
    have h2 := Int.emod_lt_of_pos num (show (0 : Int) < 997 by omega)
    have h3 := Int.emod_nonneg seed (show (65521 : Int) ≠ 0 by omega)
    have h4 := Int.emod_lt_of_pos seed (show (0 : Int) < 65521 by omega)
    refine ⟨dr ++ [.int (num % 997)] ++ [.int (seed % 65521)], 0, ?_, by omega, (hg.app h1 (by omega)).app h3 (by omega), by simp⟩
    have hl1 : dr.length < lim := Nat.lt_trans hl (by decide)
    have hl2 : (dr ++ [D.int (num % 997)]).length < lim := by
      have : (dr ++ [D.int (num % 997)]).length = dr.length + 1 := by simp
      rw [this]
      exact Nat.lt_of_lt_of_le (Nat.succ_lt_succ hl) (by decide)
    have e1 := d_app (C := C) (scr := scr) (dr := dr) (seed := seed) (x3 := x3) (x4 := x4) (x5 := some (false, .int num)) (i := num % 997) (e := .bin .mod (.bi .int [.v 5]) (.c (.int 997))) (by simp [drow, isPk, isV]) hl1
    have e2 := d_app (C := C) (scr := scr) (dr := dr ++ [.int (num % 997)]) (seed := seed) (x3 := x3) (x4 := x4) (x5 := some (false, .int num)) (i := seed % 65521) (e := .bin .mod (.bi .int [.v 2]) (.c (.int 65521))) (by simp [drow, isPk, isV]) hl2
    have e3 : xe C (.set 5 (.c (.int 0))) (drow scr (dr ++ [.int (num % 997)] ++ [.int (seed % 65521)]) seed x3 x4 (some (false, .int num))) = .ok .nx (drow scr (dr ++ [.int (num % 997)] ++ [.int (seed % 65521)]) seed x3 x4 (some (false, .int 0))) := by
      simp [drow, isPk]
    rw [xe_ite, e0, decide_eq_true hp]
    simp only [R.b_ok, tru_bl, if_true]
    rw [xes_nx e1, xes_nx e2, xes_one, e3]
  · refine ⟨dr, num, ?_, h0, hg, by omega⟩
    rw [xe_ite, e0, decide_eq_false hp]
    simp only [R.b_ok, tru_bl]
    rfl
theorem d_cell (i : Int) (hs0 : 0 ≤ seed) (hs1 : seed < 2147483647) (hg : good dr) (hl : dr.length < 1000000) : ∃ dr' seed' x4' x5', (R.of (asg (.n 3) (.int i) (drow scr dr seed x3 x4 x5).r) (drow scr dr seed x3 x4 x5)).b (fun r s => xes C [.set 5 (.bi .abs [.bi .int [.v 3]]), .set 2 (.bin .mod (.bi .int [.bin .add (.bin .add (.bin .mul (.v 2) (.c (.int 48271))) (.v 5)) (.c (.int 1))]) (.c (.int 2147483647))), .ite (.cmp .lt (.v 5) (.bin .pow (.c (.int 10)) (.c (.int 18)))) [.app 1 (.bin .mod (.bi .int [.v 5]) (.c (.int 997))), .app 1 (.bin .mod (.bi .int [.v 2]) (.c (.int 65521))), .set 5 (.c (.int 0))] [], .for_ (.n 4) .rng [.c (.int 60)] [.ite (.cmp .gt (.v 5) (.c (.int 0))) [.app 1 (.bin .mod (.bi .int [.v 5]) (.c (.int 997))), .set 5 (.bin .fdiv (.v 5) (.c (.int 997)))] []]] ⟨r, s.c⟩) =
    .ok .nx (drow scr dr' seed' (some (false, .int i)) x4' x5') ∧ 0 ≤ seed' ∧ seed' < 2147483647 ∧ good dr' ∧ dr'.length ≤ dr.length + 62 := by
  let sd : Int := (seed * 48271 + (i.natAbs : Int) + 1) % 2147483647
  have h1 : 0 ≤ sd := Int.emod_nonneg _ (by omega)
  have h2 : sd < 2147483647 := Int.emod_lt_of_pos _ (by omega)
  have e1 : xe C (.set 5 (.bi .abs [.bi .int [.v 3]])) (drow scr dr seed (some (false, .int i)) x4 x5) = .ok .nx (drow scr dr seed (some (false, .int i)) x4 (some (false, .int (i.natAbs : Int)))) := by
    simp [drow, isPk, isV]
  have e2' : ∀ a : Int, xe C (.set 2 (.bin .mod (.bi .int [.bin .add (.bin .add (.bin .mul (.v 2) (.c (.int 48271))) (.v 5)) (.c (.int 1))]) (.c (.int 2147483647)))) (drow scr dr seed (some (false, .int i)) x4 (some (false, .int a))) = .ok .nx (drow scr dr ((seed * 48271 + a + 1) % 2147483647) (some (false, .int i)) x4 (some (false, .int a))) := fun a => by
    simp [drow, isPk, isV, sm48271, smSeed hs0 hs1]
  have e2 := e2' (i.natAbs : Int)
  obtain ⟨dr1, n1, e3, a3, b3, c3⟩ := d_ite (C := C) (scr := scr) (dr := dr) (seed := sd) (x3 := some (false, .int i)) (x4 := x4) (num := (i.natAbs : Int)) (Int.natCast_nonneg _) h1 hg (by omega)
  obtain ⟨dr2, x4', n2, e4, b4, c4⟩ := d_for60 (C := C) (scr := scr) (dr := dr1) (seed := sd) (x3 := some (false, .int i)) (x4 := x4) (num := n1) a3 b3 (by omega)
  refine ⟨dr2, sd, x4', some (false, .int n2), ?_, h1, h2, b4, by omega⟩
  show xes C _ (drow scr dr seed (some (false, .int i)) x4 x5) = _
  rw [xes_nx e1, xes_nx e2, xes_nx e3, xes_one, e4]
theorem d_for1600 (hs0 : 0 ≤ seed) (hs1 : seed < 2147483647) (hg : good dr) (hl : dr.length < 1000000) : ∃ dr' seed' x4', xe C (.for_ (.n 4) .rng [.c (.int 1600)] [.set 2 (.bin .mod (.bi .int [.bin .add (.bin .mul (.v 2) (.c (.int 48271))) (.c (.int 69621))]) (.c (.int 2147483647))), .app 1 (.bin .fdiv (.v 2) (.c (.int 5)))]) (drow scr dr seed x3 x4 x5) =
      .ok .nx (drow scr dr' seed' x3 x4' x5) ∧ good dr' := by
  have hf := for_inv (f := fun x s => (R.of (asg (.n 4) x s.r) s).b fun r s => xes C [.set 2 (.bin .mod (.bi .int [.bin .add (.bin .mul (.v 2) (.c (.int 48271))) (.c (.int 69621))]) (.c (.int 2147483647))), .app 1 (.bin .fdiv (.v 2) (.c (.int 5)))] ⟨r, s.c⟩)
    (I := fun i s => ∃ dr' seed' x4', s = drow scr dr' seed' x3 x4' x5 ∧ 0 ≤ seed' ∧ seed' < 2147483647 ∧ good dr' ∧ dr'.length ≤ dr.length + i) (xs := rngD 0 1600) (i := 0) (s := drow scr dr seed x3 x4 x5) ⟨dr, seed, x4, rfl, hs0, hs1, hg, by omega⟩ (fun k x s hk => by
      rintro ⟨dr', sd, x4', rfl, a, b, d, e⟩
      have hk' : k < 1600 := by have := (List.getElem?_eq_some_iff.mp hk).1; rwa [rngD_len] at this
      let sd' : Int := (sd * 48271 + 69621) % 2147483647
      have h1 : 0 ≤ sd' := Int.emod_nonneg _ (by omega)
      have h2 : sd' < 2147483647 := Int.emod_lt_of_pos _ (by omega)
      have e1 : xe C (.set 2 (.bin .mod (.bi .int [.bin .add (.bin .mul (.v 2) (.c (.int 48271))) (.c (.int 69621))]) (.c (.int 2147483647)))) (drow scr dr' sd x3 (some (false, x)) x5) = .ok .nx (drow scr dr' sd' x3 (some (false, x)) x5) := by
        simp [drow, isPk, isV, sm48271, smSeed a b, sd']
      have e2 := d_app (C := C) (scr := scr) (dr := dr') (seed := sd') (x3 := x3) (x4 := some (false, x)) (x5 := x5) (i := sd' / 5) (e := .bin .fdiv (.v 2) (.c (.int 5))) (by simp [drow, isPk, isV, sm5]) (Nat.lt_trans (show dr'.length < 2000000 by omega) (by decide))
      refine ⟨drow scr (dr' ++ [.int (sd' / 5)]) sd' x3 (some (false, x)) x5, .inl ?_, _, sd', _, rfl, h1, h2, d.app (by omega) (by omega), by simp; omega⟩
      show xes C _ (drow scr dr' sd x3 (some (false, x)) x5) = _
      rw [xes_nx e1, xes_one, e2])
  obtain ⟨s', e, dr', sd, x4', rfl, a, b, d, f⟩ := hf
  exact ⟨dr', sd, x4', (xe_for_of (ds := [.int 1600]) (by simp [isPk]) (itD_rng (rng_ok (by omega) (by omega)))).trans e, d⟩
end
theorem law_draws (k : Nat) (ns : List Int) (h63 : ns.length ≤ 63) : ∃ dr, call T (k + 1) 13 [.lst (ns.map .int)] [] = .ok (true, .lst dr) [] ∧ good dr := by
  let C := call T k
  let scr : Q.D := .lst (ns.map .int)
  have hf := for_inv (f := fun x s => (R.of (asg (.n 3) x s.r) s).b fun r s => xes C [.set 5 (.bi .abs [.bi .int [.v 3]]), .set 2 (.bin .mod (.bi .int [.bin .add (.bin .add (.bin .mul (.v 2) (.c (.int 48271))) (.v 5)) (.c (.int 1))]) (.c (.int 2147483647))), .ite (.cmp .lt (.v 5) (.bin .pow (.c (.int 10)) (.c (.int 18)))) [.app 1 (.bin .mod (.bi .int [.v 5]) (.c (.int 997))), .app 1 (.bin .mod (.bi .int [.v 2]) (.c (.int 65521))), .set 5 (.c (.int 0))] [], .for_ (.n 4) .rng [.c (.int 60)] [.ite (.cmp .gt (.v 5) (.c (.int 0))) [.app 1 (.bin .mod (.bi .int [.v 5]) (.c (.int 997))), .set 5 (.bin .fdiv (.v 5) (.c (.int 997)))] []]] ⟨r, s.c⟩)
    (I := fun i s => ∃ dr' seed' x3 x4 x5, s = drow scr dr' seed' x3 x4 x5 ∧ 0 ≤ seed' ∧ seed' < 2147483647 ∧ good dr' ∧ dr'.length ≤ 62 * i) (xs := ns.map .int) (i := 0) (s := drow scr [] 11 none none none) ⟨[], 11, none, none, none, rfl, by omega, by omega, fun d hd => (by cases hd), by simp⟩ (fun k x s hk => by
      rintro ⟨dr', sd, x3, x4, x5, rfl, a, b, d, e⟩
      have hk' : k < 63 := by have := (List.getElem?_eq_some_iff.mp hk).1; simp at this; omega
      rw [List.getElem?_map] at hk
      cases hn : ns[k]? with
      | none => rw [hn] at hk; cases hk
      | some i =>
        rw [hn] at hk
        cases hk
        obtain ⟨dr2, sd2, x42, x52, e2, a2, b2, d2, f2⟩ := d_cell (C := C) (scr := scr) (dr := dr') (seed := sd) (x3 := x3) (x4 := x4) (x5 := x5) i a b d (by omega)
        exact ⟨_, .inl e2, dr2, sd2, _, x42, x52, rfl, a2, b2, d2, by omega⟩)
  obtain ⟨s', e, dr1, sd, x3, x4, x5, rfl, a, b, d, f⟩ := hf
  rw [List.length_map] at f
  obtain ⟨dr2, sd2, x42, e2, d2⟩ := d_for1600 (C := C) (scr := scr) (dr := dr1) (seed := sd) (x3 := x3) (x4 := x4) (x5 := x5) a b d (by omega)
  refine ⟨dr2.reverse, ?_, d2.rev⟩
  refine call_ret (b := e13) (s := drow scr dr2 sd2 x3 x42 x5) rfl rfl ?_
  refine (xes_nx (s1 := ⟨[some (false, scr), some (true, .lst []), none, none, none, none], []⟩) (by simp [isPk, scr])).trans ?_
  refine (xes_nx (s1 := drow scr [] 11 none none none) (by simp [isPk, drow])).trans ?_
  refine (xes_nx (s1 := drow scr dr1 sd x3 x4 x5) ((xe_for_of (ds := [scr]) (by simp [drow, isPk]) rfl).trans e)).trans ?_
  refine (xes_nx e2).trans ?_
  simp [drow]
end V09
end

section
set_option Elab.async false
set_option linter.all false
set_option maxRecDepth 100000
set_option maxHeartbeats 4000000
namespace V09
open Q Ek09 PySem
/-! ### how long a text is -/
def thin (p n : Nat) (d : Q.D) : Prop := (toPy d).shown.length ≤ n ∧ (toPy d).showable = true ∧ pl p d = true ∧ PyData.strOk (toPy d).shown = true
theorem sok_app {a b : Str} (h : PyData.strOk a = true) (h2 : PyData.strOk b = true) : PyData.strOk (a ++ b) = true := by
  unfold PyData.strOk at *
  rw [Str.cps_append, Array.all_append, h, h2]
  rfl
theorem sok_comma : PyData.strOk (Str.ofString ", ") = true := by kernel_rfl
theorem sok_join : ∀ ts : List Str, (∀ t ∈ ts, PyData.strOk t = true) → PyData.strOk (Str.join ", " ts) = true
  | [], _ => by kernel_rfl
  | [t], h => h t (by simp)
  | t :: u :: r, h => by
    have h3 : Str.join ", " (t :: u :: r) = t ++ ", " ++ Str.join ", " (u :: r) := rfl
    rw [h3]
    exact sok_app (sok_app (h t (by simp)) sok_comma) (sok_join (u :: r) (fun x hx => h x (List.mem_cons_of_mem _ hx)))
theorem sok_text : ∀ (ts : List Str) (k : Nat) (acc : Str), PyData.strOk acc = true → (∀ t ∈ ts, PyData.strOk t = true) → PyData.strOk (textFrom k acc ts) = true
  | [], k, acc, h, _ => h
  | t :: r, k, acc, ha, h => by
    show PyData.strOk (textFrom (k + 1) (acc ++ Str.ofString (if k > 0 then ", " else "" : String) ++ t) r) = true
    refine sok_text r (k + 1) _ (sok_app (sok_app ha ?_) (h t (by simp))) (fun x hx => h x (List.mem_cons_of_mem _ hx))
    split
    · exact sok_comma
    · kernel_rfl
theorem sok_all : ∀ ds : List Q.D, (∀ d ∈ ds, PyData.strOk (toPy d).shown = true) → ∀ t ∈ PyData.shownAll (toPys ds), PyData.strOk t = true
  | [], _, t, h => by simp [toPys, PyData.shownAll] at h
  | d :: ds, h, t, ht => by
    simp only [toPys, PyData.shownAll] at ht
    rcases List.mem_cons.mp ht with e | e
    · rw [e]; exact h d (by simp)
    · exact sok_all ds (fun x hx => h x (List.mem_cons_of_mem _ hx)) t e
theorem join_le (n : Nat) : ∀ ts : List Str, (∀ t ∈ ts, t.length ≤ n) → (Str.join ", " ts).length ≤ ts.length * (n + 2)
  | [], _ => Nat.zero_le _
  | [t], h => by
    have := h t (by simp)
    show t.length ≤ _
    simp only [List.length_cons, List.length_nil]
    omega
  | t :: u :: r, h => by
    have h1 := h t (by simp)
    have h2 := join_le n (u :: r) (fun x hx => h x (List.mem_cons_of_mem _ hx))
    have h3 : Str.join ", " (t :: u :: r) = t ++ ", " ++ Str.join ", " (u :: r) := rfl
    rw [h3, Str.length_append, Str.length_append]
    have h4 : (", " : Str).length = 2 := by kernel_rfl
    rw [h4]
    simp only [List.length_cons] at h2 ⊢
    have : (r.length + 1 + 1) * (n + 2) = (r.length + 1) * (n + 2) + (n + 2) := Nat.succ_mul _ _
    omega
theorem text_le (n : Nat) : ∀ (ts : List Str) (k : Nat) (acc : Str), (∀ t ∈ ts, t.length ≤ n) → (textFrom k acc ts).length ≤ acc.length + ts.length * (n + 2)
  | [], k, acc, _ => by show acc.length ≤ _; omega
  | t :: r, k, acc, h => by
    have h1 := h t (by simp)
    have h2 := text_le n r (k + 1) (acc ++ (if k > 0 then ", " else "" : String) ++ t) (fun x hx => h x (List.mem_cons_of_mem _ hx))
    show (textFrom (k + 1) (acc ++ (if k > 0 then ", " else "" : String) ++ t) r).length ≤ _
    rw [Str.length_append, Str.length_append] at h2
    have h4 : (Str.ofString (if k > 0 then ", " else "")).length ≤ 2 := by
      split
      · exact Nat.le_of_eq (by kernel_rfl)
      · exact Nat.le_trans (Nat.le_of_eq (by kernel_rfl : _ = 0)) (by decide)
    simp only [List.length_cons]
    have : (r.length + 1) * (n + 2) = r.length * (n + 2) + (n + 2) := Nat.succ_mul _ _
    omega
theorem all_len (n : Nat) : ∀ ds : List Q.D, (∀ d ∈ ds, (toPy d).shown.length ≤ n) → (∀ t ∈ PyData.shownAll (toPys ds), t.length ≤ n) ∧ (PyData.shownAll (toPys ds)).length = ds.length
  | [], _ => ⟨fun t h => (by simp [toPys, PyData.shownAll] at h), rfl⟩
  | d :: ds, h => by
    obtain ⟨a, b⟩ := all_len n ds (fun x hx => h x (List.mem_cons_of_mem _ hx))
    simp only [toPys, PyData.shownAll, List.length_cons, b, and_true]
    intro t ht
    rcases List.mem_cons.mp ht with e | e
    · rw [e]; exact h d (by simp)
    · exact a t e
theorem all_show : ∀ ds : List Q.D, (∀ d ∈ ds, (toPy d).showable = true) → PyData.showableAll (toPys ds) = true
  | [], _ => by simp [toPys, PyData.showableAll]
  | d :: ds, h => by
    simp only [toPys, PyData.showableAll, Bool.and_eq_true]
    exact ⟨h d (by simp), all_show ds fun x hx => h x (List.mem_cons_of_mem _ hx)⟩
theorem thin_tup {p n : Nat} {ds : List Q.D} (h : ∀ d ∈ ds, thin p n d) : thin (p + 1) (ds.length * (n + 2) + 3) (.tup ds) := by
  obtain ⟨a, b⟩ := all_len n ds fun d hd => (h d hd).1
  refine ⟨?_, ?_, ?_, ?_⟩
  · have h1 := join_le n _ a
    rw [b] at h1
    simp only [toPy, PyData.shown, tupleText]
    rw [Str.length_append, Str.length_append]
    have h4 : (Str.ofString (if (PyData.shownAll (toPys ds)).length == 1 then ",)" else ")")).length ≤ 2 := by
      split
      · exact Nat.le_of_eq (by kernel_rfl)
      · exact Nat.le_trans (Nat.le_of_eq (by kernel_rfl : _ = 1)) (by decide)
    have h5 : (Str.ofString "(").length = 1 := by kernel_rfl
    omega
  · simp only [toPy, PyData.showable]
    exact all_show ds fun d hd => (h d hd).2.1
  · simp only [pl]
    exact List.all_eq_true.mpr fun d hd => (h d hd).2.2.1
  · simp only [toPy, PyData.shown, tupleText]
    refine sok_app (sok_app (by kernel_rfl) (sok_join _ (sok_all ds fun d hd => (h d hd).2.2.2))) ?_
    split <;> kernel_rfl
theorem thin_lst {p n : Nat} {ds : List Q.D} (h : ∀ d ∈ ds, thin p n d) : thin (p + 1) (ds.length * (n + 2) + 3) (.lst ds) := by
  obtain ⟨a, b⟩ := all_len n ds fun d hd => (h d hd).1
  refine ⟨?_, ?_, ?_, ?_⟩
  · have h1 := text_le n _ 0 (Str.ofString "[") a
    rw [b] at h1
    simp only [toPy, PyData.shown, listText]
    rw [Str.length_append]
    have h4 : (Str.ofString "]").length = 1 := by kernel_rfl
    have h5 : (Str.ofString "[").length = 1 := by kernel_rfl
    omega
  · simp only [toPy, PyData.showable]
    exact all_show ds fun d hd => (h d hd).2.1
  · simp only [pl]
    exact List.all_eq_true.mpr fun d hd => (h d hd).2.2.1
  · simp only [toPy, PyData.shown, listText]
    exact sok_app (sok_text _ 0 _ (by kernel_rfl) (sok_all ds fun d hd => (h d hd).2.2.2)) (by kernel_rfl)
theorem thin_mono {p n m : Nat} {d : Q.D} (h : thin p n d) (hm : n ≤ m) : thin p m d := ⟨Nat.le_trans h.1 hm, h.2⟩
/-- items that a draft holds -/
def thinB (d : Q.D) : Bool := decide ((toPy d).shown.length ≤ 100) && (toPy d).showable && pl 18 d && PyData.strOk (toPy d).shown
theorem thinB.t {d : Q.D} (h : thinB d = true) : thin 18 100 d := by
  simp only [thinB, Bool.and_eq_true, decide_eq_true_eq] at h
  exact ⟨h.1.1.1, h.1.1.2, h.1.2, h.2⟩
theorem thin_nats : ((List.range 1000).all fun i => thinB (.int (i : Nat))) = true := by kernel_rfl
theorem thin_int {i : Int} (h0 : 0 ≤ i) (h1 : i < 1000) : thinB (.int i) = true := by
  have := List.all_eq_true.mp thin_nats i.toNat (List.mem_range.mpr (by omega))
  have e : ((i.toNat : Nat) : Int) = i := by omega
  rwa [e] at this
end V09
end

section
set_option Elab.async false
set_option linter.all false
set_option maxRecDepth 100000
set_option maxHeartbeats 4000000
namespace V09
open Q Ek09 PySem
/-! ### drafts -/
def fine (e : En) : Prop := e.ok ∧ (∀ d ∈ e.ds, thinB d = true) ∧ e.ds.length ≤ 10
def base (w : Wd) (d nm p : Q.D) : En := match w with
  | .leave => .lv d nm
  | .join => .jn d nm p
  | .pay => .ot false d nm p
  | .back => .ot true d nm p
def odds (w : Wd) (d nm p : Q.D) : List En :=
  [.nil, .bad [d], .odd .non [d], match w with | .leave => .odd d [nm] | _ => .odd d [nm, p], match w with | .leave => .frm w [d, nm, .int 1] | _ => .frm w [d, nm, p, .int 1], .frm w [d],
   base w (.int (-1)) nm p, base w (.bl true) nm p, base w (.int 100001) nm p, base w d (.str "Ann") p, base w d .non p, .frm w []]
inductive N3 : Q.D → Prop
  | ann : N3 (.str "ann")
  | bob : N3 (.str "bob")
  | c3 : N3 (.str "c3")
theorem N3.n5 {d : Q.D} (h : N3 d) : N5 d := by cases h <;> constructor
theorem N3.th {d : Q.D} (h : N3 d) : thinB d = true := by cases h <;> kernel_rfl
theorem th_w (w : Wd) : thinB (.str w.s) = true := by cases w <;> kernel_rfl
theorem th_leave : thinB (.str "leave") = true := th_w .leave
theorem th_join : thinB (.str "join") = true := th_w .join
theorem th_oth (b : Bool) : thinB (.str (oth b)) = true := by cases b <;> kernel_rfl
theorem th_burn : thinB (.str "burn") = true := by kernel_rfl
theorem th_Ann : thinB (.str "Ann") = true := by kernel_rfl
theorem th_non : thinB .non = true := by kernel_rfl
theorem th_tr : thinB (.bl true) = true := by kernel_rfl
theorem th_m1 : thinB (.int (-1)) = true := by kernel_rfl
theorem th_1 : thinB (.int 1) = true := by kernel_rfl
theorem th_b : thinB (.int 100001) = true := by kernel_rfl
theorem sim_int {i : Int} : sim (.int i) = true := rfl
theorem fine_base (w : Wd) {d nm p : Q.D} (hd : sim d = true) (hp : sim p = true) (hn : N5 nm) (td : thinB d = true) (tn : thinB nm = true) (tp : thinB p = true) : fine (base w d nm p) := by
  cases w <;> refine ⟨?_, ?_, ?_⟩ <;> simp [base, En.ok, En.ds, hd, hp, hn, td, tn, tp, th_leave, th_join, th_oth]
theorem fine_odds (w : Wd) {day pc : Int} {nm : Q.D} (hn : N3 nm) (td : thinB (.int day) = true) (tp : thinB (.int pc) = true) : ∀ e ∈ odds w (.int day) nm (.int pc), fine e := by
  have hs := hn.n5.sim
  have tn := hn.th
  intro e he
  simp only [odds, List.mem_cons, List.not_mem_nil, or_false] at he
  rcases he with rfl | rfl | rfl | rfl | rfl | rfl | rfl | rfl | rfl | rfl | rfl | rfl
  · exact ⟨trivial, by simp [En.ds], by simp [En.ds]⟩
  · exact ⟨⟨by simp [sim], by simp⟩, by simp [En.ds, th_burn, td], by simp [En.ds]⟩
  · exact ⟨⟨rfl, rfl, by simp [sim], by simp⟩, by simp [En.ds, th_non, td], by simp [En.ds]⟩
  · cases w <;> exact ⟨⟨rfl, rfl, by simp [sim_int, hs], by simp⟩, by simp [En.ds, tn, td, tp], by simp [En.ds]⟩
  · cases w <;> exact ⟨⟨by simp [sim_int, hs], by simp [Wd.n], by simp⟩, by simp [En.ds, tn, td, tp, th_1, th_w], by simp [En.ds]⟩
  · cases w <;> exact ⟨⟨by simp [sim], by simp [Wd.n], by simp⟩, by simp [En.ds, td, th_w], by simp [En.ds]⟩
  · exact fine_base w rfl rfl hn.n5 th_m1 tn tp
  · exact fine_base w rfl rfl hn.n5 th_tr tn tp
  · exact fine_base w rfl rfl hn.n5 th_b tn tp
  · exact fine_base w rfl rfl .Ann td th_Ann tp
  · exact fine_base w rfl rfl .non td th_non tp
  · cases w <;> exact ⟨⟨by simp, by simp [Wd.n], by simp⟩, by simp [En.ds, th_w], by simp [En.ds]⟩
section
variable {C : Cl} {m : Int} {fd : List Q.D} {x2 x4 x5 x6 x7 x8 x9 : Option (Bool × Q.D)} {dr : List Q.D}
def rw22 (m : Int) (fd : List Q.D) (x2 x4 x5 x6 x7 x8 x9 : Option (Bool × Q.D)) (dr : List Q.D) : S := ⟨[some (false, .cel 0), some (false, .int m), x2, some (true, .lst fd), x4, x5, x6, x7, x8, x9], [dr]⟩
def b22a : Sx := .set 4 (.bi .max [.c (.int 0), .bin .add (.v 4) (.call 15 [.v 0, .lst [.c (.int 0), .c (.int 0), .c (.int 1), .c (.int 3), .bin .sub (.c (.int 0)) (.bi .int [.cmp .eq (.call 14 [.v 0, .c (.int 9)]) (.c (.int 0))])]])])
def b22b : Sx := .par [(6, false), (7, false), (8, false)] [.call 15 [.v 0, .lst [.c (.str "join"), .c (.str "pay"), .c (.str "leave"), .c (.str "back")]], .call 14 [.v 0, .c (.int 14)], .call 15 [.v 0, .lst [.c (.str "ann"), .c (.str "bob"), .c (.str "c3")]]]
def b22c : Sx := .set 5 (.tup [.v 6, .v 4, .v 8, .bin .add (.c (.int 1)) (.call 14 [.v 0, .c (.int 900)])])
def b22d : Sx := .ite (.cmp .eq (.v 6) (.c (.str "leave"))) [.set 5 (.tup [.v 6, .v 4, .v 8])] []
def b22e1 : Sx := .set 9 (.lst [.tup [], .tup [.c (.str "burn"), .v 4], .tup [.c .non, .v 4], .sl (.v 5) (some (.c (.int 1))) none, .bin .add (.v 5) (.tup [.c (.int 1)]), .sl (.v 5) none (some (.c (.int 2))), .bin .add (.tup [.v 6, .neg (.c (.int 1))]) (.sl (.v 5) (some (.c (.int 2))) none), .bin .add (.tup [.v 6, .c (.bl true)]) (.sl (.v 5) (some (.c (.int 2))) none)])
def b22e2 : Sx := .set 5 (.call 15 [.v 0, .bin .add (.v 9) (.lst [.bin .add (.tup [.v 6, .c (.int 100001)]) (.sl (.v 5) (some (.c (.int 2))) none), .bin .add (.tup [.v 6, .v 4, .c (.str "Ann")]) (.sl (.v 5) (some (.c (.int 3))) none), .bin .add (.tup [.v 6, .v 4, .c .non]) (.sl (.v 5) (some (.c (.int 3))) none), .tup [.v 6]])])
def b22f : Sx := .ite (.and (.cmp .eq (.v 7) (.c (.int 1))) (.cmp .gt (.bi .len [.v 5]) (.c (.int 3)))) [.set 5 (.bin .add (.sl (.v 5) none (some (.c (.int 3)))) (.tup [.call 15 [.v 0, .lst [.c (.int 0), .neg (.c (.int 5)), .c .non, .c (.bl true), .c (.str "1"), .bin .add (.bin .pow (.c (.int 10)) (.c (.int 7))) (.c (.int 1)), .bin .pow (.c (.int 10)) (.c (.int 7))]]]))] []
def b22 : List Sx := [b22a, b22b, b22c, b22d, .ite (.cmp .eq (.v 7) (.c (.int 0))) [b22e1, b22e2] [], b22f, .app 3 (.v 5)]
theorem st_a (k : Nat) (hg : good dr) {day : Int} (h0 : 0 ≤ day) : ∃ day' dr', xe (call T (k + 2)) b22a (rw22 m fd x2 (some (false, .int day)) x5 x6 x7 x8 x9 dr) = .ok .nx (rw22 m fd x2 (some (false, .int day')) x5 x6 x7 x8 x9 dr') ∧ 0 ≤ day' ∧ day' ≤ day + 3 ∧ good dr' := by
  obtain ⟨y, dr1, e1, y0, y1, _, g1⟩ := law_take (k + 1) (b := 9) (by omega) hg
  obtain ⟨x, dr2, e2, hx, g2⟩ := law_pick k (ds := [.int 0, .int 0, .int 1, .int 3, .int (-bI (decide (y = 0)))]) (by simp) g1
  have key : ∃ i : Int, x = .int i ∧ i ≤ 3 := by
    simp only [List.mem_cons, List.not_mem_nil, or_false] at hx
    rcases hx with rfl | rfl | rfl | rfl | rfl
    · exact ⟨_, rfl, by omega⟩
    · exact ⟨_, rfl, by omega⟩
    · exact ⟨_, rfl, by omega⟩
    · exact ⟨_, rfl, by omega⟩
    · exact ⟨_, rfl, by unfold bI; split <;> omega⟩
  obtain ⟨i, rfl, hi⟩ := key
  refine ⟨max 0 (day + i), dr2, ?_, by omega, by omega, g2⟩
  simp [b22a, rw22, isPk, isV, callD, anyO, e1, e2]
theorem st_b (k : Nat) (hg : good dr) : ∃ (w : Wd) (od : Int) (nm : Q.D) (dr' : List Q.D), xe (call T (k + 2)) b22b (rw22 m fd x2 x4 x5 x6 x7 x8 x9 dr) = .ok .nx (rw22 m fd x2 x4 x5 (some (false, .str w.s)) (some (false, .int od)) (some (false, nm)) x9 dr') ∧ N3 nm ∧ good dr' := by
  obtain ⟨x, dr1, e1, hx, g1⟩ := law_pick k (ds := [.str "join", .str "pay", .str "leave", .str "back"]) (by simp) hg
  obtain ⟨od, dr2, e2, _, _, _, g2⟩ := law_take (k + 1) (b := 14) (by omega) g1
  obtain ⟨nm, dr3, e3, hn, g3⟩ := law_pick k (ds := [.str "ann", .str "bob", .str "c3"]) (by simp) g2
  have key : ∃ w : Wd, x = .str w.s := by
    simp only [List.mem_cons, List.not_mem_nil, or_false] at hx
    rcases hx with rfl | rfl | rfl | rfl
    · exact ⟨.join, rfl⟩
    · exact ⟨.pay, rfl⟩
    · exact ⟨.leave, rfl⟩
    · exact ⟨.back, rfl⟩
  obtain ⟨w, rfl⟩ := key
  have hn3 : N3 nm := by
    simp only [List.mem_cons, List.not_mem_nil, or_false] at hn
    rcases hn with rfl | rfl | rfl
    · exact .ann
    · exact .bob
    · exact .c3
  refine ⟨w, od, nm, dr3, ?_, hn3, g3⟩
  simp [b22b, rw22, isPk, isV, callD, anyO, e1, e2, e3, parR]
theorem st_c (k : Nat) (hg : good dr) {w : Str} {day : Int} {nm : Q.D} : ∃ (p : Int) (dr' : List Q.D), xe (call T (k + 2)) b22c (rw22 m fd x2 (some (false, .int day)) x5 (some (false, .str w)) x7 (some (false, nm)) x9 dr) = .ok .nx (rw22 m fd x2 (some (false, .int day)) (some (false, .tup [.str w, .int day, nm, .int p])) (some (false, .str w)) x7 (some (false, nm)) x9 dr') ∧ 1 ≤ p ∧ p ≤ 900 ∧ good dr' := by
  obtain ⟨y, dr1, e1, y0, y1, _, g1⟩ := law_take (k + 1) (b := 900) (by omega) hg
  refine ⟨1 + y, dr1, ?_, by omega, by omega, g1⟩
  simp [b22c, rw22, isPk, isV, callD, anyO, e1]
theorem eq_w_l (w : Wd) : cmpD .eq (.str w.s) (.str "leave") = some (match w with | .leave => true | _ => false) := by cases w <;> kernel_rfl
theorem st_d (w : Wd) {day p : Int} {nm : Q.D} : xe C b22d (rw22 m fd x2 (some (false, .int day)) (some (false, .tup [.str w.s, .int day, nm, .int p])) (some (false, .str w.s)) x7 (some (false, nm)) x9 dr) = .ok .nx (rw22 m fd x2 (some (false, .int day)) (some (false, (base w (.int day) nm (.int p)).d)) (some (false, .str w.s)) x7 (some (false, nm)) x9 dr) := by
  have h1 := eq_w_l .join
  have h2 := eq_w_l .pay
  have h3 := eq_w_l .leave
  have h4 := eq_w_l .back
  simp only [Wd.s] at h1 h2 h3 h4
  cases w <;> simp [b22d, rw22, isPk, isV, h1, h2, h3, h4, base, En.d, En.ds, Wd.s, oth]
theorem cut31 {a b c : Q.D} : cutD [a, b, c] (some 1) none = [b, c] := rfl
theorem cut32 {a b c : Q.D} : cutD [a, b, c] (some 2) none = [c] := rfl
theorem cut33 {a b c : Q.D} : cutD [a, b, c] (some 3) none = [] := rfl
theorem cut3h {a b c : Q.D} : cutD [a, b, c] none (some 2) = [a, b] := rfl
theorem cut41 {a b c d : Q.D} : cutD [a, b, c, d] (some 1) none = [b, c, d] := rfl
theorem cut42 {a b c d : Q.D} : cutD [a, b, c, d] (some 2) none = [c, d] := rfl
theorem cut43 {a b c d : Q.D} : cutD [a, b, c, d] (some 3) none = [d] := rfl
theorem cut4h {a b c d : Q.D} : cutD [a, b, c, d] none (some 2) = [a, b] := rfl
theorem cut4i {a b c d : Q.D} : cutD [a, b, c, d] none (some 3) = [a, b, c] := rfl
theorem bin_tup {xs ys : List Q.D} (h : xs.length + ys.length ≤ lim ∧ xs ≠ []) : binD .add (.tup xs) (.tup ys) = some (false, .tup (xs ++ ys)) := by
  have : (!xs.isEmpty) = true := by cases xs <;> simp at h ⊢
  show (if _ then _ else _) = _
  rw [if_pos]
  rw [Bool.and_eq_true, decide_eq_true_eq]
  exact ⟨h.1, this⟩
theorem bin_lst {xs ys : List Q.D} (h : xs.length + ys.length ≤ lim) : binD .add (.lst xs) (.lst ys) = some (true, .lst (xs ++ ys)) := if_pos h
theorem bin_l84 {a1 a2 a3 a4 a5 a6 a7 a8 b1 b2 b3 b4 : Q.D} : binD .add (.lst [a1, a2, a3, a4, a5, a6, a7, a8]) (.lst [b1, b2, b3, b4]) = some (true, .lst [a1, a2, a3, a4, a5, a6, a7, a8, b1, b2, b3, b4]) := bin_lst (xs := [a1, a2, a3, a4, a5, a6, a7, a8]) (ys := [b1, b2, b3, b4]) (show 12 ≤ 4000000 by decide)
theorem sl_tup {xs : List Q.D} {lo hi : Option Int} : slD (.tup xs) lo hi = some (false, .tup (cutD xs lo hi)) := rfl
theorem st_e1 (w : Wd) {day p : Int} {nm : Q.D} : xe C b22e1 (rw22 m fd x2 (some (false, .int day)) (some (false, (base w (.int day) nm (.int p)).d)) (some (false, .str w.s)) x7 (some (false, nm)) x9 dr) =
    .ok .nx (rw22 m fd x2 (some (false, .int day)) (some (false, (base w (.int day) nm (.int p)).d)) (some (false, .str w.s)) x7 (some (false, nm)) (some (false, .lst (((odds w (.int day) nm (.int p)).take 8).map En.d))) dr) := by
  cases w <;> simp [b22e1, rw22, isPk, isV, base, odds, En.d, En.ds, Wd.s, oth, bin_tup, sl_tup, cut31, cut32, cut3h, cut41, cut42, cut4h, lim]
theorem st_e2 (k : Nat) (hg : good dr) (w : Wd) {day p : Int} {nm : Q.D} : ∃ e ∈ odds w (.int day) nm (.int p), ∃ dr', good dr' ∧ xe (call T (k + 2)) b22e2 (rw22 m fd x2 (some (false, .int day)) (some (false, (base w (.int day) nm (.int p)).d)) (some (false, .str w.s)) x7 (some (false, nm)) (some (false, .lst (((odds w (.int day) nm (.int p)).take 8).map En.d))) dr) =
    .ok .nx (rw22 m fd x2 (some (false, .int day)) (some (false, e.d)) (some (false, .str w.s)) x7 (some (false, nm)) (some (false, .lst (((odds w (.int day) nm (.int p)).take 8).map En.d))) dr') := by
  obtain ⟨x, dr1, e1, hx, g1⟩ := law_pick k (ds := (odds w (.int day) nm (.int p)).map En.d) (by simp [odds]) hg
  obtain ⟨e, he, rfl⟩ := List.mem_map.mp hx
  refine ⟨e, he, dr1, g1, ?_⟩
  clear he hx
  generalize e.d = z at *
  cases w <;> simp only [odds, base, En.d, En.ds, Wd.s, oth, List.map] at e1 <;> simp [b22e2, rw22, isPk, isV, base, odds, En.d, En.ds, Wd.s, oth, bin_tup, bin_l84, sl_tup, cut32, cut33, cut42, cut43, lim, callD, anyO, e1]
end
end V09
end

section
set_option Elab.async false
set_option linter.all false
set_option maxRecDepth 100000
set_option maxHeartbeats 4000000
namespace V09
open Q Ek09 PySem
def pens : List Q.D := [.int 0, .int (-5), .non, .bl true, .str "1", .int 10000001, .int 10000000]
theorem pens_ok {x : Q.D} (h : x ∈ pens) : sim x = true ∧ thinB x = true := by
  have : (pens.all fun x => sim x && thinB x) = true := by kernel_rfl
  have := List.all_eq_true.mp this x h
  rwa [Bool.and_eq_true] at this
theorem pow7 : binD .pow (.int 10) (.int 7) = some (false, .int 10000000) := by simp [binD]
section
variable {m : Int} {fd : List Q.D} {x2 x4 x5 x6 x7 x8 x9 : Option (Bool × Q.D)} {dr : List Q.D}
theorem st_f0 {C : Cl} {od : Int} (ho : od ≠ 1) : xe C b22f (rw22 m fd x2 x4 x5 x6 (some (false, .int od)) x8 x9 dr) = .ok .nx (rw22 m fd x2 x4 x5 x6 (some (false, .int od)) x8 x9 dr) := by
  simp [b22f, rw22, isPk, isV, ho]
theorem st_f1 (k : Nat) (hg : good dr) (w : Wd) {day p : Int} {nm : Q.D} (hn : N3 nm) (td : thinB (.int day) = true) (tp : thinB (.int p) = true) : ∃ e dr', fine e ∧ good dr' ∧ xe (call T (k + 2)) b22f (rw22 m fd x2 x4 (some (false, (base w (.int day) nm (.int p)).d)) x6 (some (false, .int 1)) x8 x9 dr) = .ok .nx (rw22 m fd x2 x4 (some (false, e.d)) x6 (some (false, .int 1)) x8 x9 dr') := by
  have fb := fine_base w (d := .int day) (p := .int p) rfl rfl hn.n5 td hn.th tp
  obtain ⟨x, dr1, e1, hx, g1⟩ := law_pick k (ds := pens) (by simp [pens]) hg
  obtain ⟨hs, ht⟩ := pens_ok hx
  simp only [pens] at e1
  have f3 := fun w => fine_base w (d := .int day) (p := x) rfl hs hn.n5 td hn.th ht
  cases w with
  | leave => exact ⟨_, dr, fb, hg, by simp [b22f, rw22, isPk, isV, base, En.d, En.ds]⟩
  | join => exact ⟨_, dr1, f3 .join, g1, by simp [b22f, rw22, isPk, isV, base, En.d, En.ds, sl_tup, cut4i, callD, anyO, pow7, e1, bin_tup, lim]⟩
  | pay => exact ⟨_, dr1, f3 .pay, g1, by simp [b22f, rw22, isPk, isV, base, En.d, En.ds, sl_tup, cut4i, callD, anyO, pow7, e1, bin_tup, lim]⟩
  | back => exact ⟨_, dr1, f3 .back, g1, by simp [b22f, rw22, isPk, isV, base, En.d, En.ds, sl_tup, cut4i, callD, anyO, pow7, e1, bin_tup, lim]⟩
theorem st_e (k : Nat) (hg : good dr) (w : Wd) {od day p : Int} {nm : Q.D} (hn : N3 nm) (td : thinB (.int day) = true) (tp : thinB (.int p) = true) : ∃ e x9' dr', fine e ∧ good dr' ∧ xes (call T (k + 2)) [.ite (.cmp .eq (.v 7) (.c (.int 0))) [b22e1, b22e2] [], b22f] (rw22 m fd x2 (some (false, .int day)) (some (false, (base w (.int day) nm (.int p)).d)) (some (false, .str w.s)) (some (false, .int od)) (some (false, nm)) x9 dr) =
    .ok .nx (rw22 m fd x2 (some (false, .int day)) (some (false, e.d)) (some (false, .str w.s)) (some (false, .int od)) (some (false, nm)) x9' dr') := by
  by_cases h0 : od = 0
  · subst h0
    obtain ⟨e, he, dr1, g1, e1⟩ := st_e2 (m := m) (fd := fd) (x2 := x2) (x7 := some (false, .int 0)) k hg w (day := day) (p := p) (nm := nm)
    refine ⟨e, (some (false, .lst (((odds w (.int day) nm (.int p)).take 8).map En.d))), dr1, fine_odds w hn td tp e he, g1, (xes_nx (s1 := rw22 m fd x2 (some (false, .int day)) (some (false, e.d)) (some (false, .str w.s)) (some (false, .int 0)) (some (false, nm)) (some (false, .lst (((odds w (.int day) nm (.int p)).take 8).map En.d))) dr1) ?_).trans ?_⟩
    · rw [xe_ite]
      have hc : ∀ z9, ev (call T (k + 2)) (.cmp .eq (.v 7) (.c (.int 0))) (rw22 m fd x2 (some (false, .int day)) (some (false, (base w (.int day) nm (.int p)).d)) (some (false, .str w.s)) (some (false, .int 0)) (some (false, nm)) z9 dr) = .ok (false, .bl true) (rw22 m fd x2 (some (false, .int day)) (some (false, (base w (.int day) nm (.int p)).d)) (some (false, .str w.s)) (some (false, .int 0)) (some (false, nm)) z9 dr) := fun z9 => by simp [rw22]
      rw [hc]
      simp only [R.b_ok, tru_bl, if_true]
      rw [xes_nx (st_e1 w), xes_one, e1]
    · rw [xes_one]
      exact st_f0 (by omega)
  · have hs : xe (call T (k + 2)) (.ite (.cmp .eq (.v 7) (.c (.int 0))) [b22e1, b22e2] []) (rw22 m fd x2 (some (false, .int day)) (some (false, (base w (.int day) nm (.int p)).d)) (some (false, .str w.s)) (some (false, .int od)) (some (false, nm)) x9 dr) = .ok .nx (rw22 m fd x2 (some (false, .int day)) (some (false, (base w (.int day) nm (.int p)).d)) (some (false, .str w.s)) (some (false, .int od)) (some (false, nm)) x9 dr) := by
      simp [rw22, h0]
    by_cases h1 : od = 1
    · subst h1
      obtain ⟨e, dr1, fe, g1, e1⟩ := st_f1 (m := m) (fd := fd) (x2 := x2) (x4 := some (false, .int day)) (x6 := some (false, .str w.s)) (x8 := some (false, nm)) (x9 := x9) k hg w hn td tp
      exact ⟨e, x9, dr1, fe, g1, (xes_nx hs).trans (by rw [xes_one, e1])⟩
    · exact ⟨_, x9, dr, fine_base w (d := .int day) (p := .int p) rfl rfl hn.n5 td hn.th tp, hg, (xes_nx hs).trans (by rw [xes_one, st_f0 h1])⟩
theorem turn22 (k : Nat) (hg : good dr) {day : Int} {es : List En} (h0 : 0 ≤ day) (h1 : day < 900) (hl : es.length ≤ 1000) : ∃ e day' x5' x6' x7' x8' x9' dr', fine e ∧ 0 ≤ day' ∧ day' ≤ day + 3 ∧ good dr' ∧ xes (call T (k + 2)) b22 (rw22 m (es.map En.d) x2 (some (false, .int day)) x5 x6 x7 x8 x9 dr) = .ok .nx (rw22 m ((es ++ [e]).map En.d) x2 (some (false, .int day')) x5' x6' x7' x8' x9' dr') := by
  obtain ⟨day', dr1, e1, a1, a2, g1⟩ := st_a (m := m) (fd := es.map En.d) (x2 := x2) (x5 := x5) (x6 := x6) (x7 := x7) (x8 := x8) (x9 := x9) k hg h0
  obtain ⟨w, od, nm, dr2, e2, hn, g2⟩ := st_b (m := m) (fd := es.map En.d) (x2 := x2) (x4 := some (false, .int day')) (x5 := x5) (x6 := x6) (x7 := x7) (x8 := x8) (x9 := x9) k g1
  obtain ⟨p, dr3, e3, p0, p1, g3⟩ := st_c (m := m) (fd := es.map En.d) (x2 := x2) (x5 := x5) (x7 := some (false, .int od)) (x9 := x9) k g2 (w := w.s) (day := day') (nm := nm)
  have e4 := st_d (C := call T (k + 2)) (m := m) (fd := es.map En.d) (x2 := x2) (x7 := some (false, .int od)) (x9 := x9) (dr := dr3) w (day := day') (p := p) (nm := nm)
  obtain ⟨e, x9', dr4, fe, g4, e5⟩ := st_e (m := m) (fd := es.map En.d) (x2 := x2) (x9 := x9) k g3 w (od := od) (day := day') (p := p) hn (thin_int a1 (by omega)) (thin_int (by omega) (by omega))
  refine ⟨e, day', some (false, e.d), some (false, .str w.s), some (false, .int od), some (false, nm), x9', dr4, fe, a1, a2, g4, ?_⟩
  have e6 : xe (call T (k + 2)) (.app 3 (.v 5)) (rw22 m (es.map En.d) x2 (some (false, .int day')) (some (false, e.d)) (some (false, .str w.s)) (some (false, .int od)) (some (false, nm)) x9' dr4) = .ok .nx (rw22 m ((es ++ [e]).map En.d) x2 (some (false, .int day')) (some (false, e.d)) (some (false, .str w.s)) (some (false, .int od)) (some (false, nm)) x9' dr4) := by
    have : es.length < lim := Nat.lt_of_le_of_lt hl (by decide)
    simp [rw22, this]
  unfold b22
  rw [xes_nx e1, xes_nx e2, xes_nx e3, xes_nx e4]
  have key : ∀ (a b c : Sx) (s s1 s2 : S), xes (call T (k + 2)) [a, b] s = .ok .nx s1 → xe (call T (k + 2)) c s1 = .ok .nx s2 → xes (call T (k + 2)) [a, b, c] s = .ok .nx s2 := by
    intro a b c s s1 s2 h h2
    rw [xes_cons] at h ⊢
    cases ha : xe (call T (k + 2)) a s with
    | ok f s' =>
      rw [ha] at h
      cases f with
      | nx =>
        simp only [R.b_ok, xes_one] at h ⊢
        rw [xes_nx h, xes_one, h2]
      | _ => simp only [R.b_ok] at h; cases h
    | exc _ _ => rw [ha] at h; cases h
    | bad => rw [ha] at h; cases h
  exact key _ _ _ _ _ _ e5 e6
end
theorem law_draft (k : Nat) {dr : List Q.D} (hg : good dr) {m : Nat} (hm : m ≤ 20) : ∃ es dr', call T (k + 3) 22 [.cel 0, .int m] [dr] = .ok (true, dl es) [dr'] ∧ (∀ e ∈ es, fine e) ∧ es.length = m ∧ good dr' := by
  obtain ⟨day, dr1, e1, d0, d1, _, g1⟩ := law_take (k + 1) (b := 9) (by omega) hg
  have hf := for_inv (f := fun x s => (R.of (asg (.n 2) x s.r) s).b fun r s => xes (call T (k + 2)) b22 ⟨r, s.c⟩)
    (I := fun i s => ∃ es dy y2 y5 y6 y7 y8 y9 dr', s = rw22 m (es.map En.d) y2 (some (false, .int dy)) y5 y6 y7 y8 y9 dr' ∧ 0 ≤ dy ∧ dy ≤ 9 + 3 * (i : Int) ∧ (∀ e ∈ es, fine e) ∧ es.length = i ∧ good dr') (xs := rngD 0 m) (i := 0) (s := rw22 m [] none (some (false, .int day)) none none none none none dr1) ⟨[], day, none, none, none, none, none, none, dr1, rfl, d0, by omega, fun e h => (by cases h), rfl, g1⟩ (fun j x s hk => by
      rintro ⟨es, dy, y2, y5, y6, y7, y8, y9, dr', rfl, a, b, f, hl, g⟩
      have hk' : j < m := by have := (List.getElem?_eq_some_iff.mp hk).1; rwa [rngD_len] at this
      obtain ⟨e, dy', z5, z6, z7, z8, z9, dr2, fe, a2, b2, g2, e2⟩ := turn22 (m := (m : Int)) (x2 := some (false, x)) (x5 := y5) (x6 := y6) (x7 := y7) (x8 := y8) (x9 := y9) k g (day := dy) (es := es) a (by omega) (by omega)
      refine ⟨_, .inl e2, es ++ [e], dy', _, z5, z6, z7, z8, z9, dr2, rfl, a2, by omega, ?_, by simp [hl], g2⟩
      intro y hy
      rcases List.mem_append.mp hy with h | h
      · exact f y h
      · simp at h; rw [h]; exact fe)
  obtain ⟨s', ef, es, dy, y2, y5, y6, y7, y8, y9, dr2, rfl, a, b, f, hl, g⟩ := hf
  rw [rngD_len] at hl
  refine ⟨es, dr2, ?_, f, by omega, g⟩
  refine call_ret (b := e22) (s := rw22 m (es.map En.d) y2 (some (false, .int dy)) y5 y6 y7 y8 y9 dr2) rfl rfl ?_
  refine (xes_nx (s1 := rw22 m [] none (some (false, .int day)) none none none none none dr1) (by simp [isPk, isV, callD, anyO, e1, parR, rw22])).trans ?_
  refine (xes_nx (s1 := rw22 m (es.map En.d) y2 (some (false, .int dy)) y5 y6 y7 y8 y9 dr2) ?_).trans ?_
  · exact (xe_for_of (ds := [.int m]) (by simp [rw22, isPk]) (itD_rng (rng_ok (by omega) (by omega)))).trans ef
  · simp [rw22]
end V09
end

section
set_option Elab.async false
set_option linter.all false
set_option maxRecDepth 100000
set_option maxHeartbeats 4000000
namespace V09
open Q Ek09 PySem
/-! ### one draft -/
theorem told (k : Nat) {es : List En} (h : oks es) (hl : es.length ≤ 1000) (c : Cells) : call T (k + 6) 19 [dl es] c = .ok (true, .lst (faults es)) c := by
  refine call_ret (b := e19) (s := ⟨[some (false, dl es), none], c⟩) rfl rfl ?_
  have e : xes (call T (k + 5)) [.ret (.call 9 [.v 0])] ⟨[some (false, dl es), none], c⟩ = .ok (.ret true (.lst (faults es))) ⟨[some (false, dl es), none], c⟩ := by
    simp [isPk, isV, callD, anyO, share_faults k h hl]
  show xes (call T (k + 5)) [.tryF [.ret (.call 9 [.v 0])] _] ⟨[some (false, dl es), none], c⟩ = _
  rw [xes_one]
  unfold xe
  rw [e]
theorem flt_sok (e : En) (l : Int) : ∀ w, e.flt l = some w → PyData.strOk w = true := by
  have f3 : ∀ d nm p l w, fl3 d nm p l = some w → PyData.strOk w = true := fun d nm p l w h => by
    unfold fl3 at h
    repeat' split at h
    all_goals first | cases h | skip
    all_goals kernel_rfl
  intro w h
  cases e <;> simp only [En.flt] at h
  case lv => exact f3 _ _ _ _ _ h
  case jn => exact f3 _ _ _ _ _ h
  case ot => exact f3 _ _ _ _ _ h
  all_goals (cases h; kernel_rfl)
theorem fls_sm : ∀ (es : List En) (a l : Int), (∀ d ∈ fls es a l, sm 1 d = true) ∧ (fls es a l).length ≤ es.length
  | [], _, _ => ⟨fun d h => (by cases h), Nat.le_refl _⟩
  | e :: r, a, l => by
    obtain ⟨i1, i2⟩ := fls_sm r (a + 1) (nx l e.ds)
    simp only [fls]
    cases hf : e.flt l with
    | none => exact ⟨by simpa using i1, by simp only [List.nil_append, List.length_cons]; omega⟩
    | some w =>
      refine ⟨fun d hd => ?_, by simp only [List.cons_append, List.nil_append, List.length_cons]; omega⟩
      simp only [List.cons_append, List.nil_append] at hd
      rcases List.mem_cons.mp hd with x | x
      · rw [x]
        simp [sm, flt_sok e l w hf]
      · exact i1 d x
theorem faults_sm {es : List En} (hl : es.length ≤ 1000) : sm 2 (.lst (faults es)) = true := by
  obtain ⟨i1, i2⟩ := fls_sm es 0 0
  have m1 : ∀ d ∈ many es.length, sm 1 d = true := fun d hd => by
    unfold many at hd
    split at hd
    · simp only [List.mem_cons, List.not_mem_nil, or_false] at hd
      rw [hd]
      simp [sm]
      kernel_rfl
    · cases hd
  have m2 : (many es.length).length ≤ 1 := by unfold many; split <;> simp
  have h1 : (faults es).length ≤ 10000 := by
    unfold faults
    rw [List.length_append]
    omega
  have h2 : ∀ d ∈ faults es, sm 1 d = true := fun d hd => by
    rcases List.mem_append.mp hd with x | x
    · exact m1 d x
    · exact i1 d x
  show (decide ((faults es).length ≤ 10000) && (faults es).all (sm 1)) = true
  rw [Bool.and_eq_true, decide_eq_true_eq, List.all_eq_true]
  exact ⟨h1, h2⟩
theorem repr_ok {es : List En} (h : ∀ e ∈ es, fine e) (hl : es.length ≤ 20) : ∃ x : Str, PyData.strOk x = true ∧ ∀ c, biD .repr [dl es] c = some (false, .str x) := by
  have h1 : ∀ d ∈ es.map En.d, thin 19 1023 d := fun d hd => by
    obtain ⟨e, he, rfl⟩ := List.mem_map.mp hd
    obtain ⟨_, ht, hn⟩ := h e he
    refine thin_mono (thin_tup fun d hd => thinB.t (ht d hd)) ?_
    have : e.ds.length * 102 ≤ 10 * 102 := Nat.mul_le_mul_right _ hn
    show e.ds.length * 102 + 3 ≤ 1023
    omega
  obtain ⟨a, b, d, s⟩ := thin_lst h1
  refine ⟨_, s, fun c => ?_⟩
  have hs : ((es.map En.d).length * (1023 + 2) + 3) ≤ lim := by
    rw [List.length_map]
    have : es.length * 1025 ≤ 20 * 1025 := Nat.mul_le_mul_right _ hl
    show es.length * 1025 + 3 ≤ 4000000
    omega
  show (if _ then _ else _) = _
  rw [if_pos]
  rw [Bool.and_eq_true, Bool.and_eq_true, decide_eq_true_eq]
  exact ⟨⟨d, b⟩, Nat.le_trans a hs⟩
theorem flats_good {dr : List Q.D} (h : good dr) : flats dr = true := by
  induction dr with
  | nil => simp [flats]
  | cons x r ih =>
    obtain ⟨i, rfl, _⟩ := h x (by simp)
    simp only [flats, flat, Bool.true_and]
    exact ih fun d hd => h d (List.mem_cons_of_mem _ hd)
abbrev CC : Cl := call T 11
theorem callO {j : Nat} {es : List Ex} {ds : List Q.D} {b : Bool} {r : Row} {dr : List Q.D} (hg : good dr) (h : CC j ds [dr] = .ok (false, .bl b) [dr]) : callD CC j es ds ⟨r, [dr]⟩ = .ok (false, .bl b) ⟨r, [dr]⟩ := by
  unfold callD
  rw [h]
  have : (noAl false (.bl b) && [dr].all flats) = true := by simp [noAl, flat, flats_good hg]
  simp only [R.b_ok, this]
  simp
abbrev rw23 (v0 : Q.D) (x2 x3 x4 x5 x6 x7 x9 x10 : Option (Bool × Q.D)) : Row := [some (false, v0), some (false, .cel 0), x2, x3, x4, x5, x6, x7, none, x9, x10, none]
def body6 : List Sx := [.set 7 (.call 22 [.v 1, .v 6]), .par [(9, false), (10, false)] [.bi .repr [.v 7], .call 21 [.v 7]], .own 5 (.call 19 [.v 7]), .ite (.or (.not (.call 16 [.v 5, .v 10])) (.or (.not (.call 16 [.call 12 [.v 7], .cmp .eq (.v 10) (.lst [])])) (.cmp .ne (.bi .repr [.v 7]) (.v 9)))) [.ret (.c (.bl false))] [], .app 5 (.c (.str "more"))]
theorem eq_lnil {ds : List Q.D} (h : pl 60 (.lst ds) = true) : cmpD .eq (.lst ds) (.lst []) = some ds.isEmpty := by
  simp only [cmpD, h, Bool.true_and]
  cases ds <;> simp [pl, eqD, eqDs]
theorem sm_pl : ∀ (n : Nat) (m : Nat) (x : Q.D), n ≤ m → sm n x = true → pl m x = true
  | n, m, .non, _, _ => by unfold pl; rfl
  | n, m, .bl _, _, _ => by unfold pl; rfl
  | n, m, .int _, _, _ => by unfold pl; rfl
  | n, m, .str x, _, h => by unfold sm at h; unfold pl; exact h
  | n + 1, m + 1, .tup ds, hm, h => by
    simp only [sm, Bool.and_eq_true] at h
    simp only [pl]
    exact List.all_eq_true.mpr fun d hd => sm_pl n m d (by omega) (List.all_eq_true.mp h.2 d hd)
  | n + 1, m + 1, .lst ds, hm, h => by
    simp only [sm, Bool.and_eq_true] at h
    simp only [pl]
    exact List.all_eq_true.mpr fun d hd => sm_pl n m d (by omega) (List.all_eq_true.mp h.2 d hd)
  | 0, _, .tup _, _, h => by simp [sm] at h
  | 0, _, .lst _, _, h => by simp [sm] at h
  | _, _, .dct _, _, h => by simp [sm] at h
  | _, _, .cel _, _, h => by simp [sm] at h
theorem turn6 {v0 : Q.D} {x2 x3 x4 x5 x7 x9 x10 : Option (Bool × Q.D)} {m : Nat} (hm : m ≤ 20) {dr : List Q.D} (hg : good dr) : ∃ y5 y7 y9 y10 dr', good dr' ∧ xes CC body6 ⟨rw23 v0 x2 x3 x4 x5 (some (false, .int m)) x7 x9 x10, [dr]⟩ = .ok .nx ⟨rw23 v0 x2 x3 x4 y5 (some (false, .int m)) y7 y9 y10, [dr']⟩ := by
  obtain ⟨es, dr', e1, hf, hl, g⟩ := law_draft 8 hg hm
  have ho : oks es := fun e he => (hf e he).1
  have hl2 : es.length ≤ 1000 := by omega
  obtain ⟨x, hx, hr⟩ := repr_ok hf (by omega)
  have e2 : CC 21 [dl es] [dr'] = _ := law_faults 9 ho hl2 [dr']
  have e3 : CC 19 [dl es] [dr'] = _ := told 5 ho hl2 [dr']
  have e4 : CC 12 [dl es] [dr'] = _ := is_share_book 6 ho hl2 [dr']
  have hsm := faults_sm hl2
  have e5 : CC 16 [.lst (faults es), .lst (faults es)] [dr'] = _ := same 2 _ hsm 8 [dr']
  have e6 : CC 16 [.bl (faults es).isEmpty, .bl (faults es).isEmpty] [dr'] = _ := same 0 _ rfl 10 [dr']
  have e1 : CC 22 [.cel 0, .int m] [dr] = _ := e1
  have e7 := eq_lnil (sm_pl 2 60 _ (by omega) hsm)
  have e8 : cmpD .ne (.str x) (.str x) = some false := by simp [cmpD, pl, eqD, hx]
  have c5 := fun {es : List Ex} {r : Row} => callO (es := es) (r := r) g e5
  have c6 := fun {es : List Ex} {r : Row} => callO (es := es) (r := r) g e6
  have c4 := fun {es : List Ex} {r : Row} => callO (es := es) (r := r) g e4
  have hfl : (faults es).length < lim := by
    have := hsm
    simp only [sm, Bool.and_eq_true, decide_eq_true_eq] at this
    exact Nat.lt_of_le_of_lt this.1 (by decide)
  refine ⟨some (true, .lst (faults es ++ [.str "more"])), some (false, dl es), some (false, .str x), some (false, .lst (faults es)), dr', g, ?_⟩
  generalize dl es = de at *
  generalize hfa : faults es = fa at *
  clear hsm e5 e6 e4
  unfold body6
  refine (xes_nx (s1 := ⟨rw23 v0 x2 x3 x4 x5 (some (false, .int m)) (some (false, de)) x9 x10, [dr']⟩) (by simp [isPk, isV, callD, anyO, e1])).trans ?_
  refine (xes_nx (s1 := ⟨rw23 v0 x2 x3 x4 x5 (some (false, .int m)) (some (false, de)) (some (false, .str x)) (some (false, .lst fa)), [dr']⟩) (by simp [isPk, isV, callD, anyO, e2, hr, parR])).trans ?_
  refine (xes_nx (s1 := ⟨rw23 v0 x2 x3 x4 (some (true, .lst fa)) (some (false, .int m)) (some (false, de)) (some (false, .str x)) (some (false, .lst fa)), [dr']⟩) (by simp [isPk, isV, callD, anyO, e3])).trans ?_
  refine (xes_nx (s1 := ⟨rw23 v0 x2 x3 x4 (some (true, .lst fa)) (some (false, .int m)) (some (false, de)) (some (false, .str x)) (some (false, .lst fa)), [dr']⟩) (by simp [isPk, isV, c5, c6, c4, hr, e7, e8])).trans ?_
  simp [hfl]
end V09
end

section
set_option Elab.async false
set_option linter.all false
set_option maxRecDepth 100000
set_option maxHeartbeats 4000000
namespace V09
open Q Ek09 PySem
/-! ### the law -/
def lvs (n : Nat) : List En := (List.range n).map fun i => .lv (.int ((i : Nat) / 2 : Int)) (.str "ann")
theorem lvs_ok (n : Nat) : oks (lvs n) := fun e he => by
  obtain ⟨i, _, rfl⟩ := List.mem_map.mp he
  exact ⟨rfl, .ann⟩
theorem f200 : faults (lvs 200) = [] := by kernel_rfl
theorem f201 : faults (lvs 201) = [.tup [.str "many", .int 201]] := by kernel_rfl
def NR : Q.D := .lst [.bl true, .bl false, .bl false, .bl false, .bl false]
def vals : List Q.D := [.non, .tup [], .tup [.tup [.str "leave", .int 1, .str "ann"]], .lst [.lst [.str "leave", .int 1, .str "ann"]], .lst [.non], .str "text", .dct []]
theorem told_bad (c : Cells) : ∀ v ∈ vals, CC 19 [v] c = .ok (true, NR) c := by
  intro v hv
  simp only [vals, List.mem_cons, List.not_mem_nil, or_false] at hv
  rcases hv with rfl | rfl | rfl | rfl | rfl | rfl | rfl <;> kernel_rfl
def L1 : List Q.D := [.tup [.str "join", .int 5, .str "ann", .int 1], .tup [.str "pay", .int 4, .str "ann", .int 1], .tup [.str "leave", .int 6], .tup [.str "back", .int 7, .str "Ann", .int 1], .tup [.str "pay", .int 8, .str "ann", .int 0]]
def L2 : List Q.D := [.tup [.str "join", .int 1, .str "Ann", .int 0], .tup [.str "join", .int 1, .str "ann", .int 10000001], .tup [.str "pay", .int 1, .str "ann", .int 1000000000]]
def F1 : List Q.D := [.tup [.str "back", .int 1], .tup [.str "form", .int 2], .tup [.str "name", .int 3], .tup [.str "pence", .int 4]]
def F2 : List Q.D := [.tup [.str "name", .int 0], .tup [.str "pence", .int 1]]
theorem sf1 (c : Cells) : CC 9 [.lst L1] c = .ok (true, .lst F1) c := by kernel_rfl
theorem sf2 (c : Cells) : CC 9 [.lst L2] c = .ok (true, .lst F2) c := by kernel_rfl
theorem sf3 (c : Cells) : CC 9 [.lst []] c = .ok (true, .lst []) c := by kernel_rfl
theorem ev_rep_of {C : Cl} {a b : Ex} {s s1 s2 : S} {xs : List Q.D} {o : Bool} {j : Int} (ha : ev C a s = .ok (true, .lst xs) s1) (hb : ev C b s1 = .ok (o, .int j) s2) (hl : xs.length * j.toNat ≤ lim) (hj : isRng j = true) (hp : isPk a = false) : ev C (.rep a b) s = .ok (true, .lst (List.replicate j.toNat xs).flatten) s2 := by
  rw [ev_rep, ha, R.b_ok, hb, R.b_ok]
  show (if _ then _ else _) = _
  rw [if_pos]
  rw [hp, hj, decide_eq_true hl]
  rfl
theorem le_lim {n : Nat} (h : n ≤ 1000) : n ≤ lim := Nat.le_trans h (Nat.le_of_ble_eq_true rfl)
theorem rep_ev {C : Cl} {a b : Ex} {s s1 s2 : S} {xs ys : List Q.D} {o : Bool} {j : Int} (ha : ev C a s = .ok (true, .lst xs) s1) (hb : ev C b s1 = .ok (o, .int j) s2) (hl : xs.length ≤ 10) (h0 : 0 ≤ j) (h1 : j ≤ 10) (hp : isPk a = false) (hy : (List.replicate j.toNat xs).flatten = ys) : ev C (.rep a b) s = .ok (true, .lst ys) s2 := by
  rw [← hy]
  refine ev_rep_of ha hb (le_lim ?_) (rng_ok h0 (by omega)) hp
  exact Nat.le_trans (Nat.mul_le_mul hl (show j.toNat ≤ 10 by omega)) (by decide)
section
variable {v0 : Q.D} {x2 x3 x4 x5 x6 x7 x9 x10 : Option (Bool × Q.D)} {dr : List Q.D}
def s3 : Sx := .set 3 (.lc (.tup [.c (.str "leave"), .bin .fdiv (.v 8) (.c (.int 2)), .c (.str "ann")]) (.n 8) .rng [.call 15 [.v 1, .lst [.c (.int 200), .c (.int 201)]]] none [8])
def s4 : Sx := .ite (.not (.call 16 [.lst [.call 19 [.v 3], .call 12 [.v 3]], .lst [.rep (.lst [.tup [.c (.str "many"), .c (.int 201)]]) (.bi .int [.cmp .gt (.bi .len [.v 3]) (.c (.int 200))]), .cmp .lt (.bi .len [.v 3]) (.c (.int 201))]])) [.ret (.c (.bl false))] []
def s5 : Sx := .set 4 (.lst [.c .non, .tup [], .tup [.tup [.c (.str "leave"), .c (.int 1), .c (.str "ann")]], .lst [.lst [.c (.str "leave"), .c (.int 1), .c (.str "ann")]], .lst [.c .non], .c (.str "text"), .dct []])
def s6 : Sx := .ite (.not (.call 16 [.lc (.call 19 [.v 11]) (.n 11) .seq [.v 4] none [11], .rep (.lst [.lst [.c (.bl true), .c (.bl false), .c (.bl false), .c (.bl false), .c (.bl false)]]) (.c (.int 7))])) [.ret (.c (.bl false))] []
def s7 : Sx := .own 5 (.lst [.call 9 [.lst [.tup [.c (.str "join"), .c (.int 5), .c (.str "ann"), .c (.int 1)], .tup [.c (.str "pay"), .c (.int 4), .c (.str "ann"), .c (.int 1)], .tup [.c (.str "leave"), .c (.int 6)], .tup [.c (.str "back"), .c (.int 7), .c (.str "Ann"), .c (.int 1)], .tup [.c (.str "pay"), .c (.int 8), .c (.str "ann"), .c (.int 0)]]]])
def s8 : Sx := .own 5 (.bin .add (.v 5) (.lst [.call 9 [.lst [.tup [.c (.str "join"), .c (.int 1), .c (.str "Ann"), .c (.int 0)], .tup [.c (.str "join"), .c (.int 1), .c (.str "ann"), .bin .add (.bin .pow (.c (.int 10)) (.c (.int 7))) (.c (.int 1))], .tup [.c (.str "pay"), .c (.int 1), .c (.str "ann"), .bin .pow (.c (.int 10)) (.c (.int 9))]]]]))
def s9 : Sx := .own 5 (.bin .add (.v 5) (.lst [.call 9 [.lst []]]))
def s10 : Sx := .ret (.call 16 [.v 5, .lst [.lst [.tup [.c (.str "back"), .c (.int 1)], .tup [.c (.str "form"), .c (.int 2)], .tup [.c (.str "name"), .c (.int 3)], .tup [.c (.str "pence"), .c (.int 4)]], .lst [.tup [.c (.str "name"), .c (.int 0)], .tup [.c (.str "pence"), .c (.int 1)]], .lst []]])
theorem st3 (hg : good dr) : ∃ (n : Nat) (dr' : List Q.D), (n = 200 ∨ n = 201) ∧ good dr' ∧ xe CC s3 ⟨rw23 v0 x2 x3 x4 x5 x6 x7 x9 x10, [dr]⟩ = .ok .nx ⟨rw23 v0 x2 (some (false, dl (lvs n))) x4 x5 x6 x7 x9 x10, [dr']⟩ := by
  obtain ⟨x, dr', e, hx, g⟩ := law_pick 9 (ds := [.int 200, .int 201]) (by simp) hg
  have key : ∃ n : Nat, x = .int n ∧ (n = 200 ∨ n = 201) := by
    simp only [List.mem_cons, List.not_mem_nil, or_false] at hx
    rcases hx with rfl | rfl
    · exact ⟨200, rfl, .inl rfl⟩
    · exact ⟨201, rfl, .inr rfl⟩
  obtain ⟨n, rfl, hn⟩ := key
  have e : CC 15 [.cel 0, .lst [.int 200, .int 201]] [dr] = _ := e
  refine ⟨n, dr', hn, g, ?_⟩
  have hlc : ev CC (.lc (.tup [.c (.str "leave"), .bin .fdiv (.v 8) (.c (.int 2)), .c (.str "ann")]) (.n 8) .rng [.call 15 [.v 1, .lst [.c (.int 200), .c (.int 201)]]] none [8]) ⟨rw23 v0 x2 x3 x4 x5 x6 x7 x9 x10, [dr]⟩ = .ok (true, dl (lvs n)) ⟨rw23 v0 x2 x3 x4 x5 x6 x7 x9 x10, [dr']⟩ := by
    refine ev_lcP (s1 := ⟨rw23 v0 x2 x3 x4 x5 x6 x7 x9 x10, [dr']⟩) (ds := [.int n]) (xs := rngD 0 n) (w := rw23 v0 x2 x3 x4 x5 x6 x7 x9 x10) (fun d => match d with | .int i => some (.tup [.str "leave", .int (i / 2), .str "ann"]) | _ => none) (by simp [isPk, isV, callD, anyO, e]) (itD_rng (rng_ok (by omega) (by omega))) ?_ ?_ ?_ ?_ ?_ ?_
    · simp [tgIn, notOwn]
    · rw [rngD_len]
      exact Nat.le_trans (show n ≤ 201 by omega) (by decide)
    · simp
    · simp [fzD, wipeR]
    · intro y hy
      unfold rngD at hy
      obtain ⟨i, hi, rfl⟩ := List.mem_map.mp hy
      refine ⟨[some (false, v0), some (false, .cel 0), x2, x3, x4, x5, x6, x7, some (false, .int (0 + (i : Int))), x9, x10, none], by simp [asg], by simp [wipeR], .inr ⟨rfl, (false, .tup [.str "leave", .int ((0 + (i : Int)) / 2), .str "ann"]), ?_, rfl, rfl⟩⟩
      have h2 : smI 2 = true := sml.sm (k := 20) (by unfold sml; omega) (by decide)
      simp [isPk, h2]
    · unfold rngD lvs
      rw [List.filterMap_map, List.map_map]
      rw [← List.filterMap_eq_map]
      refine congrArg (fun f => List.filterMap f (List.range n)) (funext fun i => ?_)
      simp [En.d, En.ds]
  unfold s3
  rw [xe_set, hlc]
  simp [isPk]
theorem gsm {ds : List Q.D} (h : sm 3 (.lst ds) = true) (c : Cells) : CC 16 [.lst ds, .lst ds] c = .ok (false, .bl true) c := same 3 _ h 7 c
theorem st4 (hg : good dr) {n : Nat} (hn : n = 200 ∨ n = 201) : xe CC s4 ⟨rw23 v0 x2 (some (false, dl (lvs n))) x4 x5 x6 x7 x9 x10, [dr]⟩ = .ok .nx ⟨rw23 v0 x2 (some (false, dl (lvs n))) x4 x5 x6 x7 x9 x10, [dr]⟩ := by
  have hlen : (lvs n).length = n := by simp [lvs]
  have e3 : CC 19 [dl (lvs n)] [dr] = _ := told 5 (lvs_ok n) (by omega) [dr]
  have e4 : CC 12 [dl (lvs n)] [dr] = _ := is_share_book 6 (lvs_ok n) (by omega) [dr]
  have bl : ∀ c, biD .len [dl (lvs n)] c = some (false, .int n) := fun c => by rw [bi_lenl, List.length_map, hlen]
  have e6 : CC 16 [.lst [.lst (faults (lvs n)), .bl (decide ((n : Int) < 201))], .lst [.lst (faults (lvs n)), .bl (decide ((n : Int) < 201))]] [dr] = .ok (false, .bl true) [dr] := by
    rcases hn with rfl | rfl
    · rw [f200]; exact gsm (ds := [.lst [], .bl true]) (by kernel_rfl) [dr]
    · rw [f201]; exact gsm (ds := [.lst [.tup [.str "many", .int 201]], .bl false]) (by kernel_rfl) [dr]
  have hem : (faults (lvs n)).isEmpty = decide ((n : Int) < 201) := by
    rcases hn with rfl | rfl
    · rw [f200]; rfl
    · rw [f201]; rfl
  have hfl : (List.replicate (bI (decide ((200 : Int) < (n : Int)))).toNat [Q.D.tup [.str "many", .int 201]]).flatten = faults (lvs n) := by
    rcases hn with rfl | rfl
    · rw [f200]; rfl
    · rw [f201]; rfl
  rw [hem] at e4
  generalize faults (lvs n) = fa at *
  generalize dl (lvs n) = de at *
  have h2 : ev CC (.rep (.lst [.tup [.c (.str "many"), .c (.int 201)]]) (.bi .int [.cmp .gt (.bi .len [.v 3]) (.c (.int 200))])) ⟨rw23 v0 x2 (some (false, de)) x4 x5 x6 x7 x9 x10, [dr]⟩ = .ok (true, .lst fa) ⟨rw23 v0 x2 (some (false, de)) x4 x5 x6 x7 x9 x10, [dr]⟩ := by
    refine rep_ev (s1 := ⟨rw23 v0 x2 (some (false, de)) x4 x5 x6 x7 x9 x10, [dr]⟩) (xs := [.tup [.str "many", .int 201]]) (o := false) (j := bI (decide ((200 : Int) < (n : Int)))) ?_ ?_ (by decide) ?_ ?_ rfl hfl
    · simp [isPk]
    · simp [isPk, isV, bl]
    · unfold bI; split <;> omega
    · unfold bI; split <;> omega
  have h1 : evA CC [.lst [.call 19 [.v 3], .call 12 [.v 3]], .lst [.rep (.lst [.tup [.c (.str "many"), .c (.int 201)]]) (.bi .int [.cmp .gt (.bi .len [.v 3]) (.c (.int 200))]), .cmp .lt (.bi .len [.v 3]) (.c (.int 201))]] ⟨rw23 v0 x2 (some (false, de)) x4 x5 x6 x7 x9 x10, [dr]⟩ = .ok [.lst [.lst fa, .bl (decide ((n : Int) < 201))], .lst [.lst fa, .bl (decide ((n : Int) < 201))]] ⟨rw23 v0 x2 (some (false, de)) x4 x5 x6 x7 x9 x10, [dr]⟩ := by
    have a1 : ev CC (.lst [.call 19 [.v 3], .call 12 [.v 3]]) ⟨rw23 v0 x2 (some (false, de)) x4 x5 x6 x7 x9 x10, [dr]⟩ = .ok (true, .lst [.lst fa, .bl (decide ((n : Int) < 201))]) ⟨rw23 v0 x2 (some (false, de)) x4 x5 x6 x7 x9 x10, [dr]⟩ := by
      simp [isPk, isV, callD, anyO, e3, e4]
    rw [evA_cons, a1, R.b_ok, evA_cons, ev_lst, evF_cons, h2]
    simp [isPk, isV, bl]
  have h16 : ev CC (.call 16 [.lst [.call 19 [.v 3], .call 12 [.v 3]], .lst [.rep (.lst [.tup [.c (.str "many"), .c (.int 201)]]) (.bi .int [.cmp .gt (.bi .len [.v 3]) (.c (.int 200))]), .cmp .lt (.bi .len [.v 3]) (.c (.int 201))]]) ⟨rw23 v0 x2 (some (false, de)) x4 x5 x6 x7 x9 x10, [dr]⟩ = .ok (false, .bl true) ⟨rw23 v0 x2 (some (false, de)) x4 x5 x6 x7 x9 x10, [dr]⟩ := by
    rw [ev_call, h1, R.b_ok]
    exact callO hg e6
  unfold s4
  rw [xe_ite, ev_not, h16]
  simp only [R.b_ok, tru_bl, Bool.not_true, Bool.false_eq_true, if_false, xes_nil]
theorem st5 : xe CC s5 ⟨rw23 v0 x2 x3 x4 x5 x6 x7 x9 x10, [dr]⟩ = .ok .nx ⟨rw23 v0 x2 x3 (some (false, .lst vals)) x5 x6 x7 x9 x10, [dr]⟩ := by
  simp [s5, isPk, isV, vals, mkD]
theorem st6 (hg : good dr) : xe CC s6 ⟨rw23 v0 x2 x3 (some (false, .lst vals)) x5 x6 x7 x9 x10, [dr]⟩ = .ok .nx ⟨rw23 v0 x2 x3 (some (false, .lst vals)) x5 x6 x7 x9 x10, [dr]⟩ := by
  have hlc : ev CC (.lc (.call 19 [.v 11]) (.n 11) .seq [.v 4] none [11]) ⟨rw23 v0 x2 x3 (some (false, .lst vals)) x5 x6 x7 x9 x10, [dr]⟩ = .ok (true, .lst (List.replicate 7 NR)) ⟨rw23 v0 x2 x3 (some (false, .lst vals)) x5 x6 x7 x9 x10, [dr]⟩ := by
    refine ev_lcP (s1 := ⟨rw23 v0 x2 x3 (some (false, .lst vals)) x5 x6 x7 x9 x10, [dr]⟩) (ds := [.lst vals]) (xs := vals) (w := rw23 v0 x2 x3 (some (false, .lst vals)) x5 x6 x7 x9 x10) (fun d => some NR) (by simp [isPk, isV]) rfl ?_ ?_ ?_ ?_ ?_ ?_
    · simp [tgIn, notOwn]
    · exact le_lim (show 7 ≤ 1000 by decide)
    · simp
    · simp [fzD, wipeR]
    · intro y hy
      have e := told_bad [dr] y hy
      exact ⟨[some (false, v0), some (false, .cel 0), x2, x3, some (false, .lst vals), x5, x6, x7, none, x9, x10, some (false, y)], by simp [asg], by simp [wipeR], .inr ⟨rfl, (true, NR), by simp [isPk, isV, callD, anyO, e], rfl, rfl⟩⟩
    · rfl
  have e6 := gsm (ds := List.replicate 7 NR) (by kernel_rfl) [dr]
  have hrep : ev CC (.rep (.lst [.lst [.c (.bl true), .c (.bl false), .c (.bl false), .c (.bl false), .c (.bl false)]]) (.c (.int 7))) ⟨rw23 v0 x2 x3 (some (false, .lst vals)) x5 x6 x7 x9 x10, [dr]⟩ = .ok (true, .lst (List.replicate 7 NR)) ⟨rw23 v0 x2 x3 (some (false, .lst vals)) x5 x6 x7 x9 x10, [dr]⟩ := by
    refine rep_ev (s1 := ⟨rw23 v0 x2 x3 (some (false, .lst vals)) x5 x6 x7 x9 x10, [dr]⟩) (xs := [NR]) (o := false) (j := 7) ?_ ?_ (by decide) (by decide) (by decide) rfl rfl
    · simp [isPk, NR]
    · simp
  have h16 : ev CC (.call 16 [.lc (.call 19 [.v 11]) (.n 11) .seq [.v 4] none [11], .rep (.lst [.lst [.c (.bl true), .c (.bl false), .c (.bl false), .c (.bl false), .c (.bl false)]]) (.c (.int 7))]) ⟨rw23 v0 x2 x3 (some (false, .lst vals)) x5 x6 x7 x9 x10, [dr]⟩ = .ok (false, .bl true) ⟨rw23 v0 x2 x3 (some (false, .lst vals)) x5 x6 x7 x9 x10, [dr]⟩ := by
    rw [ev_call, evA_cons, hlc]
    simp only [R.b_ok, isPk, Bool.and_false, Bool.false_and, Bool.false_eq_true, if_false, evA_cons, evA_nil]
    rw [hrep]
    simp only [R.b_ok, isPk, Bool.and_false, Bool.false_and, Bool.false_eq_true, if_false]
    exact callO hg e6
  unfold s6
  rw [xe_ite, ev_not, h16]
  simp only [R.b_ok, tru_bl, Bool.not_true, Bool.false_eq_true, if_false, xes_nil]
theorem pw9 : binD .pow (.int 10) (.int 9) = some (false, .int 1000000000) := by simp [binD]
theorem st7 : xe CC s7 ⟨rw23 v0 x2 x3 x4 x5 x6 x7 x9 x10, [dr]⟩ = .ok .nx ⟨rw23 v0 x2 x3 x4 (some (true, .lst [.lst F1])) x6 x7 x9 x10, [dr]⟩ := by
  have e := sf1 [dr]
  simp only [L1] at e
  simp [s7, isPk, isV, callD, anyO, e]
theorem st8 : xe CC s8 ⟨rw23 v0 x2 x3 x4 (some (true, .lst [.lst F1])) x6 x7 x9 x10, [dr]⟩ = .ok .nx ⟨rw23 v0 x2 x3 x4 (some (true, .lst [.lst F1, .lst F2])) x6 x7 x9 x10, [dr]⟩ := by
  have e := sf2 [dr]
  simp only [L2] at e
  have hb : binD .add (.lst [.lst F1]) (.lst [.lst F2]) = some (true, .lst [.lst F1, .lst F2]) := rfl
  simp [s8, isPk, isV, callD, anyO, pow7, pw9, e, hb]
theorem st9 : xe CC s9 ⟨rw23 v0 x2 x3 x4 (some (true, .lst [.lst F1, .lst F2])) x6 x7 x9 x10, [dr]⟩ = .ok .nx ⟨rw23 v0 x2 x3 x4 (some (true, .lst [.lst F1, .lst F2, .lst []])) x6 x7 x9 x10, [dr]⟩ := by
  have e := sf3 [dr]
  have hb : binD .add (.lst [.lst F1, .lst F2]) (.lst [.lst []]) = some (true, .lst [.lst F1, .lst F2, .lst []]) := rfl
  simp [s9, isPk, isV, callD, anyO, e, hb]
theorem st10 (hg : good dr) : xe CC s10 ⟨rw23 v0 x2 x3 x4 (some (true, .lst [.lst F1, .lst F2, .lst []])) x6 x7 x9 x10, [dr]⟩ = .ok (.ret false (.bl true)) ⟨rw23 v0 x2 x3 x4 (some (true, .lst [.lst F1, .lst F2, .lst []])) x6 x7 x9 x10, [dr]⟩ := by
  have e6 := gsm (ds := [.lst F1, .lst F2, .lst []]) (by kernel_rfl) [dr]
  have c6 := fun {es : List Ex} {r : Row} => callO (es := es) (r := r) hg e6
  simp only [F1, F2] at c6 ⊢
  simp [s10, isPk, isV, c6]
end
def ms : List Ex := [.lst [.call 14 [.v 1, .c (.int 6)], .call 14 [.v 1, .c (.int 20)]]]
/-- one turn of the law's outer loop -/
theorem turn2 {v0 : Q.D} {x2 x3 x4 x5 x6 x7 x9 x10 : Option (Bool × Q.D)} {dr : List Q.D} (hg : good dr) : ∃ y5 y6 y7 y9 y10 dr', good dr' ∧ xes CC [.for_ (.n 6) .seq ms body6] ⟨rw23 v0 x2 x3 x4 x5 x6 x7 x9 x10, [dr]⟩ = .ok .nx ⟨rw23 v0 x2 x3 x4 y5 y6 y7 y9 y10, [dr']⟩ := by
  obtain ⟨a, dr1, e1, a0, a1, _, g1⟩ := law_take 10 (b := 6) (by omega) hg
  obtain ⟨b, dr2, e2, b0, b1, _, g2⟩ := law_take 10 (b := 20) (by omega) g1
  have e1 : CC 14 [.cel 0, .int 6] [dr] = _ := e1
  have e2 : CC 14 [.cel 0, .int 20] [dr1] = _ := e2
  obtain ⟨p5, p7, p9, p10, dr3, g3, e3⟩ := turn6 (v0 := v0) (x2 := x2) (x3 := x3) (x4 := x4) (x5 := x5) (x7 := x7) (x9 := x9) (x10 := x10) (m := a.toNat) (by omega) g2
  obtain ⟨q5, q7, q9, q10, dr4, g4, e4⟩ := turn6 (v0 := v0) (x2 := x2) (x3 := x3) (x4 := x4) (x5 := p5) (x7 := p7) (x9 := p9) (x10 := p10) (m := b.toNat) (by omega) g3
  rw [show ((a.toNat : Nat) : Int) = a by omega] at e3
  rw [show ((b.toNat : Nat) : Int) = b by omega] at e4
  refine ⟨q5, some (false, .int b), q7, q9, q10, dr4, g4, ?_⟩
  rw [xes_one, xe_for_of (s1 := ⟨rw23 v0 x2 x3 x4 x5 x6 x7 x9 x10, [dr2]⟩) (ds := [.lst [.int a, .int b]]) (ys := [.int a, .int b]) (by simp [ms, isPk, isV, callD, anyO, e1, e2]) rfl]
  have f1 : (R.of (asg (.n 6) (.int a) (rw23 v0 x2 x3 x4 x5 x6 x7 x9 x10)) (⟨rw23 v0 x2 x3 x4 x5 x6 x7 x9 x10, [dr2]⟩ : S)).b (fun r s => xes CC body6 ⟨r, s.c⟩) = .ok .nx ⟨rw23 v0 x2 x3 x4 p5 (some (false, .int a)) p7 p9 p10, [dr3]⟩ := e3
  have f2 : (R.of (asg (.n 6) (.int b) (rw23 v0 x2 x3 x4 p5 (some (false, .int a)) p7 p9 p10)) (⟨rw23 v0 x2 x3 x4 p5 (some (false, .int a)) p7 p9 p10, [dr3]⟩ : S)).b (fun r s => xes CC body6 ⟨r, s.c⟩) = .ok .nx ⟨rw23 v0 x2 x3 x4 q5 (some (false, .int b)) q7 q9 q10, [dr4]⟩ := e4
  simp only [forL]
  rw [f1]
  simp only [R.b_ok]
  rw [f2]
  rfl
theorem law (ns : List Int) (h63 : ns.length ≤ 63) : ∃ c, call T 12 23 [.lst (ns.map .int)] [] = .ok (false, .bl true) c := by
  obtain ⟨dr, ed, gd⟩ := law_draws 10 ns h63
  have ed : CC 13 [.lst (ns.map .int)] [] = .ok (true, .lst dr) [] := ed
  generalize hv : Q.D.lst (ns.map .int) = v0 at *
  have em : xe CC (.mkc 1 (.call 13 [.v 0])) ⟨[some (false, v0), none, none, none, none, none, none, none, none, none, none, none], []⟩ = .ok .nx ⟨rw23 v0 none none none none none none none none, [dr]⟩ := by
    have e1 : ev CC (.call 13 [.v 0]) ⟨[some (false, v0), none, none, none, none, none, none, none, none, none, none, none], []⟩ = .ok (true, .lst dr) ⟨[some (false, v0), none, none, none, none, none, none, none, none, none, none, none], []⟩ := by
      simp [isPk, isV, callD, anyO, ed]
    have e2 : xe CC (.mkc 1 (.call 13 [.v 0])) ⟨[some (false, v0), none, none, none, none, none, none, none, none, none, none, none], []⟩ = (ev CC (.call 13 [.v 0]) ⟨[some (false, v0), none, none, none, none, none, none, none, none, none, none, none], []⟩).b fun x s => match x with
      | (true, .lst ds) => if isPk (.call 13 [.v 0]) then .bad else .ok .nx ⟨s.r.set 1 (some (false, .cel s.c.length)), s.c ++ [ds]⟩
      | _ => .bad := rfl
    rw [e2, e1]
    rfl
  have hf := for_inv (f := fun x s => (R.of (asg (.n 2) x s.r) s).b fun r s => xes CC [.for_ (.n 6) .seq ms body6] ⟨r, s.c⟩)
    (I := fun _ s => ∃ y2 y3 y4 y5 y6 y7 y9 y10 dr, s = ⟨rw23 v0 y2 y3 y4 y5 y6 y7 y9 y10, [dr]⟩ ∧ good dr) (xs := rngD 0 4) (i := 0) (s := ⟨rw23 v0 none none none none none none none none, [dr]⟩) ⟨none, none, none, none, none, none, none, none, dr, rfl, gd⟩ (fun k x s hk => by
      rintro ⟨y2, y3, y4, y5, y6, y7, y9, y10, dr, rfl, h4⟩
      obtain ⟨z5, z6, z7, z9, z10, dr', g, e⟩ := turn2 (v0 := v0) (x2 := some (false, x)) (x3 := y3) (x4 := y4) (x5 := y5) (x6 := y6) (x7 := y7) (x9 := y9) (x10 := y10) h4
      exact ⟨_, .inl e, _, _, _, _, _, _, _, _, dr', rfl, g⟩)
  obtain ⟨s', ef, y2, y3, y4, y5, y6, y7, y9, y10, dr', rfl, g⟩ := hf
  obtain ⟨n, dr2, hn, g2, e3⟩ := st3 (v0 := v0) (x2 := y2) (x3 := y3) (x4 := y4) (x5 := y5) (x6 := y6) (x7 := y7) (x9 := y9) (x10 := y10) g
  refine ⟨[dr2], ?_⟩
  refine call_ret (k := 11) (b := e23) (s := ⟨rw23 v0 y2 (some (false, dl (lvs n))) (some (false, .lst vals)) (some (true, .lst [.lst F1, .lst F2, .lst []])) y6 y7 y9 y10, [dr2]⟩) rfl rfl ?_
  refine (xes_nx (C := call T 11) em).trans ?_
  refine (xes_nx (C := call T 11) (s1 := ⟨rw23 v0 y2 y3 y4 y5 y6 y7 y9 y10, [dr']⟩) ?_).trans ?_
  · exact (xe_for_of (C := CC) (s1 := ⟨rw23 v0 none none none none none none none none, [dr]⟩) (ds := [.int 4]) rfl (itD_rng (rng_ok (by omega) (by omega)))).trans ef
  refine (xes_nx (C := call T 11) e3).trans ?_
  refine (xes_nx (C := call T 11) (st4 g2 hn)).trans ?_
  refine (xes_nx (C := call T 11) st5).trans ?_
  refine (xes_nx (C := call T 11) (st6 g2)).trans ?_
  refine (xes_nx (C := call T 11) st7).trans ?_
  refine (xes_nx (C := call T 11) st8).trans ?_
  refine (xes_nx (C := call T 11) st9).trans ?_
  exact xes_ret (C := call T 11) (st10 g2)
end V09
end
theorem PySem.Challenge.cw_coopward_k09_whole_faults_of_share_books_holds : PySem.Challenge.rw_coopward_k09_whole_faults_of_share_books.Holds := by
  exact holds_of_k09 V09.law
