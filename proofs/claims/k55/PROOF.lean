import PyProof.Rows.All
import Wide.All
import OpenK.AllK
import Wide.FinOn
import HandS.ForMost
import HandS.ForExc
import HandS.Walk
import HandS.TupAny
import HandS.IsInst
import HandS.More
import KE.GoesEnum
import PyProof.RulesMatchSeq
import PyProof.Rows.MatchSeqLen
import PyProof.Rows.ChunkEnd
import HandS.Steps
import HandS.Evl
import HandS.Ends
import PySem.Challenge.RW_mobileair_k55_whole_messages_refused
set_option Elab.async false
set_option linter.all false
set_option maxRecDepth 100000
set_option maxHeartbeats 3900000
/-! # The mathematics: digits, octets, written forms (plain Lean, no program in sight) -/
namespace Mq
/-- all are octets -/
def Oc (os : List Int) : Prop := ∀ o ∈ os, 0 ≤ o ∧ o < 256
/-- all are digits -/
def Dg (ds : List Nat) : Prop := ∀ d ∈ ds, d ≤ 9
/-- so many digits -/
structure Dgs (lo hi : Nat) (ds : List Nat) : Prop where
  dg : Dg ds
  lo : lo ≤ ds.length
  hi : ds.length ≤ hi
/-- a part of 1 to n octets -/
structure Part (n : Nat) (os : List Int) : Prop where
  oc : Oc os
  lo : 1 ≤ os.length
  hi : os.length ≤ n
/-- digits two by two -/
def prs : List Nat → List Int
  | [] => []
  | [d] => [(d : Int) + 16 * 15]
  | d :: e :: r => ((d : Int) + 16 * (e : Int)) :: prs r
/-- the octets of a number -/
def num (ds : List Nat) : List Int := 129 :: prs ds
/-- the first octet of subscriber digits -/
def sb1 (n d : Nat) : Int := if n % 2 = 1 then 16 * (d : Int) + 1 + 8 else 16 * (d : Int) + 1
/-- the octets of subscriber digits -/
def sbo : List Nat → List Int
  | [] => []
  | d :: r => sb1 (r.length + 1) d :: prs r

theorem Oc.nil : Oc [] := fun _ h => nomatch h
theorem Oc.cons {o : Int} {os : List Int} (h : 0 ≤ o ∧ o < 256) (t : Oc os) : Oc (o :: os) := fun x hx => by
  rcases List.mem_cons.mp hx with e | e
  · rw [e]; exact h
  · exact t x e
theorem Oc.head {o : Int} {os : List Int} (h : Oc (o :: os)) : 0 ≤ o ∧ o < 256 := h o List.mem_cons_self
theorem Oc.tail {o : Int} {os : List Int} (h : Oc (o :: os)) : Oc os := fun x hx => h x (List.mem_cons_of_mem _ hx)
theorem Oc.append {a b : List Int} (ha : Oc a) (hb : Oc b) : Oc (a ++ b) := fun x hx => (List.mem_append.mp hx).elim (ha x) (hb x)
theorem Oc.take {a : List Int} (h : Oc a) (n : Nat) : Oc (a.take n) := fun x hx => h x (List.mem_of_mem_take hx)
theorem Oc.drop {a : List Int} (h : Oc a) (n : Nat) : Oc (a.drop n) := fun x hx => h x (List.mem_of_mem_drop hx)
theorem Oc.get {a : List Int} (h : Oc a) {i : Nat} {o : Int} (e : a[i]? = some o) : 0 ≤ o ∧ o < 256 := h o (List.mem_of_getElem? e)
theorem Oc.replicate {n : Nat} {o : Int} (h : 0 ≤ o ∧ o < 256) : Oc (List.replicate n o) := fun x hx => by
  rw [(List.mem_replicate.mp hx).2]; exact h
theorem Dg.nil : Dg [] := fun _ h => nomatch h
theorem Dg.cons {d : Nat} {ds : List Nat} (h : d ≤ 9) (t : Dg ds) : Dg (d :: ds) := fun x hx => by
  rcases List.mem_cons.mp hx with e | e
  · rw [e]; exact h
  · exact t x e
theorem Dg.head {d : Nat} {ds : List Nat} (h : Dg (d :: ds)) : d ≤ 9 := h d List.mem_cons_self
theorem Dg.tail {d : Nat} {ds : List Nat} (h : Dg (d :: ds)) : Dg ds := fun x hx => h x (List.mem_cons_of_mem _ hx)
theorem Dg.append {a b : List Nat} (ha : Dg a) (hb : Dg b) : Dg (a ++ b) := fun x hx => (List.mem_append.mp hx).elim (ha x) (hb x)
theorem Dg.get {a : List Nat} (h : Dg a) {i : Nat} {d : Nat} (e : a[i]? = some d) : d ≤ 9 := h d (List.mem_of_getElem? e)
theorem Dg.one {d : Nat} (h : d ≤ 9) : Dg [d] := Dg.cons h Dg.nil

theorem prs_oc : ∀ (ds : List Nat), Dg ds → Oc (prs ds)
  | [], _ => Oc.nil
  | [d], h => Oc.cons (by have := h.head; omega) Oc.nil
  | d :: e :: r, h => Oc.cons (by have := h.head; have := h.tail.head; omega) (prs_oc r h.tail.tail)
theorem prs_len : ∀ (ds : List Nat), (prs ds).length = (ds.length + 1) / 2
  | [] => rfl
  | [_] => by show 1 = (1 + 1) / 2; rfl
  | d :: e :: r => by
    show (prs r).length + 1 = (r.length + 1 + 1 + 1) / 2
    rw [prs_len r]
    omega
theorem prs_even : ∀ (ds : List Nat) (t : List Nat), ds.length % 2 = 0 → prs (ds ++ t) = prs ds ++ prs t
  | [], t, _ => rfl
  | [_], t, h => by simp at h
  | d :: e :: r, t, h => by
    show _ :: prs (r ++ t) = _ :: (prs r ++ prs t)
    rw [prs_even r t (by simp only [List.length_cons] at h; omega)]
/-- what is written is read in one way -/
theorem prs_inj : ∀ (a b : List Nat), Dg a → Dg b → prs a = prs b → a = b
  | [], [], _, _, _ => rfl
  | [], [_], _, _, h => nomatch h
  | [], _ :: _ :: _, _, _, h => nomatch h
  | [_], [], _, _, h => nomatch h
  | _ :: _ :: _, [], _, _, h => nomatch h
  | [d], [e], ha, hb, h => by
    have h1 : (d : Int) + 16 * 15 = (e : Int) + 16 * 15 := (List.cons.inj h).1
    have : d = e := by omega
    rw [this]
  | [d], e :: f :: r, ha, hb, h => by
    have h1 : (d : Int) + 16 * 15 = (e : Int) + 16 * (f : Int) := (List.cons.inj h).1
    have := ha.head; have := hb.head; have := hb.tail.head
    omega
  | e :: f :: r, [d], ha, hb, h => by
    have h1 : (e : Int) + 16 * (f : Int) = (d : Int) + 16 * 15 := (List.cons.inj h).1
    have := ha.head; have := hb.head; have := ha.tail.head
    omega
  | d :: e :: r, d' :: e' :: r', ha, hb, h => by
    have h1 : (d : Int) + 16 * (e : Int) = (d' : Int) + 16 * (e' : Int) := (List.cons.inj h).1
    have h2 : prs r = prs r' := (List.cons.inj h).2
    have := ha.head; have := hb.head; have := ha.tail.head; have := hb.tail.head
    have e1 : d = d' := by omega
    have e2 : e = e' := by omega
    rw [e1, e2, prs_inj r r' ha.tail.tail hb.tail.tail h2]
theorem num_oc {ds : List Nat} (h : Dg ds) : Oc (num ds) := Oc.cons (by omega) (prs_oc ds h)
theorem num_len (ds : List Nat) : (num ds).length = (ds.length + 1) / 2 + 1 := by
  show (prs ds).length + 1 = _
  rw [prs_len]
theorem num_inj {a b : List Nat} (ha : Dg a) (hb : Dg b) (h : num a = num b) : a = b := prs_inj a b ha hb (List.cons.inj h).2
theorem sbo_oc {ds : List Nat} (h : Dg ds) : Oc (sbo ds) := by
  cases ds with
  | nil => exact Oc.nil
  | cons d r =>
    refine Oc.cons ?_ (prs_oc r h.tail)
    have := h.head
    unfold sb1
    split <;> omega
theorem sbo_len {ds : List Nat} (h : 1 ≤ ds.length) : (sbo ds).length = ds.length / 2 + 1 := by
  cases ds with
  | nil => simp at h
  | cons d r =>
    show (prs r).length + 1 = (r.length + 1) / 2 + 1
    rw [prs_len]
/-- the turn of a reading: one octet more, both its halves digits -/
theorem prs_more {ds : List Nat} {os : List Int} {i : Nat} {o : Int} (h : prs ds = os.take i) (hl : ds.length = 2 * i) (e : os[i]? = some o) (h1 : 0 ≤ o) (h2 : o % 16 ≤ 9) (h3 : o / 16 ≤ 9) :
    prs (ds ++ [(o % 16).toNat, (o / 16).toNat]) = os.take (i + 1) := by
  rw [prs_even ds _ (by omega), h, List.take_add_one, e]
  show _ ++ [((o % 16).toNat : Int) + 16 * ((o / 16).toNat : Int)] = _ ++ [o]
  congr 2
  omega
/-- the last turn: 15 stands behind the last digit -/
theorem prs_last {ds : List Nat} {os : List Int} {i : Nat} {o : Int} (h : prs ds = os.take i) (hl : ds.length = 2 * i) (e : os[i]? = some o) (h1 : 0 ≤ o) (h2 : o % 16 ≤ 9) (h3 : o / 16 = 15) :
    prs (ds ++ [(o % 16).toNat]) = os.take (i + 1) := by
  rw [prs_even ds _ (by omega), h, List.take_add_one, e]
  show _ ++ [((o % 16).toNat : Int) + 16 * 15] = _ ++ [o]
  congr 2
  omega
/-- the turn of a writing -/
theorem prs_drop2 {ds : List Nat} {k : Nat} {d e : Nat} (h1 : ds[2 * k]? = some d) (h2 : ds[2 * k + 1]? = some e) : prs (ds.take (2 * (k + 1))) = prs (ds.take (2 * k)) ++ [(d : Int) + 16 * (e : Int)] := by
  have hl : 2 * k + 1 < ds.length := (List.getElem?_eq_some_iff.mp h2).1
  have e0 : ds.take (2 * (k + 1)) = ds.take (2 * k) ++ [d, e] := by
    rw [show 2 * (k + 1) = (2 * k + 1) + 1 from by omega, List.take_add_one, List.take_add_one, h1, h2, List.append_assoc]
    rfl
  rw [e0, prs_even _ _ (by rw [List.length_take]; omega)]
  rfl
theorem prs_drop1 {ds : List Nat} {k : Nat} {d : Nat} (h1 : ds[2 * k]? = some d) (h2 : ds[2 * k + 1]? = none) : prs (ds.take (2 * (k + 1))) = prs (ds.take (2 * k)) ++ [(d : Int) + 16 * 15] := by
  have hl : ds.length ≤ 2 * k + 1 := List.getElem?_eq_none_iff.mp h2
  have hl1 : 2 * k < ds.length := (List.getElem?_eq_some_iff.mp h1).1
  have e0 : ds.take (2 * (k + 1)) = ds.take (2 * k) ++ [d] := by
    rw [show 2 * (k + 1) = (2 * k + 1) + 1 from by omega, List.take_add_one, List.take_add_one, h1, h2, List.append_assoc]
    rfl
  rw [e0, prs_even _ _ (by rw [List.length_take]; omega)]
  rfl
end Mq
/-! # Rules of my own over the layer HandS: X() of an own exception class, enumerate over a tuple, a written dict walked by its keys, the match statement -/
namespace Mq
open PySem PySem.Spec PyProof.Rows L2

section
variable {Y : Cx} {C : Addr} {line : List Value} {kind makes inits : String}
/-- an own exception class called without arguments, the class without an __init__ of its own -/
theorem pmk_own0 {x : Str} {p pos : Pos} (base : ExcBaseFacts kind makes inits line) (own : PySem.W.excIn Y.K C line makes = true) (named : Y.mg x = some (.ref C)) (kept : PySem.W.keepIn Y.K (.ref C) = true) (may : Raises Y (.ref C)) (free : Gl Y x)
    (plain : (x == ("__debug__" : Str)) = false := by decide) : PMk Y (.Call (.Name x p) [] [] pos) (fun _ G R => R (.ref C) none G) := by
  intro pn sh σ G R J goal
  refine wpAny_Call_Name_kw (ld_glob J free named (PySem.W.callWith_K0 J.kIn kept ?_) plain)
  show wpAny _ _ (call (.ref C) ([] : List Value)) _ _ _
  obtain ⟨_, _, _, _, _, _, _, _, _, _, _, _, _, _, _, _, _, cls, ns, noInit, txt⟩ := exc_obj J.kIn own
  exact wpAny_call_exc_subT base txt cls ns noInit (fun after e made => mk_of J made may goal (J.hok.gone made.new)) (Nat.zero_le _)
end

/-! ### enumerate over a tuple. The library has the rule for lists (HandS.Iter) and for the form with a start (KE.GoesEnum); this is the same for one tuple. -/
/-- the object that enumerate makes over an iterator at c -/
abbrev enumObj (c : Addr) : Obj := { cls := .type "enumerate", data := .fields #[.none, .bool false, .ref c, rawInt 0, .none, .none] }
set_option maxHeartbeats 2000000 in
theorem enumT_new {v : Value} {o : Obj} {At : Heap → Prop} (bg : Begins v o At) :
    Meets (Builtin.«enumerate.__new__» ⟨[.type "enumerate", v], []⟩) (fun _ R t => At t.heap ∧ R (.ok (.ret (.ref (t.heap.push o).objs.size))) { t with heap := (t.heap.push o).push (enumObj t.heap.objs.size) }) := by
  refine .of_wp fun pr ww Ar R t both => ?_
  rcases t with ⟨heap, gg, dd, tt, oo⟩
  rcases both with ⟨there, out⟩
  have byEnum := sub_enumerate
  have begun : ∀ {A2 : Around} {Ek Q2 : Value → Shared → Prop}, Q2 (.ref heap.objs.size) ⟨heap.push o, gg, dd, tt, oo⟩ → wpAny (model pr ww) A2 (pyIter v) Q2 Ek ⟨heap, gg, dd, tt, oo⟩ := fun z => bg.iter pr ww _ _ _ _ there z
  wp_walk using begun
  refine wpAny_stack_any fun stack => wpAny_pure ?_
  split
  case _ =>
    rename_i cl _ _ _ _ _
    cases cl == Value.type "enumerate" <;> (wp_walk using begun; exact ⟨_, rfl, out⟩)
  case _ => (wp_walk using begun; exact ⟨_, rfl, out⟩)
theorem enumT_made {pr : Program} {ww : World} {Ar : Around} {Ek Q2 : Value → Shared → Prop} {t : Shared} {v : Value} {o : Obj} {At : Heap → Prop} (bg : Begins v o At) (there : At t.heap)
    (out : ∀ g : Heap, g.get? (t.heap.objs.size + 1) = some (enumObj t.heap.objs.size) → g.get? t.heap.objs.size = some o → (∀ b u, t.heap.get? b = some u → g.get? b = some u) → Q2 (.ref (t.heap.objs.size + 1)) { t with heap := g }) :
    wpAny (model pr ww) Ar (call (.type "enumerate") [v]) Q2 Ek t := by
  have size : (t.heap.push o).objs.size = t.heap.objs.size + 1 := Heap.size_push t.heap o
  have reco : ((t.heap.push o).push (enumObj t.heap.objs.size)).get? (t.heap.objs.size + 1) = some (enumObj t.heap.objs.size) := size ▸ Heap.get?_push_size (t.heap.push o) rfl
  refine callType_new F.called_enumerate (by decide) (F.typeCall_enumerate_1 v) (F.newCall_enumerate_1 v) (fun ob => F.args_object_init_2 ob v) F.entry_enumerate_new (enumT_new bg) (And.intro there ?_)
  show (_ : Prop) ∧ (_ : Prop)
  rw [size]
  exact ⟨⟨enumObj t.heap.objs.size, reco, rfl⟩, out _ reco (Heap.get?_push_of_some _ (Heap.get?_push_size _ bg.free)) fun b u z => Heap.get?_push_of_some _ (Heap.get?_push_of_some _ z)⟩
/-- the tuple at a, each item in a pair of its own -/
def IteT (K : PySem.W.Frag) (a : Addr) : It where
  go i G := ∃ xs x, SqT K G a xs ∧ xs[i]? = some x
  yld i G v G' := ∃ T x, v = .ref T ∧ G T = none ∧ G' = upd G T (.tup [.int (i : Nat), x]) ∧ ∀ xs, SqT K G a xs → xs[i]? = some x
  stop i G := ∃ xs, SqT K G a xs ∧ xs.length ≤ i
/-- so stand the enumerate object at b and the tuple's iterator at c before turn i -/
structure EnT (h : Heap) (a b c : Addr) (i : Nat) : Prop where
  reco : ∃ last, IsEnum h b c ((i : Nat) : Int) last
  itr : h.IsTupleIter c a i
  bc : b ≠ c
  ac : a ≠ c
  ab : a ≠ b
theorem EnT.both {h : Heap} {a b c : Addr} {i : Nat} (e : EnT h a b c i) : ∀ x ∈ [b, c], x < h.objs.size := by
  obtain ⟨_, isB⟩ := e.reco
  obtain ⟨_, isC, _⟩ := e.itr
  intro x hx
  rcases (List.mem_cons.mp hx) with rfl | hx
  · exact Heap.lt_size isB
  · rw [List.mem_singleton.mp hx]
    exact Heap.lt_size isC
theorem EnT.at {h h' : Heap} {a b c : Addr} {i : Nat} (e : EnT h a b c i) (k : ∀ x ∈ [b, c], ∀ o, h.get? x = some o → h'.get? x = some o) : EnT h' a b c i :=
  { reco := e.reco.imp fun _ r => k b List.mem_cons_self _ r, itr := e.itr.at fun o => k c (List.mem_cons_of_mem _ List.mem_cons_self) o, bc := e.bc, ac := e.ac, ab := e.ab }
theorem turn_enumT {P : Program} {w : World} {K : PySem.W.Frag} {es : List Expr} {n : Nat} {tp : Pos} (a b c : Addr) : Turn P w K (.Tuple es n tp) (IteT K a) [b, c] b (fun i h => EnT h a b c i) := by
  refine { mem := List.mem_cons_self, obj := fun i h e x hx => ?_, keep := fun i h h' e k => e.at k, item := ?_, done := ?_, self := fun _ _ _ _ _ e z => e.reco.elim fun _ r => wpAny_pyIter_enum r z }
  · obtain ⟨_, isB⟩ := e.reco
    obtain ⟨oc, isC, _, data⟩ := e.itr
    rcases (List.mem_cons.mp hx) with rfl | hx
    · exact ⟨_, isB, fun _ q => by cases q⟩
    · rw [List.mem_singleton.mp hx]
      exact ⟨oc, isC, fun _ q => by rw [data] at q; cases q⟩
  · intro Y hP hw hK calm i pn t σ G Ek J own e more
    subst hP hw hK
    obtain ⟨xs, x, seq, item⟩ := more
    obtain ⟨us, rel, tup, _⟩ := J.tuple seq
    obtain ⟨u, uAt, uRel⟩ := rel.get item
    obtain ⟨last, isB⟩ := e.reco
    have small : b < t.heap.objs.size := Heap.lt_size isB
    have inside : i < us.toArray.size := (List.getElem?_eq_some_iff.mp uAt).1
    have none : Y.A.in1.handled = none := J.ok.hd calm
    refine wpAny_pyNext_enum_itemD (Draws.tuple (A := Y.A.in1) none c a e.ac us.toArray) isB ⟨e.itr, tup⟩ inside e.bc (fun q => (List.mem_cons.mp q).elim e.bc fun r => e.ab (List.mem_singleton.mp r).symm) fun u' g1 tk given outB here tupT _ kept => ?_
    obtain rfl : u' = u := Option.some.inj ((List.getElem?_toArray.symm.trans given).symm.trans uAt)
    refine ⟨_, rfl, wpAny_letOwnedTupleGo_enum (s := { t with heap := g1, toks := tk + 1 }) outB fun g2 isB2 only => ?_⟩
    have tupT2 := (only.2 _ (Nat.ne_of_gt small)).trans tupT
    have laid : ObjOk Y.prog Y.w (upd G t.heap.objs.size (.tup [.int (i : Nat), x])) g2 t.heap.objs.size (.tup [.int (i : Nat), x]) :=
      ⟨Nat.le_trans (by decide : 2 ≤ 9) (by decide), _, .cons ⟨_, rfl⟩ (.cons uRel .nil), _, tupT2, rfl, _, rfl⟩
    have kept2 : ∀ y o, y ∉ [b, c] → t.heap.get? y = some o → g2.get? y = some o := fun y o off z =>
      (only.2 y fun q => off (q ▸ List.mem_cons_self)).trans (kept y o (fun q => off (q ▸ List.mem_cons_self)) (fun q => off (q ▸ List.mem_cons_of_mem _ List.mem_cons_self)) z)
    refine ⟨.ref t.heap.objs.size, _, J.turnedNew (ch := [b, c]) kept2 own (Nat.le_refl _) laid, rfl, ⟨_, x, rfl, J.hok.fresh (Nat.le_refl _), rfl, fun ys other => J.tuple_inj other seq ▸ item⟩,
      { reco := ⟨u', by rw [show ((i + 1 : Nat) : Int) = (i : Int) + 1 from rfl]; exact isB2⟩, itr := here.1.at fun o q => (only.2 c e.bc.symm).trans q, bc := e.bc, ac := e.ac, ab := e.ab }, fun y hy => ?_⟩
    rw [upd_ne (Nat.ne_of_lt (e.both y hy))]
    exact (own y hy).1
  · intro Y hP hw hK calm i pn t σ G Ek J own e over
    subst hP hw hK
    obtain ⟨xs, seq, past⟩ := over
    obtain ⟨us, rel, tup, _⟩ := J.tuple seq
    obtain ⟨o0, o1, _, o3, o4, o5⟩ := own c (List.mem_cons_of_mem _ List.mem_cons_self)
    obtain ⟨last, isB⟩ := e.reco
    have typed : t.TypeIs (.ref b) "enumerate" := ⟨_, isB, rfl⟩
    have none : Y.A.in1.handled = none := J.ok.hd calm
    have size : us.toArray.size ≤ i := Nat.le_trans (Nat.le_of_eq rel.length.symm) past
    -- here the end is asked of the tuple's iterator by the enumerate object
    unfold pyNext
    refine wpAny_bind (wpAny_attempt (wpAny_callSpecial?_slot (name := Str.ofString "__next__") typed F.slot_enumerate_next (wpAny_call_entry F.slot_enumerate_next typed F.entry_enumerate_next ?_ (F.args_enumerate_next_1 _))))
    show wpAny _ _ ((field (.ref b) 2) >>= _) _ _ t
    refine wpAny_bind (wpAny_field isB rfl (x := .ref c) rfl (wpAny_bind (wpAny_nextOf_tuple_end none e.itr tup (Array.getElem?_eq_none size) fun g1 x kept ended => ?_)))
    refine wpAny_bind (wpAny_isInstance (T := "StopIteration") (b := true) (ended.imp fun _ z => z) isSubtype_stop ?_)
    exact wpAny_pure ⟨rfl, J.turned (t' := t.toks) (fun y o off z => kept y o off z) o0 o1 o3 o4 o5⟩
def iEnumT (K : PySem.W.Frag) (ta : TA) : TI := fun σ G R => ta σ G fun args G1 => ∃ a xs, args = [.ref a] ∧ SqT K G1 a xs ∧ R (IteT K a) G1
theorem pi_enumT {Y : Cx} {e : Expr} {ta : TA} {p pos tp : Pos} {es : List Expr} {n : Nat} (free : Gl Y "enumerate") (builtin : Y.mg "enumerate" = none) (arg : PA Y [e] ta) (one : starEach [e] Y.env = [(false, eval e Y.env)] := by rfl) :
    PI Y (.Tuple es n tp) (.Call (.Name "enumerate" p) [e] [] pos) (iEnumT Y.K ta) := by
  constructor
  intro pn t σ G R J goal
  refine Call_ (ld_blt J free builtin boot_enumerate (PyProof.Rows.callWith_type1 (thn (arg.run pos pn t σ G _ J goal) ?_) one rfl))
  rintro us t1 ⟨_, G1, J1, rel, a, xs, rfl, seq, rest⟩
  obtain ⟨u, rfl, ru⟩ := vals1 rel
  have isA : u = Value.ref a := ru; subst isA
  obtain ⟨its, _, tup, _⟩ := J1.tuple seq
  have old : a < t1.heap.objs.size := tup.lt
  refine enumT_made (begins_tuple a its.toArray) tup fun g isB isC kept => wpAny_pyIter_enum isB ?_
  refine ⟨t1.heap.objs.size + 1, [t1.heap.objs.size + 1, t1.heap.objs.size], _, _, G1, rfl, J1.kept (t' := t1.toks) kept, turn_enumT a _ t1.heap.objs.size, ⟨⟨.none, isB⟩, ⟨_, isC, rfl, rfl⟩, Nat.succ_ne_self _, Nat.ne_of_lt old, Nat.ne_of_lt (Nat.lt_succ_of_lt old)⟩, fun y hy => ?_, rest⟩
  have high : t1.heap.objs.size ≤ y := by
    rcases List.mem_cons.mp hy with q | hy
    · exact q ▸ Nat.le_succ _
    · exact Nat.le_of_eq (List.mem_singleton.mp hy).symm
  exact J1.fpOk high (J1.hok.fresh high)
theorem walk_enumT {K : PySem.W.Frag} {a : Addr} {xs : List V} : Walk (IteT K a) xs.length (fun G => SqT K G a xs) (YPair (fun i => some (.int (i : Nat))) (fun i => xs[i]?)) where
  goes i _ lt seq := ⟨xs, xs[i], seq, List.getElem?_eq_getElem lt⟩
  stops _ seq := ⟨xs, seq, Nat.le_refl _⟩
  yields i G v G' _ seq y := by
    obtain ⟨T, x, isT, free, put, item⟩ := y
    exact ⟨T, .int (i : Nat), x, isT, free, put, rfl, item xs seq⟩

/-! ### a written dict walked by its keys -/
/-- at d: a written dict with the keys zs, all texts -/
def KKeys (K : PySem.W.Frag) (d : Addr) (zs : List Str) : Prop :=
  ∃ es n, K.lookup d = some ⟨.type "dict", none, .dict es n, #[]⟩ ∧ (d == sysModules) = false ∧ es.size = zs.length ∧ ∀ (i : Nat) z, zs[i]? = some z → ∃ en t, es[i]? = some en ∧ en.key = .str z t
def Itkk (zs : List Str) : It where
  go i _ := i < zs.length
  yld i G x G' := G' = G ∧ ∃ z, zs[i]? = some z ∧ x = .str z
  stop i _ := zs.length ≤ i
theorem turn_keysK {P : Program} {w : World} {K : PySem.W.Frag} {tg : Expr} {d : Addr} {zs : List Str} {es : Array DictEntry} {n : Nat} (c : Addr) (there : K.lookup d = some ⟨.type "dict", none, .dict es n, #[]⟩)
    (size : es.size = zs.length) (keys : ∀ (i : Nat) z, zs[i]? = some z → ∃ en t, es[i]? = some en ∧ en.key = .str z t) : Turn P w K tg (Itkk zs) [c] c (fun i h => h.IsKeyIter c d i zs.length n) := by
  refine { mem := List.mem_singleton.mpr rfl, obj := fun i h e x hx => ?_, keep := fun i h h' e k => e.at fun o z => k c (List.mem_singleton.mpr rfl) o z, item := ?_, done := ?_, self := fun _ _ _ _ _ e z => wpAny_pyIter_keyiter e z }
  · obtain ⟨o, isC, _, data⟩ := e
    rw [List.mem_singleton.mp hx]
    exact ⟨o, isC, fun _ q => by rw [data] at q; cases q⟩
  · intro Y hP hw hK calm i pn t σ G Ek J own e more
    subst hP hw hK
    obtain ⟨o0, o1, _, o3, o4, o5⟩ := own c (List.mem_singleton.mpr rfl)
    have zAt : zs[i]? = some (zs[i]'more) := List.getElem?_eq_getElem more
    obtain ⟨en, tk, enAt, key⟩ := keys i _ zAt
    refine next_key_item e (J.kIn d _ there) rfl size enAt fun g next only => ?_
    have next2 := next
    obtain ⟨o, isC, cls, data⟩ := next2
    have J2 : Inv Y pn σ G { t with heap := g } := J.turned (t' := t.toks) (fun y _ off z => (only.2 y off).trans z) o0 o1 o3 o4 o5
    exact ⟨en.key, rfl, go_of (s := { t with heap := g }) isC cls data (by decide) ⟨.str _, G, J2, ⟨tk, key⟩, ⟨rfl, _, zAt, rfl⟩, next, fun y hy => (own y hy).1⟩⟩
  · intro Y hP hw hK calm i pn t σ G Ek J own e over
    subst hP hw hK
    obtain ⟨o0, o1, _, o3, o4, o5⟩ := own c (List.mem_singleton.mpr rfl)
    exact next_key_end (J.ok.hd calm) e (J.kIn d _ there) rfl size over fun g kept => ⟨rfl, J.turned (t' := t.toks) (fun y o off z => kept y o off z) o0 o1 o3 o4 o5⟩
def iKeysK (K : PySem.W.Frag) (td : TE) : TI := fun σ G R => td σ G fun x G1 => ∃ d zs, x = .ref d ∧ KKeys K d zs ∧ R (Itkk zs) G1
theorem pi_keysK {Y : Cx} {tg e : Expr} {td : TE} (he : PE Y e td) : PI Y tg e (iKeysK Y.K td) := by
  constructor
  intro pn t σ G R J goal
  refine thn (he.run pn t σ G _ J goal) ?_
  rintro v t1 ⟨x, G1, J1, rel, d, zs, rfl, ⟨es, n, there, low, size, keys⟩, rest⟩
  obtain rfl : v = Value.ref d := rel
  refine iter_keys low (J1.kIn d _ there) ⟨rfl, rfl, rfl⟩ rfl (pi_one (tk := t1.toks) J1 _ (turn_keysK _ there size keys) ⟨_, Heap.get?_push_size _ rfl, rfl, ?_⟩ rest)
  rw [size]
  rfl
theorem walk_keysK {zs : List Str} : Walk (Itkk zs) zs.length (fun _ => True) (fun i G x G' => G' = G ∧ ∃ z, zs[i]? = some z ∧ x = .str z) where
  goes _ _ lt _ := lt
  stops _ _ := Nat.le_refl _
  yields _ _ _ _ _ _ y := y

/-! ### match -/
/-- what a list of cases asks of the subject's value -/
abbrev TV := V → TS
structure PCs (X : Cx) (cs : List MatchCase) (t : TV) : Prop where
  run : ∀ (pins : List (Addr × Obj)) (s : Shared) (σ : L2.St) (H : Hp) (D : Ends) (v : V) (u : Value) (first : Bool), Inv X pins σ H s → RelV v u → t v D σ H → wpAny (model X.prog X.w) X.A (matchCases cs X.env u first) (SP X pins D) X.xe s
def tMatch (te : TE) (t : TV) : TS := fun D σ H => te σ H fun v H1 => t v D σ H1
def setAll : L2.St → List Nat → List V → L2.St
  | σ, i :: is, v :: vs => setAll (σ.set i (some v)) is vs
  | σ, _, _ => σ
/-- the captured names, by slots -/
inductive Caps (X : Cx) : List Pattern → List Str → List Nat → Prop
  | nil : Caps X [] [] []
  | cons {x : Str} {i : Nat} {pos : Pos} {ps : List Pattern} {xs : List Str} {is : List Nat} (hi : X.N[i]? = some x) (hx : Loc X.env.scope x) (hf : X.fn x = true ∨ X.env.scope.names.lookup x = some .local) (r : Caps X ps xs is) : Caps X (.MatchAs none (some x) pos :: ps) (x :: xs) (i :: is)
section
variable {X : Cx}
theorem ps_match {e : Expr} {cases : List MatchCase} {pos : Pos} {te : TE} {t : TV} (he : PE X e te) (hc : PCs X cases t) : PS X (.Match e cases pos) (tMatch te t) :=
  ⟨fun pins s σ H D I h => wpAny_Match (thn (he.run pins s σ H _ I h) fun u s1 ⟨v, H1, I1, r, q⟩ => hc.run pins s1 σ H1 D v u true I1 r q)⟩
theorem pcs_nil : PCs X [] (fun _ => tNext) := ⟨fun pins s σ H D v u f I r h => wpAny_matchCases_nil ⟨σ, H, I, h⟩⟩
theorem Caps.len {ps : List Pattern} {xs : List Str} {is : List Nat} (c : Caps X ps xs is) : ps.length = is.length ∧ xs.length = is.length := by
  induction c with
  | nil => exact ⟨rfl, rfl⟩
  | cons _ _ _ _ ih => exact ⟨congrArg (· + 1) ih.1, congrArg (· + 1) ih.2⟩
theorem caps_each {M : Model} {A : Around} {E : Value → Shared → Prop} {env : Env} {ps : List Pattern} {xs : List Str} {is : List Nat} (c : Caps X ps xs is) : ∀ {us : List Value} {s : Shared} {Q : Option (List (Str × Value)) → Shared → Prop}, us.length = ps.length →
    Q (some (xs.zip us)) s → wpAny M A (matchEach ps env us) Q E s := by
  induction c with
  | nil =>
    intro us s Q hl q
    cases us with
    | nil => exact wpAny_matchEach_nil q
    | cons _ _ => simp at hl
  | cons hi hx hf r ih =>
    intro us s Q hl q
    cases us with
    | nil => simp at hl
    | cons u us =>
      refine wpAny_matchEach_cons (wpAny_matchPattern_Capture ?_)
      exact ih (by simpa using hl) q
theorem caps_store {M : Model} {A : Around} {E : Value → Shared → Prop} {pins : List (Addr × Obj)} {H : Hp} (hN : X.N.Nodup) {ps : List Pattern} {xs : List Str} {is : List Nat} (c : Caps X ps xs is) : ∀ {us : List Value} {vs : List V} {σ : L2.St} {s : Shared} {Q : Unit → Shared → Prop}, Vals vs us → vs.length = is.length → Inv X pins σ H s →
    (∀ s', Inv X pins (setAll σ is vs) H s' → Q () s') → wpAny M A (assignInOrder ((xs.zip us).map fun (n, _) => bindName X.env n) ((xs.zip us).map (·.2))) Q E s := by
  induction c with
  | nil =>
    intro us vs σ s Q rv hl I q
    cases vs with
    | nil => exact wpAny_assignInOrder_none (q s I)
    | cons _ _ => simp at hl
  | cons hi hx hf r ih =>
    intro us vs σ s Q rv hl I q
    cases vs with
    | nil => simp at hl
    | cons v vs =>
      cases rv with
      | cons rv rr =>
        refine wpAny_assignInOrder_more (bindName_ (store_ok I hN hi hx rv (fun s' I' => ?_) hf))
        exact ih rr (by simpa using hl) I' q
/-- case [k, names]: the subject a tuple whose first item is a text -/
def tCase (K : PySem.W.Frag) (k : Str) (is : List Nat) (tb : TS) (tn : TV) : TV := fun v D σ H => ∃ (a : Addr) (z : Str) (rest : List V), v = .ref a ∧ SqT K H a (.str z :: rest) ∧
  (rest.length = is.length ∧ z = k → tb D (setAll σ is rest) H) ∧ (¬ (rest.length = is.length ∧ z = k) → tn v D σ H)
theorem pcs_case {k : Str} {j : Nat} {p1 p2 p3 : Pos} {ps : List Pattern} {xs : List Str} {is : List Nat} {body : List Stmt} {rest : List MatchCase} {tb : TS} {tn : TV} (hcalm : X.calm = true) (hN : X.N.Nodup) (c : Caps X ps xs is) (hb : PSs X body tb) (hn : PCs X rest tn)
    (hstar : ((Pattern.MatchValue (.Constant (.str k) j p1) p2 :: ps).findIdx? (·.isStar)) = none := by rfl)
    (hwild : ((Pattern.MatchValue (.Constant (.str k) j p1) p2 :: ps).all fun p => p.isWildcard || (p.isStar && p.names.isEmpty)) = false := by rfl) :
    PCs X (⟨.MatchSequence (.MatchValue (.Constant (.str k) j p1) p2 :: ps) p3, none, body⟩ :: rest) (tCase X.K k is tb tn) := by
  refine ⟨fun pins s σ H D v u first I r h => ?_⟩
  obtain ⟨a, z, vs, ev, hq, hyes, hno⟩ := h
  subst ev
  cases r
  obtain ⟨its, rv, ht, hz⟩ := (I.tuple hq)
  obtain ⟨hcl, hcx⟩ := c.len
  have hlen : vs.length + 1 = its.length := by simpa using rv.length
  have hfit : (its.toArray.size : Int) < 2 ^ 63 := by
    have e1 : sizeLine = 16777216 := sizeLine_eq
    have e2 : its.toArray.size = its.length := by simp
    rw [e1] at hz
    have e3 : (V.str z :: vs).length = vs.length + 1 := rfl
    rw [e2]
    omega
  refine wpAny_matchCases_cons ?_
  by_cases hl : vs.length = is.length
  · refine matchSeq_tuple_hit ht hfit (by simp; omega) ?_ hstar hwild
    have I0 : Inv X pins σ H { s with toks := s.toks + 1 + 1 } := I.tok _
    have hps : (Pattern.MatchValue (.Constant (.str k) j p1) p2 :: ps).length = its.toArray.size := by simp; omega
    rw [hps]
    refine unpackItems_tuple (s := { s with toks := s.toks + 1 + 1 }) (I.ok.hd hcalm) ht fun h' hx => ?_
    have I1 : Inv X pins σ H { s with heap := h', toks := s.toks + 1 + 1 } := I.kept (t' := s.toks + 1 + 1) fun b o e => hx b o (Nat.ne_of_lt (Heap.lt_size e)) e
    show wpAny _ _ (matchEach _ X.env its) _ _ _
    cases rv with
    | cons r0 rr =>
      rename_i u0 us
      refine wpAny_matchEach_cons (wpAny_matchPattern_Value ?_)
      refine thn ((pe_str (X := X) (x := k) (j := j) (pos := p1)).run pins _ σ H (fun x H1 => x = .str k ∧ H1 = H) I1 ⟨rfl, rfl⟩) fun uk s2 ⟨xk, H2, I2, rk, ek, eH⟩ => ?_
      subst ek eH
      refine thn (op_eq pins s2 σ H2 (.str z) (.str k) u0 uk (fun x H1 => x = .bl (decide (z = k)) ∧ H1 = H2) I2 r0 rk ⟨rfl, ?_, rfl⟩) fun uc s3 ⟨xc, H3, I3, rc, ec, eH3⟩ => ?_
      · congr 1
        by_cases e : z = k
        · rw [e]; simp
        · rw [decide_eq_false e, decide_eq_false (fun q => e (V.str.inj q))]
      subst ec eH3
      obtain rfl : uc = Value.bool (decide (z = k)) := rc
      refine wpAny_truthy_bool ?_
      by_cases e : z = k
      · rw [decide_eq_true e, if_pos rfl]
        show wpAny _ _ (matchEach ps X.env us) _ _ _
        refine caps_each c (by have := rr.length; omega) ?_
        refine caps_store hN c rr hl I3 fun s4 I4 => ?_
        exact hb.run pins s4 _ _ D I4 (hyes ⟨hl, e⟩)
      · rw [decide_eq_false e, if_neg Bool.false_ne_true]
        exact hn.run pins s3 σ _ D (.ref a) _ false I3 rfl (hno fun q => e q.2)
  · refine matchSeq_tuple_miss ht hfit (by simp; omega) ?_ hstar hwild
    exact hn.run pins _ σ H D (.ref a) _ false (I.tok _) rfl (hno fun q => hl q.1)
end
end Mq
/-! # The vocabulary: texts of digits, messages, what a good message is -/
namespace Mq
open PySem PySem.Spec PyProof.Rows L2
/-! ### texts of digits -/
def dstr (ds : List Nat) : Str := ⟨(ds.map (48 + ·)).toArray⟩
theorem dstr_len (ds : List Nat) : (dstr ds).length = ds.length := by
  show ((ds.map (48 + ·)).toArray).size = ds.length
  simp
theorem dstr_size (ds : List Nat) : (dstr ds).cps.size = ds.length := dstr_len ds
theorem dstr_codes (ds : List Nat) : (dstr ds).cps.toList = ds.map (48 + ·) := by
  show ((ds.map (48 + ·)).toArray).toList = _
  simp
theorem dstr_app (a b : List Nat) : dstr a ++ dstr b = dstr (a ++ b) := by
  show (⟨(a.map (48 + ·)).toArray ++ (b.map (48 + ·)).toArray⟩ : Str) = ⟨((a ++ b).map (48 + ·)).toArray⟩
  simp
theorem dstr_nil : (Str.ofString "") = dstr [] := by decide +kernel
theorem dstr_001 : (Str.ofString "001") = dstr [0, 0, 1] := by decide +kernel
theorem dstr_01 : (Str.ofString "01") = dstr [0, 1] := by decide +kernel
theorem map48_inj : ∀ {a b : List Nat}, a.map (48 + ·) = b.map (48 + ·) → a = b
  | [], [], _ => rfl
  | [], _ :: _, eq => by simp at eq
  | _ :: _, [], eq => by simp at eq
  | x :: a, y :: b, h => by
    have h1 : 48 + x = 48 + y := (List.cons.inj h).1
    have h2 : a = b := map48_inj (List.cons.inj h).2
    have h3 : x = y := by omega
    rw [h2, h3]
theorem dstr_inj {a b : List Nat} (h : dstr a = dstr b) : a = b := by
  have h1 : (dstr a).cps.toList = (dstr b).cps.toList := by rw [h]
  rw [dstr_codes, dstr_codes] at h1
  exact map48_inj h1
theorem digit_cases {d : Nat} (h : d ≤ 9) : d = 0 ∨ d = 1 ∨ d = 2 ∨ d = 3 ∨ d = 4 ∨ d = 5 ∨ d = 6 ∨ d = 7 ∨ d = 8 ∨ d = 9 := by omega
theorem str_digit {n : Int} (h0 : 0 ≤ n) (h9 : n ≤ 9) : (Str.ofString (toString n)) = dstr [n.toNat] := by
  obtain ⟨d, rfl⟩ : ∃ d : Nat, n = (d : Int) := ⟨n.toNat, by omega⟩
  have hd : d ≤ 9 := by omega
  rcases digit_cases hd with e | e | e | e | e | e | e | e | e | e <;> subst e <;> decide +kernel
theorem int_digit {d : Nat} (h : d ≤ 9) : PySem.intText? (dstr [d]) = some (d : Int) := by
  rcases digit_cases h with e | e | e | e | e | e | e | e | e | e <;> subst e <;> decide +kernel
theorem sign_in {d : Nat} (h : d ≤ 9) : (48 + d) ∈ (Str.ofString "0123456789").cps.toList := by
  rcases digit_cases h with e | e | e | e | e | e | e | e | e | e <;> subst e <;> decide +kernel
theorem figure_at {d : Nat} (h : d ≤ 9) : (Str.ofString "0123456789").cps.toList[d]? = some (48 + d) := by
  rcases digit_cases h with e | e | e | e | e | e | e | e | e | e <;> subst e <;> decide +kernel
theorem dstr_get {ds : List Nat} {i d : Nat} (h : ds[i]? = some d) : (dstr ds).cps.toList[i]? = some (48 + d) := by
  rw [dstr_codes, List.getElem?_map, h]
  rfl
theorem dstr_getA {ds : List Nat} {i c : Nat} (h : (dstr ds).cps[i]? = some c) : ∃ d, ds[i]? = some d ∧ c = 48 + d := by
  have e : (dstr ds).cps.toList[i]? = some c := by rw [Array.getElem?_toList]; exact h
  rw [dstr_codes, List.getElem?_map] at e
  cases q : ds[i]? with
  | none => (rw [q] at e; cases e)
  | some d => rw [q] at e; exact ⟨d, rfl, (Option.some.inj e).symm⟩
theorem dstr_at {ds : List Nat} {j d : Nat} {z : Int} (h : ds[j]? = some d) (e : z = (j : Int)) : atI (dstr ds).cps.toList z = some (48 + d) := by rw [e]; exact atI_nat (dstr_get h)
theorem cutS_tail (ds : List Nat) : cutS (dstr ds) (some 1) none = dstr (ds.drop 1) := by
  unfold cutS
  rw [dstr_len, dstr_codes]
  have e1 : HT.sIx ds.length 0 (some (1 : Int)) = min 1 ds.length := HT.sIx_nat ds.length 0 1
  rw [e1, HT.sIx_none]
  show (⟨_⟩ : Str) = ⟨_⟩
  congr 2
  cases ds with
  | nil => rfl
  | cons d r =>
    have e2 : min 1 (d :: r).length = 1 := Nat.min_eq_left (Nat.succ_le_succ (Nat.zero_le _))
    rw [e2]
    show List.take (r.length + 1 - 1) (r.map (48 + ·)) = r.map (48 + ·)
    exact (List.take_of_length_le (by simp))

/-! ### heaps -/
theorem _root_.L2.Same.seqT {K : PySem.W.Frag} {H H' : Hp} {a : Addr} {xs : List V} (e : Same H H') (h : SqT K H a xs) : SqT K H' a xs := by
  rcases h with (here | ⟨o, frozen⟩) | kept
  · exact .inl (.inl (e _ _ here))
  · exact .inl (.inr ⟨o, e _ _ frozen⟩)
  · exact .inr kept
theorem _root_.L2.Same.new {H H' : Hp} {p : Addr} {o : HO} (e : Same H H') (h : H' p = none) : Same H (upd H' p o) := fun b u q => by
  have q' := e b u q
  rw [upd_ne (ne_of_none q' h)]
  exact q'
theorem _root_.L2.Same.new0 {H : Hp} {p : Addr} {o : HO} (h : H p = none) : Same H (upd H p o) := Same.new (Same.refl H) h
/-- an object that H did not know is changed -/
theorem _root_.L2.Same.mut {H H' : Hp} {p : Addr} {o : HO} (e : Same H H') (h : H p = none) : Same H (upd H' p o) := fun b u q => by
  rw [upd_ne (ne_of_none q h)]
  exact e b u q
theorem size_of {n : Nat} (h : n ≤ 100000) : n ≤ sizeLine := Nat.le_trans h (by decide)
theorem size_lt {n : Nat} (h : n < 100000) : n < sizeLine := Nat.lt_of_lt_of_le h (by decide)
/-- a tuple of octets at a -/
abbrev OcT (K : PySem.W.Frag) (H : Hp) (a : Addr) (os : List Int) : Prop := SqT K H a (os.map V.int)
theorem ints_at {os : List Int} {i : Nat} {v : V} (h : (os.map V.int)[i]? = some v) : ∃ o, os[i]? = some o ∧ v = .int o := by
  rw [List.getElem?_map] at h
  cases q : os[i]? with
  | none => rw [q] at h; cases h
  | some o => rw [q] at h; exact ⟨o, rfl, (Option.some.inj h).symm⟩
theorem at_ints {os : List Int} {i : Nat} {o : Int} (h : os[i]? = some o) : (os.map V.int)[i]? = some (V.int o) := by
  rw [List.getElem?_map, h]
  rfl
theorem ints_cut (os : List Int) (lo hi : Option Int) : cutV (os.map V.int) lo hi = ((os.drop (HT.sIx os.length 0 lo)).take (HT.sIx os.length os.length hi - HT.sIx os.length 0 lo)).map V.int := by
  unfold cutV
  rw [List.length_map, List.map_take, List.map_drop]
/-- t[k:] -/
theorem ints_from (os : List Int) (k : Nat) : cutV (os.map V.int) (some (k : Int)) none = (os.drop k).map V.int := by
  rw [ints_cut, HT.sIx_none, HT.sIx_nat]
  congr 1
  by_cases h : k ≤ os.length
  · rw [Nat.min_eq_left h]
    exact List.take_of_length_le (by rw [List.length_drop]; exact Nat.le_refl _)
  · rw [Nat.min_eq_right (show os.length ≤ k by omega), List.drop_length, List.drop_eq_nil_of_le (show os.length ≤ k by omega)]
    exact List.take_nil
/-- t[j:k], j ≤ k -/
theorem ints_mid (os : List Int) (j k : Nat) (h : j ≤ k) : cutV (os.map V.int) (some (j : Int)) (some (k : Int)) = ((os.drop j).take (k - j)).map V.int := by
  rw [ints_cut, HT.sIx_nat, HT.sIx_nat]
  congr 1
  by_cases h1 : j ≤ os.length
  · rw [Nat.min_eq_left h1]
    by_cases h2 : k ≤ os.length
    · rw [Nat.min_eq_left h2]
    · rw [Nat.min_eq_right (by omega), List.take_of_length_le (by rw [List.length_drop]; exact Nat.le_refl _), List.take_of_length_le (by rw [List.length_drop]; omega)]
  · rw [Nat.min_eq_right (show os.length ≤ j by omega), List.drop_length, List.drop_eq_nil_of_le (show os.length ≤ j by omega)]
    simp
/-- t[:k] -/
theorem ints_upto (os : List Int) (k : Nat) : cutV (os.map V.int) none (some (k : Int)) = (os.take k).map V.int := by
  rw [ints_cut, HT.sIx_none, HT.sIx_nat]
  congr 1
  rw [List.drop_zero, Nat.sub_zero]
  by_cases h : k ≤ os.length
  · rw [Nat.min_eq_left h]
  · rw [Nat.min_eq_right (by omega), List.take_length, List.take_of_length_le (by omega)]

theorem ne_of_t {i j : Int} (h : (!decide (V.int i = V.int j)) = true) : i ≠ j := fun e => by
  rw [e, decide_eq_true rfl] at h
  exact Bool.noConfusion h
theorem eq_of_t {i j : Int} (h : decide (V.int i = V.int j) = true) : i = j := V.int.inj (of_decide_eq_true h)
theorem ne_of_f {i j : Int} (h : ¬ decide (V.int i = V.int j) = true) : i ≠ j := fun e => h (by rw [e]; exact decide_eq_true rfl)
theorem eq_of_f {i j : Int} (h : ¬ (!decide (V.int i = V.int j)) = true) : i = j := by
  by_cases e : V.int i = V.int j
  · exact V.int.inj e
  · exact absurd (by rw [decide_eq_false e]; rfl) h
theorem eqL_of_t {a b : List Int} (h : decide (a = b) = true) : a = b := of_decide_eq_true h
theorem neL_of_f {a b : List Int} (h : ¬ decide (a = b) = true) : a ≠ b := fun e => h (decide_eq_true e)
theorem eqL_of_f {a b : List Int} (h : ¬ (!decide (a = b)) = true) : a = b := by
  by_cases e : a = b
  · exact e
  · exact absurd (by rw [decide_eq_false e]; rfl) h
theorem lt_of_t {p : Prop} [Decidable p] (h : decide p = true) : p := of_decide_eq_true h
theorem lt_of_f {p : Prop} [Decidable p] (h : ¬ decide p = true) : ¬ p := fun q => h (decide_eq_true q)

/-! ### == of data -/
theorem dp_ints {K : PySem.W.Frag} {H : Hp} : ∀ (os : List Int), DpAll K H (os.map V.int) (os.map PyData.int)
  | [] => .nil
  | o :: os => .cons (.int o) (dp_ints os)
theorem dp_tup {K : PySem.W.Frag} {H : Hp} {a : Addr} {os : List Int} (h : OcT K H a os) : Dp K H (.ref a) (.tuple (os.map PyData.int)) := .tup h (dp_ints os)
theorem lay_ints : ∀ (os : List Int), PyData.canLayAll0 (os.map PyData.int) = true
  | [] => rfl
  | o :: os => by
    show (true && PyData.canLayAll0 (os.map PyData.int)) = true
    rw [lay_ints os]
    rfl
theorem eqv_ints : ∀ (a b : List Int), PyData.eqvAll (a.map PyData.int) (b.map PyData.int) = decide (a = b)
  | [], [] => rfl
  | [], _ :: _ => rfl
  | _ :: _, [] => rfl
  | x :: a, y :: b => by
    show ((x == y) && PyData.eqvAll (a.map PyData.int) (b.map PyData.int)) = decide (x :: a = y :: b)
    rw [eqv_ints a b]
    by_cases h1 : x = y
    · by_cases h2 : a = b
      · subst h1; subst h2; simp
      · subst h1; simp [h2]
    · simp [h1]
end Mq
/-! # The text by places, what the top has written, how a def is called -/
namespace Mq
open PySem PySem.Spec PyProof.Rows L2
abbrev KF := PySem.W.Frag
def topS (i : Nat) : Stmt := PySem.Challenge.pw_mobileair_k55_whole_messages_refused.main.body.getD i (.Pass ⟨0, 0, 0, 0⟩)
/-- a module's name that holds an int -/
def CI (mg : Str → Option Value) (x : Str) (i : Int) : Prop := ∃ t, mg x = some (.int i t)
/-- what the top has written, but the defs -/
structure Txt (K : KF) (mg : Str → Option Value) (C : Addr) : Prop where
  gC : mg "BadNumber" = some (.ref C)
  xC : PySem.W.excIn K C [.type "ValueError", .type "Exception", .type "BaseException", .type "object"] "ValueError.__new__" = true
  kC : (PySem.W.keepIn K (.ref C)) = true
  bC : PySem.W.subIn K (.ref C) (.type "BaseException") = some true
  tC : PySem.W.typeIn K (.ref C) = some (.type "type")
  eC : PySem.W.exmOne K (.ref C) (.ref C) = some true
  len : mg "len" = none
  range : mg "range" = none
  int : mg "int" = none
  str : mg "str" = none
  bool : mg "bool" = none
  tuple : mg "tuple" = none
  list : mg "list" = none
  enumerate : mg "enumerate" = none
  isinstance : mg "isinstance" = none
  cNUMBER : CI mg "NUMBER" 129
  cEMPTY : CI mg "EMPTY" 15
  cCELLS : CI mg "MOST_CELLS" 4
  cCHANNELS : CI mg "MOST_CHANNELS" 6
  cAREAS : CI mg "MOST_AREAS" 4
  cOUTBOX : CI mg "MOST_OUTBOX" 12
  cAREA : CI mg "AREA" 5
  cWORD : CI mg "LONGEST_WORD" 40
  cPART : CI mg "LONGEST_PART" 150
  cLNUM : CI mg "LONGEST_NUMBER" 9
  cCAUSES : CI mg "CAUSES" 128
/-- a def of the text that keeps its promise -/
def Cal (P : Program) (w : World) (K : KF) (mg : Str → Option Value) (base : Heap) (k : Nat) (x : Str) (ps : List Str) (sp : Sp) : Prop :=
  ∃ (f : Addr) (fd : FuncData), mg x = some (.ref f) ∧ PySem.W.keepIn K (.ref f) = true ∧ Binds K fd ps [] ∧ FnOk P w K mg base (L2.CX P w) k f fd ps sp
/-- a def as the top has written it -/
structure Def (K : KF) (mg : Str → Option Value) (x : Str) (st : Stmt) (ps : List Str) (f : Addr) (fd : FuncData) : Prop where
  fn : Fun K x x st f fd
  gm : mg x = some (.ref f)
  bn : Binds K fd ps []
section
variable {P : Program} {w : World} {K : KF} {mg : Str → Option Value} {base : Heap}
theorem Def.cal {x : Str} {st : Stmt} {ps N : List Str} {f : Addr} {fd : FuncData} {k : Nat} {sp : Sp} (D : Def K mg x st ps f fd) (S : FnScope N ps (defScope st)) (len : ∀ vs H Q E, sp vs H Q E → vs.length = ps.length)
    (hbody : ∀ (cdv : Value) (A : Around) (outer : List Env) (s : Shared) (H : Hp) (vs : List V) (Q : VK) (E : XK), Room k (A.deeper (envOfC x (defScope st) s.heap.objs.size f cdv)) → sp vs H Q E →
      ∃ t, PSs (cxOf (L2.CX P w) P w K mg base N x (defScope st) f cdv A outer s H E) (defBody st) t ∧ t { nx := fun _ H' => Q .non H', rt := Q } (start N vs) H) : Cal P w K mg base (k + 1) x ps sp :=
  ⟨f, fd, D.gm, D.fn.kp, D.bn, D.fn.okX S len hbody⟩
theorem Cal.up {x : Str} {ps : List Str} {j k : Nat} {sp : Sp} (c : Cal P w K mg base j x ps sp) (h : j ≤ k) : Cal P w K mg base k x ps sp := by
  obtain ⟨f, fd, a, b, d, G⟩ := c
  exact ⟨f, fd, a, b, d, G.mono h⟩
end
section
variable {X : Cx} {x : Str} {ps : List Str} {k : Nat} {sp : Sp} {p pos : Pos} {e : Expr} {es : List Expr} {t : TA} {i : Int} {C : Addr} {W : WX}
/-- f(e, ..), where nothing is raised -/
theorem pe_cal (c : Cal X.prog X.w X.K X.mg X.base k x ps sp) (hr : Room k X.A) (hg : Gl X x) (ha : PA X (e :: es) t) (hdb : (x == ("__debug__" : Str)) = false := by decide)
    (he : starEach (e :: es) X.env = (false, eval e X.env) :: starEach es X.env := by rfl) (hpl : (backTo pos (starEach es X.env)).any (·.1) = false := by rfl) : PE X (.Call (.Name x p) (e :: es) [] pos) (tCall sp [] E0 t) := by
  obtain ⟨f, fd, gm, kp, b, G⟩ := c
  exact pe_call G hr hg gm kp b .nil passL ha hdb he hpl
/-- f(e, ..), where something may be raised -/
theorem pe_calX (c : Cal X.prog X.w X.K X.mg X.base k x ps sp) (tk : Takes X W) (hr : Room k X.A) (hg : Gl X x) (ha : PA X (e :: es) t) (hdb : (x == ("__debug__" : Str)) = false := by decide)
    (he : starEach (e :: es) X.env = (false, eval e X.env) :: starEach es X.env := by rfl) (hpl : (backTo pos (starEach es X.env)).any (·.1) = false := by rfl) : PE X (.Call (.Name x p) (e :: es) [] pos) (tCallS sp (WE W) t) := by
  obtain ⟨f, fd, gm, kp, b, G⟩ := c
  exact pe_callS G hr hg gm kp b (fun σ => passAt tk σ) ha hdb he hpl
/-- a module's int -/
theorem pe_ci (hg : Gl X x) (h : CI X.mg x i) (hd : (x == ("__debug__" : Str)) = false := by decide) : PE X (.Name x pos) (tC (.int i)) := by
  obtain ⟨t, h⟩ := h
  exact pe_glob hg h ⟨t, rfl⟩ hd
/-- raise BadNumber() -/
theorem ps_bad {pos' : Pos} (T : Txt X.K X.mg C) (hc : X.calm = true) (tk : Takes X W) (hg : Gl X "BadNumber") : PS X (.Raise (some (.Call (.Name "BadNumber" p) [] [] pos)) none pos') (fun _ σ H => W (.ref C) none σ H) :=
  ps_raise hc tk (pmk_own0 PySem.F.excBase_ValueError T.xC T.gC T.kC (raises_own T.bC T.tC) hg)
end
/-- what is raised, whatever has been made -/
def Rz (C : Addr) (E : XK) (H : Hp) : Prop := ∀ H', Same H H' → E (.ref C) none H'
theorem Rz.to {C : Addr} {E : XK} {H H' : Hp} (h : Rz C E H) (s : Same H H') : E (.ref C) none H' := h H' s
/-! ### the promises of the digits' defs -/
def spNeed (C : Addr) : Sp := fun vs H Q E => ∃ (ds : List Nat) (lo hi : Int), vs = [.str (dstr ds), .int lo, .int hi] ∧ Dg ds ∧ ds.length ≤ 5000 ∧
  (lo ≤ (ds.length : Int) ∧ (ds.length : Int) ≤ hi → Q .non H) ∧ (¬ (lo ≤ (ds.length : Int) ∧ (ds.length : Int) ≤ hi) → E (.ref C) none H)
def spPairs : Sp := fun vs H Q _ => ∃ (ds : List Nat), vs = [.str (dstr ds)] ∧ Dg ds ∧ ds.length ≤ 1000 ∧
  ∀ p H', Same H H' → H' p = some (.tup ((prs ds).map V.int)) → Q (.ref p) H'
def spDig (C : Addr) : Sp := fun vs H Q E => ∃ (n : Int), vs = [.int n] ∧ 0 ≤ n ∧ (n ≤ 9 → Q (.str (dstr [n.toNat])) H) ∧ (9 < n → E (.ref C) none H)
def spRdP (K : KF) (C : Addr) : Sp := fun vs H Q E => ∃ (a : Addr) (os : List Int), vs = [.ref a] ∧ OcT K H a os ∧ Oc os ∧ os.length ≤ 1000 ∧
  (∀ ds H', Same H H' → Dg ds → prs ds = os → Q (.str (dstr ds)) H') ∧ Rz C E H
end Mq
/-! # Readings in short: tuples of octets, texts of digits -/
namespace Mq
open PySem PySem.Spec PyProof.Rows L2
section
variable {K : KF} {H : Hp} {a b : Addr} {os cs : List Int} {xs ys : List V} {ds : List Nat} {Q : VK} {lo hi : Option Int} {X : Cx}
theorem depth_ints : ∀ (os : List Int), PyData.depthAll (os.map PyData.int) = 0
  | [] => rfl
  | o :: os => by
    show max 0 (PyData.depthAll (os.map PyData.int)) = 0
    rw [depth_ints os]
    rfl
theorem shp_ints (os : List Int) : SeqAt.shaped (.tuple (os.map PyData.int)) = true := by
  unfold SeqAt.shaped
  have h1 : PyData.canLay0 (.tuple (os.map PyData.int)) = true := lay_ints os
  have h2 : PyData.depth (.tuple (os.map PyData.int)) = 1 := by
    show PyData.depthAll (os.map PyData.int) + 1 = 1
    rw [depth_ints]
  rw [h1, h2]
  rfl
/-! the relations of this file are closed (irreducible): a reading is opened up to them and no further -/
@[irreducible] def zEq (K : KF) : R2 := rEqD K
@[irreducible] def zNe (K : KF) : R2 := rNeD K
@[irreducible] def zSl (K : KF) : V → Option Int → Option Int → Hp → VK → Prop := rSlA K
@[irreducible] def zCat (K : KF) : R2 := rCatA K
@[irreducible] def zIxT (K : KF) : R2 := rIxT K
@[irreducible] def zIxD : R2 := rIxS
@[irreducible] def zSlD : V → Option Int → Option Int → Hp → VK → Prop := rSlS
theorem op_zEq (hu : X.A.units + 64 < cLine) : OpR X (compareOp .Eq) (zEq X.K) := by unfold zEq; exact op_eqD hu
theorem op_zNe (hu : X.A.units + 64 < cLine) : OpR X (compareOp .NotEq) (zNe X.K) := by unfold zNe; exact op_neD hu
theorem sl_z : SlR X (zSl X.K) := by unfold zSl; exact sl_tupA
theorem op_zCat : OpR X (binaryOp .Add) (zCat X.K) := by unfold zCat; exact op_catA
theorem ix_zT : IxR X (zIxT X.K) := by unfold zIxT; exact ix_tup
theorem ix_zD : IxR X zIxD := by unfold zIxD; exact ix_str
theorem sl_zD : SlR X zSlD := by unfold zSlD; exact sl_str
theorem eqT (ha : OcT K H a os) (hb : OcT K H b cs) (q : Q (.bl (decide (os = cs))) H) : zEq K (.ref a) (.ref b) H Q := by
  unfold zEq
  refine ⟨_, _, dp_tup ha, dp_tup hb, shp_ints _, shp_ints _, ?_⟩
  show Q (.bl (PyData.eqvAll (os.map PyData.int) (cs.map PyData.int))) H
  rw [eqv_ints]
  exact q
theorem neT (ha : OcT K H a os) (hb : OcT K H b cs) (q : Q (.bl (!decide (os = cs))) H) : zNe K (.ref a) (.ref b) H Q := by
  unfold zNe
  refine ⟨_, _, dp_tup ha, dp_tup hb, shp_ints _, shp_ints _, ?_⟩
  show Q (.bl (!PyData.eqvAll (os.map PyData.int) (cs.map PyData.int))) H
  rw [eqv_ints]
  exact q
/-- t[lo:hi] -/
theorem slA (h : OcT K H a os) (hc : cutV (os.map V.int) lo hi = cs.map V.int) (k : ∀ p H', Same H H' → OcT K H' p cs → Q (.ref p) H') : zSl K (.ref a) lo hi H Q := by
  unfold zSl
  refine ⟨a, _, rfl, h, fun w => k a H (Same.refl _) ?_, fun _ p np => k p _ (Same.new0 np) (by rw [hc]; exact SqT.of upd_same)⟩
  have e : cutV (os.map V.int) lo hi = os.map V.int := by
    unfold cutV
    rw [w.1, w.2, List.drop_zero, Nat.sub_zero, List.take_length]
  show SqT K H a (cs.map V.int)
  rw [← hc, e]
  exact h
/-- t + u -/
theorem catA (ha : SqT K H a xs) (hb : SqT K H b ys) (hz : xs.length + ys.length ≤ 100000) (k : ∀ p H', Same H H' → SqT K H' p (xs ++ ys) → Q (.ref p) H') : zCat K (.ref a) (.ref b) H Q := by
  unfold zCat
  refine ⟨a, b, xs, ys, rfl, rfl, ha, hb, size_of hz, fun e => ?_, fun _ e => ?_, fun _ _ p np => k p _ (Same.new0 np) (SqT.of upd_same)⟩
  · refine k b H (Same.refl _) ?_
    rw [e]
    exact hb
  · refine k a H (Same.refl _) ?_
    rw [e, List.append_nil]
    exact ha
theorem catI (ha : OcT K H a os) (hb : OcT K H b cs) (hz : os.length + cs.length ≤ 100000) (k : ∀ p H', Same H H' → OcT K H' p (os ++ cs) → Q (.ref p) H') : zCat K (.ref a) (.ref b) H Q :=
  catA ha hb (by rw [List.length_map, List.length_map]; exact hz) fun p H' s h => k p H' s (by show SqT K H' p ((os ++ cs).map V.int); rw [List.map_append]; exact h)
/-- t[i] -/
theorem ixT {j : Nat} {o z : Int} (h : OcT K H a os) (e : os[j]? = some o) (ez : z = (j : Int)) (q : Q (.int o) H) : zIxT K (.ref a) (.int z) H Q := by unfold zIxT; exact ⟨a, _, z, _, rfl, rfl, h, at_of ez (at_ints e), q⟩
/-- len(t) -/
@[irreducible] def rLenT (K : KF) : List V → Hp → VK → Prop := fun xs H Q => ∃ p ys, xs = [.ref p] ∧ (SqL K H p ys ∨ SqT K H p ys) ∧ Q (.int ys.length) H
theorem call_lenT : CallR X (.builtin "len") (rLenT X.K) := by unfold rLenT; exact call_len_seq
theorem lenT (h : OcT K H a os) (q : Q (.int os.length) H) : rLenT K [.ref a] H Q := by unfold rLenT; exact ⟨a, _, rfl, .inr h, by rw [List.length_map]; exact q⟩
theorem lenL (h : SqL K H a xs) (q : Q (.int xs.length) H) : rLenT K [.ref a] H Q := by unfold rLenT; exact ⟨a, _, rfl, .inl h, q⟩
theorem lenU (h : SqT K H a xs) (q : Q (.int xs.length) H) : rLenT K [.ref a] H Q := by unfold rLenT; exact ⟨a, _, rfl, .inr h, q⟩
/-- len(s) -/
@[irreducible] def rLenD : List V → Hp → VK → Prop := fun xs H Q => ∃ z, xs = [.str z] ∧ z.length ≤ sizeLine ∧ Q (.int z.length) H
theorem call_lenD2 : CallR X (.builtin "len") rLenD := by unfold rLenD; exact call_len_str
theorem lenD (h : ds.length ≤ 5000) (q : Q (.int ds.length) H) : rLenD [.str (dstr ds)] H Q := by unfold rLenD; exact ⟨_, rfl, by rw [dstr_len]; exact size_of (by omega), by rw [dstr_len]; exact q⟩
/-- int(s[i]) in two steps -/
theorem ixD {j d : Nat} {z : Int} (hl : ds.length ≤ 1000) (e : ds[j]? = some d) (ez : z = (j : Int)) (q : Q (.str (dstr [d])) H) : zIxD (.str (dstr ds)) (.int z) H Q := by
  unfold zIxD
  exact ⟨_, z, _, rfl, rfl, by rw [dstr_len]; exact size_of (by omega), dstr_at e ez, q⟩
@[irreducible] def rIntD : List V → Hp → VK → Prop := fun xs H Q => ∃ a n, xs = [.str a] ∧ PySem.intText? a = some n ∧ a.length ≤ 640 ∧ Q (.int n) H
theorem call_intD : CallR X (.type "int") rIntD := by unfold rIntD; exact call_int_str
theorem intD {d : Nat} (h : d ≤ 9) (q : Q (.int (d : Int)) H) : rIntD [.str (dstr [d])] H Q := by unfold rIntD; exact ⟨_, _, rfl, int_digit h, by rw [dstr_len]; show 1 ≤ 640; decide, q⟩
/-- s + t -/
@[irreducible] def rAddD : R2 := fun x y H Q => ∃ i j, x = .str i ∧ y = .str j ∧ i.length + j.length ≤ sizeLine ∧ Q (.str (i ++ j)) H
theorem op_addD : OpR X (binaryOp .Add) rAddD := by unfold rAddD; exact op_add_str
theorem addD {es : List Nat} (h : ds.length + es.length ≤ 100000) (q : Q (.str (dstr (ds ++ es))) H) : rAddD (.str (dstr ds)) (.str (dstr es)) H Q := by unfold rAddD; exact ⟨_, _, rfl, rfl, by rw [dstr_len, dstr_len]; exact size_of h, by rw [dstr_app]; exact q⟩
/-- s[1:] -/
theorem slD (hl : ds.length ≤ 1000) (q : Q (.str (dstr (ds.drop 1))) H) : zSlD (.str (dstr ds)) (some 1) none H Q := by unfold zSlD; exact ⟨_, rfl, by rw [dstr_len]; exact size_of (by omega), by rw [cutS_tail]; exact q⟩
/-- 2, 3 ..: a written tuple's size -/
theorem sz9 {n : Nat} (h : n ≤ 9 := by exact Nat.le_of_ble_eq_true rfl) : n ≤ sizeLine := size_of (by omega)
theorem Dgs.len {lo hi : Nat} (h : Dgs lo hi ds) (q : hi ≤ 1000 := by decide) : ds.length ≤ 1000 := by have := h.hi; omega
end
end Mq
/-! # The promises of the program's defs about digits, areas, parts -/
namespace Mq
open PySem PySem.Spec PyProof.Rows L2
def spSub (K : KF) (C : Addr) : Sp := fun vs H Q E => ∃ (ds : List Nat), vs = [.str (dstr ds)] ∧ Dg ds ∧ ds.length ≤ 1000 ∧
  (6 ≤ ds.length ∧ ds.length ≤ 15 → ∀ p H', Same H H' → OcT K H' p (sbo ds) → Q (.ref p) H') ∧ (¬ (6 ≤ ds.length ∧ ds.length ≤ 15) → E (.ref C) none H)
def spNum (K : KF) (C : Addr) : Sp := fun vs H Q E => ∃ (ds : List Nat), vs = [.str (dstr ds)] ∧ Dg ds ∧ ds.length ≤ 1000 ∧
  (1 ≤ ds.length ∧ ds.length ≤ 18 → ∀ p H', Same H H' → OcT K H' p (num ds) → Q (.ref p) H') ∧ (¬ (1 ≤ ds.length ∧ ds.length ≤ 18) → E (.ref C) none H)
/-- a reader: a tuple of octets in; P of the digits and the octets -/
def spRdD (K : KF) (C : Addr) (P : List Nat → List Int → Prop) : Sp := fun vs H Q E => ∃ (a : Addr) (os : List Int), vs = [.ref a] ∧ OcT K H a os ∧ Oc os ∧ os.length ≤ 1000 ∧
  (∀ ds H', Same H H' → P ds os → Q (.str (dstr ds)) H') ∧ Rz C E H
def spRdSub (K : KF) (C : Addr) : Sp := spRdD K C fun ds os => Dgs 6 15 ds ∧ sbo ds = os
def spRdNum (K : KF) (C : Addr) : Sp := spRdD K C fun ds os => Dgs 1 18 ds ∧ num ds = os
def spShort (K : KF) (C : Addr) : Sp := spRdD K C fun ds os => Dgs 1 9 ds ∧ num ds = os
def areaO (a : Int) : List Int := [0, 241, 16, 0, a]
def spArea (K : KF) : Sp := fun vs H Q _ => ∃ (a : Int), vs = [.str (dstr [0, 0, 1]), .str (dstr [0, 1]), .int a] ∧ 0 ≤ a ∧ a < 4 ∧
  ∀ p H', Same H H' → OcT K H' p (areaO a) → Q (.ref p) H'
def spWArea (K : KF) : Sp := fun vs H Q _ => ∃ (a : Int), vs = [.int a] ∧ 0 ≤ a ∧ a < 4 ∧
  ∀ p H', Same H H' → OcT K H' p (areaO a) → Q (.ref p) H'
def spRdArea (K : KF) (C : Addr) : Sp := fun vs H Q E => ∃ (a : Addr) (os : List Int), vs = [.ref a] ∧ OcT K H a os ∧ Oc os ∧ os.length ≤ 1000 ∧
  (∀ p H' c n pl, Same H H' → SqT K H' p [.str (dstr c), .str (dstr n), .int pl] → (c = [0, 0, 1] → n = [0, 1] → pl < 4 → 0 ≤ pl ∧ os = areaO pl) → Q (.ref p) H') ∧ Rz C E H
def spPlace (K : KF) (C : Addr) : Sp := fun vs H Q E => ∃ (a : Addr) (os : List Int), vs = [.ref a] ∧ OcT K H a os ∧ Oc os ∧ os.length ≤ 1000 ∧
  (∀ pl H', Same H H' → 0 ≤ pl → pl < 4 → os = areaO pl → Q (.int pl) H') ∧ Rz C E H
def partO (ds : List Nat) (pt : List Int) : List Int := ((num ds).length : Int) :: (num ds ++ pt)
def spRPart (K : KF) (C : Addr) : Sp := fun vs H Q E => ∃ (a : Addr) (os : List Int), vs = [.ref a] ∧ OcT K H a os ∧ Oc os ∧ os.length ≤ 1000 ∧
  (∀ p q ds pt H', Same H H' → SqT K H' p [.str (dstr ds), .ref q] → OcT K H' q pt → Dgs 1 9 ds → Part 150 pt → os = partO ds pt → Q (.ref p) H') ∧ Rz C E H
def spWPart (K : KF) : Sp := fun vs H Q _ => ∃ (ds : List Nat) (q : Addr) (pt : List Int), vs = [.str (dstr ds), .ref q] ∧ Dgs 1 9 ds ∧ OcT K H q pt ∧ Part 150 pt ∧
  ∀ p H', Same H H' → OcT K H' p (partO ds pt) → Q (.ref p) H'
end Mq
namespace Mq
open PySem PySem.Spec PyProof.Rows L2
section
variable {P : Program} {w : World} {K : KF} {mg : Str → Option Value} {base : Heap} {C : Addr}
/-! ### need_digits -/
abbrev sNeed : Stmt := topS 6
theorem scNeed : FnScope ["digits", "least", "most", "digit"] ["digits", "least", "most"] (defScope sNeed) := ⟨rfl, rfl, rfl, by decide +kernel, rfl, by decide +kernel, by decide +kernel⟩
theorem cal_need (T : Txt K mg C) {f : Addr} {fd : FuncData} (D : Def K mg "need_digits" sNeed ["digits", "least", "most"] f fd) : Cal P w K mg base 1 "need_digits" ["digits", "least", "most"] (spNeed C) := by
  refine D.cal scNeed (fun vs H Q E h => ?_) (fun cdv A outer s H vs Q E hr h => ?_)
  · obtain ⟨ds, lo, hi, rfl, _⟩ := h
    rfl
  · obtain ⟨ds, lo, hi, rfl, hd, hl, kq, ke⟩ := h
    refine ⟨_, pss_cons (ps_if (PW.pt (pw_or (pt_cmpR op_lt (pe_callB call_len_str (by rfl) T.len PySem.boot_len (pa_cons (pv 0) pa_nil)) (pv 1) (nomark _)) (pw_or1 (pt_cmpR op_gt (pe_callB call_len_str (by rfl) T.len PySem.boot_len (pa_cons (pv 0) pa_nil)) (pv 2) (nomark _)))))
        (pss_one (ps_bad T rfl (takes_of rfl rfl rfl rfl) rfl)) pss_nil)
      (pss_one (ps_for (passes_of rfl) rfl (pi_str (pv 0)) (pg_name (i := 3) scNeed.nd rfl (Or.inl rfl))
        (pss_one (ps_if (pt_cmpR op_notIn_sign (pv 3) pe_str rfl) (pss_one (ps_bad T rfl (takes_of rfl rfl rfl rfl) rfl)) pss_nil)))), ?_⟩
    have hz : (dstr ds).length ≤ sizeLine := by rw [dstr_len]; exact size_of (by omega)
    refine ⟨_, rfl, _, rfl, hz, _, rfl, _, _, rfl, rfl, _, rfl, ?_⟩
    rw [dstr_len]
    refine ite2 (fun c => ?_) (fun c => ?_)
    · refine iteT ?_
      exact ke (by have := of_decide_eq_true c; omega)
    refine ⟨_, rfl, _, rfl, hz, _, rfl, _, _, rfl, rfl, _, rfl, ?_⟩
    rw [dstr_len]
    refine ite2 (fun c2 => ?_) (fun c2 => ?_)
    · exact ke (by have := of_decide_eq_true c2; omega)
    have c' := of_decide_eq_false (Bool.not_eq_true _ ▸ c)
    have c2' := of_decide_eq_false (Bool.not_eq_true _ ▸ c2)
    refine ⟨_, rfl, _, rfl, for_it walk_str (fun i σ H' => H' = H ∧ ∃ v, σ = [some (.str (dstr ds)), some (.int lo), some (.int hi), v]) ⟨rfl, none, rfl⟩ (fun _ _ _ _ _ => trivial) ?_ ?_⟩
    · rintro i x σ H1 H2 hi ⟨rfl, v, rfl⟩ ⟨rfl, c0, hc, rfl⟩
      obtain ⟨d, hd1, rfl⟩ := dstr_getA hc
      refine ⟨_, rfl, _, _, rfl, rfl, _, rfl, ?_⟩
      rw [decide_eq_true (sign_in (hd.get hd1))]
      refine iteF ?_
      exact ⟨rfl, _, rfl⟩
    · rintro σ H1 ⟨rfl, v, rfl⟩
      exact kq ⟨by omega, by omega⟩
/-! ### digit_of -/
abbrev sDig : Stmt := topS 8
theorem scDig : FnScope ["number"] ["number"] (defScope sDig) := ⟨rfl, rfl, rfl, by decide +kernel, rfl, by decide +kernel, by decide +kernel⟩
theorem cal_dig (T : Txt K mg C) {f : Addr} {fd : FuncData} (D : Def K mg "digit_of" sDig ["number"] f fd) : Cal P w K mg base 1 "digit_of" ["number"] (spDig C) := by
  refine D.cal scDig (fun vs H Q E h => ?_) (fun cdv A outer s H vs Q E hr h => ?_)
  · obtain ⟨n, rfl, _⟩ := h
    rfl
  · obtain ⟨n, rfl, h0, kq, ke⟩ := h
    refine ⟨_, pss_cons (ps_if (pt_cmpR op_gt (pv 0) pe_int (nomark _)) (pss_one (ps_bad T rfl (takes_of rfl rfl rfl rfl) rfl)) pss_nil)
      (pss_one (ps_ret (pe_callTy call_str_int (by rfl) T.str (by decide +kernel) (pa_cons (pv 0) pa_nil)))), ?_⟩
    refine ⟨_, rfl, _, _, rfl, rfl, _, rfl, ?_⟩
    refine ite2 (fun c => ?_) (fun c => ?_)
    · exact ke (of_decide_eq_true c)
    have c' : ¬ 9 < n := of_decide_eq_false (Bool.not_eq_true _ ▸ c)
    refine ⟨_, rfl, n, rfl, ?_, ?_⟩
    · have : n.natAbs < 2 ^ 4 := by omega
      exact Nat.lt_of_le_of_lt (Nat.log2_le_self _) (by omega)
    · have e := str_digit h0 (by omega)
      show Q (.str (Str.ofString (toString n))) H
      rw [e]
      exact kq (by omega)
end
end Mq
namespace Mq
open PySem PySem.Spec PyProof.Rows L2
theorem fits62 {i : Int} (h1 : -(2 ^ 62) ≤ i) (h2 : i < 2 ^ 62) : Builtin.Range.rangeFitsLong i = true := by
  unfold Builtin.Range.rangeFitsLong
  rw [decide_eq_true (by omega), decide_eq_true (by omega)]
  rfl
theorem rgc2 {n : Nat} (h : n ≤ 1000) : RgC 0 (n : Int) 2 ((n + 1) / 2) := by
  have e : Builtin.Range.rangeSize 0 (n : Int) 2 = (((n + 1) / 2 : Nat) : Int) := by
    rw [PyProof.Rows.rangeSize_pos (by omega) (by omega)]
    omega
  refine ⟨by decide, by decide, ?_, e⟩
  unfold Builtin.Range.small
  rw [e, fits62 (by omega) (by omega), fits62 (by omega) (by omega), fits62 (by omega) (by omega), fits62 (by omega) (by omega), if_pos (by decide), fits62 (by omega) (by omega), Bool.or_true]
  rfl
section
variable {P : Program} {w : World} {K : KF} {mg : Str → Option Value} {base : Heap} {C : Addr}
/-! ### read_pairs -/
abbrev sRdP : Stmt := topS 9
theorem scRdP : FnScope ["octets", "digits", "at", "octet"] ["octets"] (defScope sRdP) := ⟨rfl, rfl, rfl, by decide +kernel, rfl, by decide +kernel, by decide +kernel⟩
theorem cal_rdp (T : Txt K mg C) (cd : Cal P w K mg base 1 "digit_of" ["number"] (spDig C)) {f : Addr} {fd : FuncData} (D : Def K mg "read_pairs" sRdP ["octets"] f fd) : Cal P w K mg base 2 "read_pairs" ["octets"] (spRdP K C) := by
  refine D.cal scRdP (fun vs H Q E h => ?_) (fun cdv A outer s H vs Q E hr h => ?_)
  · obtain ⟨a, os, rfl, _⟩ := h
    rfl
  · obtain ⟨a, os, rfl, hS, hoc, hl, kq, ke⟩ := h
    refine ⟨_, pss_cons (ps_set (i := 1) scRdP.nd rfl (Or.inl rfl) pe_str)
      (pss_cons (ps_for (passes_of rfl) rfl (pi_enumT (by rfl) T.enumerate (pa_cons (pv 0) pa_nil)) (pg_tup (by rfl) (pgs_cons (pg_name (i := 2) scRdP.nd rfl (Or.inl rfl)) (pgs_cons (pg_name (i := 3) scRdP.nd rfl (Or.inl rfl)) pgs_nil)))
        (pss_cons (ps_set (i := 1) scRdP.nd rfl (Or.inl rfl) (pe_op op_add_str (pv 1) (pe_calX cd (takes_of rfl rfl rfl rfl) hr rfl (pa_cons (pe_op op_mod (pv 3) pe_int) pa_nil))))
        (pss_one (ps_if (PW.pt (pw_or (pt_cmpR op_ne (pe_op op_fdiv (pv 3) pe_int) (pe_ci rfl T.cEMPTY) (nomark _)) (pw_or1 (pt_cmpR op_lt (pe_op op_add (pv 2) pe_int) (pe_callB call_len_seq (by rfl) T.len PySem.boot_len (pa_cons (pv 0) pa_nil)) (nomark _)))))
          (pss_one (ps_set (i := 1) scRdP.nd rfl (Or.inl rfl) (pe_op op_add_str (pv 1) (pe_calX cd (takes_of rfl rfl rfl rfl) hr rfl (pa_cons (pe_op op_fdiv (pv 3) pe_int) pa_nil))))) pss_nil))))
      (pss_one (ps_ret (pv 1)))), ?_⟩
    refine ⟨_, rfl, a, _, rfl, hS, for_it walk_enumT (fun i σ H' => ∃ ds v2 v3, σ = [some (.ref a), some (.str (dstr ds)), v2, v3] ∧ Same H H' ∧ Dg ds ∧ prs ds = os.take i ∧ ds.length ≤ 2 * i ∧ (i < os.length → ds.length = 2 * i))
      ⟨[], none, none, by rw [← dstr_nil]; rfl, Same.refl _, Dg.nil, by rw [List.take_zero]; rfl, Nat.le_refl _, fun _ => rfl⟩ (fun _ _ _ _ ⟨_, _, _, _, s1, _⟩ => s1.seqT hS) ?_ ?_⟩
    · rintro i x σ H1 H2 hi ⟨ds, v2, v3, rfl, s1, hd, hp, hle, hlen⟩ ⟨Tp, x1, x2, rfl, nT, rfl, e1, e2⟩
      cases e1
      obtain ⟨o, ho, rfl⟩ := ints_at e2
      rw [List.length_map] at hi
      have ob := hoc.get ho
      have s2 : Same H (upd H1 Tp (.tup [.int (i : Nat), .int o])) := s1.new nT
      have l0 := hlen hi
      refine ⟨Tp, _, rfl, SqT.of upd_same, rfl, _, _, rfl, _, _, rfl, rfl, ?_⟩
      refine ⟨_, rfl, _, rfl, _, _, rfl, rfl, (by show (0 : Int) < 16; decide), o % 16, rfl, by omega, fun c => ?_, fun c => ke _ s2⟩
      refine ⟨_, _, rfl, rfl, by rw [dstr_len, dstr_len]; exact size_of (by rw [l0]; simp; omega), ?_⟩
      rw [dstr_app]
      have hd1 : Dg (ds ++ [(o % 16).toNat]) := hd.append (Dg.one (by omega))
      have hl1 : (ds ++ [(o % 16).toNat]).length = 2 * i + 1 := by rw [List.length_append, l0]; rfl
      refine ⟨_, rfl, _, _, rfl, rfl, ⟨by decide, by decide⟩, rfl, _, rfl, ?_⟩
      refine ite2 (fun c1 => iteT ?a1) (fun c1 => ?b1)
      rotate_left
      refine ⟨_, rfl, _, _, rfl, rfl, _, rfl, _, _, rfl, Or.inr (s2.seqT hS), _, _, rfl, rfl, _, rfl, ?_⟩
      refine ite2 (fun c2 => ?a2) (fun c2 => ?c)
      case c =>
        have e1 := eq_of_f c1
        have e2 := lt_of_f c2
        rw [List.length_map] at e2
        exact ⟨_, _, _, rfl, s2, hd1, prs_last hp l0 ho ob.1 (by omega) e1, by omega, fun q => absurd q (by omega)⟩
      all_goals
        refine ⟨_, rfl, _, rfl, _, _, rfl, rfl, ⟨by decide, by decide⟩, o / 16, rfl, by omega, fun c3 => ?_, fun c3 => ke _ s2⟩
        refine ⟨_, _, rfl, rfl, by rw [dstr_len, dstr_len]; exact size_of (by rw [hl1]; simp; omega), ?_⟩
        rw [dstr_app, List.append_assoc]
        have hl2 : (ds ++ ([(o % 16).toNat] ++ [(o / 16).toNat])).length = 2 * (i + 1) := by simp [l0]; omega
        exact ⟨_, _, _, rfl, s2, hd.append ((Dg.one (by omega)).append (Dg.one (by omega))), prs_more hp l0 ho ob.1 (by omega) (by omega), by omega, fun _ => hl2⟩
    · rintro σ H1 ⟨ds, v2, v3, rfl, s1, hd, hp, hle, hlen⟩
      rw [List.length_map, List.take_length] at hp
      exact ⟨_, rfl, kq _ _ s1 hd hp⟩
end
end Mq
namespace Mq
open PySem PySem.Spec PyProof.Rows L2
section
variable {P : Program} {w : World} {K : KF} {mg : Str → Option Value} {base : Heap} {C : Addr}
/-! ### pairs_of -/
abbrev sPairs : Stmt := topS 7
theorem scPairs : FnScope ["digits", "row", "at", "second"] ["digits"] (defScope sPairs) := ⟨rfl, rfl, rfl, by decide +kernel, rfl, by decide +kernel, by decide +kernel⟩
theorem cal_pairs (T : Txt K mg C) {f : Addr} {fd : FuncData} (D : Def K mg "pairs_of" sPairs ["digits"] f fd) : Cal P w K mg base 1 "pairs_of" ["digits"] spPairs := by
  refine D.cal scPairs (fun vs H Q E h => ?_) (fun cdv A outer s H vs Q E hr h => ?_)
  · obtain ⟨ds, rfl, _⟩ := h
    rfl
  · obtain ⟨ds, rfl, hd, hl, kq⟩ := h
    refine ⟨_, pss_cons (ps_set (i := 1) scPairs.nd rfl (Or.inl rfl) (pe_lst pa_nil))
      (pss_cons (ps_for (passes_of rfl) rfl (pi_range3 (by rfl) T.range (pa_cons pe_int (pa_cons (pe_callB call_len_str (by rfl) T.len PySem.boot_len (pa_cons (pv 0) pa_nil)) (pa_cons pe_int pa_nil)))) (pg_name (i := 2) scPairs.nd rfl (Or.inl rfl))
        (pss_cons (ps_set (i := 3) scPairs.nd rfl (Or.inl rfl) (pe_ci rfl T.cEMPTY))
        (pss_cons (ps_if (pt_cmpR op_lt (pe_op op_add (pv 2) pe_int) (pe_callB call_len_str (by rfl) T.len PySem.boot_len (pa_cons (pv 0) pa_nil)) (nomark _))
            (pss_one (ps_set (i := 3) scPairs.nd rfl (Or.inl rfl) (pe_callTy call_int_str (by rfl) T.int (by decide +kernel) (pa_cons (pe_ix ix_str (pv 0) (pe_op op_add (pv 2) pe_int) (fun _ _ => rfl)) pa_nil)))) pss_nil)
        (pss_one (ps_expr (pe_bm PySem.F.plainAttrs_list PySem.F.slot_list_append PySem.F.type_list_append mt_append (pv 1)
          (pa_cons (pe_op op_add (pe_callTy call_int_str (by rfl) T.int (by decide +kernel) (pa_cons (pe_ix ix_str (pv 0) (pv 2) (fun _ _ => rfl)) pa_nil)) (pe_op op_mul pe_int (pv 3))) pa_nil)))))))
      (pss_one (ps_ret (pe_callTy call_tuple_of (by rfl) T.tuple (by decide +kernel) (pa_cons (pv 1) pa_nil))))), ?_⟩
    have hz : (dstr ds).length ≤ sizeLine := by rw [dstr_len]; exact size_of (by omega)
    refine ⟨Nat.zero_le _, fun l nl => ?_⟩
    refine ⟨_, rfl, _, rfl, hz, 0, _, 2, (ds.length + 1) / 2, rfl, by rw [dstr_len]; exact rgc2 hl,
      for_rangeC (fun i σ H' => ∃ v2 v3, σ = [some (.str (dstr ds)), some (.ref l), v2, v3] ∧ Same H H' ∧ H' l = some (.lst ((prs (ds.take (2 * i))).map V.int)))
        ⟨none, none, rfl, Same.new0 nl, upd_same⟩ ?_ ?_⟩
    · rintro i σ H1 hi ⟨v2, v3, rfl, s1, hrow⟩
      have e0 : (0 : Int) + (i : Int) * 2 = ((2 * i : Nat) : Int) := by omega
      rw [e0]
      obtain ⟨d, hd1⟩ : ∃ d, ds[2 * i]? = some d := ⟨ds[2 * i]'(by omega), List.getElem?_eq_getElem (by omega)⟩
      have d9 := hd.get hd1
      have hrl : ((prs (ds.take (2 * i))).map V.int).length < sizeLine := size_lt (by rw [List.length_map, prs_len, List.length_take]; omega)
      refine ⟨_, rfl, _, _, rfl, rfl, _, rfl, _, rfl, hz, _, _, rfl, rfl, _, rfl, ?_⟩
      rw [dstr_len]
      refine ite2 (fun c => ?_) (fun c => ?_)
      · have c1 := lt_of_t c
        obtain ⟨e, he1⟩ : ∃ e, ds[2 * i + 1]? = some e := ⟨ds[2 * i + 1]'(by omega), List.getElem?_eq_getElem (by omega)⟩
        have e9 := hd.get he1
        refine ⟨_, rfl, _, rfl, _, _, rfl, rfl, _, _, _, rfl, rfl, hz, dstr_at he1 (by omega), _, _, rfl, int_digit e9, by show 1 ≤ 640; decide, ?_⟩
        refine ⟨_, rfl, Or.inl ⟨rfl, _, SqL.of hrow⟩, _, rfl, _, rfl, _, _, _, rfl, rfl, hz, dstr_at hd1 rfl, _, _, rfl, int_digit d9, by show 1 ≤ 640; decide, _, rfl, _, _, rfl, rfl, Or.inl ⟨by decide, by decide⟩, _, _, rfl, rfl, l, _, _, rfl, rfl, hrow, hrl, ?_⟩
        refine ⟨_, _, rfl, s1.mut nl, ?_⟩
        rw [upd_same, prs_drop2 hd1 he1, List.map_append]
        rfl
      · have c1 := lt_of_f c
        have he1 : ds[2 * i + 1]? = none := List.getElem?_eq_none_iff.mpr (by omega)
        refine ⟨_, rfl, Or.inl ⟨rfl, _, SqL.of hrow⟩, _, rfl, _, rfl, _, _, _, rfl, rfl, hz, dstr_at hd1 rfl, _, _, rfl, int_digit d9, by show 1 ≤ 640; decide, _, rfl, _, _, rfl, rfl, Or.inl ⟨by decide, by decide⟩, _, _, rfl, rfl, l, _, _, rfl, rfl, hrow, hrl, ?_⟩
        refine ⟨_, _, rfl, s1.mut nl, ?_⟩
        rw [upd_same, prs_drop1 hd1 he1, List.map_append]
        rfl
    · rintro σ H1 ⟨v2, v3, rfl, s1, hrow⟩
      rw [List.take_of_length_le (by omega)] at hrow
      exact ⟨_, rfl, l, _, rfl, Or.inl ⟨SqL.of hrow, fun t nt => kq t _ (s1.new nt) upd_same⟩⟩
end
end Mq
namespace Mq
open PySem PySem.Spec PyProof.Rows L2
section
variable {P : Program} {w : World} {K : KF} {mg : Str → Option Value} {base : Heap} {C : Addr}
/-! ### subscriber_octets -/
abbrev sSub : Stmt := topS 10
theorem scSub : FnScope ["digits", "first"] ["digits"] (defScope sSub) := ⟨rfl, rfl, rfl, by decide +kernel, rfl, by decide +kernel, by decide +kernel⟩
theorem cal_sub (T : Txt K mg C) (cn : Cal P w K mg base 1 "need_digits" ["digits", "least", "most"] (spNeed C)) (cp : Cal P w K mg base 1 "pairs_of" ["digits"] spPairs) {f : Addr} {fd : FuncData} (D : Def K mg "subscriber_octets" sSub ["digits"] f fd) :
    Cal P w K mg base 2 "subscriber_octets" ["digits"] (spSub K C) := by
  refine D.cal scSub (fun vs H Q E h => ?_) (fun cdv A outer s H vs Q E hr h => ?_)
  · obtain ⟨ds, rfl, _⟩ := h
    rfl
  · obtain ⟨ds, rfl, hd, hl, kq, ke⟩ := h
    refine ⟨_, pss_cons (ps_expr (pe_calX cn (takes_of rfl rfl rfl rfl) hr rfl (pa_cons (pv 0) (pa_cons pe_int (pa_cons pe_int pa_nil)))))
      (pss_cons (ps_set (i := 1) scSub.nd rfl (Or.inl rfl) (pe_op op_add (pe_op op_mul pe_int (pe_callTy call_intD (by rfl) T.int (by decide +kernel) (pa_cons (pe_ix ix_zD (pv 0) pe_int (fun _ _ => rfl)) pa_nil))) pe_int))
      (pss_cons (ps_if (pt_cmpR op_eq (pe_op op_mod (pe_callB call_lenD2 (by rfl) T.len PySem.boot_len (pa_cons (pv 0) pa_nil)) pe_int) pe_int (nomark _)) (pss_one (ps_set (i := 1) scSub.nd rfl (Or.inl rfl) (pe_op op_add (pv 1) pe_int))) pss_nil)
      (pss_one (ps_ret (pe_op op_zCat (pe_tup (pa_cons (pv 1) pa_nil)) (pe_cal cp hr rfl (pa_cons (pe_slice sl_zD (pv 0) (po_some pe_int) po_none) pa_nil))))))), ?_⟩
    refine ⟨_, rfl, ds, 6, 15, rfl, hd, by omega, fun c => ?_, fun c => ke (by omega)⟩
    cases ds with
    | nil => simp at c
    | cons d r =>
      have d9 := hd.head
      refine ⟨_, rfl, ixD (j := 0) hl rfl rfl (intD d9 ⟨_, _, rfl, rfl, Or.inl ⟨by decide, by decide⟩, _, _, rfl, rfl, ?_⟩)⟩
      have k2 : ∀ z, z = sb1 (r.length + 1) d → ∀ p H', Same H H' → SqT K H' p (V.int z :: (prs r).map V.int) → Q (.ref p) H' := fun z e p H' s' h' => by
        refine kq (by simp at c; simp; omega) p H' s' ?_
        rw [e] at h'
        exact h'
      refine ⟨_, rfl, lenD (by omega) ⟨_, _, rfl, rfl, (by show (0 : Int) < 2; decide), rfl, _, rfl, ?_⟩⟩
      refine ite2 (fun c1 => ?_) (fun c1 => ?_)
      · have e1 := eq_of_t c1
        refine ⟨_, rfl, _, _, rfl, rfl, _, rfl, sz9, fun p np => ⟨_, rfl, _, rfl, slD hl ⟨r, rfl, hd.tail, by simp at hl; omega, fun t H2 s2 ht => ?_⟩⟩⟩
        refine catA (s2.seqT (SqT.of upd_same)) (SqT.of ht) (by rw [List.length_map, prs_len]; simp at hl ⊢; omega) fun p2 H3 s3 h3 => k2 _ ?_ p2 H3 ((Same.new0 np).trans (s2.trans s3)) h3
        unfold sb1
        rw [if_pos (by simp at e1; omega)]
      · have e1 := ne_of_f c1
        refine ⟨_, rfl, sz9, fun p np => ⟨_, rfl, _, rfl, slD hl ⟨r, rfl, hd.tail, by simp at hl; omega, fun t H2 s2 ht => ?_⟩⟩⟩
        refine catA (s2.seqT (SqT.of upd_same)) (SqT.of ht) (by rw [List.length_map, prs_len]; simp at hl ⊢; omega) fun p2 H3 s3 h3 => k2 _ ?_ p2 H3 ((Same.new0 np).trans (s2.trans s3)) h3
        unfold sb1
        rw [if_neg (by simp at e1; omega)]
/-! ### number_octets -/
abbrev sNum : Stmt := topS 12
theorem scNum : FnScope ["digits"] ["digits"] (defScope sNum) := ⟨rfl, rfl, rfl, by decide +kernel, rfl, by decide +kernel, by decide +kernel⟩
theorem cal_num (T : Txt K mg C) (cn : Cal P w K mg base 1 "need_digits" ["digits", "least", "most"] (spNeed C)) (cp : Cal P w K mg base 1 "pairs_of" ["digits"] spPairs) {f : Addr} {fd : FuncData} (D : Def K mg "number_octets" sNum ["digits"] f fd) :
    Cal P w K mg base 2 "number_octets" ["digits"] (spNum K C) := by
  refine D.cal scNum (fun vs H Q E h => ?_) (fun cdv A outer s H vs Q E hr h => ?_)
  · obtain ⟨ds, rfl, _⟩ := h
    rfl
  · obtain ⟨ds, rfl, hd, hl, kq, ke⟩ := h
    refine ⟨_, pss_cons (ps_expr (pe_calX cn (takes_of rfl rfl rfl rfl) hr rfl (pa_cons (pv 0) (pa_cons pe_int (pa_cons pe_int pa_nil)))))
      (pss_one (ps_ret (pe_op op_zCat (pe_tup (pa_cons (pe_ci rfl T.cNUMBER) pa_nil)) (pe_cal cp hr rfl (pa_cons (pv 0) pa_nil))))), ?_⟩
    refine ⟨_, rfl, ds, 1, 18, rfl, hd, by omega, fun c => ?_, fun c => ke (by omega)⟩
    refine ⟨sz9, fun p np => ⟨_, rfl, ds, rfl, hd, hl, fun t H2 s2 ht => ?_⟩⟩
    exact catA (s2.seqT (SqT.of upd_same)) (SqT.of ht) (by rw [List.length_map, prs_len]; simp; omega) fun p2 H3 s3 h3 => kq (by omega) p2 H3 ((Same.new0 np).trans (s2.trans s3)) h3
end
end Mq
namespace Mq
open PySem PySem.Spec PyProof.Rows L2
theorem Rz.up {C : Addr} {E : XK} {H H' : Hp} (h : Rz C E H) (s : Same H H') : Rz C E H' := fun H2 s2 => h H2 (s.trans s2)
section
variable {P : Program} {w : World} {K : KF} {mg : Str → Option Value} {base : Heap} {C : Addr}
/-! ### read_subscriber -/
abbrev sRdSub : Stmt := topS 11
theorem scRdSub : FnScope ["octets", "digits"] ["octets"] (defScope sRdSub) := ⟨rfl, rfl, rfl, by decide +kernel, rfl, by decide +kernel, by decide +kernel⟩
theorem cal_rdsub (T : Txt K mg C) (cd : Cal P w K mg base 1 "digit_of" ["number"] (spDig C)) (cr : Cal P w K mg base 2 "read_pairs" ["octets"] (spRdP K C)) (cn : Cal P w K mg base 1 "need_digits" ["digits", "least", "most"] (spNeed C))
    (cs : Cal P w K mg base 2 "subscriber_octets" ["digits"] (spSub K C)) {f : Addr} {fd : FuncData} (D : Def K mg "read_subscriber" sRdSub ["octets"] f fd) : Cal P w K mg base 3 "read_subscriber" ["octets"] (spRdSub K C) := by
  refine D.cal scRdSub (fun vs H Q E h => ?_) (fun cdv A outer s H vs Q E hr h => ?_)
  · obtain ⟨a, os, rfl, _⟩ := h
    rfl
  · obtain ⟨a, os, rfl, hS, hoc, hl, kq, ke⟩ := h
    refine ⟨_, pss_cons (ps_if (pt_cmpR (op_zEq hr.units) (pv 0) (pe_tup pa_nil) (nomark _)) (pss_one (ps_bad T rfl (takes_of rfl rfl rfl rfl) rfl)) pss_nil)
      (pss_cons (ps_set (i := 1) scRdSub.nd rfl (Or.inl rfl) (pe_op op_addD (pe_calX cd (takes_of rfl rfl rfl rfl) (hr.mono (by decide)) rfl (pa_cons (pe_op op_fdiv (pe_ix ix_zT (pv 0) pe_int (fun _ _ => rfl)) pe_int) pa_nil))
          (pe_calX cr (takes_of rfl rfl rfl rfl) hr rfl (pa_cons (pe_slice sl_z (pv 0) (po_some pe_int) po_none) pa_nil))))
      (pss_cons (ps_expr (pe_calX cn (takes_of rfl rfl rfl rfl) (hr.mono (by decide)) rfl (pa_cons (pv 1) (pa_cons pe_int (pa_cons pe_int pa_nil)))))
      (pss_cons (ps_if (pt_cmpR (op_zNe hr.units) (pe_calX cs (takes_of rfl rfl rfl rfl) hr rfl (pa_cons (pv 1) pa_nil)) (pv 0) (nomark _)) (pss_one (ps_bad T rfl (takes_of rfl rfl rfl rfl) rfl)) pss_nil)
      (pss_one (ps_ret (pv 1)))))), ?_⟩
    refine ⟨_, rfl, Nat.zero_le _, fun p np => ?_⟩
    have s0 : Same H (upd H p (.tup [])) := Same.new0 np
    have h0 := s0.seqT hS
    refine eqT (cs := []) h0 (SqT.of upd_same) ⟨_, rfl, ?_⟩
    refine ite2 (fun c => ke _ s0) (fun c => ?_)
    have hne := neL_of_f c
    cases os with
    | nil => exact absurd rfl hne
    | cons o r =>
      have ho := hoc.head
      refine ⟨_, rfl, ixT (j := 0) h0 rfl rfl ⟨_, _, rfl, rfl, ⟨by decide, by decide⟩, _, rfl, by omega, fun c1 => ?_, fun c1 => ke _ s0⟩⟩
      refine ⟨_, rfl, _, rfl, slA h0 (ints_from (o :: r) 1) fun q H2 s2 hq => ⟨q, r, rfl, hq, hoc.tail, by simp at hl; omega, fun ds H3 s3 hd hp => ?_, (ke.up s0).up s2⟩⟩
      have s03 : Same H H3 := s0.trans (s2.trans s3)
      have hlen : ds.length ≤ 2 * r.length := by
        have e := prs_len ds
        rw [hp] at e
        omega
      simp at hl
      refine addD (by simp; omega) ?_
      have hd' : Dg ([(o / 16).toNat] ++ ds) := (Dg.one (by omega)).append hd
      refine ⟨_, rfl, _, 6, 15, rfl, hd', by simp; omega, fun c2 => ?_, fun _ => ke _ s03⟩
      refine ⟨_, rfl, _, rfl, hd', by omega, fun _ p2 H4 s4 h4 => ?_, fun c3 => absurd c2 (by omega)⟩
      have s04 := s03.trans s4
      refine ⟨_, rfl, neT h4 (s04.seqT hS) ⟨_, rfl, ?_⟩⟩
      refine ite2 (fun c4 => ke _ s04) (fun c4 => ?_)
      exact ⟨_, rfl, kq _ _ s04 ⟨⟨hd', by omega, by omega⟩, eqL_of_f c4⟩⟩
/-! ### read_number -/
abbrev sRdNum : Stmt := topS 13
theorem scRdNum : FnScope ["octets", "digits"] ["octets"] (defScope sRdNum) := ⟨rfl, rfl, rfl, by decide +kernel, rfl, by decide +kernel, by decide +kernel⟩
theorem cal_rdnum (T : Txt K mg C) (cr : Cal P w K mg base 2 "read_pairs" ["octets"] (spRdP K C)) (cn : Cal P w K mg base 1 "need_digits" ["digits", "least", "most"] (spNeed C))
    {f : Addr} {fd : FuncData} (D : Def K mg "read_number" sRdNum ["octets"] f fd) : Cal P w K mg base 3 "read_number" ["octets"] (spRdNum K C) := by
  refine D.cal scRdNum (fun vs H Q E h => ?_) (fun cdv A outer s H vs Q E hr h => ?_)
  · obtain ⟨a, os, rfl, _⟩ := h
    rfl
  · obtain ⟨a, os, rfl, hS, hoc, hl, kq, ke⟩ := h
    refine ⟨_, pss_cons (ps_if (PW.pt (pw_or (pt_cmpR (op_zEq hr.units) (pv 0) (pe_tup pa_nil) (nomark _)) (pw_or1 (pt_cmpR op_ne (pe_ix ix_zT (pv 0) pe_int (fun _ _ => rfl)) (pe_ci rfl T.cNUMBER) (nomark _))))) (pss_one (ps_bad T rfl (takes_of rfl rfl rfl rfl) rfl)) pss_nil)
      (pss_cons (ps_set (i := 1) scRdNum.nd rfl (Or.inl rfl) (pe_calX cr (takes_of rfl rfl rfl rfl) hr rfl (pa_cons (pe_slice sl_z (pv 0) (po_some pe_int) po_none) pa_nil)))
      (pss_cons (ps_expr (pe_calX cn (takes_of rfl rfl rfl rfl) (hr.mono (by decide)) rfl (pa_cons (pv 1) (pa_cons pe_int (pa_cons pe_int pa_nil)))))
      (pss_one (ps_ret (pv 1))))), ?_⟩
    refine ⟨_, rfl, Nat.zero_le _, fun p np => ?_⟩
    have s0 : Same H (upd H p (.tup [])) := Same.new0 np
    have h0 := s0.seqT hS
    refine eqT (cs := []) h0 (SqT.of upd_same) ⟨_, rfl, ?_⟩
    refine ite2 (fun c => iteT (ke _ s0)) (fun c => ?_)
    have hne := neL_of_f c
    cases os with
    | nil => exact absurd rfl hne
    | cons o r =>
      have ho := hoc.head
      refine ⟨_, rfl, ixT (j := 0) h0 rfl rfl ⟨rfl, _, rfl, ?_⟩⟩
      refine ite2 (fun c => ke _ s0) (fun c => ?_)
      have eo := eq_of_f c
      refine ⟨_, rfl, _, rfl, slA h0 (ints_from (o :: r) 1) fun q H2 s2 hq => ⟨q, r, rfl, hq, hoc.tail, by simp at hl; omega, fun ds H3 s3 hd hp => ?_, (ke.up s0).up s2⟩⟩
      have s03 : Same H H3 := s0.trans (s2.trans s3)
      have hlen : ds.length ≤ 2 * r.length := by
        have e := prs_len ds
        rw [hp] at e
        omega
      simp at hl
      refine ⟨_, rfl, ds, 1, 18, rfl, hd, by omega, fun c2 => ?_, fun _ => ke _ s03⟩
      refine ⟨_, rfl, kq _ _ s03 ⟨⟨hd, by omega, by omega⟩, ?_⟩⟩
      rw [eo, ← hp]
      rfl
/-! ### read_short_number -/
abbrev sShort : Stmt := topS 33
theorem scShort : FnScope ["octets", "digits"] ["octets"] (defScope sShort) := ⟨rfl, rfl, rfl, by decide +kernel, rfl, by decide +kernel, by decide +kernel⟩
theorem cal_short (T : Txt K mg C) (cr : Cal P w K mg base 3 "read_number" ["octets"] (spRdNum K C))
    {f : Addr} {fd : FuncData} (D : Def K mg "read_short_number" sShort ["octets"] f fd) : Cal P w K mg base 4 "read_short_number" ["octets"] (spShort K C) := by
  refine D.cal scShort (fun vs H Q E h => ?_) (fun cdv A outer s H vs Q E hr h => ?_)
  · obtain ⟨a, os, rfl, _⟩ := h
    rfl
  · obtain ⟨a, os, rfl, hS, hoc, hl, kq, ke⟩ := h
    refine ⟨_, pss_cons (ps_set (i := 1) scShort.nd rfl (Or.inl rfl) (pe_calX cr (takes_of rfl rfl rfl rfl) hr rfl (pa_cons (pv 0) pa_nil)))
      (pss_cons (ps_if (pt_cmpR op_gt (pe_callB call_lenD2 (by rfl) T.len PySem.boot_len (pa_cons (pv 1) pa_nil)) (pe_ci rfl T.cLNUM) (nomark _)) (pss_one (ps_bad T rfl (takes_of rfl rfl rfl rfl) rfl)) pss_nil)
      (pss_one (ps_ret (pv 1)))), ?_⟩
    refine ⟨_, rfl, a, os, rfl, hS, hoc, hl, fun ds H1 s1 hp => ?_, ke⟩
    obtain ⟨hd, hn⟩ := hp
    have := hd.hi
    refine ⟨_, rfl, lenD (by omega) ⟨_, _, rfl, rfl, _, rfl, ?_⟩⟩
    refine ite2 (fun c => ke _ s1) (fun c => ?_)
    have c1 := lt_of_f c
    exact ⟨_, rfl, kq _ _ s1 ⟨⟨hd.dg, hd.lo, by omega⟩, hn⟩⟩
end
end Mq
namespace Mq
open PySem PySem.Spec PyProof.Rows L2
theorem eqS_of_f {x y : Str} (h : ¬ (!decide (V.str x = V.str y)) = true) : x = y := by
  by_cases e : V.str x = V.str y
  · exact V.str.inj e
  · exact absurd (by rw [decide_eq_false e]; rfl) h
theorem sq_new {K : KF} {H : Hp} {p : Addr} {xs ys : List V} (e : xs = ys) : SqT K (upd H p (.tup xs)) p ys := by
  rw [e]
  exact SqT.of upd_same
section
variable {P : Program} {w : World} {K : KF} {mg : Str → Option Value} {base : Heap} {C : Addr}
/-! ### area_octets -/
abbrev sArea : Stmt := topS 14
theorem scArea : FnScope ["country", "net", "place", "third", "first"] ["country", "net", "place"] (defScope sArea) := ⟨rfl, rfl, rfl, by decide +kernel, rfl, by decide +kernel, by decide +kernel⟩
theorem cal_area (T : Txt K mg C) (cn : Cal P w K mg base 1 "need_digits" ["digits", "least", "most"] (spNeed C)) {f : Addr} {fd : FuncData} (D : Def K mg "area_octets" sArea ["country", "net", "place"] f fd) :
    Cal P w K mg base 2 "area_octets" ["country", "net", "place"] (spArea K) := by
  refine D.cal scArea (fun vs H Q E h => ?_) (fun cdv A outer s H vs Q E hr h => ?_)
  · obtain ⟨a, rfl, _⟩ := h
    rfl
  · obtain ⟨a, rfl, h0, h4, kq⟩ := h
    refine ⟨_, pss_cons (ps_expr (pe_cal cn hr rfl (pa_cons (pv 0) (pa_cons pe_int (pa_cons pe_int pa_nil)))))
      (pss_cons (ps_expr (pe_cal cn hr rfl (pa_cons (pv 1) (pa_cons pe_int (pa_cons pe_int pa_nil)))))
      (pss_cons (ps_if (PW.pt (pw_or (pt_cmpR op_lt (pv 2) pe_int (nomark _)) (pw_or1 (pt_cmpR op_gt (pv 2) pe_int (nomark _))))) (pss_one (ps_bad T rfl (takes_of rfl rfl rfl rfl) rfl)) pss_nil)
      (pss_cons (ps_set (i := 3) scArea.nd rfl (Or.inl rfl) (pe_ci rfl T.cEMPTY))
      (pss_cons (ps_if (pt_cmpR op_eq (pe_callB call_lenD2 (by rfl) T.len PySem.boot_len (pa_cons (pv 1) pa_nil)) pe_int (nomark _))
          (pss_one (ps_set (i := 3) scArea.nd rfl (Or.inl rfl) (pe_callTy call_intD (by rfl) T.int (by decide +kernel) (pa_cons (pe_ix ix_zD (pv 1) pe_int (fun _ _ => rfl)) pa_nil)))) pss_nil)
      (pss_cons (ps_set (i := 4) scArea.nd rfl (Or.inl rfl) (pe_op op_add (pe_op op_mul pe_int (pe_callTy call_intD (by rfl) T.int (by decide +kernel) (pa_cons (pe_ix ix_zD (pv 0) pe_int (fun _ _ => rfl)) pa_nil))) (pe_callTy call_intD (by rfl) T.int (by decide +kernel) (pa_cons (pe_ix ix_zD (pv 0) pe_int (fun _ _ => rfl)) pa_nil))))
      (pss_one (ps_ret (pe_tup (pa_cons (pv 4) (pa_cons (pe_op op_add (pe_op op_mul pe_int (pv 3)) (pe_callTy call_intD (by rfl) T.int (by decide +kernel) (pa_cons (pe_ix ix_zD (pv 0) pe_int (fun _ _ => rfl)) pa_nil)))
        (pa_cons (pe_op op_add (pe_op op_mul pe_int (pe_callTy call_intD (by rfl) T.int (by decide +kernel) (pa_cons (pe_ix ix_zD (pv 1) pe_int (fun _ _ => rfl)) pa_nil))) (pe_callTy call_intD (by rfl) T.int (by decide +kernel) (pa_cons (pe_ix ix_zD (pv 1) pe_int (fun _ _ => rfl)) pa_nil)))
        (pa_cons (pe_op op_fdiv (pv 2) pe_int) (pa_cons (pe_op op_mod (pv 2) pe_int) pa_nil))))))))))))), ?_⟩
    have dg1 : Dg [0, 0, 1] := Dg.cons (by decide) (Dg.cons (by decide) (Dg.one (by decide)))
    have dg2 : Dg [0, 1] := Dg.cons (by decide) (Dg.one (by decide))
    refine ⟨_, rfl, [0, 0, 1], 3, 3, rfl, dg1, by decide, fun _ => ?_, fun c => absurd (by decide) c⟩
    refine ⟨_, rfl, [0, 1], 2, 3, rfl, dg2, by decide, fun _ => ?_, fun c => absurd (by decide) c⟩
    refine ⟨_, rfl, _, _, rfl, rfl, _, rfl, ?_⟩
    refine ite2 (fun c => absurd (lt_of_t c) (by omega)) (fun c => ?_)
    refine ⟨_, rfl, _, _, rfl, rfl, _, rfl, ?_⟩
    refine ite2 (fun c => absurd (lt_of_t c) (by omega)) (fun c => ?_)
    refine ⟨_, rfl, lenD (by decide) ⟨rfl, _, rfl, ?_⟩⟩
    refine ite2 (fun c => absurd (eq_of_t c) (by decide)) (fun c => ?_)
    refine ⟨_, rfl, ixD (j := 1) (d := 0) (by decide) rfl rfl (intD (by decide) ⟨_, _, rfl, rfl, Or.inl ⟨by decide, by decide⟩, ?_⟩)⟩
    refine ⟨_, rfl, ixD (j := 0) (d := 0) (by decide) rfl rfl (intD (by decide) ⟨_, _, rfl, rfl, ?_⟩)⟩
    refine ⟨_, rfl, _, rfl, _, _, rfl, rfl, Or.inl ⟨by decide, by decide⟩, ?_⟩
    refine ⟨_, rfl, ixD (j := 2) (d := 1) (by decide) rfl rfl (intD (by decide) ⟨_, _, rfl, rfl, ?_⟩)⟩
    refine ⟨_, rfl, ixD (j := 1) (d := 1) (by decide) rfl rfl (intD (by decide) ⟨_, _, rfl, rfl, Or.inl ⟨by decide, by decide⟩, ?_⟩)⟩
    refine ⟨_, rfl, ixD (j := 0) (d := 0) (by decide) rfl rfl (intD (by decide) ⟨_, _, rfl, rfl, ?_⟩)⟩
    refine ⟨_, rfl, _, _, rfl, rfl, ⟨by decide, by decide⟩, _, rfl, _, _, rfl, rfl, (by show (0 : Int) < 256; decide), sz9, fun p np => ?_⟩
    refine kq p _ (Same.new0 np) (sq_new ?_)
    have e1 : a / 256 = 0 := by omega
    have e2 : a % 256 = a := by omega
    dsimp only
    rw [e1, e2]
    rfl
/-! ### write_area -/
abbrev sWArea : Stmt := topS 23
theorem scWArea : FnScope ["area"] ["area"] (defScope sWArea) := ⟨rfl, rfl, rfl, by decide +kernel, rfl, by decide +kernel, by decide +kernel⟩
theorem cal_warea (T : Txt K mg C) (ca : Cal P w K mg base 2 "area_octets" ["country", "net", "place"] (spArea K)) {f : Addr} {fd : FuncData} (D : Def K mg "write_area" sWArea ["area"] f fd) : Cal P w K mg base 3 "write_area" ["area"] (spWArea K) := by
  refine D.cal scWArea (fun vs H Q E h => ?_) (fun cdv A outer s H vs Q E hr h => ?_)
  · obtain ⟨a, rfl, _⟩ := h
    rfl
  · obtain ⟨a, rfl, h0, h4, kq⟩ := h
    refine ⟨_, pss_one (ps_ret (pe_cal ca hr rfl (pa_cons pe_str (pa_cons pe_str (pa_cons (pv 0) pa_nil))))), ?_⟩
    refine ⟨_, rfl, a, ?_, h0, h4, kq⟩
    show ([V.str (Str.ofString "001"), V.str (Str.ofString "01"), V.int a] ++ [] : List V) = _
    rw [dstr_001, dstr_01]
    rfl
/-! ### write_part -/
abbrev sWPart : Stmt := topS 24
theorem scWPart : FnScope ["digits", "part", "number"] ["digits", "part"] (defScope sWPart) := ⟨rfl, rfl, rfl, by decide +kernel, rfl, by decide +kernel, by decide +kernel⟩
theorem cal_wpart (T : Txt K mg C) (cn : Cal P w K mg base 2 "number_octets" ["digits"] (spNum K C)) {f : Addr} {fd : FuncData} (D : Def K mg "write_part" sWPart ["digits", "part"] f fd) : Cal P w K mg base 3 "write_part" ["digits", "part"] (spWPart K) := by
  refine D.cal scWPart (fun vs H Q E h => ?_) (fun cdv A outer s H vs Q E hr h => ?_)
  · obtain ⟨ds, q, pt, rfl, _⟩ := h
    rfl
  · obtain ⟨ds, q, pt, rfl, hd, hq, hp, kq⟩ := h
    refine ⟨_, pss_cons (ps_set (i := 2) scWPart.nd rfl (Or.inl rfl) (pe_cal cn hr rfl (pa_cons (pv 0) pa_nil)))
      (pss_one (ps_ret (pe_op op_zCat (pe_op op_zCat (pe_tup (pa_cons (pe_callB call_lenT (by rfl) T.len PySem.boot_len (pa_cons (pv 2) pa_nil)) pa_nil)) (pv 2)) (pv 1)))), ?_⟩
    have := hd.hi
    have := hd.lo
    have := hp.hi
    have hn := num_len ds
    refine ⟨_, rfl, ds, rfl, hd.dg, by omega, fun _ t H1 s1 ht => ?_, fun c => absurd (by omega) c⟩
    refine ⟨_, rfl, lenT ht ⟨sz9, fun p np => ?_⟩⟩
    refine ⟨_, rfl, catI (os := [((num ds).length : Int)]) (SqT.of upd_same) ((Same.new0 np).seqT ht) (by simp; omega) fun p2 H2 s2 h2 => ?_⟩
    have s3 := s1.trans ((Same.new0 np).trans s2)
    refine ⟨_, rfl, catI h2 (s3.seqT hq) (by simp; omega) fun p3 H3 s4 h3 => ?_⟩
    exact kq p3 H3 (s3.trans s4) h3
end
end Mq
namespace Mq
open PySem PySem.Spec PyProof.Rows L2
section
variable {P : Program} {w : World} {K : KF} {mg : Str → Option Value} {base : Heap} {C : Addr}
/-! ### read_area -/
abbrev sRdArea : Stmt := topS 15
theorem scRdArea : FnScope ["octets", "country", "net"] ["octets"] (defScope sRdArea) := ⟨rfl, rfl, rfl, by decide +kernel, rfl, by decide +kernel, by decide +kernel⟩
theorem len5 {os : List Int} (h : os.length = 5) : ∃ a b c d e, os = [a, b, c, d, e] := by
  match os, h with
  | [a, b, c, d, e], _ => exact ⟨a, b, c, d, e, rfl⟩
theorem cal_rdarea (T : Txt K mg C) (cd : Cal P w K mg base 1 "digit_of" ["number"] (spDig C)) {f : Addr} {fd : FuncData} (D : Def K mg "read_area" sRdArea ["octets"] f fd) : Cal P w K mg base 2 "read_area" ["octets"] (spRdArea K C) := by
  refine D.cal scRdArea (fun vs H Q E h => ?_) (fun cdv A outer s H vs Q E hr h => ?_)
  · obtain ⟨a, os, rfl, _⟩ := h
    rfl
  · obtain ⟨a, os, rfl, hS, hoc, hl, kq, ke⟩ := h
    refine ⟨_, pss_cons (ps_if (pt_cmpR op_ne (pe_callB call_lenT (by rfl) T.len PySem.boot_len (pa_cons (pv 0) pa_nil)) pe_int (nomark _)) (pss_one (ps_bad T rfl (takes_of rfl rfl rfl rfl) rfl)) pss_nil)
      (pss_cons (ps_set (i := 1) scRdArea.nd rfl (Or.inl rfl) (pe_op op_addD (pe_op op_addD (pe_calX cd (takes_of rfl rfl rfl rfl) hr rfl (pa_cons (pe_op op_mod (pe_ix ix_zT (pv 0) pe_int (fun _ _ => rfl)) pe_int) pa_nil))
          (pe_calX cd (takes_of rfl rfl rfl rfl) hr rfl (pa_cons (pe_op op_fdiv (pe_ix ix_zT (pv 0) pe_int (fun _ _ => rfl)) pe_int) pa_nil))) (pe_calX cd (takes_of rfl rfl rfl rfl) hr rfl (pa_cons (pe_op op_mod (pe_ix ix_zT (pv 0) pe_int (fun _ _ => rfl)) pe_int) pa_nil))))
      (pss_cons (ps_set (i := 2) scRdArea.nd rfl (Or.inl rfl) (pe_op op_addD (pe_calX cd (takes_of rfl rfl rfl rfl) hr rfl (pa_cons (pe_op op_mod (pe_ix ix_zT (pv 0) pe_int (fun _ _ => rfl)) pe_int) pa_nil))
          (pe_calX cd (takes_of rfl rfl rfl rfl) hr rfl (pa_cons (pe_op op_fdiv (pe_ix ix_zT (pv 0) pe_int (fun _ _ => rfl)) pe_int) pa_nil))))
      (pss_cons (ps_if (pt_cmpR op_ne (pe_op op_fdiv (pe_ix ix_zT (pv 0) pe_int (fun _ _ => rfl)) pe_int) (pe_ci rfl T.cEMPTY) (nomark _))
          (pss_one (ps_set (i := 2) scRdArea.nd rfl (Or.inl rfl) (pe_op op_addD (pv 2) (pe_calX cd (takes_of rfl rfl rfl rfl) hr rfl (pa_cons (pe_op op_fdiv (pe_ix ix_zT (pv 0) pe_int (fun _ _ => rfl)) pe_int) pa_nil))))) pss_nil)
      (pss_one (ps_ret (pe_tup (pa_cons (pv 1) (pa_cons (pv 2) (pa_cons (pe_op op_add (pe_op op_mul pe_int (pe_ix ix_zT (pv 0) pe_int (fun _ _ => rfl))) (pe_ix ix_zT (pv 0) pe_int (fun _ _ => rfl))) pa_nil))))))))), ?_⟩
    refine ⟨_, rfl, lenT hS ⟨rfl, _, rfl, ?_⟩⟩
    refine ite2 (fun c => ke _ (Same.refl _)) (fun c => ?_)
    have e5 := eq_of_f c
    obtain ⟨o0, o1, o2, o3, o4, rfl⟩ := len5 (os := os) (by omega)
    have b0 := hoc o0 (by simp)
    have b1 := hoc o1 (by simp)
    have b2 := hoc o2 (by simp)
    have b3 := hoc o3 (by simp)
    have b4 := hoc o4 (by simp)
    have ke' : E (.ref C) none H := ke _ (Same.refl _)
    refine ⟨_, rfl, ixT (j := 0) hS rfl rfl ⟨_, _, rfl, rfl, (by show (0 : Int) < 16; decide), _, rfl, by omega, fun c1 => ?_, fun _ => ke'⟩⟩
    refine ⟨_, rfl, ixT (j := 0) hS rfl rfl ⟨_, _, rfl, rfl, ⟨by decide, by decide⟩, _, rfl, by omega, fun c2 => ?_, fun _ => ke'⟩⟩
    refine addD (by simp) ?_
    refine ⟨_, rfl, ixT (j := 1) hS rfl rfl ⟨_, _, rfl, rfl, (by show (0 : Int) < 16; decide), _, rfl, by omega, fun c3 => ?_, fun _ => ke'⟩⟩
    refine addD (by simp) ?_
    refine ⟨_, rfl, ixT (j := 2) hS rfl rfl ⟨_, _, rfl, rfl, (by show (0 : Int) < 16; decide), _, rfl, by omega, fun c4 => ?_, fun _ => ke'⟩⟩
    refine ⟨_, rfl, ixT (j := 2) hS rfl rfl ⟨_, _, rfl, rfl, ⟨by decide, by decide⟩, _, rfl, by omega, fun c5 => ?_, fun _ => ke'⟩⟩
    refine addD (by simp) ?_
    refine ⟨_, rfl, ixT (j := 1) hS rfl rfl ⟨_, _, rfl, rfl, ⟨by decide, by decide⟩, rfl, _, rfl, ?_⟩⟩
    refine ite2 (fun c6 => ?_) (fun c6 => ?_)
    · refine ⟨_, rfl, _, rfl, ixT (j := 1) hS rfl rfl ⟨_, _, rfl, rfl, ⟨by decide, by decide⟩, _, rfl, by omega, fun c7 => ?_, fun _ => ke'⟩⟩
      refine addD (by simp) ?_
      refine ⟨_, rfl, _, rfl, _, rfl, ixT (j := 3) hS rfl rfl ⟨_, _, rfl, rfl, Or.inl ⟨by decide, by decide⟩, ?_⟩⟩
      refine ⟨_, rfl, ixT (j := 4) hS rfl rfl ⟨_, _, rfl, rfl, sz9, fun p np => ?_⟩⟩
      exact kq p _ _ _ _ (Same.new0 np) (SqT.of upd_same) (fun _ q => by simp at q)
    · have e6 := eq_of_f c6
      refine ⟨_, rfl, _, rfl, _, rfl, ixT (j := 3) hS rfl rfl ⟨_, _, rfl, rfl, Or.inl ⟨by decide, by decide⟩, ?_⟩⟩
      refine ⟨_, rfl, ixT (j := 4) hS rfl rfl ⟨_, _, rfl, rfl, sz9, fun p np => ?_⟩⟩
      refine kq p _ _ _ _ (Same.new0 np) (SqT.of upd_same) (fun q1 q2 q3 => ?_)
      simp at q1 q2
      refine ⟨by omega, ?_⟩
      have z0 : o0 = 0 := by omega
      have z1 : o1 = 241 := by omega
      have z2 : o2 = 16 := by omega
      have z3 : o3 = 0 := by omega
      subst z0 z1 z2 z3
      show [0, 241, 16, 0, o4] = [0, 241, 16, 0, 256 * 0 + o4]
      rw [Int.mul_zero, Int.zero_add]
/-! ### read_place -/
abbrev sPlace : Stmt := topS 32
theorem scPlace : FnScope ["octets", "country", "net", "place"] ["octets"] (defScope sPlace) := ⟨rfl, rfl, rfl, by decide +kernel, rfl, by decide +kernel, by decide +kernel⟩
theorem cal_place (T : Txt K mg C) (cr : Cal P w K mg base 2 "read_area" ["octets"] (spRdArea K C)) {f : Addr} {fd : FuncData} (D : Def K mg "read_place" sPlace ["octets"] f fd) : Cal P w K mg base 3 "read_place" ["octets"] (spPlace K C) := by
  refine D.cal scPlace (fun vs H Q E h => ?_) (fun cdv A outer s H vs Q E hr h => ?_)
  · obtain ⟨a, os, rfl, _⟩ := h
    rfl
  · obtain ⟨a, os, rfl, hS, hoc, hl, kq, ke⟩ := h
    refine ⟨_, pss_cons (ps_asg (pe_calX cr (takes_of rfl rfl rfl rfl) hr rfl (pa_cons (pv 0) pa_nil)) (pg_tup (by rfl) (pgs_cons (pg_name (i := 1) scPlace.nd rfl (Or.inl rfl)) (pgs_cons (pg_name (i := 2) scPlace.nd rfl (Or.inl rfl)) (pgs_cons (pg_name (i := 3) scPlace.nd rfl (Or.inl rfl)) pgs_nil)))))
      (pss_cons (ps_if (PW.pt (pw_or (pt_cmpR op_ne (pv 1) pe_str (nomark _)) (pw_or (pt_cmpR op_ne (pv 2) pe_str (nomark _)) (pw_or1 (pt_cmpR op_ge (pv 3) (pe_ci rfl T.cAREAS) (nomark _)))))) (pss_one (ps_bad T rfl (takes_of rfl rfl rfl rfl) rfl)) pss_nil)
      (pss_one (ps_ret (pv 3)))), ?_⟩
    refine ⟨_, rfl, a, os, rfl, hS, hoc, hl, fun p H1 c n pl s1 hp hk => ?_, ke⟩
    refine ⟨p, _, rfl, hp, rfl, _, _, rfl, _, _, rfl, _, _, rfl, rfl, ?_⟩
    refine ⟨_, rfl, rfl, _, rfl, ?_⟩
    refine ite2 (fun q => iteT (ke _ s1)) (fun q1 => ?_)
    refine ⟨_, rfl, rfl, _, rfl, ?_⟩
    refine ite2 (fun q => iteT (ke _ s1)) (fun q2 => ?_)
    refine ⟨_, rfl, _, _, rfl, rfl, _, rfl, ?_⟩
    refine ite2 (fun q => ke _ s1) (fun q3 => ?_)
    have e1 : c = [0, 0, 1] := dstr_inj ((eqS_of_f q1).trans dstr_001)
    have e2 : n = [0, 1] := dstr_inj ((eqS_of_f q2).trans dstr_01)
    have e3 := lt_of_f q3
    obtain ⟨k0, k1⟩ := hk e1 e2 (by omega)
    exact ⟨_, rfl, kq _ _ s1 k0 (by omega) k1⟩
/-! ### read_part -/
abbrev sRPart : Stmt := topS 34
theorem scRPart : FnScope ["octets", "digits", "part"] ["octets"] (defScope sRPart) := ⟨rfl, rfl, rfl, by decide +kernel, rfl, by decide +kernel, by decide +kernel⟩
theorem cal_rpart (T : Txt K mg C) (cr : Cal P w K mg base 4 "read_short_number" ["octets"] (spShort K C)) {f : Addr} {fd : FuncData} (D : Def K mg "read_part" sRPart ["octets"] f fd) : Cal P w K mg base 5 "read_part" ["octets"] (spRPart K C) := by
  refine D.cal scRPart (fun vs H Q E h => ?_) (fun cdv A outer s H vs Q E hr h => ?_)
  · obtain ⟨a, os, rfl, _⟩ := h
    rfl
  · obtain ⟨a, os, rfl, hS, hoc, hl, kq, ke⟩ := h
    refine ⟨_, pss_cons (ps_if (pt_cmpR (op_zEq hr.units) (pv 0) (pe_tup pa_nil) (nomark _)) (pss_one (ps_bad T rfl (takes_of rfl rfl rfl rfl) rfl)) pss_nil)
      (pss_cons (ps_set (i := 1) scRPart.nd rfl (Or.inl rfl) (pe_calX cr (takes_of rfl rfl rfl rfl) hr rfl (pa_cons (pe_slice sl_z (pv 0) (po_some pe_int) (po_some (pe_op op_add pe_int (pe_ix ix_zT (pv 0) pe_int (fun _ _ => rfl))))) pa_nil)))
      (pss_cons (ps_set (i := 2) scRPart.nd rfl (Or.inl rfl) (pe_slice sl_z (pv 0) (po_some (pe_op op_add pe_int (pe_ix ix_zT (pv 0) pe_int (fun _ _ => rfl)))) po_none))
      (pss_cons (ps_if (PW.pt (pw_or (pt_cmpR op_lt (pe_callB call_lenT (by rfl) T.len PySem.boot_len (pa_cons (pv 2) pa_nil)) pe_int (nomark _)) (pw_or1 (pt_cmpR op_gt (pe_callB call_lenT (by rfl) T.len PySem.boot_len (pa_cons (pv 2) pa_nil)) (pe_ci rfl T.cPART) (nomark _))))) (pss_one (ps_bad T rfl (takes_of rfl rfl rfl rfl) rfl)) pss_nil)
      (pss_one (ps_ret (pe_tup (pa_cons (pv 1) (pa_cons (pv 2) pa_nil)))))))), ?_⟩
    refine ⟨_, rfl, Nat.zero_le _, fun p np => ?_⟩
    have s0 : Same H (upd H p (.tup [])) := Same.new0 np
    have h0 := s0.seqT hS
    refine eqT (cs := []) h0 (SqT.of upd_same) ⟨_, rfl, ?_⟩
    refine ite2 (fun c => ke _ s0) (fun c => ?_)
    have hne := neL_of_f c
    cases os with
    | nil => exact absurd rfl hne
    | cons o r =>
      have ho := hoc.head
      have e1 : (1 : Int) + o = ((1 + o.toNat : Nat) : Int) := by omega
      have hlr : r.length ≤ 999 := by simp at hl; omega
      refine ⟨_, rfl, _, rfl, _, rfl, ixT (j := 0) h0 rfl rfl ⟨_, _, rfl, rfl, _, rfl, ?_⟩⟩
      refine slA (cs := r.take o.toNat) h0 (by rw [e1]; exact (ints_mid (o :: r) 1 (1 + o.toNat) (by omega)).trans (by rw [Nat.add_sub_cancel_left]; rfl)) fun q H2 s2 hq => ?_
      have s02 := s0.trans s2
      refine ⟨q, _, rfl, hq, hoc.tail.take _, by rw [List.length_take]; omega, fun ds H3 s3 hp => ?_, ke.up s02⟩
      obtain ⟨hd, hn⟩ := hp
      have s03 := s02.trans s3
      have h3 := s03.seqT hS
      refine ⟨_, rfl, _, rfl, ixT (j := 0) h3 rfl rfl ⟨_, _, rfl, rfl, _, rfl, ?_⟩⟩
      refine slA (cs := r.drop o.toNat) h3 (by rw [e1]; exact (ints_from (o :: r) (1 + o.toNat)).trans (by rw [Nat.add_comm 1]; rfl)) fun q4 H4 s4 h4 => ?_
      have s04 := s03.trans s4
      refine ⟨_, rfl, lenT h4 ⟨_, _, rfl, rfl, _, rfl, ?_⟩⟩
      refine ite2 (fun c => iteT (ke _ s04)) (fun c1 => ?_)
      refine ⟨_, rfl, lenT h4 ⟨_, _, rfl, rfl, _, rfl, ?_⟩⟩
      refine ite2 (fun c => ke _ s04) (fun c2 => ?_)
      have l1 := lt_of_f c1
      have l2 := lt_of_f c2
      refine ⟨_, rfl, _, rfl, sz9, fun p5 np5 => ?_⟩
      have hlen : (num ds).length = o.toNat := by
        rw [hn, List.length_take]
        rw [List.length_drop] at l1
        omega
      refine kq p5 q4 ds _ _ (s04.new np5) (SqT.of upd_same) ((Same.new0 np5).seqT h4) hd ⟨hoc.tail.drop _, by omega, by omega⟩ ?_
      unfold partO
      rw [hlen, hn, List.take_append_drop]
      congr 1
      omega
end
end Mq
/-! # Messages: what a good message is, and its octets -/
namespace Mq
open PySem PySem.Spec PyProof.Rows L2
/-- a part of a message -/
inductive Pt where
  | n (i : Int) | s (z : Str) | o (os : List Int)
/-- the parts as they stand in a tuple -/
inductive PtsAt (K : KF) (H : Hp) : List Pt → List V → Prop
  | nil : PtsAt K H [] []
  | n {i : Int} {ps : List Pt} {vs : List V} (r : PtsAt K H ps vs) : PtsAt K H (.n i :: ps) (.int i :: vs)
  | s {z : Str} {ps : List Pt} {vs : List V} (r : PtsAt K H ps vs) : PtsAt K H (.s z :: ps) (.str z :: vs)
  | o {q : Addr} {os : List Int} {ps : List Pt} {vs : List V} (h : OcT K H q os) (r : PtsAt K H ps vs) : PtsAt K H (.o os :: ps) (.ref q :: vs)
/-- a message stands at p -/
def MsgAt (K : KF) (H : Hp) (p : Addr) (m : List Pt) : Prop := ∃ vs, SqT K H p vs ∧ PtsAt K H m vs
theorem PtsAt.same {K : KF} {H H' : Hp} {m : List Pt} {vs : List V} (s : Same H H') (h : PtsAt K H m vs) : PtsAt K H' m vs := by
  induction h with
  | nil => exact .nil
  | n _ ih => exact .n ih
  | s _ ih => exact .s ih
  | o h _ ih => exact .o (s.seqT h) ih
theorem MsgAt.same {K : KF} {H H' : Hp} {p : Addr} {m : List Pt} (s : Same H H') (h : MsgAt K H p m) : MsgAt K H' p m := by
  obtain ⟨vs, a, b⟩ := h
  exact ⟨vs, s.seqT a, b.same s⟩
/-- the ten messages without further parts -/
def plains : List (Str × List Int) := [("service accept", [5, 33]), ("release", [6, 13]), ("handover done", [6, 44]), ("proceeding", [3, 2]), ("alerting", [3, 1]), ("connect", [3, 7]), ("connect done", [3, 15]), ("stored", [9, 4]), ("refused", [9, 16]), ("taken", [9, 5])]
/-- a message with all its parts in their ranges, and its octets -/
inductive Good : List Pt → List Int → Prop
  | au {a : Int} {ds : List Nat} (h0 : 0 ≤ a) (h4 : a < 4) (hd : Dgs 6 15 ds) : Good [.s "area update", .n a, .s (dstr ds)] (5 :: 8 :: (areaO a ++ sbo ds))
  | aa {a : Int} (h0 : 0 ≤ a) (h4 : a < 4) : Good [.s "area accept", .n a] (5 :: 2 :: areaO a)
  | sc {ds : List Nat} (hd : Dgs 6 15 ds) : Good [.s "service", .s "call", .s (dstr ds)] (5 :: 36 :: 1 :: sbo ds)
  | st {ds : List Nat} (hd : Dgs 6 15 ds) : Good [.s "service", .s "texts", .s (dstr ds)] (5 :: 36 :: 4 :: sbo ds)
  | pa {ds : List Nat} (hd : Dgs 6 15 ds) : Good [.s "page answer", .s (dstr ds)] (6 :: 39 :: sbo ds)
  | ho {a b : Int} (h0 : 0 ≤ a) (h4 : a < 4) (g0 : 0 ≤ b) (g6 : b < 6) : Good [.s "handover", .n a, .n b] [6, 43, a, b]
  | su {ds : List Nat} (hd : Dgs 1 9 ds) : Good [.s "setup", .s (dstr ds)] (3 :: 5 :: num ds)
  | di {c : Int} (h0 : 0 ≤ c) (h : c < 128) : Good [.s "disconnect", .n c] [3, 37, c]
  | wo {os : List Int} (h : Part 40 os) : Good [.s "word", .o os] (3 :: 60 :: os)
  | sb {l : Int} {ds : List Nat} {pt : List Int} (h0 : 0 ≤ l) (h : l < 12) (hd : Dgs 1 9 ds) (hp : Part 150 pt) : Good [.s "submit", .n l, .s (dstr ds), .o pt] (9 :: 1 :: l :: partO ds pt)
  | de {ds : List Nat} {pt : List Int} (hd : Dgs 1 9 ds) (hp : Part 150 pt) : Good [.s "deliver", .s (dstr ds), .o pt] (9 :: 2 :: partO ds pt)
  | pl {z : Str} {os : List Int} (h : (z, os) ∈ plains) : Good [.s z] os
/-- what the top has written of the two dicts -/
structure DTxt (K : KF) (w : World) (mg : Str → Option Value) : Prop where
  gP : ∃ d, mg "PLAIN" = some (.ref d) ∧ KKeys K d (plains.map (·.1)) ∧ ∀ z os, (z, os) ∈ plains → ∃ q, KDct K w d z (.ref q) ∧ ∀ H, OcT K H q os
  gU : ∃ d, mg "PURPOSES" = some (.ref d) ∧ KDct K w d "call" (.int 1) ∧ KDct K w d "texts" (.int 4)
/-! ### promises -/
def spPlain (K : KF) : Sp := fun vs H Q _ => ∃ (a : Addr) (os : List Int), vs = [.ref a] ∧ OcT K H a os ∧ os.length ≤ 1000 ∧
  (∀ H', Same H H' → Q .non H') ∧ (∀ p m H', Same H H' → MsgAt K H' p m → Good m os → Q (.ref p) H')
def spPers (K : KF) (C : Addr) : Sp := fun vs H Q E => ∃ (a : Addr) (os : List Int), vs = [.ref a] ∧ OcT K H a os ∧ Oc os ∧ os.length ≤ 1000 ∧
  (∀ H', Same H H' → Q .non H') ∧ (∀ p m H', Same H H' → MsgAt K H' p m → Good m os → Q (.ref p) H') ∧ Rz C E H
def spRead (K : KF) : Sp := fun vs H Q _ => ∃ (a : Addr) (os : List Int), vs = [.ref a] ∧ OcT K H a os ∧ Oc os ∧ os.length ≤ 1000 ∧
  (∀ H', Same H H' → Q .non H') ∧ (∀ p m H', Same H H' → MsgAt K H' p m → Good m os → Q (.ref p) H')
def spWrite (K : KF) : Sp := fun vs H Q _ => ∃ (p : Addr) (m : List Pt) (os : List Int), vs = [.ref p] ∧ MsgAt K H p m ∧ Good m os ∧
  (∀ q H', Same H H' → OcT K H' q os → Q (.ref q) H')
/-! ### tests in short -/
section
variable {K : KF} {H : Hp} {σ : L2.St} {i : Nat} {D : Ends} {t u : TS} {tt : TT}
/-- head == (c, ..) -/
theorem if_head {a : Addr} {os cs : List Int} {ta : TA} {Q : Bool → Hp → Prop} (hσ : σ[i]? = some (some (.ref a))) (h : OcT K H a os) (hta : ∀ Q : List V → Hp → Prop, Q (cs.map V.int) H → ta σ H Q) (hz : cs.length ≤ 9) (k : ∀ H', Same H H' → Q (decide (os = cs)) H') :
    tTest (tOp (zEq K) (tVar i) (tTup ta)) σ H Q := by
  refine ⟨_, hσ, ?_⟩
  refine hta _ ⟨by rw [List.length_map]; exact size_of (by omega), fun p np => ?_⟩
  have s0 : Same H (upd H p (.tup (cs.map V.int))) := Same.new0 np
  exact eqT (s0.seqT h) (SqT.of upd_same) ⟨_, rfl, k _ s0⟩
/-- t[:n] == (c, ..) -/
theorem if_take (n : Nat) {a : Addr} {os cs : List Int} {ta : TA} {Q : Bool → Hp → Prop} (hσ : σ[i]? = some (some (.ref a))) (h : OcT K H a os) (hta : ∀ Q : List V → Hp → Prop, ∀ H', Q (cs.map V.int) H' → ta σ H' Q) (hz : cs.length ≤ 9) (k : ∀ H', Same H H' → Q (decide (os.take n = cs)) H') :
    tTest (tOp (zEq K) (tSl (zSl K) (tVar i) tNoPart (tPart (tC (.int (n : Int))))) (tTup ta)) σ H Q := by
  refine ⟨_, hσ, _, rfl, slA h (ints_upto os n) fun q H1 s1 h1 => ?_⟩
  refine hta _ _ ⟨by rw [List.length_map]; exact size_of (by omega), fun p np => ?_⟩
  have s0 : Same H1 (upd H1 p (.tup (cs.map V.int))) := Same.new0 np
  exact eqT (s0.seqT h1) (SqT.of upd_same) ⟨_, rfl, k _ (s1.trans s0)⟩
theorem ifB {p : Prop} [Decidable p] (h1 : p → t D σ H) (h2 : ¬ p → u D σ H) : if decide p = true then t D σ H else u D σ H := ite2 (fun c => h1 (of_decide_eq_true c)) (fun c => h2 fun q => c (decide_eq_true q))
theorem case_no {k z : Str} {is : List Nat} {tn : TV} {a : Addr} {rest : List V} (h : SqT K H a (.str z :: rest)) (hz : z ≠ k) (q : tn (.ref a) D σ H) : tCase K k is t tn (.ref a) D σ H := ⟨a, z, rest, rfl, h, fun c => absurd c.2 hz, fun _ => q⟩
theorem case_yes {k : Str} {is : List Nat} {tn : TV} {a : Addr} {rest : List V} (h : SqT K H a (.str k :: rest)) (hl : rest.length = is.length) (q : t D (setAll σ is rest) H) : tCase K k is t tn (.ref a) D σ H := ⟨a, k, rest, rfl, h, fun _ => q, fun c => absurd ⟨hl, rfl⟩ c⟩
/-- kind == ".." -/
theorem str_no {z k : Str} (hσ : σ[i]? = some (some (.str z))) (hz : z ≠ k) (q : u D σ H) : tIfS (tTest (tOp rEq (tVar i) (tC (.str k)))) t u D σ H := by
  refine ⟨_, hσ, rfl, _, rfl, ?_⟩
  rw [decide_eq_false fun e => hz (V.str.inj e)]
  exact iteF q
theorem str_yes {k : Str} (hσ : σ[i]? = some (some (.str k))) (q : t D σ H) : tIfS (tTest (tOp rEq (tVar i) (tC (.str k)))) t u D σ H := by
  refine ⟨_, hσ, rfl, _, rfl, ?_⟩
  rw [decide_eq_true rfl]
  exact iteT q
end
theorem split_at {os cs : List Int} {n : Nat} (h : os.take n = cs) : os = cs ++ os.drop n := by
  rw [← h]
  exact (List.take_append_drop n os).symm
end Mq
namespace Mq
open PySem PySem.Spec PyProof.Rows L2
section
variable {P : Program} {w : World} {K : KF} {mg : Str → Option Value} {base : Heap} {C : Addr}
/-! ### read_plain -/
abbrev sPlain : Stmt := topS 35
theorem scPlain : FnScope ["octets", "name"] ["octets"] (defScope sPlain) := ⟨rfl, rfl, rfl, by decide +kernel, rfl, by decide +kernel, by decide +kernel⟩
theorem cal_plain (T : Txt K mg C) (U : DTxt K w mg) {f : Addr} {fd : FuncData} (D : Def K mg "read_plain" sPlain ["octets"] f fd) : Cal P w K mg base 1 "read_plain" ["octets"] (spPlain K) := by
  obtain ⟨d, gd, kk, kv⟩ := U.gP
  refine D.cal scPlain (fun vs H Q E h => ?_) (fun cdv A outer s H vs Q E hr h => ?_)
  · obtain ⟨a, os, rfl, _⟩ := h
    rfl
  · obtain ⟨a, os, rfl, hS, hl, kn, kq⟩ := h
    refine ⟨_, pss_cons (ps_for (passes_of rfl) rfl (pi_keysK (pe_glob (v := .ref d) rfl gd rfl)) (pg_name (i := 1) scPlain.nd rfl (Or.inl rfl))
        (pss_one (ps_if (pt_cmpR (op_zEq hr.units) (pe_ix ix_kdict (pe_glob (v := .ref d) rfl gd rfl) (pv 1) (fun _ _ => rfl)) (pv 0) (nomark _)) (pss_one (ps_ret (pe_tup (pa_cons (pv 1) pa_nil)))) pss_nil)))
      (pss_one (ps_ret pe_non)), ?_⟩
    refine ⟨d, _, rfl, kk, for_it walk_keysK (fun i σ H' => Same H H' ∧ ∃ v, σ = [some (.ref a), v]) ⟨Same.refl _, none, rfl⟩ (fun _ _ _ _ _ => trivial) ?_ ?_⟩
    · rintro i x σ H1 H2 hi ⟨s1, v, rfl⟩ ⟨rfl, z, hz, rfl⟩
      rw [List.getElem?_map] at hz
      cases e : plains[i]? with
      | none => rw [e] at hz; cases hz
      | some zo =>
        obtain ⟨z', os'⟩ := zo
        rw [e] at hz
        cases hz
        have hm : (z', os') ∈ plains := List.mem_of_getElem? e
        obtain ⟨q, hq, ho⟩ := kv _ _ hm
        refine ⟨_, rfl, _, _, _, rfl, rfl, hq, _, rfl, eqT (ho _) (s1.seqT hS) ⟨_, rfl, ?_⟩⟩
        refine ite2 (fun c => ?_) (fun c => ⟨s1, _, rfl⟩)
        have e2 := eqL_of_t c
        subst e2
        exact ⟨_, rfl, sz9, fun p np => kq p [.s z'] _ (s1.new np) ⟨_, SqT.of upd_same, .s .nil⟩ (.pl hm)⟩
    · rintro σ H1 ⟨s1, v, rfl⟩
      exact kn _ s1
/-! ### read_person -/
abbrev sPers : Stmt := topS 36
theorem scPers : FnScope ["octets", "head"] ["octets"] (defScope sPers) := ⟨rfl, rfl, rfl, by decide +kernel, rfl, by decide +kernel, by decide +kernel⟩
theorem cal_pers (T : Txt K mg C) (cp : Cal P w K mg base 3 "read_place" ["octets"] (spPlace K C)) (cs : Cal P w K mg base 3 "read_subscriber" ["octets"] (spRdSub K C)) {f : Addr} {fd : FuncData} (D : Def K mg "read_person" sPers ["octets"] f fd) :
    Cal P w K mg base 4 "read_person" ["octets"] (spPers K C) := by
  refine D.cal scPers (fun vs H Q E h => ?_) (fun cdv A outer s H vs Q E hr h => ?_)
  · obtain ⟨a, os, rfl, _⟩ := h
    rfl
  · obtain ⟨a, os, rfl, hS, hoc, hl, kn, kq, ke⟩ := h
    refine ⟨_, pss_cons (ps_set (i := 1) scPers.nd rfl (Or.inl rfl) (pe_slice sl_z (pv 0) po_none (po_some pe_int)))
      (pss_cons (ps_if (pt_cmpR (op_zEq hr.units) (pv 1) (pe_tup (pa_cons pe_int (pa_cons pe_int pa_nil))) (nomark _)) (pss_one (ps_ret (pe_tup (pa_cons pe_str
          (pa_cons (pe_calX cp (takes_of rfl rfl rfl rfl) hr rfl (pa_cons (pe_slice sl_z (pv 0) (po_some pe_int) (po_some (pe_op op_add pe_int (pe_ci rfl T.cAREA)))) pa_nil))
          (pa_cons (pe_calX cs (takes_of rfl rfl rfl rfl) hr rfl (pa_cons (pe_slice sl_z (pv 0) (po_some (pe_op op_add pe_int (pe_ci rfl T.cAREA))) po_none) pa_nil)) pa_nil)))))) pss_nil)
      (pss_cons (ps_if (pt_cmpR (op_zEq hr.units) (pv 1) (pe_tup (pa_cons pe_int (pa_cons pe_int pa_nil))) (nomark _)) (pss_one (ps_ret (pe_tup (pa_cons pe_str
          (pa_cons (pe_calX cp (takes_of rfl rfl rfl rfl) hr rfl (pa_cons (pe_slice sl_z (pv 0) (po_some pe_int) po_none) pa_nil)) pa_nil))))) pss_nil)
      (pss_cons (ps_if (pt_cmpR (op_zEq hr.units) (pe_slice sl_z (pv 0) po_none (po_some pe_int)) (pe_tup (pa_cons pe_int (pa_cons pe_int (pa_cons pe_int pa_nil)))) (nomark _)) (pss_one (ps_ret (pe_tup (pa_cons pe_str (pa_cons pe_str
          (pa_cons (pe_calX cs (takes_of rfl rfl rfl rfl) hr rfl (pa_cons (pe_slice sl_z (pv 0) (po_some pe_int) po_none) pa_nil)) pa_nil)))))) pss_nil)
      (pss_cons (ps_if (pt_cmpR (op_zEq hr.units) (pe_slice sl_z (pv 0) po_none (po_some pe_int)) (pe_tup (pa_cons pe_int (pa_cons pe_int (pa_cons pe_int pa_nil)))) (nomark _)) (pss_one (ps_ret (pe_tup (pa_cons pe_str (pa_cons pe_str
          (pa_cons (pe_calX cs (takes_of rfl rfl rfl rfl) hr rfl (pa_cons (pe_slice sl_z (pv 0) (po_some pe_int) po_none) pa_nil)) pa_nil)))))) pss_nil)
      (pss_cons (ps_if (pt_cmpR (op_zEq hr.units) (pv 1) (pe_tup (pa_cons pe_int (pa_cons pe_int pa_nil))) (nomark _)) (pss_one (ps_ret (pe_tup (pa_cons pe_str
          (pa_cons (pe_calX cs (takes_of rfl rfl rfl rfl) hr rfl (pa_cons (pe_slice sl_z (pv 0) (po_some pe_int) po_none) pa_nil)) pa_nil))))) pss_nil)
      (pss_cons (ps_if (PW.pt (pw_and (pt_cmpR (op_zEq hr.units) (pv 1) (pe_tup (pa_cons pe_int (pa_cons pe_int pa_nil))) (nomark _))
            (pw_and (pt_cmpR op_eq (pe_callB call_lenT (by rfl) T.len PySem.boot_len (pa_cons (pv 0) pa_nil)) pe_int (nomark _))
            (pw_and (pt_cmpR op_lt (pe_ix ix_zT (pv 0) pe_int (fun _ _ => rfl)) (pe_ci rfl T.cCELLS) (nomark _))
            (pw_and1 (pt_cmpR op_lt (pe_ix ix_zT (pv 0) pe_int (fun _ _ => rfl)) (pe_ci rfl T.cCHANNELS) (nomark _)))))))
          (pss_one (ps_ret (pe_tup (pa_cons pe_str (pa_cons (pe_ix ix_zT (pv 0) pe_int (fun _ _ => rfl)) (pa_cons (pe_ix ix_zT (pv 0) pe_int (fun _ _ => rfl)) pa_nil)))))) pss_nil)
      (pss_one (ps_ret pe_non)))))))), ?_⟩
    refine ⟨_, rfl, _, rfl, slA hS (ints_upto os 2) fun hd H1 s1 hh => ?_⟩
    have hS1 := s1.seqT hS
    -- (5, 8)
    refine if_head (cs := [5, 8]) rfl hh (fun _ q => q) (by decide) fun H2 s2 => ?_
    have s02 := s1.trans s2
    have hS2 := s02.seqT hS
    refine ite2 (fun c => ?_) (fun c => ?_)
    · have e := split_at (eqL_of_t c)
      have e2 : os = 5 :: 8 :: ((os.drop 2).take 5 ++ os.drop 7) := by
        have : os.drop 2 = (os.drop 2).take 5 ++ os.drop 7 := by rw [show os.drop 7 = (os.drop 2).drop 5 from by rw [List.drop_drop], List.take_append_drop]
        rw [← this]
        exact e
      refine ⟨_, rfl, _, rfl, _, _, rfl, rfl, _, rfl, slA hS2 (ints_mid os 2 7 (by decide)) fun q H3 s3 h3 => ?_⟩
      refine ⟨q, _, rfl, h3, (hoc.drop 2).take 5, by rw [List.length_take]; omega, fun pl H4 s4 p0 p4 ep => ?_, ke.up (s02.trans s3)⟩
      have s04 := s02.trans (s3.trans s4)
      refine ⟨_, rfl, _, _, rfl, rfl, _, rfl, slA (s04.seqT hS) (ints_from os 7) fun q5 H5 s5 h5 => ?_⟩
      refine ⟨q5, _, rfl, h5, hoc.drop 7, by rw [List.length_drop]; omega, fun ds H6 s6 hp => ?_, ke.up (s04.trans s5)⟩
      obtain ⟨hd6, he⟩ := hp
      have s06 := s04.trans (s5.trans s6)
      refine ⟨sz9, fun p np => kq p _ _ (s06.new np) ⟨_, SqT.of upd_same, .s (.n (.s .nil))⟩ ?_⟩
      rw [e2, ep, ← he]
      exact .au p0 p4 hd6
    -- (5, 2)
    refine if_head (cs := [5, 2]) rfl (s2.seqT hh) (fun _ q => q) (by decide) fun H3 s3 => ?_
    have s03 := s02.trans s3
    have hS3 := s03.seqT hS
    refine ite2 (fun c => ?_) (fun c => ?_)
    · have e := split_at (eqL_of_t c)
      refine ⟨_, rfl, _, rfl, slA hS3 (ints_from os 2) fun q H4 s4 h4 => ?_⟩
      refine ⟨q, _, rfl, h4, hoc.drop 2, by rw [List.length_drop]; omega, fun pl H5 s5 p0 p4 ep => ?_, ke.up (s03.trans s4)⟩
      have s05 := s03.trans (s4.trans s5)
      refine ⟨sz9, fun p np => kq p _ _ (s05.new np) ⟨_, SqT.of upd_same, .s (.n .nil)⟩ ?_⟩
      rw [e, ep]
      exact .aa p0 p4
    -- (5, 36, 1)
    refine if_take 3 (cs := [5, 36, 1]) rfl hS3 (fun _ _ q => q) (by decide) fun H5 s5 => ?_
    have s05 := s03.trans s5
    have hS5 := s05.seqT hS
    refine ite2 (fun c => ?_) (fun c => ?_)
    · have e := split_at (eqL_of_t c)
      refine ⟨_, rfl, _, rfl, slA hS5 (ints_from os 3) fun q H6 s6 h6 => ?_⟩
      refine ⟨q, _, rfl, h6, hoc.drop 3, by rw [List.length_drop]; omega, fun ds H7 s7 hp => ?_, ke.up (s05.trans s6)⟩
      obtain ⟨hd7, he⟩ := hp
      have s07 := s05.trans (s6.trans s7)
      refine ⟨sz9, fun p np => kq p _ _ (s07.new np) ⟨_, SqT.of upd_same, .s (.s (.s .nil))⟩ ?_⟩
      rw [e, ← he]
      exact .sc hd7
    -- (5, 36, 4)
    refine if_take 3 (cs := [5, 36, 4]) rfl hS5 (fun _ _ q => q) (by decide) fun H7 s7 => ?_
    have s07 := s05.trans s7
    have hS7 := s07.seqT hS
    have hh7 := (s2.trans (s3.trans (s5.trans s7))).seqT hh
    refine ite2 (fun c => ?_) (fun c => ?_)
    · have e := split_at (eqL_of_t c)
      refine ⟨_, rfl, _, rfl, slA hS7 (ints_from os 3) fun q H8 s8 h8 => ?_⟩
      refine ⟨q, _, rfl, h8, hoc.drop 3, by rw [List.length_drop]; omega, fun ds H9 s9 hp => ?_, ke.up (s07.trans s8)⟩
      obtain ⟨hd9, he⟩ := hp
      have s09 := s07.trans (s8.trans s9)
      refine ⟨sz9, fun p np => kq p _ _ (s09.new np) ⟨_, SqT.of upd_same, .s (.s (.s .nil))⟩ ?_⟩
      rw [e, ← he]
      exact .st hd9
    -- (6, 39)
    refine if_head (cs := [6, 39]) rfl hh7 (fun _ q => q) (by decide) fun H8 s8 => ?_
    have s08 := s07.trans s8
    have hS8 := s08.seqT hS
    refine ite2 (fun c => ?_) (fun c => ?_)
    · have e := split_at (eqL_of_t c)
      refine ⟨_, rfl, _, rfl, slA hS8 (ints_from os 2) fun q H9 s9 h9 => ?_⟩
      refine ⟨q, _, rfl, h9, hoc.drop 2, by rw [List.length_drop]; omega, fun ds H10 s10 hp => ?_, ke.up (s08.trans s9)⟩
      obtain ⟨hd10, he⟩ := hp
      have s010 := s08.trans (s9.trans s10)
      refine ⟨sz9, fun p np => kq p _ _ (s010.new np) ⟨_, SqT.of upd_same, .s (.s .nil)⟩ ?_⟩
      rw [e, ← he]
      exact .pa hd10
    -- (6, 43)
    refine if_head (cs := [6, 43]) rfl (s8.seqT hh7) (fun _ q => q) (by decide) fun H9 s9 => ?_
    have s09 := s08.trans s9
    have hS9 := s09.seqT hS
    refine ite2 (fun c => ?_) (fun c => iteF (kn _ s09))
    have e := split_at (eqL_of_t c)
    refine ⟨_, rfl, lenT hS9 ⟨rfl, _, rfl, ?_⟩⟩
    refine ite2 (fun c4 => ?_) (fun c4 => iteF (kn _ s09))
    have e4 := eq_of_t c4
    have l4 : (os.drop 2).length = 2 := by rw [List.length_drop]; omega
    obtain ⟨x, y, exy⟩ : ∃ x y, os.drop 2 = [x, y] := by
      match os.drop 2, l4 with
      | [x, y], _ => exact ⟨x, y, rfl⟩
    rw [exy] at e
    have i2 : os[2]? = some x := by rw [e]; rfl
    have i3 : os[3]? = some y := by rw [e]; rfl
    have b2 := hoc.get i2
    have b3 := hoc.get i3
    refine ⟨_, rfl, ixT (j := 2) hS9 i2 rfl ⟨_, _, rfl, rfl, _, rfl, ?_⟩⟩
    refine ite2 (fun c5 => ?_) (fun c5 => iteF (kn _ s09))
    refine ⟨_, rfl, ixT (j := 3) hS9 i3 rfl ⟨_, _, rfl, rfl, _, rfl, ?_⟩⟩
    refine ite2 (fun c6 => ?_) (fun c6 => kn _ s09)
    refine ⟨_, rfl, ixT (j := 2) hS9 i2 rfl ⟨_, rfl, ixT (j := 3) hS9 i3 rfl ⟨sz9, fun p np => kq p _ _ (s09.new np) ⟨_, SqT.of upd_same, .s (.n (.n .nil))⟩ ?_⟩⟩⟩
    rw [e]
    exact .ho b2.1 (lt_of_t c5) b3.1 (lt_of_t c6)
end
end Mq
namespace Mq
open PySem PySem.Spec PyProof.Rows L2
/-- an if whose test may fail in many ways: the ways join -/
theorem if_cut {σ : L2.St} {H : Hp} {D : Ends} {t : TT} {t1 t2 : TS} (F : Prop) (ht : ∀ Q : Bool → Hp → Prop, (F → ∀ H', Same H H' → Q true H') → (∀ H', Same H H' → Q false H') → t σ H Q)
    (k1 : F → ∀ H', Same H H' → t1 D σ H') (k2 : ∀ H', Same H H' → t2 D σ H') : tIfS t t1 t2 D σ H :=
  ht _ (fun f H' s => iteT (k1 f H' s)) (fun H' s => iteF (k2 H' s))
theorem if_cutS {σ : L2.St} {H : Hp} {D : Ends} {t : TT} {t1 t2 r : TS} (F : Prop) (ht : ∀ Q : Bool → Hp → Prop, (F → ∀ H', Same H H' → Q true H') → (∀ H', Same H H' → Q false H') → t σ H Q)
    (k1 : F → ∀ H', Same H H' → t1 { D with nx := r D } σ H') (k2 : ∀ H', Same H H' → t2 { D with nx := r D } σ H') : tNext { D with nx := tSeq (tIfS t t1 t2) r D } σ H :=
  if_cut (D := { D with nx := r D }) F ht k1 k2
section
variable {P : Program} {w : World} {K : KF} {mg : Str → Option Value} {base : Heap} {C : Addr}
/-! ### read_other -/
abbrev sOther : Stmt := topS 37
theorem scOther : FnScope ["octets", "head", "digits", "part"] ["octets"] (defScope sOther) := ⟨rfl, rfl, rfl, by decide +kernel, rfl, by decide +kernel, by decide +kernel⟩
theorem cal_other (T : Txt K mg C) (cn : Cal P w K mg base 4 "read_short_number" ["octets"] (spShort K C)) (cp : Cal P w K mg base 5 "read_part" ["octets"] (spRPart K C)) {f : Addr} {fd : FuncData} (D : Def K mg "read_other" sOther ["octets"] f fd) :
    Cal P w K mg base 6 "read_other" ["octets"] (spPers K C) := by
  refine D.cal scOther (fun vs H Q E h => ?_) (fun cdv A outer s H vs Q E hr h => ?_)
  · obtain ⟨a, os, rfl, _⟩ := h
    rfl
  · obtain ⟨a, os, rfl, hS, hoc, hl, kn, kq, ke⟩ := h
    refine ⟨_, pss_cons (ps_set (i := 1) scOther.nd rfl (Or.inl rfl) (pe_slice sl_z (pv 0) po_none (po_some pe_int)))
      (pss_cons (ps_if (pt_cmpR (op_zEq hr.units) (pv 1) (pe_tup (pa_cons pe_int (pa_cons pe_int pa_nil))) (nomark _)) (pss_one (ps_ret (pe_tup (pa_cons pe_str
          (pa_cons (pe_calX cn (takes_of rfl rfl rfl rfl) (hr.mono (by decide)) rfl (pa_cons (pe_slice sl_z (pv 0) (po_some pe_int) po_none) pa_nil)) pa_nil))))) pss_nil)
      (pss_cons (ps_if (PW.pt (pw_and (pt_cmpR (op_zEq hr.units) (pv 1) (pe_tup (pa_cons pe_int (pa_cons pe_int pa_nil))) (nomark _))
            (pw_and (pt_cmpR op_eq (pe_callB call_lenT (by rfl) T.len PySem.boot_len (pa_cons (pv 0) pa_nil)) pe_int (nomark _))
            (pw_and1 (pt_cmpR op_lt (pe_ix ix_zT (pv 0) pe_int (fun _ _ => rfl)) (pe_ci rfl T.cCAUSES) (nomark _))))))
          (pss_one (ps_ret (pe_tup (pa_cons pe_str (pa_cons (pe_ix ix_zT (pv 0) pe_int (fun _ _ => rfl)) pa_nil))))) pss_nil)
      (pss_cons (ps_if (PW.pt (pw_and (pt_cmpR (op_zEq hr.units) (pv 1) (pe_tup (pa_cons pe_int (pa_cons pe_int pa_nil))) (nomark _))
            (pw_and1 (pt_chain op_le op_le pe_int (pe_callB call_lenT (by rfl) T.len PySem.boot_len (pa_cons (pv 0) pa_nil)) (pe_op op_add pe_int (pe_ci rfl T.cWORD))))))
          (pss_one (ps_ret (pe_tup (pa_cons pe_str (pa_cons (pe_slice sl_z (pv 0) (po_some pe_int) po_none) pa_nil))))) pss_nil)
      (pss_cons (ps_if (PW.pt (pw_and (pt_cmpR (op_zEq hr.units) (pv 1) (pe_tup (pa_cons pe_int (pa_cons pe_int pa_nil))) (nomark _))
            (pw_and (pt_cmpR op_gt (pe_callB call_lenT (by rfl) T.len PySem.boot_len (pa_cons (pv 0) pa_nil)) pe_int (nomark _))
            (pw_and1 (pt_cmpR op_lt (pe_ix ix_zT (pv 0) pe_int (fun _ _ => rfl)) (pe_ci rfl T.cOUTBOX) (nomark _))))))
          (pss_cons (ps_asg (pe_calX cp (takes_of rfl rfl rfl rfl) hr rfl (pa_cons (pe_slice sl_z (pv 0) (po_some pe_int) po_none) pa_nil)) (pg_tup (by rfl) (pgs_cons (pg_name (i := 2) scOther.nd rfl (Or.inl rfl)) (pgs_cons (pg_name (i := 3) scOther.nd rfl (Or.inl rfl)) pgs_nil))))
          (pss_one (ps_ret (pe_tup (pa_cons pe_str (pa_cons (pe_ix ix_zT (pv 0) pe_int (fun _ _ => rfl)) (pa_cons (pv 2) (pa_cons (pv 3) pa_nil)))))))) pss_nil)
      (pss_cons (ps_if (pt_cmpR (op_zEq hr.units) (pv 1) (pe_tup (pa_cons pe_int (pa_cons pe_int pa_nil))) (nomark _))
          (pss_cons (ps_asg (pe_calX cp (takes_of rfl rfl rfl rfl) hr rfl (pa_cons (pe_slice sl_z (pv 0) (po_some pe_int) po_none) pa_nil)) (pg_tup (by rfl) (pgs_cons (pg_name (i := 2) scOther.nd rfl (Or.inl rfl)) (pgs_cons (pg_name (i := 3) scOther.nd rfl (Or.inl rfl)) pgs_nil))))
          (pss_one (ps_ret (pe_tup (pa_cons pe_str (pa_cons (pv 2) (pa_cons (pv 3) pa_nil))))))) pss_nil)
      (pss_one (ps_ret pe_non))))))), ?_⟩
    refine ⟨_, rfl, _, rfl, slA hS (ints_upto os 2) fun hd H1 s1 hh => ?_⟩
    have hS1 := s1.seqT hS
    -- (3, 5)
    refine if_head (cs := [3, 5]) rfl hh (fun _ q => q) (by decide) fun H2 s2 => ?_
    have s02 := s1.trans s2
    have hS2 := s02.seqT hS
    have hh2 := s2.seqT hh
    refine ite2 (fun c => ?_) (fun c => ?_)
    · have e := split_at (eqL_of_t c)
      refine ⟨_, rfl, _, rfl, slA hS2 (ints_from os 2) fun q H4 s4 h4 => ?_⟩
      refine ⟨q, _, rfl, h4, hoc.drop 2, by rw [List.length_drop]; omega, fun ds H5 s5 hp => ?_, ke.up (s02.trans s4)⟩
      obtain ⟨hd5, he⟩ := hp
      have s05 := s02.trans (s4.trans s5)
      refine ⟨sz9, fun p np => kq p _ _ (s05.new np) ⟨_, SqT.of upd_same, .s (.s .nil)⟩ ?_⟩
      rw [e, ← he]
      exact .su hd5
    -- (3, 37)
    refine if_cutS (∃ x, os = [3, 37, x] ∧ x < 128) (fun Q kt kf => ?_) (fun ⟨x, ex, hx⟩ H3 s3 => ?_) (fun H3 s3 => ?_)
    · refine if_head (cs := [3, 37]) rfl hh2 (fun _ q => q) (by decide) fun H3 s3 => ?_
      refine ite2 (fun c => ?_) (fun c => kf _ s3)
      have e := split_at (eqL_of_t c)
      have hS3 := s3.seqT hS2
      refine ⟨_, rfl, lenT hS3 ⟨rfl, _, rfl, ?_⟩⟩
      refine ite2 (fun c4 => ?_) (fun c4 => kf _ s3)
      have e4 := eq_of_t c4
      have l4 : (os.drop 2).length = 1 := by rw [List.length_drop]; omega
      obtain ⟨x, ex⟩ : ∃ x, os.drop 2 = [x] := by
        match os.drop 2, l4 with
        | [x], _ => exact ⟨x, rfl⟩
      rw [ex] at e
      have i2 : os[2]? = some x := by rw [e]; rfl
      refine ⟨_, rfl, ixT (j := 2) hS3 i2 rfl ⟨_, _, rfl, rfl, _, rfl, ?_⟩⟩
      cases q5 : decide (x < 128) with
      | true => exact kt ⟨x, e, of_decide_eq_true q5⟩ _ s3
      | false => exact kf _ s3
    · have s03 := s02.trans s3
      have i2 : os[2]? = some x := by rw [ex]; rfl
      refine ⟨_, rfl, ixT (j := 2) (s03.seqT hS) i2 rfl ⟨sz9, fun p np => kq p _ _ (s03.new np) ⟨_, SqT.of upd_same, .s (.n .nil)⟩ ?_⟩⟩
      rw [ex]
      exact .di (hoc.get i2).1 hx
    have s03 := s02.trans s3
    have hS3 := s03.seqT hS
    have hh3 := s3.seqT hh2
    -- (3, 60)
    refine if_cutS (∃ r, os = 3 :: 60 :: r ∧ 3 ≤ os.length ∧ os.length ≤ 42) (fun Q kt kf => ?_) (fun ⟨r, er, l3, l42⟩ H4 s4 => ?_) (fun H4 s4 => ?_)
    · refine if_head (cs := [3, 60]) rfl hh3 (fun _ q => q) (by decide) fun H4 s4 => ?_
      refine ite2 (fun c => ?_) (fun c => kf _ s4)
      have e := split_at (eqL_of_t c)
      have hS4 := s4.seqT hS3
      refine ⟨_, rfl, lenT hS4 ⟨_, _, rfl, rfl, _, rfl, ?_⟩⟩
      refine ite2 (fun c5 => ?_) (fun c5 => ⟨_, rfl, kf _ s4⟩)
      refine ⟨_, _, rfl, rfl, _, _, rfl, rfl, _, rfl, ?_⟩
      have l5 := lt_of_t c5
      cases q6 : decide ((os.length : Int) ≤ 2 + 40) with
      | true => exact kt ⟨_, e, by omega, by have := of_decide_eq_true q6; omega⟩ _ s4
      | false => exact kf _ s4
    · have s04 := s03.trans s4
      refine ⟨_, rfl, _, rfl, slA (cs := r) (s04.seqT hS) (by rw [er]; exact ints_from _ 2) fun q H5 s5 h5 => ?_⟩
      refine ⟨sz9, fun p np => kq p _ _ ((s04.trans s5).new np) ⟨_, SqT.of upd_same, .s (.o ((Same.new0 np).seqT h5) .nil)⟩ ?_⟩
      rw [er] at hoc l3 l42 ⊢
      simp at l3 l42
      exact .wo ⟨hoc.tail.tail, by omega, by omega⟩
    have s04 := s03.trans s4
    have hS4 := s04.seqT hS
    have hh4 := s4.seqT hh3
    -- (9, 1)
    refine if_cutS (∃ x r, os = 9 :: 1 :: x :: r ∧ x < 12) (fun Q kt kf => ?_) (fun ⟨x, r, er, hx⟩ H5 s5 => ?_) (fun H5 s5 => ?_)
    · refine if_head (cs := [9, 1]) rfl hh4 (fun _ q => q) (by decide) fun H5 s5 => ?_
      refine ite2 (fun c => ?_) (fun c => kf _ s5)
      have e := split_at (eqL_of_t c)
      have hS5 := s5.seqT hS4
      refine ⟨_, rfl, lenT hS5 ⟨_, _, rfl, rfl, _, rfl, ?_⟩⟩
      refine ite2 (fun c4 => ?_) (fun c4 => kf _ s5)
      have e4 := lt_of_t c4
      have l4 : 2 ≤ (os.drop 2).length := by rw [List.length_drop]; omega
      obtain ⟨x, r, ex⟩ : ∃ x r, os.drop 2 = x :: r := by
        match os.drop 2, l4 with
        | x :: r, _ => exact ⟨x, r, rfl⟩
      rw [ex] at e
      have i2 : os[2]? = some x := by rw [e]; rfl
      refine ⟨_, rfl, ixT (j := 2) hS5 i2 rfl ⟨_, _, rfl, rfl, _, rfl, ?_⟩⟩
      cases q5 : decide (x < 12) with
      | true => exact kt ⟨x, r, e, of_decide_eq_true q5⟩ _ s5
      | false => exact kf _ s5
    · have s05 := s04.trans s5
      have hS5 := s05.seqT hS
      have i2 : os[2]? = some x := by rw [er]; rfl
      refine ⟨_, rfl, _, rfl, slA (cs := r) hS5 (by rw [er]; exact ints_from _ 3) fun q H6 s6 h6 => ?_⟩
      have hr : Oc r := by rw [er] at hoc; exact hoc.tail.tail.tail
      have hlr : r.length ≤ 1000 := by rw [er] at hl; simp at hl; omega
      refine ⟨q, r, rfl, h6, hr, hlr, fun p7 q7 ds pt H7 s7 hp7 hq7 hd7 hpt er2 => ?_, ke.up (s05.trans s6)⟩
      have s07 := s05.trans (s6.trans s7)
      refine ⟨p7, _, rfl, hp7, rfl, _, _, rfl, _, _, rfl, rfl, ?_⟩
      refine ⟨_, rfl, ixT (j := 2) (s07.seqT hS) i2 rfl ⟨_, rfl, _, rfl, sz9, fun p np => kq p _ _ (s07.new np) ⟨_, SqT.of upd_same, .s (.n (.s (.o ((Same.new0 np).seqT hq7) .nil)))⟩ ?_⟩⟩
      rw [er, er2]
      exact .sb (hoc.get i2).1 hx hd7 hpt
    have s05 := s04.trans s5
    have hS5 := s05.seqT hS
    have hh5 := s5.seqT hh4
    -- (9, 2)
    refine if_head (cs := [9, 2]) rfl hh5 (fun _ q => q) (by decide) fun H6 s6 => ?_
    have s06 := s05.trans s6
    have hS6 := s06.seqT hS
    refine ite2 (fun c => ?_) (fun c => kn _ s06)
    have e := split_at (eqL_of_t c)
    refine ⟨_, rfl, _, rfl, slA hS6 (ints_from os 2) fun q H7 s7 h7 => ?_⟩
    refine ⟨q, _, rfl, h7, hoc.drop 2, by rw [List.length_drop]; omega, fun p8 q8 ds pt H8 s8 hp8 hq8 hd8 hpt er2 => ?_, ke.up (s06.trans s7)⟩
    have s08 := s06.trans (s7.trans s8)
    refine ⟨p8, _, rfl, hp8, rfl, _, _, rfl, _, _, rfl, rfl, ?_⟩
    refine ⟨_, rfl, _, rfl, sz9, fun p np => kq p _ _ (s08.new np) ⟨_, SqT.of upd_same, .s (.s (.o ((Same.new0 np).seqT hq8) .nil))⟩ ?_⟩
    rw [e, er2]
    exact .de hd8 hpt
/-! ### read_message -/
abbrev sRead : Stmt := topS 38
theorem scRead : FnScope ["octets", "message"] ["octets"] (defScope sRead) := ⟨rfl, rfl, rfl, by decide +kernel, rfl, by decide +kernel, by decide +kernel⟩
theorem ref_non {p : Addr} : (!decide (V.ref p = V.non)) = true := by
  rw [decide_eq_false (fun q => nomatch q)]
  rfl
theorem cal_read (T : Txt K mg C) (c1 : Cal P w K mg base 1 "read_plain" ["octets"] (spPlain K)) (c2 : Cal P w K mg base 4 "read_person" ["octets"] (spPers K C)) (c3 : Cal P w K mg base 6 "read_other" ["octets"] (spPers K C))
    {f : Addr} {fd : FuncData} (D : Def K mg "read_message" sRead ["octets"] f fd) : Cal P w K mg base 7 "read_message" ["octets"] (spRead K) := by
  refine D.cal scRead (fun vs H Q E h => ?_) (fun cdv A outer s H vs Q E hr h => ?_)
  · obtain ⟨a, os, rfl, _⟩ := h
    rfl
  · obtain ⟨a, os, rfl, hS, hoc, hl, kn, kq⟩ := h
    have hr1 : Room 1 _ := hr.mono (by decide)
    have hr4 : Room 4 _ := hr.mono (by decide)
    refine ⟨_, pss_cons (ps_set (i := 1) scRead.nd rfl (Or.inl rfl) (pe_cal c1 hr1 rfl (pa_cons (pv 0) pa_nil)))
      (pss_cons (ps_if (pt_cmpR op_notN (pv 1) pe_non (nomark _)) (pss_one (ps_ret (pv 1))) pss_nil)
      (pss_cons (ps_try_only (tb := fun W => tSeq (tAsg (tCallS (spPers K C) (WE W) (tCons (tVar 0) tNil)) (gName 1)) (tIfS (tTest (tOp (fun x y H Q => y = .non ∧ Q (.bl (decide (x = .non))) H) (tVar 1) (tC .non))) (tAsg (tCallS (spPers K C) (WE W) (tCons (tVar 0) tNil)) (gName 1)) tNext))
          (ts := fun _ _ _ => tRet (tC .non)) (Wout := fun cls d _ H => E cls d H) rfl rfl ⟨rfl, by decide, Or.inl T.gC⟩ (takes_of rfl rfl rfl rfl)
          (fun W pn xe tk _ => pss_cons (ps_set (i := 1) scRead.nd rfl (Or.inl rfl) (by exact (pe_calX c2 tk hr4 rfl (by exact (pa_cons (pv 0) pa_nil)))))
            (pss_one (ps_if (pt_cmpR op_isN (pv 1) pe_non (nomark _)) (pss_one (ps_set (i := 1) scRead.nd rfl (Or.inl rfl) (by exact (pe_calX c3 tk hr rfl (by exact (pa_cons (pv 0) pa_nil)))))) pss_nil)))
          (fun a oe cls d pn _ _ => pss_one (ps_ret pe_non)))
      (pss_one (ps_ret (pv 1))))), ?_⟩
    have kn' : ∀ H', Same H H' → Q .non H' := kn
    refine ⟨_, rfl, a, os, rfl, hS, hl, fun H1 s1 => ?_, fun p m H1 s1 hm hg => ?_⟩
    · refine ⟨_, rfl, rfl, _, rfl, ?_⟩
      refine iteF ?_
      have kr : ∀ H2, Same H H2 → wOnly K (.ref C) (fun _ _ _ => tRet (tC .non)) (fun cls d _ H => E cls d H) { nx := tRet (tVar 1) { nx := fun _ H' => Q .non H', rt := Q }, rt := Q } (.ref C) none [some (.ref a), some .non] H2 :=
        fun H2 s2 => ⟨true, T.eC, fun _ a ha => kn' _ s2, fun q => nomatch q⟩
      refine ⟨_, rfl, a, os, rfl, s1.seqT hS, hoc, hl, fun H2 s2 => ?_, fun p m H2 s2 hm hg => ?_, fun H2 s2 => kr _ (s1.trans s2)⟩
      · refine ⟨_, rfl, rfl, _, rfl, ?_⟩
        refine iteT ?_
        have s02 := s1.trans s2
        refine ⟨_, rfl, a, os, rfl, s02.seqT hS, hoc, hl, fun H3 s3 => ⟨_, rfl, kn' _ (s02.trans s3)⟩, fun p m H3 s3 hm hg => ⟨_, rfl, kq _ _ _ (s02.trans s3) hm hg⟩, fun H3 s3 => kr _ (s02.trans s3)⟩
      · refine ⟨_, rfl, rfl, _, rfl, ?_⟩
        refine iteF ?_
        exact ⟨_, rfl, kq _ _ _ (s1.trans s2) hm hg⟩
    · refine ⟨_, rfl, rfl, _, rfl, ?_⟩
      refine iteT ?_
      exact ⟨_, rfl, kq _ _ _ s1 hm hg⟩
end
end Mq
namespace Mq
open PySem PySem.Spec PyProof.Rows L2
section
variable {P : Program} {w : World} {K : KF} {mg : Str → Option Value} {base : Heap} {C : Addr}
theorem case_len {H : Hp} {σ : L2.St} {D : Ends} {t : TS} {k z : Str} {is : List Nat} {tn : TV} {a : Addr} {rest : List V} (h : SqT K H a (.str z :: rest)) (hl : rest.length ≠ is.length) (q : tn (.ref a) D σ H) : tCase K k is t tn (.ref a) D σ H :=
  ⟨a, z, rest, rfl, h, fun c => absurd c.1 hl, fun _ => q⟩
/-! ### write_message -/
abbrev sWrite : Stmt := topS 25
theorem scWrite : FnScope ["message", "area", "digits", "purpose", "cell", "channel", "cause", "octets", "left", "part"] ["message"] (defScope sWrite) := ⟨rfl, rfl, rfl, by decide +kernel, rfl, by decide +kernel, by decide +kernel⟩
theorem cal_write (T : Txt K mg C) (U : DTxt K w mg) (ca : Cal P w K mg base 3 "write_area" ["area"] (spWArea K)) (cs : Cal P w K mg base 2 "subscriber_octets" ["digits"] (spSub K C)) (cn : Cal P w K mg base 2 "number_octets" ["digits"] (spNum K C))
    (cp : Cal P w K mg base 3 "write_part" ["digits", "part"] (spWPart K)) {f : Addr} {fd : FuncData} (D : Def K mg "write_message" sWrite ["message"] f fd) : Cal P w K mg base 4 "write_message" ["message"] (spWrite K) := by
  obtain ⟨dP, gd, kk, kv⟩ := U.gP
  obtain ⟨dU, gu, ku1, ku2⟩ := U.gU
  refine D.cal scWrite (fun vs H Q E h => ?_) (fun cdv A outer s H vs Q E hr h => ?_)
  · obtain ⟨p, m, os, rfl, _⟩ := h
    rfl
  · obtain ⟨p, m, os, rfl, hm, hg, kq⟩ := h
    have hr2 : Room 2 _ := hr.mono (by decide)
    refine ⟨_, pss_cons (ps_match (pv 0)
        (pcs_case rfl scWrite.nd (.cons (i := 1) rfl (Or.inl rfl) (Or.inl rfl) (.cons (i := 2) rfl (Or.inl rfl) (Or.inl rfl) .nil)) (pss_one (ps_ret (pe_op op_zCat (pe_op op_zCat (pe_tup (pa_cons pe_int (pa_cons pe_int pa_nil))) (pe_cal ca hr rfl (pa_cons (pv 1) pa_nil))) (pe_cal cs hr2 rfl (pa_cons (pv 2) pa_nil)))))
        (pcs_case rfl scWrite.nd (.cons (i := 1) rfl (Or.inl rfl) (Or.inl rfl) .nil) (pss_one (ps_ret (pe_op op_zCat (pe_tup (pa_cons pe_int (pa_cons pe_int pa_nil))) (pe_cal ca hr rfl (pa_cons (pv 1) pa_nil)))))
        (pcs_case rfl scWrite.nd (.cons (i := 3) rfl (Or.inl rfl) (Or.inl rfl) (.cons (i := 2) rfl (Or.inl rfl) (Or.inl rfl) .nil)) (pss_one (ps_ret (pe_op op_zCat (pe_tup (pa_cons pe_int (pa_cons pe_int (pa_cons (pe_ix ix_kdict (pe_glob (v := .ref dU) rfl gu rfl) (pv 3) (fun _ _ => rfl)) pa_nil)))) (pe_cal cs hr2 rfl (pa_cons (pv 2) pa_nil)))))
        (pcs_case rfl scWrite.nd (.cons (i := 2) rfl (Or.inl rfl) (Or.inl rfl) .nil) (pss_one (ps_ret (pe_op op_zCat (pe_tup (pa_cons pe_int (pa_cons pe_int pa_nil))) (pe_cal cs hr2 rfl (pa_cons (pv 2) pa_nil)))))
        (pcs_case rfl scWrite.nd (.cons (i := 4) rfl (Or.inl rfl) (Or.inl rfl) (.cons (i := 5) rfl (Or.inl rfl) (Or.inl rfl) .nil)) (pss_one (ps_ret (pe_tup (pa_cons pe_int (pa_cons pe_int (pa_cons (pv 4) (pa_cons (pv 5) pa_nil)))))))
        (pcs_case rfl scWrite.nd (.cons (i := 2) rfl (Or.inl rfl) (Or.inl rfl) .nil) (pss_one (ps_ret (pe_op op_zCat (pe_tup (pa_cons pe_int (pa_cons pe_int pa_nil))) (pe_cal cn hr2 rfl (pa_cons (pv 2) pa_nil)))))
        (pcs_case rfl scWrite.nd (.cons (i := 6) rfl (Or.inl rfl) (Or.inl rfl) .nil) (pss_one (ps_ret (pe_tup (pa_cons pe_int (pa_cons pe_int (pa_cons (pv 6) pa_nil))))))
        (pcs_case rfl scWrite.nd (.cons (i := 7) rfl (Or.inl rfl) (Or.inl rfl) .nil) (pss_one (ps_ret (pe_op op_zCat (pe_tup (pa_cons pe_int (pa_cons pe_int pa_nil))) (pv 7))))
        (pcs_case rfl scWrite.nd (.cons (i := 8) rfl (Or.inl rfl) (Or.inl rfl) (.cons (i := 2) rfl (Or.inl rfl) (Or.inl rfl) (.cons (i := 9) rfl (Or.inl rfl) (Or.inl rfl) .nil))) (pss_one (ps_ret (pe_op op_zCat (pe_tup (pa_cons pe_int (pa_cons pe_int (pa_cons (pv 8) pa_nil)))) (pe_cal cp hr rfl (pa_cons (pv 2) (pa_cons (pv 9) pa_nil))))))
        (pcs_case rfl scWrite.nd (.cons (i := 2) rfl (Or.inl rfl) (Or.inl rfl) (.cons (i := 9) rfl (Or.inl rfl) (Or.inl rfl) .nil)) (pss_one (ps_ret (pe_op op_zCat (pe_tup (pa_cons pe_int (pa_cons pe_int pa_nil))) (pe_cal cp hr rfl (pa_cons (pv 2) (pa_cons (pv 9) pa_nil))))))
        pcs_nil)))))))))))
      (pss_one (ps_ret (pe_ix ix_kdict (pe_glob (v := .ref dP) rfl gd rfl) (pe_ix ix_tup (pv 0) pe_int (fun _ _ => rfl)) (fun _ _ => rfl)))), ?_⟩
    obtain ⟨vs, hp, hv⟩ := hm
    refine ⟨_, rfl, ?_⟩
    cases hg with
    | @au a ds h0 h4 hd =>
      cases hv with | s r => cases r with | n r => cases r with | s r => cases r with | nil =>
      have l1 := hd.lo
      have l2 := hd.hi
      have l3 := sbo_len (ds := ds) (by omega)
      refine case_yes hp rfl ?_
      refine ⟨sz9, fun p1 np => ⟨_, rfl, a, rfl, h0, h4, fun q2 H2 s2 h2 => catI (os := [5, 8]) (s2.seqT (SqT.of upd_same)) h2 (by show 2 + 5 ≤ 100000; decide) fun q3 H3 s3 h3 => ?_⟩⟩
      refine ⟨_, rfl, ds, rfl, hd.dg, by omega, fun _ q4 H4 s4 h4' => catI (s4.seqT h3) h4' (by rw [l3]; show 2 + 5 + _ ≤ 100000; omega) fun q5 H5 s5 h5 => ?_, fun c => absurd (by omega) c⟩
      exact kq q5 H5 ((Same.new0 np).trans (s2.trans (s3.trans (s4.trans s5)))) h5
    | @aa a h0 h4 =>
      cases hv with | s r => cases r with | n r => cases r with | nil =>
      refine case_no hp (by decide +kernel) (case_yes hp rfl ?_)
      refine ⟨sz9, fun p1 np => ⟨_, rfl, a, rfl, h0, h4, fun q2 H2 s2 h2 => catI (os := [5, 2]) (s2.seqT (SqT.of upd_same)) h2 (by show 2 + 5 ≤ 100000; decide) fun q3 H3 s3 h3 => ?_⟩⟩
      exact kq q3 H3 ((Same.new0 np).trans (s2.trans s3)) h3
    | @sc ds hd =>
      cases hv with | s r => cases r with | s r => cases r with | s r => cases r with | nil =>
      have l1 := hd.lo
      have l2 := hd.hi
      have l3 := sbo_len (ds := ds) (by omega)
      refine case_no hp (by decide +kernel) (case_no hp (by decide +kernel) (case_yes hp rfl ?_))
      refine ⟨_, rfl, _, _, _, rfl, rfl, ku1, sz9, fun p1 np => ⟨_, rfl, ds, rfl, hd.dg, by omega, fun _ q2 H2 s2 h2 => catI (os := [5, 36, 1]) (s2.seqT (SqT.of upd_same)) h2 (by rw [l3]; show 3 + _ ≤ 100000; omega) fun q3 H3 s3 h3 => ?_, fun c => absurd (by omega) c⟩⟩
      exact kq q3 H3 ((Same.new0 np).trans (s2.trans s3)) h3
    | @st ds hd =>
      cases hv with | s r => cases r with | s r => cases r with | s r => cases r with | nil =>
      have l1 := hd.lo
      have l2 := hd.hi
      have l3 := sbo_len (ds := ds) (by omega)
      refine case_no hp (by decide +kernel) (case_no hp (by decide +kernel) (case_yes hp rfl ?_))
      refine ⟨_, rfl, _, _, _, rfl, rfl, ku2, sz9, fun p1 np => ⟨_, rfl, ds, rfl, hd.dg, by omega, fun _ q2 H2 s2 h2 => catI (os := [5, 36, 4]) (s2.seqT (SqT.of upd_same)) h2 (by rw [l3]; show 3 + _ ≤ 100000; omega) fun q3 H3 s3 h3 => ?_, fun c => absurd (by omega) c⟩⟩
      exact kq q3 H3 ((Same.new0 np).trans (s2.trans s3)) h3
    | @pa ds hd =>
      cases hv with | s r => cases r with | s r => cases r with | nil =>
      have l1 := hd.lo
      have l2 := hd.hi
      have l3 := sbo_len (ds := ds) (by omega)
      refine case_no hp (by decide +kernel) (case_no hp (by decide +kernel) (case_no hp (by decide +kernel) (case_yes hp rfl ?_)))
      refine ⟨sz9, fun p1 np => ⟨_, rfl, ds, rfl, hd.dg, by omega, fun _ q2 H2 s2 h2 => catI (os := [6, 39]) (s2.seqT (SqT.of upd_same)) h2 (by rw [l3]; show 2 + _ ≤ 100000; omega) fun q3 H3 s3 h3 => ?_, fun c => absurd (by omega) c⟩⟩
      exact kq q3 H3 ((Same.new0 np).trans (s2.trans s3)) h3
    | @ho a b h0 h4 g0 g6 =>
      cases hv with | s r => cases r with | n r => cases r with | n r => cases r with | nil =>
      refine case_no hp (by decide +kernel) (case_no hp (by decide +kernel) (case_no hp (by decide +kernel) (case_no hp (by decide +kernel) (case_yes hp rfl ?_))))
      exact ⟨_, rfl, _, rfl, sz9, fun p1 np => kq p1 _ (Same.new0 np) (SqT.of upd_same)⟩
    | @su ds hd =>
      cases hv with | s r => cases r with | s r => cases r with | nil =>
      have l1 := hd.lo
      have l2 := hd.hi
      have l3 := num_len ds
      refine case_no hp (by decide +kernel) (case_no hp (by decide +kernel) (case_no hp (by decide +kernel) (case_no hp (by decide +kernel) (case_no hp (by decide +kernel) (case_yes hp rfl ?_)))))
      refine ⟨sz9, fun p1 np => ⟨_, rfl, ds, rfl, hd.dg, by omega, fun _ q2 H2 s2 h2 => catI (os := [3, 5]) (s2.seqT (SqT.of upd_same)) h2 (by rw [l3]; show 2 + _ ≤ 100000; omega) fun q3 H3 s3 h3 => ?_, fun c => absurd (by omega) c⟩⟩
      exact kq q3 H3 ((Same.new0 np).trans (s2.trans s3)) h3
    | @di c h0 h =>
      cases hv with | s r => cases r with | n r => cases r with | nil =>
      refine case_no hp (by decide +kernel) (case_no hp (by decide +kernel) (case_no hp (by decide +kernel) (case_no hp (by decide +kernel) (case_no hp (by decide +kernel) (case_no hp (by decide +kernel) (case_yes hp rfl ?_))))))
      exact ⟨_, rfl, sz9, fun p1 np => kq p1 _ (Same.new0 np) (SqT.of upd_same)⟩
    | @wo pt h =>
      cases hv with | s r => cases r with | o hq r => cases r with | nil =>
      have l2 := h.hi
      refine case_no hp (by decide +kernel) (case_no hp (by decide +kernel) (case_no hp (by decide +kernel) (case_no hp (by decide +kernel) (case_no hp (by decide +kernel) (case_no hp (by decide +kernel) (case_no hp (by decide +kernel) (case_yes hp rfl ?_)))))))
      refine ⟨sz9, fun p1 np => ⟨_, rfl, catI (os := [3, 60]) (SqT.of upd_same) ((Same.new0 np).seqT hq) (by show 2 + _ ≤ 100000; omega) fun q3 H3 s3 h3 => ?_⟩⟩
      exact kq q3 H3 ((Same.new0 np).trans s3) h3
    | @sb l ds pt h0 h hd hpt =>
      cases hv with | s r => cases r with | n r => cases r with | s r => cases r with | o hq r => cases r with | nil =>
      have l2 := hpt.hi
      have l3 := num_len ds
      have l4 := hd.hi
      have l5 : (partO ds pt).length = 1 + ((num ds).length + pt.length) := by unfold partO; rw [List.length_cons, List.length_append, Nat.add_comm]
      refine case_no hp (by decide +kernel) (case_no hp (by decide +kernel) (case_no hp (by decide +kernel) (case_no hp (by decide +kernel) (case_no hp (by decide +kernel) (case_no hp (by decide +kernel) (case_no hp (by decide +kernel) (case_no hp (by decide +kernel) (case_yes hp rfl ?_))))))))
      refine ⟨_, rfl, sz9, fun p1 np => ⟨_, rfl, _, rfl, ds, _, pt, rfl, hd, (Same.new0 np).seqT hq, hpt, fun q2 H2 s2 h2 => catI (os := [9, 1, l]) (s2.seqT (SqT.of upd_same)) h2 (by rw [l5]; show 3 + _ ≤ 100000; omega) fun q3 H3 s3 h3 => ?_⟩⟩
      exact kq q3 H3 ((Same.new0 np).trans (s2.trans s3)) h3
    | @de ds pt hd hpt =>
      cases hv with | s r => cases r with | s r => cases r with | o hq r => cases r with | nil =>
      have l2 := hpt.hi
      have l3 := num_len ds
      have l4 := hd.hi
      have l5 : (partO ds pt).length = 1 + ((num ds).length + pt.length) := by unfold partO; rw [List.length_cons, List.length_append, Nat.add_comm]
      refine case_no hp (by decide +kernel) (case_no hp (by decide +kernel) (case_no hp (by decide +kernel) (case_no hp (by decide +kernel) (case_no hp (by decide +kernel) (case_no hp (by decide +kernel) (case_no hp (by decide +kernel) (case_no hp (by decide +kernel) (case_no hp (by decide +kernel) (case_yes hp rfl ?_)))))))))
      refine ⟨sz9, fun p1 np => ⟨_, rfl, _, rfl, ds, _, pt, rfl, hd, (Same.new0 np).seqT hq, hpt, fun q2 H2 s2 h2 => catI (os := [9, 2]) (s2.seqT (SqT.of upd_same)) h2 (by rw [l5]; show 2 + _ ≤ 100000; omega) fun q3 H3 s3 h3 => ?_⟩⟩
      exact kq q3 H3 ((Same.new0 np).trans (s2.trans s3)) h3
    | @pl z os hz =>
      cases hv with | s r => cases r with | nil =>
      obtain ⟨q, hq, hoq⟩ := kv _ _ hz
      refine case_len hp (by decide) (case_len hp (by decide) (case_len hp (by decide) (case_len hp (by decide) (case_len hp (by decide) (case_len hp (by decide) (case_len hp (by decide) (case_len hp (by decide) (case_len hp (by decide) (case_len hp (by decide) ?_)))))))))
      exact ⟨_, rfl, p, _, 0, _, rfl, rfl, hp, at_of (j := 0) rfl rfl, _, _, _, rfl, rfl, hq, kq q H (Same.refl _) (hoq _)⟩
end
end Mq
/-! # The promises of the law's own defs -/
namespace Mq
open PySem PySem.Spec PyProof.Rows L2
/-- a new list of ints at p -/
abbrev LsI (H : Hp) (p : Addr) (os : List Int) : Prop := H p = some (.lst (os.map V.int))
def spMixed : Sp := fun vs H Q _ => ∃ (c t : Int), vs = [.int c, .int t] ∧ 0 ≤ t ∧ t ≤ 100 ∧ ∀ v, 0 ≤ v → Q (.int v) H
def spLDig : Sp := fun vs H Q _ => ∃ (v : Int) (lo hi : Nat), vs = [.int v, .int (lo : Int), .int (hi : Int)] ∧ lo ≤ hi ∧ hi ≤ 100 ∧ ∀ ds, Dgs lo hi ds → Q (.str (dstr ds)) H
def spLOct (K : KF) : Sp := fun vs H Q _ => ∃ (v : Int) (m : Nat), vs = [.int v, .int (m : Int)] ∧ 1 ≤ m ∧ m ≤ 200 ∧ ∀ p os H', Same H H' → OcT K H' p os → Part m os → Q (.ref p) H'
def spLMsg (K : KF) : Sp := fun vs H Q _ => ∃ (v : Int), vs = [.int v] ∧ 0 ≤ v ∧ ∀ p m os H', Same H H' → MsgAt K H' p m → Good m os → Q (.ref p) H'
def spLPairs : Sp := fun vs H Q _ => ∃ (ds : List Nat), vs = [.str (dstr ds)] ∧ Dg ds ∧ ds.length ≤ 1000 ∧ ∀ p H', Same H H' → LsI H' p (prs ds) → Q (.ref p) H'
def spLSub : Sp := fun vs H Q _ => ∃ (ds : List Nat), vs = [.str (dstr ds)] ∧ Dg ds ∧ 1 ≤ ds.length ∧ ds.length ≤ 1000 ∧ ∀ p H', Same H H' → LsI H' p (sbo ds) → Q (.ref p) H'
def spLNum : Sp := fun vs H Q _ => ∃ (ds : List Nat), vs = [.str (dstr ds)] ∧ Dg ds ∧ ds.length ≤ 1000 ∧ ∀ p H', Same H H' → LsI H' p (num ds) → Q (.ref p) H'
def spLWr (K : KF) : Sp := fun vs H Q _ => ∃ (p : Addr) (m : List Pt) (os : List Int), vs = [.ref p] ∧ MsgAt K H p m ∧ Good m os ∧ ∀ q H', Same H H' → LsI H' q os → Q (.ref q) H'
def spLSpoilt : Sp := fun vs H Q _ => ∃ (l : Addr) (os : List Int) (v : Int), vs = [.ref l, .int v] ∧ LsI H l os ∧ Oc os ∧ 1 ≤ os.length ∧ os.length ≤ 300 ∧ 0 ≤ v ∧
  ∀ q os' H', Same H H' → LsI H' q os' → Oc os' → os'.length ≤ 700 → Q (.ref q) H'
def spLNums (K : KF) : Sp := fun vs H Q _ => ∃ (a b : Addr) (ns ls : List Int), vs = [.ref a, .ref b] ∧ (SqL K H a (ns.map V.int) ∨ SqT K H a (ns.map V.int)) ∧ SqL K H b (ls.map V.int) ∧ ns.length = ls.length ∧ ns.length ≤ 1000 ∧
  (∀ (i : Nat) n l, ns[i]? = some n → ls[i]? = some l → 0 ≤ n ∧ n < l) ∧ Q (.bl true) H
def spLStr : Sp := fun vs H Q _ => ∃ (ds : List Nat) (lo hi : Nat), vs = [.str (dstr ds), .int (lo : Int), .int (hi : Int)] ∧ Dgs lo hi ds ∧ hi ≤ 1000 ∧ ∀ H', Same H H' → Q (.bl true) H'
def spLRow (K : KF) : Sp := fun vs H Q _ => ∃ (a : Addr) (os : List Int) (m : Nat), vs = [.ref a, .int (m : Int)] ∧ OcT K H a os ∧ Part m os ∧ m ≤ 1000 ∧ ∀ H', Same H H' → Q (.bl true) H'
def spLGood (K : KF) : Sp := fun vs H Q _ => ∃ (p : Addr) (m : List Pt) (os : List Int), vs = [.ref p] ∧ MsgAt K H p m ∧ Good m os ∧ ∀ H', Same H H' → Q (.bl true) H'
def spLBey : Sp := fun vs H Q _ => ∃ (v : Int), vs = [.int v] ∧ 0 ≤ v ∧ ∀ q os H', Same H H' → LsI H' q os → Oc os → os.length ≤ 700 → (∀ m, ¬ Good m os) → Q (.ref q) H'
def spLaw (K : KF) : Sp := fun vs H Q _ => ∃ (a : Addr) (ns : List Int), vs = [.ref a] ∧ SqL K H a (ns.map V.int) ∧ ns.length ≤ 63 ∧ ∀ H', Q (.bl true) H'
/-! ### what every good message's octets are -/
theorem areaO_oc {a : Int} (h0 : 0 ≤ a) (h4 : a < 4) : Oc (areaO a) := Oc.cons (by omega) (Oc.cons (by omega) (Oc.cons (by omega) (Oc.cons (by omega) (Oc.cons (by omega) Oc.nil))))
theorem partO_oc {ds : List Nat} {pt : List Int} (hd : Dgs 1 9 ds) (hp : Part 150 pt) : Oc (partO ds pt) := by
  have := num_len ds
  have := hd.hi
  exact Oc.cons (by omega) ((num_oc hd.dg).append hp.oc)
theorem partO_len {ds : List Nat} {pt : List Int} (hd : Dgs 1 9 ds) (hp : Part 150 pt) : (partO ds pt).length ≤ 200 := by
  have := num_len ds
  have := hd.hi
  have := hp.hi
  unfold partO
  rw [List.length_cons, List.length_append]
  omega
theorem plains_ok : ∀ p ∈ plains, Oc p.2 ∧ 1 ≤ p.2.length ∧ p.2.length ≤ 300 := by
  intro p hp
  simp only [plains, List.mem_cons, List.not_mem_nil, or_false] at hp
  rcases hp with rfl | rfl | rfl | rfl | rfl | rfl | rfl | rfl | rfl | rfl <;> exact ⟨Oc.cons (by decide) (Oc.cons (by decide) Oc.nil), by decide, by decide⟩
theorem good_oc {m : List Pt} {os : List Int} (h : Good m os) : Oc os ∧ 1 ≤ os.length ∧ os.length ≤ 300 := by
  cases h with
  | @au a ds h0 h4 hd =>
    have := sbo_len (ds := ds) (by have := hd.lo; omega)
    have := hd.hi
    have e : (areaO a).length = 5 := rfl
    refine ⟨Oc.cons (by omega) (Oc.cons (by omega) ((areaO_oc h0 h4).append (sbo_oc hd.dg))), ?_, ?_⟩ <;> rw [List.length_cons, List.length_cons, List.length_append, e] <;> omega
  | aa h0 h4 => exact ⟨Oc.cons (by omega) (Oc.cons (by omega) (areaO_oc h0 h4)), by show 1 ≤ 7; decide, by show 7 ≤ 300; decide⟩
  | @sc ds hd =>
    have := sbo_len (ds := ds) (by have := hd.lo; omega)
    have := hd.hi
    refine ⟨Oc.cons (by omega) (Oc.cons (by omega) (Oc.cons (by omega) (sbo_oc hd.dg))), ?_, ?_⟩ <;> rw [List.length_cons, List.length_cons, List.length_cons] <;> omega
  | @st ds hd =>
    have := sbo_len (ds := ds) (by have := hd.lo; omega)
    have := hd.hi
    refine ⟨Oc.cons (by omega) (Oc.cons (by omega) (Oc.cons (by omega) (sbo_oc hd.dg))), ?_, ?_⟩ <;> rw [List.length_cons, List.length_cons, List.length_cons] <;> omega
  | @pa ds hd =>
    have := sbo_len (ds := ds) (by have := hd.lo; omega)
    have := hd.hi
    refine ⟨Oc.cons (by omega) (Oc.cons (by omega) (sbo_oc hd.dg)), ?_, ?_⟩ <;> rw [List.length_cons, List.length_cons] <;> omega
  | ho h0 h4 g0 g6 => exact ⟨Oc.cons (by omega) (Oc.cons (by omega) (Oc.cons (by omega) (Oc.cons (by omega) Oc.nil))), by show 1 ≤ 4; decide, by show 4 ≤ 300; decide⟩
  | @su ds hd =>
    have := num_len ds
    have := hd.hi
    refine ⟨Oc.cons (by omega) (Oc.cons (by omega) (num_oc hd.dg)), ?_, ?_⟩ <;> rw [List.length_cons, List.length_cons] <;> omega
  | di h0 h => exact ⟨Oc.cons (by omega) (Oc.cons (by omega) (Oc.cons (by omega) Oc.nil)), by show 1 ≤ 3; decide, by show 3 ≤ 300; decide⟩
  | wo h =>
    have := h.hi
    refine ⟨Oc.cons (by omega) (Oc.cons (by omega) h.oc), ?_, ?_⟩ <;> rw [List.length_cons, List.length_cons] <;> omega
  | sb h0 h hd hp =>
    have := partO_len hd hp
    refine ⟨Oc.cons (by omega) (Oc.cons (by omega) (Oc.cons (by omega) (partO_oc hd hp))), ?_, ?_⟩ <;> rw [List.length_cons, List.length_cons, List.length_cons] <;> omega
  | de hd hp =>
    have := partO_len hd hp
    refine ⟨Oc.cons (by omega) (Oc.cons (by omega) (partO_oc hd hp)), ?_, ?_⟩ <;> rw [List.length_cons, List.length_cons] <;> omega
  | pl h => exact plains_ok _ h
end Mq
namespace Mq
open PySem PySem.Spec PyProof.Rows L2
section
variable {P : Program} {w : World} {K : KF} {mg : Str → Option Value} {base : Heap} {C : Addr}
/-! ### _law_mixed -/
abbrev sMixed : Stmt := topS 40
theorem scMixed : FnScope ["_law_cell", "_law_turn", "_law_value", "_law_first", "_law_second", "_law_third"] ["_law_cell", "_law_turn"] (defScope sMixed) := ⟨rfl, rfl, rfl, by decide +kernel, rfl, by decide +kernel, by decide +kernel⟩
theorem cal_mixed (T : Txt K mg C) {f : Addr} {fd : FuncData} (D : Def K mg "_law_mixed" sMixed ["_law_cell", "_law_turn"] f fd) : Cal P w K mg base 1 "_law_mixed" ["_law_cell", "_law_turn"] spMixed := by
  refine D.cal scMixed (fun vs H Q E h => ?_) (fun cdv A outer s H vs Q E hr h => ?_)
  · obtain ⟨c, t, rfl, _⟩ := h
    rfl
  · obtain ⟨c, t, rfl, t0, t1, kq⟩ := h
    refine ⟨_, pss_cons (ps_set (i := 2) scMixed.nd rfl (Or.inl rfl) (pe_callTy call_int1 (by rfl) T.int (by decide +kernel) (pa_cons (pv 0) pa_nil)))
      (pss_cons (ps_if (pt_cmpR op_ge (pv 2) (pe_op op_pow pe_int pe_int) (nomark _)) (pss_one (ps_ret (pv 2))) pss_nil)
      (pss_cons (ps_set (i := 3) scMixed.nd rfl (Or.inl rfl) (pe_op op_mod (pe_op op_add (pe_op op_mul (pe_op op_mod (pv 2) pe_int) pe_int) (pe_op op_mul pe_int (pe_op op_add (pv 1) pe_int))) pe_int))
      (pss_cons (ps_set (i := 4) scMixed.nd rfl (Or.inl rfl) (pe_op op_mod (pe_op op_add (pe_op op_mul (pv 3) pe_int) (pe_op op_mod (pv 2) pe_int)) pe_int))
      (pss_cons (ps_set (i := 5) scMixed.nd rfl (Or.inl rfl) (pe_op op_mod (pe_op op_add (pe_op op_mul (pv 4) pe_int) (pv 3)) pe_int))
      (pss_one (ps_ret (pe_op op_add (pe_op op_add (pv 3) (pe_op op_mul pe_int (pv 4))) (pe_op op_mul pe_int (pv 5))))))))), ?_⟩
    refine ⟨_, rfl, Or.inl ⟨_, rfl, ?_⟩⟩
    refine ⟨_, rfl, _, _, rfl, rfl, ⟨by decide, by decide, by decide⟩, _, _, rfl, rfl, _, rfl, ?_⟩
    refine ite2 (fun q => ?_) (fun q => ?_)
    · have h1 := lt_of_t q
      have h2 : (0 : Int) ≤ 10 ^ (18 : Int).toNat := by decide
      exact ⟨_, rfl, kq _ (by omega)⟩
    refine ⟨_, rfl, _, _, rfl, rfl, (by show (0 : Int) < 1000003; decide), _, _, rfl, rfl, Or.inr ⟨by decide, by decide⟩, _, rfl, _, _, rfl, rfl, _, _, rfl, rfl, Or.inl ⟨by decide, by decide⟩, _, _, rfl, rfl, _, _, rfl, rfl, (by show (0 : Int) < 2147483647; decide), ?_⟩
    refine ⟨_, rfl, _, _, rfl, rfl, Or.inr ⟨by decide, by decide⟩, _, rfl, _, _, rfl, rfl, (by show (0 : Int) < 999983; decide), _, _, rfl, rfl, _, _, rfl, rfl, (by show (0 : Int) < 2147483647; decide), ?_⟩
    refine ⟨_, rfl, _, _, rfl, rfl, Or.inr ⟨by decide, by decide⟩, _, rfl, _, _, rfl, rfl, _, _, rfl, rfl, (by show (0 : Int) < 2147483647; decide), ?_⟩
    refine ⟨_, rfl, _, rfl, _, _, rfl, rfl, Or.inl ⟨by decide, by decide⟩, _, _, rfl, rfl, _, rfl, _, _, rfl, rfl, Or.inl ⟨by decide, by decide⟩, _, _, rfl, rfl, kq _ ?_⟩
    have pos : ∀ x : Int, 0 ≤ x % 2147483647 := fun x => Int.emod_nonneg _ (by decide)
    exact Int.add_nonneg (Int.add_nonneg (pos _) (Int.mul_nonneg (by decide) (pos _))) (Int.mul_nonneg (by decide) (pos _))
/-! ### _law_digits -/
abbrev sLDig : Stmt := topS 41
theorem scLDig : FnScope ["_law_value", "_law_least", "_law_most", "_law_many", "_law_figures", "_law_spare"] ["_law_value", "_law_least", "_law_most"] (defScope sLDig) := ⟨rfl, rfl, rfl, by decide +kernel, rfl, by decide +kernel, by decide +kernel⟩
theorem cal_ldig (T : Txt K mg C) {f : Addr} {fd : FuncData} (D : Def K mg "_law_digits" sLDig ["_law_value", "_law_least", "_law_most"] f fd) : Cal P w K mg base 1 "_law_digits" ["_law_value", "_law_least", "_law_most"] spLDig := by
  refine D.cal scLDig (fun vs H Q E h => ?_) (fun cdv A outer s H vs Q E hr h => ?_)
  · obtain ⟨v, lo, hi, rfl, _⟩ := h
    rfl
  · obtain ⟨v, lo, hi, rfl, h1, h2, kq⟩ := h
    refine ⟨_, pss_cons (ps_set (i := 3) scLDig.nd rfl (Or.inl rfl) (pe_op op_add (pv 1) (pe_op op_mod (pv 0) (pe_op op_add (pe_op op_sub (pv 2) (pv 1)) pe_int))))
      (pss_cons (ps_set (i := 4) scLDig.nd rfl (Or.inl rfl) pe_str)
      (pss_cons (ps_set (i := 0) scLDig.nd rfl (Or.inl rfl) (pe_op op_fdiv (pv 0) pe_int))
      (pss_cons (ps_for (passes_of rfl) rfl (pi_range1 (by rfl) T.range (pa_cons (pv 3) pa_nil)) (pg_name (i := 5) scLDig.nd rfl (Or.inl rfl))
        (pss_cons (ps_set (i := 4) scLDig.nd rfl (Or.inl rfl) (pe_op op_addD (pv 4) (pe_ix ix_str pe_str (pe_op op_mod (pv 0) pe_int) (fun _ _ => rfl))))
        (pss_one (ps_set (i := 0) scLDig.nd rfl (Or.inl rfl) (pe_op op_add (pe_op op_fdiv (pv 0) pe_int) (pe_op op_mul pe_int (pe_op op_mod (pv 0) pe_int)))))))
      (pss_one (ps_ret (pv 4)))))), ?_⟩
    have m0 : 0 ≤ v % ((hi : Int) - lo + 1) := Int.emod_nonneg _ (by omega)
    have m1 : v % ((hi : Int) - lo + 1) < (hi : Int) - lo + 1 := Int.emod_lt_of_pos _ (by omega)
    obtain ⟨n, hn⟩ : ∃ n : Nat, (lo : Int) + v % ((hi : Int) - lo + 1) = (n : Int) := ⟨((lo : Int) + v % ((hi : Int) - lo + 1)).toNat, by omega⟩
    refine ⟨_, rfl, _, rfl, _, rfl, _, rfl, _, _, rfl, rfl, _, _, rfl, rfl, _, _, rfl, rfl, (by show (0 : Int) < (hi : Int) - lo + 1; omega), _, _, rfl, rfl, ?_⟩
    dsimp only
    rw [hn]
    refine ⟨_, rfl, _, _, rfl, rfl, ⟨by decide, by decide⟩, ?_⟩
    refine ⟨_, rfl, _, rfl, by omega, by omega, for_range (lo := 0) (n := ((n : Int)).toNat) (fun i σ H' => H' = H ∧ ∃ ds v' sp, σ = [some (.int v'), some (.int (lo : Int)), some (.int (hi : Int)), some (.int (n : Int)), some (.str (dstr ds)), sp] ∧ Dg ds ∧ ds.length = i)
      ⟨rfl, [], _, none, by rw [← dstr_nil]; rfl, Dg.nil, rfl⟩ ?_ ?_⟩
    · rintro i σ H1 hi2 ⟨rfl, ds, v', sp, rfl, hd, hl⟩
      have d9 : (v' % 10).toNat ≤ 9 := by omega
      refine ⟨_, rfl, _, rfl, _, _, rfl, rfl, (by show (0 : Int) < 10; decide), _, _, _, rfl, rfl, (by decide +kernel), ?_, addD (es := [(v' % 10).toNat]) (by simp; omega) ?_⟩
      · have e : v' % 10 = (((v' % 10).toNat : Nat) : Int) := by omega
        rw [e]
        exact atI_nat (figure_at d9)
      · refine ⟨_, rfl, _, _, rfl, rfl, ⟨by decide, by decide⟩, _, rfl, _, _, rfl, rfl, (by show (0 : Int) < 13; decide), _, _, rfl, rfl, Or.inl ⟨by decide, by decide⟩, _, _, rfl, rfl, ?_⟩
        exact ⟨rfl, _, _, _, rfl, hd.append (Dg.one d9), by rw [List.length_append, hl]; rfl⟩
    · rintro σ H1 ⟨rfl, ds, v', sp, rfl, hd, hl⟩
      exact ⟨_, rfl, kq ds ⟨hd, by omega, by omega⟩⟩
/-! ### _law_octets -/
abbrev sLOct : Stmt := topS 42
theorem scLOct : FnScope ["_law_value", "_law_most", "_law_row_here", "_law_left", "_law_k"] ["_law_value", "_law_most"] (defScope sLOct) := ⟨rfl, rfl, rfl, by decide +kernel, rfl, by decide +kernel, by decide +kernel⟩
theorem cal_loct (T : Txt K mg C) {f : Addr} {fd : FuncData} (D : Def K mg "_law_octets" sLOct ["_law_value", "_law_most"] f fd) : Cal P w K mg base 1 "_law_octets" ["_law_value", "_law_most"] (spLOct K) := by
  refine D.cal scLOct (fun vs H Q E h => ?_) (fun cdv A outer s H vs Q E hr h => ?_)
  · obtain ⟨v, m, rfl, _⟩ := h
    rfl
  · obtain ⟨v, m, rfl, h1, h2, kq⟩ := h
    refine ⟨_, pss_cons (ps_set (i := 2) scLOct.nd rfl (Or.inl rfl) (pe_lst pa_nil))
      (pss_cons (ps_set (i := 3) scLOct.nd rfl (Or.inl rfl) (pe_op op_fdiv (pv 0) (pv 1)))
      (pss_cons (ps_for (passes_of rfl) rfl (pi_range1 (by rfl) T.range (pa_cons (pe_op op_add pe_int (pe_op op_mod (pv 0) (pv 1))) pa_nil)) (pg_name (i := 4) scLOct.nd rfl (Or.inl rfl))
        (Evl.pss_cut (ps_if (PW.pt (pw_or (pt_cmpR op_eq (pv 3) pe_int (nomark _)) (pw_or1 (pt_cmpR op_eq (pv 3) (pe_un un_neg pe_int) (nomark _))))) (pss_one (ps_set (i := 3) scLOct.nd rfl (Or.inl rfl) (pe_op op_add (pv 0) (pe_op op_mul pe_int (pe_op op_add (pv 4) pe_int))))) pss_nil)
        (pss_cons (ps_expr (pe_bm PySem.F.plainAttrs_list PySem.F.slot_list_append PySem.F.type_list_append mt_append (pv 2) (pa_cons (pe_op op_mod (pv 3) pe_int) pa_nil)))
        (pss_one (ps_set (i := 3) scLOct.nd rfl (Or.inl rfl) (pe_op op_fdiv (pv 3) pe_int))))))
      (pss_one (ps_ret (pe_callTy call_tuple_of (by rfl) T.tuple (by decide +kernel) (pa_cons (pv 2) pa_nil)))))), ?_⟩
    have m0 : 0 ≤ v % (m : Int) := Int.emod_nonneg _ (by omega)
    have m1 : v % (m : Int) < m := Int.emod_lt_of_pos _ (by omega)
    refine ⟨Nat.zero_le _, fun l nl => ?_⟩
    refine ⟨_, rfl, _, rfl, _, _, rfl, rfl, ⟨by omega, by omega⟩, ?_⟩
    refine ⟨_, rfl, _, rfl, _, _, rfl, rfl, (by show (0 : Int) < m; omega), _, _, rfl, rfl, _, rfl, by omega, by omega, for_range (lo := 0) (n := (1 + v % (m : Int)).toNat)
      (fun i σ H' => ∃ os v3 v4, σ = [some (.int v), some (.int (m : Int)), some (.ref l), some (.int v3), v4] ∧ Same H H' ∧ LsI H' l os ∧ Oc os ∧ os.length = i)
      ⟨[], _, none, rfl, Same.new0 nl, upd_same, Oc.nil, rfl⟩ ?_ ?_⟩
    · rintro i σ H1 hi ⟨os, v3, v4, rfl, s1, hl, ho, hn⟩
      refine ⟨fun σ' H' => H' = H1 ∧ ∃ v3' v4', σ' = [some (.int v), some (.int (m : Int)), some (.ref l), some (.int v3'), v4'], ?_, ?_⟩
      · refine ⟨_, rfl, rfl, _, rfl, ?_⟩
        refine ite2 (fun c => iteT ?_) (fun c => ?_)
        · exact ⟨_, rfl, _, rfl, _, _, rfl, rfl, _, _, rfl, rfl, Or.inl ⟨by decide, by decide⟩, _, _, rfl, rfl, rfl, _, _, rfl⟩
        · refine ⟨_, rfl, _, rfl, rfl, _, rfl, ?_⟩
          refine ite2 (fun c => ?_) (fun c => ?_)
          · exact ⟨_, rfl, _, rfl, _, _, rfl, rfl, _, _, rfl, rfl, Or.inl ⟨by decide, by decide⟩, _, _, rfl, rfl, rfl, _, _, rfl⟩
          · exact ⟨rfl, _, _, rfl⟩
      · rintro σ' H' ⟨rfl, v3', v4', rfl⟩
        refine ⟨_, rfl, Or.inl ⟨rfl, _, SqL.of hl⟩, _, rfl, _, _, rfl, rfl, (by show (0 : Int) < 256; decide), l, _, _, rfl, rfl, hl, size_lt (by rw [List.length_map]; omega), ?_⟩
        refine ⟨_, rfl, _, _, rfl, rfl, ⟨by decide, by decide⟩, ?_⟩
        refine ⟨os ++ [v3' % 256], _, _, rfl, s1.mut nl, by unfold LsI; rw [upd_same, List.map_append]; rfl, ho.append (Oc.cons (by omega) Oc.nil), by rw [List.length_append, hn]; rfl⟩
    · rintro σ H1 ⟨os, v3, v4, rfl, s1, hl, ho, hn⟩
      exact ⟨_, rfl, l, _, rfl, Or.inl ⟨SqL.of hl, fun t nt => kq t os _ (s1.new nt) (SqT.of upd_same) ⟨ho, by omega, by omega⟩⟩⟩
end
end Mq
namespace Mq
open PySem PySem.Spec PyProof.Rows L2
theorem look2 {H : Hp} {a b : Addr} {o u : HO} (n : (upd H a o) b = none) : upd (upd H a o) b u a = some o := by
  rw [upd_ne (ne_of_none upd_same n)]
  exact upd_same
theorem t_str {H : Hp} {σ : L2.St} {i : Nat} {z k : Str} {Q : Bool → Hp → Prop} (hσ : σ[i]? = some (some (.str z))) (k1 : z = k → Q true H) (k2 : z ≠ k → Q false H) : tTest (tOp rEq (tVar i) (tC (.str k))) σ H Q := by
  refine ⟨_, hσ, rfl, _, rfl, ?_⟩
  by_cases e : z = k
  · rw [e, decide_eq_true rfl]
    exact k1 e
  · rw [decide_eq_false fun q => e (V.str.inj q)]
    exact k2 e
def kinds20 : List Str := ["area update", "area accept", "service", "page answer", "release", "handover", "handover done", "setup", "proceeding", "alerting", "connect", "connect done", "disconnect", "word", "submit", "stored", "refused", "deliver", "taken", "service accept"]
def kinds10 : List Str := ["area update", "area accept", "service", "page answer", "handover", "setup", "disconnect", "word", "submit", "deliver"]
theorem kinds_all : (kinds20.all fun z => kinds10.contains z || plains.any fun p => decide (p.1 = z)) = true := by decide +kernel
theorem kinds_plain {z : Str} (h : z ∈ kinds20) (n : z ∉ kinds10) : ∃ os, (z, os) ∈ plains := by
  have e := List.all_eq_true.mp kinds_all z h
  rcases (Bool.or_eq_true_iff.mp e) with q | q
  · exact absurd (List.contains_iff_mem.mp q) n
  · obtain ⟨p, hp, hz⟩ := List.any_eq_true.mp q
    have hz' : p.1 = z := of_decide_eq_true hz
    exact ⟨p.2, by rw [← hz']; exact hp⟩
section
variable {P : Program} {w : World} {K : KF} {mg : Str → Option Value} {base : Heap} {C : Addr}
/-! ### _law_message -/
abbrev sLMsg : Stmt := topS 43
theorem scLMsg : FnScope ["_law_value", "_law_kinds", "_law_kind"] ["_law_value"] (defScope sLMsg) := ⟨rfl, rfl, rfl, by decide +kernel, rfl, by decide +kernel, by decide +kernel⟩
theorem cal_lmsg (T : Txt K mg C) (cd : Cal P w K mg base 1 "_law_digits" ["_law_value", "_law_least", "_law_most"] spLDig) (co : Cal P w K mg base 1 "_law_octets" ["_law_value", "_law_most"] (spLOct K)) {f : Addr} {fd : FuncData} (D : Def K mg "_law_message" sLMsg ["_law_value"] f fd) :
    Cal P w K mg base 2 "_law_message" ["_law_value"] (spLMsg K) := by
  refine D.cal scLMsg (fun vs H Q E h => ?_) (fun cdv A outer s H vs Q E hr h => ?_)
  · obtain ⟨v, rfl, _⟩ := h
    rfl
  · obtain ⟨v, rfl, h0, kq⟩ := h
    refine ⟨_, pss_cons (ps_set (i := 1) scLMsg.nd rfl (Or.inl rfl) (pe_lst (pa_cons pe_str (pa_cons pe_str (pa_cons pe_str (pa_cons pe_str (pa_cons pe_str (pa_cons pe_str (pa_cons pe_str (pa_cons pe_str pa_nil))))))))))
      (pss_cons (ps_set (i := 1) scLMsg.nd rfl (Or.inl rfl) (pe_op op_cat (pv 1) (pe_lst (pa_cons pe_str (pa_cons pe_str (pa_cons pe_str (pa_cons pe_str (pa_cons pe_str (pa_cons pe_str (pa_cons pe_str (pa_cons pe_str pa_nil)))))))))))
      (pss_cons (ps_set (i := 1) scLMsg.nd rfl (Or.inl rfl) (pe_op op_cat (pv 1) (pe_lst (pa_cons pe_str (pa_cons pe_str (pa_cons pe_str (pa_cons pe_str pa_nil)))))))
      (pss_cons (ps_set (i := 2) scLMsg.nd rfl (Or.inl rfl) (pe_ix ix_list (pv 1) (pe_op op_mod (pv 0) pe_int) (fun _ _ => rfl)))
      (pss_cons (ps_set (i := 0) scLMsg.nd rfl (Or.inl rfl) (pe_op op_fdiv (pv 0) pe_int))
      (pss_cons (ps_if (pt_cmpR op_eq (pv 2) pe_str (nomark _)) (pss_one (ps_ret (pe_tup (pa_cons (pv 2) (pa_cons (pe_op op_mod (pv 0) pe_int) (pa_cons (pe_cal cd hr rfl (pa_cons (pe_op op_fdiv (pv 0) pe_int) (pa_cons pe_int (pa_cons pe_int pa_nil)))) pa_nil)))))) pss_nil)
      (pss_cons (ps_if (pt_cmpR op_eq (pv 2) pe_str (nomark _)) (pss_one (ps_ret (pe_tup (pa_cons (pv 2) (pa_cons (pe_op op_mod (pv 0) pe_int) pa_nil))))) pss_nil)
      (pss_cons (ps_if (pt_cmpR op_eq (pv 2) pe_str (nomark _)) (pss_one (ps_ret (pe_tup (pa_cons (pv 2) (pa_cons (pe_ix ix_list (pe_lst (pa_cons pe_str (pa_cons pe_str pa_nil))) (pe_op op_mod (pv 0) pe_int) (fun _ _ => rfl)) (pa_cons (pe_cal cd hr rfl (pa_cons (pe_op op_fdiv (pv 0) pe_int) (pa_cons pe_int (pa_cons pe_int pa_nil)))) pa_nil)))))) pss_nil)
      (pss_cons (ps_if (pt_cmpR op_eq (pv 2) pe_str (nomark _)) (pss_one (ps_ret (pe_tup (pa_cons (pv 2) (pa_cons (pe_cal cd hr rfl (pa_cons (pv 0) (pa_cons pe_int (pa_cons pe_int pa_nil)))) pa_nil))))) pss_nil)
      (pss_cons (ps_if (pt_cmpR op_eq (pv 2) pe_str (nomark _)) (pss_one (ps_ret (pe_tup (pa_cons (pv 2) (pa_cons (pe_op op_mod (pv 0) pe_int) (pa_cons (pe_op op_mod (pe_op op_fdiv (pv 0) pe_int) pe_int) pa_nil)))))) pss_nil)
      (pss_cons (ps_if (pt_cmpR op_eq (pv 2) pe_str (nomark _)) (pss_one (ps_ret (pe_tup (pa_cons (pv 2) (pa_cons (pe_cal cd hr rfl (pa_cons (pv 0) (pa_cons pe_int (pa_cons pe_int pa_nil)))) pa_nil))))) pss_nil)
      (pss_cons (ps_if (pt_cmpR op_eq (pv 2) pe_str (nomark _)) (pss_one (ps_ret (pe_tup (pa_cons (pv 2) (pa_cons (pe_op op_mod (pv 0) pe_int) pa_nil))))) pss_nil)
      (pss_cons (ps_if (pt_cmpR op_eq (pv 2) pe_str (nomark _)) (pss_one (ps_ret (pe_tup (pa_cons (pv 2) (pa_cons (pe_cal co hr rfl (pa_cons (pv 0) (pa_cons pe_int pa_nil))) pa_nil))))) pss_nil)
      (pss_cons (ps_if (pt_cmpR op_eq (pv 2) pe_str (nomark _)) (pss_one (ps_ret (pe_tup (pa_cons (pv 2) (pa_cons (pe_op op_mod (pv 0) pe_int) (pa_cons (pe_cal cd hr rfl (pa_cons (pe_op op_fdiv (pv 0) pe_int) (pa_cons pe_int (pa_cons pe_int pa_nil)))) (pa_cons (pe_cal co hr rfl (pa_cons (pe_op op_fdiv (pv 0) pe_int) (pa_cons pe_int pa_nil))) pa_nil))))))) pss_nil)
      (pss_cons (ps_if (pt_cmpR op_eq (pv 2) pe_str (nomark _)) (pss_one (ps_ret (pe_tup (pa_cons (pv 2) (pa_cons (pe_cal cd hr rfl (pa_cons (pv 0) (pa_cons pe_int (pa_cons pe_int pa_nil)))) (pa_cons (pe_cal co hr rfl (pa_cons (pe_op op_fdiv (pv 0) pe_int) (pa_cons pe_int pa_nil))) pa_nil)))))) pss_nil)
      (pss_one (ps_ret (pe_tup (pa_cons (pv 2) pa_nil)))))))))))))))))), ?_⟩
    refine ⟨sz9, fun l1 n1 => ?_⟩
    refine ⟨_, rfl, sz9, fun l2 n2 => ⟨l1, l2, _, _, rfl, rfl, look2 n2, upd_same, (by show 16 ≤ sizeLine; decide), fun l3 n3 => ?_⟩⟩
    refine ⟨_, rfl, sz9, fun l4 n4 => ⟨l3, l4, _, _, rfl, rfl, look2 n4, upd_same, (by show 20 ≤ sizeLine; decide), fun l5 n5 => ?_⟩⟩
    have s5 := ((((Same.new0 n1).new n2).new n3).new n4).new (o := .lst (kinds20.map V.str)) n5
    have j20 : (v % 20).toNat < kinds20.length := by show (v % 20).toNat < 20; omega
    obtain ⟨z, hz⟩ : ∃ z, kinds20[(v % 20).toNat]? = some z := ⟨_, List.getElem?_eq_getElem j20⟩
    have hzm : z ∈ kinds20 := List.mem_of_getElem? hz
    have hat : atI (kinds20.map V.str) (v % 20) = some (V.str z) := by
      have e : v % 20 = (((v % 20).toNat : Nat) : Int) := by omega
      rw [e]
      refine atI_nat ?_
      rw [List.getElem?_map, hz]
      rfl
    refine ⟨_, rfl, _, rfl, _, _, rfl, rfl, (by show (0 : Int) < 20; decide), l5, _, _, _, rfl, rfl, SqL.of upd_same, hat, ?_⟩
    refine ⟨_, rfl, _, _, rfl, rfl, ⟨by decide, by decide⟩, ?_⟩
    have u0 : 0 ≤ v / 20 := by omega
    dsimp only
    generalize v / 20 = u at u0 ⊢
    have m0 : ∀ (x k : Int), 0 < k → 0 ≤ x % k := fun x k hk => Int.emod_nonneg _ (by omega)
    refine t_str rfl (fun e => iteT ?_) (fun e1 => iteF ?_)
    · subst e
      refine ⟨_, rfl, _, rfl, _, _, rfl, rfl, (by show (0 : Int) < 4; decide), _, rfl, _, _, rfl, rfl, ⟨by decide, by decide⟩, _, 6, 15, rfl, by decide, by decide, fun ds hd => ⟨sz9, fun p np => ?_⟩⟩
      exact kq p _ _ _ (s5.new np) ⟨_, SqT.of upd_same, .s (.n (.s .nil))⟩ (.au (by omega) (by omega) hd)
    refine t_str rfl (fun e => iteT ?_) (fun e2 => iteF ?_)
    · subst e
      refine ⟨_, rfl, _, rfl, _, _, rfl, rfl, (by show (0 : Int) < 4; decide), sz9, fun p np => ?_⟩
      exact kq p _ _ _ (s5.new np) ⟨_, SqT.of upd_same, .s (.n .nil)⟩ (.aa (by omega) (by omega))
    refine t_str rfl (fun e => iteT ?_) (fun e3 => iteF ?_)
    · subst e
      refine ⟨_, rfl, sz9, fun l nl => ?_⟩
      have u2 : u % 2 = 0 ∨ u % 2 = 1 := by omega
      rcases u2 with e2 | e2
      · refine ⟨_, rfl, _, _, rfl, rfl, (by show (0 : Int) < 2; decide), l, _, _, V.str "call", rfl, rfl, SqL.of upd_same, by rw [e2]; rfl, ?_⟩
        refine ⟨_, rfl, _, _, rfl, rfl, ⟨by decide, by decide⟩, _, 6, 15, rfl, by decide, by decide, fun ds hd => ⟨sz9, fun p np => ?_⟩⟩
        exact kq p _ _ _ ((s5.new nl).new np) ⟨_, SqT.of upd_same, .s (.s (.s .nil))⟩ (.sc hd)
      · refine ⟨_, rfl, _, _, rfl, rfl, (by show (0 : Int) < 2; decide), l, _, _, V.str "texts", rfl, rfl, SqL.of upd_same, by rw [e2]; rfl, ?_⟩
        refine ⟨_, rfl, _, _, rfl, rfl, ⟨by decide, by decide⟩, _, 6, 15, rfl, by decide, by decide, fun ds hd => ⟨sz9, fun p np => ?_⟩⟩
        exact kq p _ _ _ ((s5.new nl).new np) ⟨_, SqT.of upd_same, .s (.s (.s .nil))⟩ (.st hd)
    refine t_str rfl (fun e => iteT ?_) (fun e4 => iteF ?_)
    · subst e
      refine ⟨_, rfl, _, rfl, _, 6, 15, rfl, by decide, by decide, fun ds hd => ⟨sz9, fun p np => ?_⟩⟩
      exact kq p _ _ _ (s5.new np) ⟨_, SqT.of upd_same, .s (.s .nil)⟩ (.pa hd)
    refine t_str rfl (fun e => iteT ?_) (fun e5 => iteF ?_)
    · subst e
      refine ⟨_, rfl, _, rfl, _, _, rfl, rfl, (by show (0 : Int) < 4; decide), _, rfl, _, _, rfl, rfl, ⟨by decide, by decide⟩, _, _, rfl, rfl, (by show (0 : Int) < 6; decide), sz9, fun p np => ?_⟩
      exact kq p _ _ _ (s5.new np) ⟨_, SqT.of upd_same, .s (.n (.n .nil))⟩ (.ho (by omega) (by omega) (by omega) (by omega))
    refine t_str rfl (fun e => iteT ?_) (fun e6 => iteF ?_)
    · subst e
      refine ⟨_, rfl, _, rfl, _, 1, 9, rfl, by decide, by decide, fun ds hd => ⟨sz9, fun p np => ?_⟩⟩
      exact kq p _ _ _ (s5.new np) ⟨_, SqT.of upd_same, .s (.s .nil)⟩ (.su hd)
    refine t_str rfl (fun e => iteT ?_) (fun e7 => iteF ?_)
    · subst e
      refine ⟨_, rfl, _, rfl, _, _, rfl, rfl, (by show (0 : Int) < 128; decide), sz9, fun p np => ?_⟩
      exact kq p _ _ _ (s5.new np) ⟨_, SqT.of upd_same, .s (.n .nil)⟩ (.di (by omega) (by omega))
    refine t_str rfl (fun e => iteT ?_) (fun e8 => iteF ?_)
    · subst e
      refine ⟨_, rfl, _, rfl, _, 40, rfl, by decide, by decide, fun q os H6 s6 hq hp => ⟨sz9, fun p np => ?_⟩⟩
      exact kq p _ _ _ ((s5.trans s6).new np) ⟨_, SqT.of upd_same, .s (.o ((Same.new0 np).seqT hq) .nil)⟩ (.wo hp)
    refine t_str rfl (fun e => iteT ?_) (fun e9 => iteF ?_)
    · subst e
      refine ⟨_, rfl, _, rfl, _, _, rfl, rfl, (by show (0 : Int) < 12; decide), _, rfl, _, _, rfl, rfl, ⟨by decide, by decide⟩, _, 1, 9, rfl, by decide, by decide, fun ds hd => ?_⟩
      refine ⟨_, rfl, _, _, rfl, rfl, ⟨by decide, by decide⟩, _, 150, rfl, by decide, by decide, fun q os H6 s6 hq hp => ⟨sz9, fun p np => ?_⟩⟩
      exact kq p _ _ _ ((s5.trans s6).new np) ⟨_, SqT.of upd_same, .s (.n (.s (.o ((Same.new0 np).seqT hq) .nil)))⟩ (.sb (by omega) (by omega) hd hp)
    refine t_str rfl (fun e => iteT ?_) (fun e10 => iteF ?_)
    · subst e
      refine ⟨_, rfl, _, rfl, _, 1, 9, rfl, by decide, by decide, fun ds hd => ?_⟩
      refine ⟨_, rfl, _, _, rfl, rfl, ⟨by decide, by decide⟩, _, 150, rfl, by decide, by decide, fun q os H6 s6 hq hp => ⟨sz9, fun p np => ?_⟩⟩
      exact kq p _ _ _ ((s5.trans s6).new np) ⟨_, SqT.of upd_same, .s (.s (.o ((Same.new0 np).seqT hq) .nil))⟩ (.de hd hp)
    refine ⟨_, rfl, sz9, fun p np => ?_⟩
    have hn : z ∉ kinds10 := by
      intro q
      simp only [kinds10, List.mem_cons, List.not_mem_nil, or_false] at q
      rcases q with q | q | q | q | q | q | q | q | q | q
      · exact e1 q
      · exact e2 q
      · exact e3 q
      · exact e4 q
      · exact e5 q
      · exact e6 q
      · exact e7 q
      · exact e8 q
      · exact e9 q
      · exact e10 q
    obtain ⟨os, ho⟩ := kinds_plain hzm hn
    exact kq p _ _ _ (s5.new np) ⟨_, SqT.of upd_same, .s .nil⟩ (.pl ho)
end
end Mq
namespace Mq
open PySem PySem.Spec PyProof.Rows L2
section
variable {P : Program} {w : World} {K : KF} {mg : Str → Option Value} {base : Heap} {C : Addr}
/-! ### _law_pairs -/
abbrev sLPairs : Stmt := topS 44
theorem scLPairs : FnScope ["_law_digits_here", "_law_row_here", "_law_k", "_law_second"] ["_law_digits_here"] (defScope sLPairs) := ⟨rfl, rfl, rfl, by decide +kernel, rfl, by decide +kernel, by decide +kernel⟩
theorem cal_lpairs (T : Txt K mg C) {f : Addr} {fd : FuncData} (D : Def K mg "_law_pairs" sLPairs ["_law_digits_here"] f fd) : Cal P w K mg base 1 "_law_pairs" ["_law_digits_here"] spLPairs := by
  refine D.cal scLPairs (fun vs H Q E h => ?_) (fun cdv A outer s H vs Q E hr h => ?_)
  · obtain ⟨ds, rfl, _⟩ := h
    rfl
  · obtain ⟨ds, rfl, hd, hl, kq⟩ := h
    refine ⟨_, pss_cons (ps_set (i := 1) scLPairs.nd rfl (Or.inl rfl) (pe_lst pa_nil))
      (pss_cons (ps_for (passes_of rfl) rfl (pi_range3 (by rfl) T.range (pa_cons pe_int (pa_cons (pe_callB call_lenD2 (by rfl) T.len PySem.boot_len (pa_cons (pv 0) pa_nil)) (pa_cons pe_int pa_nil)))) (pg_name (i := 2) scLPairs.nd rfl (Or.inl rfl))
        (pss_cons (ps_set (i := 3) scLPairs.nd rfl (Or.inl rfl) pe_int)
        (pss_cons (ps_if (pt_cmpR op_lt (pe_op op_add (pv 2) pe_int) (pe_callB call_lenD2 (by rfl) T.len PySem.boot_len (pa_cons (pv 0) pa_nil)) (nomark _))
            (pss_one (ps_set (i := 3) scLPairs.nd rfl (Or.inl rfl) (pe_callTy call_intD (by rfl) T.int (by decide +kernel) (pa_cons (pe_ix ix_zD (pv 0) (pe_op op_add (pv 2) pe_int) (fun _ _ => rfl)) pa_nil)))) pss_nil)
        (pss_one (ps_expr (pe_bm PySem.F.plainAttrs_list PySem.F.slot_list_append PySem.F.type_list_append mt_append (pv 1)
          (pa_cons (pe_op op_add (pe_callTy call_intD (by rfl) T.int (by decide +kernel) (pa_cons (pe_ix ix_zD (pv 0) (pv 2) (fun _ _ => rfl)) pa_nil)) (pe_op op_mul pe_int (pv 3))) pa_nil)))))))
      (pss_one (ps_ret (pv 1)))), ?_⟩
    refine ⟨Nat.zero_le _, fun l nl => ?_⟩
    refine ⟨_, rfl, lenD (by omega) ⟨0, _, 2, (ds.length + 1) / 2, rfl, rgc2 hl,
      for_rangeC (fun i σ H' => ∃ v2 v3, σ = [some (.str (dstr ds)), some (.ref l), v2, v3] ∧ Same H H' ∧ LsI H' l (prs (ds.take (2 * i))))
        ⟨none, none, rfl, Same.new0 nl, upd_same⟩ ?_ ?_⟩⟩
    · rintro i σ H1 hi ⟨v2, v3, rfl, s1, hrow⟩
      have e0 : (0 : Int) + (i : Int) * 2 = ((2 * i : Nat) : Int) := by omega
      rw [e0]
      obtain ⟨d, hd1⟩ : ∃ d, ds[2 * i]? = some d := ⟨ds[2 * i]'(by omega), List.getElem?_eq_getElem (by omega)⟩
      have d9 := hd.get hd1
      have hrl : ((prs (ds.take (2 * i))).map V.int).length < sizeLine := size_lt (by rw [List.length_map, prs_len, List.length_take]; omega)
      refine ⟨_, rfl, _, _, rfl, rfl, _, rfl, lenD (by omega) ⟨_, _, rfl, rfl, _, rfl, ?_⟩⟩
      refine ite2 (fun c => ?_) (fun c => ?_)
      · have c1 := lt_of_t c
        obtain ⟨e, he1⟩ : ∃ e, ds[2 * i + 1]? = some e := ⟨ds[2 * i + 1]'(by omega), List.getElem?_eq_getElem (by omega)⟩
        have e9 := hd.get he1
        refine ⟨_, rfl, _, rfl, _, _, rfl, rfl, ixD hl he1 (by omega) (intD e9 ?_)⟩
        refine ⟨_, rfl, Or.inl ⟨rfl, _, SqL.of hrow⟩, _, rfl, _, rfl, ixD hl hd1 rfl (intD d9 ⟨_, rfl, _, _, rfl, rfl, Or.inl ⟨by decide, by decide⟩, _, _, rfl, rfl, l, _, _, rfl, rfl, hrow, hrl, ?_⟩)⟩
        refine ⟨_, _, rfl, s1.mut nl, ?_⟩
        unfold LsI
        rw [upd_same, prs_drop2 hd1 he1, List.map_append]
        rfl
      · have c1 := lt_of_f c
        have he1 : ds[2 * i + 1]? = none := List.getElem?_eq_none_iff.mpr (by omega)
        refine ⟨_, rfl, Or.inl ⟨rfl, _, SqL.of hrow⟩, _, rfl, _, rfl, ixD hl hd1 rfl (intD d9 ⟨_, rfl, _, _, rfl, rfl, Or.inl ⟨by decide, by decide⟩, _, _, rfl, rfl, l, _, _, rfl, rfl, hrow, hrl, ?_⟩)⟩
        refine ⟨_, _, rfl, s1.mut nl, ?_⟩
        unfold LsI
        rw [upd_same, prs_drop1 hd1 he1, List.map_append]
        rfl
    · rintro σ H1 ⟨v2, v3, rfl, s1, hrow⟩
      rw [List.take_of_length_le (by omega)] at hrow
      exact ⟨_, rfl, kq l _ s1 hrow⟩
/-! ### _law_subscriber -/
abbrev sLSub : Stmt := topS 45
theorem scLSub : FnScope ["_law_digits_here", "_law_first"] ["_law_digits_here"] (defScope sLSub) := ⟨rfl, rfl, rfl, by decide +kernel, rfl, by decide +kernel, by decide +kernel⟩
theorem cal_lsub (T : Txt K mg C) (cp : Cal P w K mg base 1 "_law_pairs" ["_law_digits_here"] spLPairs) {f : Addr} {fd : FuncData} (D : Def K mg "_law_subscriber" sLSub ["_law_digits_here"] f fd) : Cal P w K mg base 2 "_law_subscriber" ["_law_digits_here"] spLSub := by
  refine D.cal scLSub (fun vs H Q E h => ?_) (fun cdv A outer s H vs Q E hr h => ?_)
  · obtain ⟨ds, rfl, _⟩ := h
    rfl
  · obtain ⟨ds, rfl, hd, hl1, hl, kq⟩ := h
    refine ⟨_, pss_cons (ps_set (i := 1) scLSub.nd rfl (Or.inl rfl) (pe_op op_add (pe_op op_mul pe_int (pe_callTy call_intD (by rfl) T.int (by decide +kernel) (pa_cons (pe_ix ix_zD (pv 0) pe_int (fun _ _ => rfl)) pa_nil))) pe_int))
      (pss_cons (ps_if (pt_cmpR op_eq (pe_op op_mod (pe_callB call_lenD2 (by rfl) T.len PySem.boot_len (pa_cons (pv 0) pa_nil)) pe_int) pe_int (nomark _)) (pss_one (ps_set (i := 1) scLSub.nd rfl (Or.inl rfl) (pe_op op_add (pv 1) pe_int))) pss_nil)
      (pss_one (ps_ret (pe_op op_cat (pe_lst (pa_cons (pv 1) pa_nil)) (pe_cal cp hr rfl (pa_cons (pe_slice sl_zD (pv 0) (po_some pe_int) po_none) pa_nil)))))), ?_⟩
    cases ds with
    | nil => simp at hl1
    | cons d r =>
      have d9 := hd.head
      have hr' : r.length ≤ 1000 := by simp at hl; omega
      have hz : 1 + ((prs r).map V.int).length ≤ sizeLine := size_of (by rw [List.length_map, prs_len]; omega)
      refine ⟨_, rfl, ixD (j := 0) hl rfl rfl (intD d9 ⟨_, _, rfl, rfl, Or.inl ⟨by decide, by decide⟩, _, _, rfl, rfl, ?_⟩)⟩
      have k2 : ∀ z, z = sb1 (r.length + 1) d → ∀ p H', Same H H' → H' p = some (.lst ([V.int z] ++ (prs r).map V.int)) → Q (.ref p) H' := fun z e p H' s' h' => by
        refine kq p H' s' ?_
        rw [e] at h'
        exact h'
      refine ⟨_, rfl, lenD (by omega) ⟨_, _, rfl, rfl, (by show (0 : Int) < 2; decide), rfl, _, rfl, ?_⟩⟩
      refine ite2 (fun c1 => ?_) (fun c1 => ?_)
      · have e1 := eq_of_t c1
        refine ⟨_, rfl, _, _, rfl, rfl, _, rfl, sz9, fun p np => ⟨_, rfl, _, rfl, slD hl ⟨r, rfl, hd.tail, hr', fun t H2 s2 ht => ?_⟩⟩⟩
        refine ⟨p, t, _, _, rfl, rfl, s2 _ _ upd_same, ht, hz, fun p2 np2 => k2 _ ?_ p2 _ (((Same.new0 np).trans s2).new np2) upd_same⟩
        unfold sb1
        rw [if_pos (by simp at e1; omega)]
      · have e1 := ne_of_f c1
        refine ⟨_, rfl, sz9, fun p np => ⟨_, rfl, _, rfl, slD hl ⟨r, rfl, hd.tail, hr', fun t H2 s2 ht => ?_⟩⟩⟩
        refine ⟨p, t, _, _, rfl, rfl, s2 _ _ upd_same, ht, hz, fun p2 np2 => k2 _ ?_ p2 _ (((Same.new0 np).trans s2).new np2) upd_same⟩
        unfold sb1
        rw [if_neg (by simp at e1; omega)]
/-! ### _law_number -/
abbrev sLNum : Stmt := topS 46
theorem scLNum : FnScope ["_law_digits_here"] ["_law_digits_here"] (defScope sLNum) := ⟨rfl, rfl, rfl, by decide +kernel, rfl, by decide +kernel, by decide +kernel⟩
theorem cal_lnum (T : Txt K mg C) (cp : Cal P w K mg base 1 "_law_pairs" ["_law_digits_here"] spLPairs) {f : Addr} {fd : FuncData} (D : Def K mg "_law_number" sLNum ["_law_digits_here"] f fd) : Cal P w K mg base 2 "_law_number" ["_law_digits_here"] spLNum := by
  refine D.cal scLNum (fun vs H Q E h => ?_) (fun cdv A outer s H vs Q E hr h => ?_)
  · obtain ⟨ds, rfl, _⟩ := h
    rfl
  · obtain ⟨ds, rfl, hd, hl, kq⟩ := h
    refine ⟨_, pss_one (ps_ret (pe_op op_cat (pe_lst (pa_cons pe_int pa_nil)) (pe_cal cp hr rfl (pa_cons (pv 0) pa_nil)))), ?_⟩
    refine ⟨sz9, fun p np => ⟨_, rfl, ds, rfl, hd, hl, fun t H2 s2 ht => ?_⟩⟩
    exact ⟨p, t, _, _, rfl, rfl, s2 _ _ upd_same, ht, size_of (by rw [List.length_map, prs_len]; simp; omega), fun p2 np2 => kq p2 _ (((Same.new0 np).trans s2).new np2) upd_same⟩
end
end Mq
namespace Mq
open PySem PySem.Spec PyProof.Rows L2
theorem t_no {H : Hp} {σ : L2.St} {i : Nat} {z k : Str} {Q : Bool → Hp → Prop} (hσ : σ[i]? = some (some (.str z))) (hz : z ≠ k) (q : Q false H) : tTest (tOp rEq (tVar i) (tC (.str k))) σ H Q := t_str hσ (fun e => absurd e hz) (fun _ => q)
theorem t_yes {H : Hp} {σ : L2.St} {i : Nat} {k : Str} {Q : Bool → Hp → Prop} (hσ : σ[i]? = some (some (.str k))) (q : Q true H) : tTest (tOp rEq (tVar i) (tC (.str k))) σ H Q := t_str hσ (fun _ => q) (fun e => absurd rfl e)
/-! ### the dict of the plain messages, as it grows -/
def TB (Hk : Hp) (kvs : List (Key × V)) (tab : List (Str × List Int)) : Prop := kvs.length ≤ tab.length ∧ ∀ z os, (z, os) ∈ tab → ∃ l, valV kvs (Sum.inr z : Key) = some (.ref l) ∧ LsI Hk l os
theorem TB.nil {Hk : Hp} : TB Hk [] [] := ⟨Nat.le_refl _, fun _ _ h => nomatch h⟩
theorem TB.put {Hk : Hp} {kvs : List (Key × V)} {tab : List (Str × List Int)} {z : Str} {l : Addr} {os : List Int} (t : TB Hk kvs tab) (hl : LsI Hk l os) (hz : ∀ p ∈ tab, p.1 ≠ z) : TB Hk (putK kvs (Sum.inr z : Key) (.ref l)) (tab ++ [(z, os)]) := by
  refine ⟨?_, fun y ps hy => ?_⟩
  · have := length_putK kvs (Sum.inr z : Key) (.ref l)
    have := t.1
    rw [List.length_append]
    show _ ≤ tab.length + 1
    omega
  · rw [valV_put]
    rcases List.mem_append.mp hy with h | h
    · rw [if_neg fun e => hz _ h (Sum.inr.inj e)]
      exact t.2 y ps h
    · obtain ⟨rfl, rfl⟩ := Prod.mk.inj (List.mem_singleton.mp h)
      exact ⟨l, if_pos rfl, hl⟩
theorem TB.mono {Hk H' : Hp} {kvs : List (Key × V)} {tab : List (Str × List Int)} (t : TB Hk kvs tab) (h : ∀ l os, LsI Hk l os → LsI H' l os) : TB H' kvs tab := ⟨t.1, fun z os hz => let ⟨l, a, b⟩ := t.2 z os hz; ⟨l, a, h l os b⟩⟩
structure PD (H0 Hk : Hp) (d : Addr) (tab : List (Str × List Int)) : Prop where
  ex : ∃ kvs, Hk d = some (.dK kvs) ∧ TB Hk kvs tab
  s : Same H0 Hk
  nd : H0 d = none
theorem PD.step {H0 Hk : Hp} {d l : Addr} {tab : List (Str × List Int)} {z : Str} {os : List Int} (p : PD H0 Hk d tab) (nl : Hk l = none) (hz : ∀ p ∈ tab, p.1 ≠ z) :
    ∃ kvs, (upd Hk l (.lst (os.map V.int))) d = some (.dK kvs) ∧ kvs.length ≤ tab.length ∧ PD H0 (upd (upd Hk l (.lst (os.map V.int))) d (.dK (putK kvs (Sum.inr z : Key) (.ref l)))) d (tab ++ [(z, os)]) := by
  obtain ⟨kvs, hd, t⟩ := p.ex
  have s1 : Same Hk (upd Hk l (.lst (os.map V.int))) := Same.new0 nl
  have hd1 := s1 d _ hd
  refine ⟨kvs, hd1, t.1, ⟨_, upd_same, ?_⟩, (p.s.trans s1).mut p.nd, p.nd⟩
  refine TB.mono (Hk := upd Hk l (.lst (os.map V.int))) ((t.mono fun l' os' h => s1 _ _ h).put upd_same hz) fun l' os' h => ?_
  unfold LsI
  rw [upd_ne (ne_of h hd1 (by intro e; cases e))]
  exact h
section
variable {P : Program} {w : World} {K : KF} {mg : Str → Option Value} {base : Heap} {C : Addr}
/-! ### _law_written -/
abbrev sLWr : Stmt := topS 47
theorem scLWr : FnScope ["_law_message_here", "_law_kind", "_law_number_here", "_law_plain"] ["_law_message_here"] (defScope sLWr) := ⟨rfl, rfl, rfl, by decide +kernel, rfl, by decide +kernel, by decide +kernel⟩
theorem cal_lwr (T : Txt K mg C) (cs : Cal P w K mg base 2 "_law_subscriber" ["_law_digits_here"] spLSub) (cn : Cal P w K mg base 2 "_law_number" ["_law_digits_here"] spLNum) {f : Addr} {fd : FuncData} (D : Def K mg "_law_written" sLWr ["_law_message_here"] f fd) :
    Cal P w K mg base 3 "_law_written" ["_law_message_here"] (spLWr K) := by
  refine D.cal scLWr (fun vs H Q E h => ?_) (fun cdv A outer s H vs Q E hr h => ?_)
  · obtain ⟨p, m, os, rfl, _⟩ := h
    rfl
  · obtain ⟨p, m, os, rfl, hm, hg, kq⟩ := h
    have hu := hu_of hr
    refine ⟨_, pss_cons (ps_set (i := 1) scLWr.nd rfl (Or.inl rfl) (pe_ix ix_tup (pv 0) pe_int (fun _ _ => rfl)))
      (pss_cons (ps_if (pt_cmpR op_eq (pv 1) pe_str (nomark _)) (pss_one (ps_ret (pe_op op_cat (pe_lst (pa_cons pe_int (pa_cons pe_int (pa_cons pe_int (pa_cons pe_int (pa_cons pe_int (pa_cons pe_int (pa_cons (pe_ix ix_tup (pv 0) pe_int (fun _ _ => rfl)) pa_nil)))))))) (pe_cal cs hr rfl (pa_cons (pe_ix ix_tup (pv 0) pe_int (fun _ _ => rfl)) pa_nil))))) pss_nil)
      (pss_cons (ps_if (pt_cmpR op_eq (pv 1) pe_str (nomark _)) (pss_one (ps_ret (pe_lst (pa_cons pe_int (pa_cons pe_int (pa_cons pe_int (pa_cons pe_int (pa_cons pe_int (pa_cons pe_int (pa_cons (pe_ix ix_tup (pv 0) pe_int (fun _ _ => rfl)) pa_nil)))))))))) pss_nil)
      (pss_cons (ps_if (pt_cmpR op_eq (pv 1) pe_str (nomark _)) (pss_one (ps_ret (pe_op op_cat (pe_lst (pa_cons pe_int (pa_cons pe_int (pa_cons (pe_dget hu (pe_disp (pps_cons pe_str pe_int (pps_cons pe_str pe_int pps_nil)) (by rfl) (by rfl) (fun z => by cases z) (by decide)) (pe_ix ix_tup (pv 0) pe_int (fun _ _ => rfl)) (fun _ _ => rfl)) pa_nil)))) (pe_cal cs hr rfl (pa_cons (pe_ix ix_tup (pv 0) pe_int (fun _ _ => rfl)) pa_nil))))) pss_nil)
      (pss_cons (ps_if (pt_cmpR op_eq (pv 1) pe_str (nomark _)) (pss_one (ps_ret (pe_op op_cat (pe_lst (pa_cons pe_int (pa_cons pe_int pa_nil))) (pe_cal cs hr rfl (pa_cons (pe_ix ix_tup (pv 0) pe_int (fun _ _ => rfl)) pa_nil))))) pss_nil)
      (pss_cons (ps_if (pt_cmpR op_eq (pv 1) pe_str (nomark _)) (pss_one (ps_ret (pe_lst (pa_cons pe_int (pa_cons pe_int (pa_cons (pe_ix ix_tup (pv 0) pe_int (fun _ _ => rfl)) (pa_cons (pe_ix ix_tup (pv 0) pe_int (fun _ _ => rfl)) pa_nil))))))) pss_nil)
      (pss_cons (ps_if (pt_cmpR op_eq (pv 1) pe_str (nomark _)) (pss_one (ps_ret (pe_op op_cat (pe_lst (pa_cons pe_int (pa_cons pe_int pa_nil))) (pe_cal cn hr rfl (pa_cons (pe_ix ix_tup (pv 0) pe_int (fun _ _ => rfl)) pa_nil))))) pss_nil)
      (pss_cons (ps_if (pt_cmpR op_eq (pv 1) pe_str (nomark _)) (pss_one (ps_ret (pe_lst (pa_cons pe_int (pa_cons pe_int (pa_cons (pe_ix ix_tup (pv 0) pe_int (fun _ _ => rfl)) pa_nil)))))) pss_nil)
      (pss_cons (ps_if (pt_cmpR op_eq (pv 1) pe_str (nomark _)) (pss_one (ps_ret (pe_op op_cat (pe_lst (pa_cons pe_int (pa_cons pe_int pa_nil))) (pe_callTy call_list_of (by rfl) T.list (by decide +kernel) (pa_cons (pe_ix ix_tup (pv 0) pe_int (fun _ _ => rfl)) pa_nil))))) pss_nil)
      (pss_cons (ps_if (pt_cmpR op_eq (pv 1) pe_str (nomark _)) (pss_cons (ps_set (i := 2) scLWr.nd rfl (Or.inl rfl) (pe_cal cn hr rfl (pa_cons (pe_ix ix_tup (pv 0) pe_int (fun _ _ => rfl)) pa_nil))) (pss_one (ps_ret (pe_op op_cat (pe_op op_cat (pe_lst (pa_cons pe_int (pa_cons pe_int (pa_cons (pe_ix ix_tup (pv 0) pe_int (fun _ _ => rfl)) (pa_cons (pe_callB call_lenT (by rfl) T.len PySem.boot_len (pa_cons (pv 2) pa_nil)) pa_nil))))) (pv 2)) (pe_callTy call_list_of (by rfl) T.list (by decide +kernel) (pa_cons (pe_ix ix_tup (pv 0) pe_int (fun _ _ => rfl)) pa_nil)))))) pss_nil)
      (pss_cons (ps_if (pt_cmpR op_eq (pv 1) pe_str (nomark _)) (pss_cons (ps_set (i := 2) scLWr.nd rfl (Or.inl rfl) (pe_cal cn hr rfl (pa_cons (pe_ix ix_tup (pv 0) pe_int (fun _ _ => rfl)) pa_nil))) (pss_one (ps_ret (pe_op op_cat (pe_op op_cat (pe_lst (pa_cons pe_int (pa_cons pe_int (pa_cons (pe_callB call_lenT (by rfl) T.len PySem.boot_len (pa_cons (pv 2) pa_nil)) pa_nil)))) (pv 2)) (pe_callTy call_list_of (by rfl) T.list (by decide +kernel) (pa_cons (pe_ix ix_tup (pv 0) pe_int (fun _ _ => rfl)) pa_nil)))))) pss_nil)
      (pss_cons (ps_set (i := 3) scLWr.nd rfl (Or.inl rfl) (pe_disp (pps_cons pe_str (pe_lst (pa_cons pe_int (pa_cons pe_int pa_nil))) (pps_cons pe_str (pe_lst (pa_cons pe_int (pa_cons pe_int pa_nil))) (pps_cons pe_str (pe_lst (pa_cons pe_int (pa_cons pe_int pa_nil))) (pps_cons pe_str (pe_lst (pa_cons pe_int (pa_cons pe_int pa_nil))) pps_nil)))) (by rfl) (by rfl) (fun z => by cases z) (by decide)))
      (pss_cons (ps_dput hu (pv 3) pe_str (pe_lst (pa_cons pe_int (pa_cons pe_int pa_nil))) rfl)
      (pss_cons (ps_dput hu (pv 3) pe_str (pe_lst (pa_cons pe_int (pa_cons pe_int pa_nil))) rfl)
      (pss_cons (ps_dput hu (pv 3) pe_str (pe_lst (pa_cons pe_int (pa_cons pe_int pa_nil))) rfl)
      (pss_cons (ps_dput hu (pv 3) pe_str (pe_lst (pa_cons pe_int (pa_cons pe_int pa_nil))) rfl)
      (pss_cons (ps_dput hu (pv 3) pe_str (pe_lst (pa_cons pe_int (pa_cons pe_int pa_nil))) rfl)
      (pss_cons (ps_dput hu (pv 3) pe_str (pe_lst (pa_cons pe_int (pa_cons pe_int pa_nil))) rfl)
      (pss_one (ps_ret (pe_dget hu (pv 3) (pv 1) (fun _ _ => rfl))))))))))))))))))))), ?_⟩
    obtain ⟨vs, hp, hv⟩ := hm
    cases hg with
    | @au a ds h0 h4 hd =>
      cases hv with | s r => cases r with | n r => cases r with | s r => cases r with | nil =>
      have l1 := hd.lo
      have l2 := hd.hi
      have l3 := sbo_len (ds := ds) (by omega)
      refine ⟨_, rfl, p, _, 0, _, rfl, rfl, hp, at_of (j := 0) rfl rfl, ?_⟩
      refine t_yes rfl (iteT ?_)
      refine ⟨_, rfl, p, _, 1, _, rfl, rfl, hp, at_of (j := 1) rfl rfl, sz9, fun l nl => ?_⟩
      refine ⟨_, rfl, p, _, 2, _, rfl, rfl, ((Same.new0 nl).seqT hp), at_of (j := 2) rfl rfl, ds, rfl, hd.dg, by omega, by omega, fun t H2 s2 ht => ⟨l, t, _, _, rfl, rfl, s2 _ _ upd_same, ht, size_of (by rw [List.length_map, l3]; show 7 + _ ≤ 100000; omega), fun p2 np2 => ?_⟩⟩
      exact kq p2 _ (((Same.new0 nl).trans s2).new np2) upd_same
    | @aa a h0 h4 =>
      cases hv with | s r => cases r with | n r => cases r with | nil =>
      refine ⟨_, rfl, p, _, 0, _, rfl, rfl, hp, at_of (j := 0) rfl rfl, ?_⟩
      refine t_no rfl (by decide +kernel) (iteF ?_)
      refine t_yes rfl (iteT ?_)
      exact ⟨_, rfl, p, _, 1, _, rfl, rfl, hp, at_of (j := 1) rfl rfl, sz9, fun p2 np2 => kq p2 _ (Same.new0 np2) upd_same⟩
    | @sc ds hd =>
      cases hv with | s r => cases r with | s r => cases r with | s r => cases r with | nil =>
      have l1 := hd.lo
      have l2 := hd.hi
      have l3 := sbo_len (ds := ds) (by omega)
      refine ⟨_, rfl, p, _, 0, _, rfl, rfl, hp, at_of (j := 0) rfl rfl, ?_⟩
      refine t_no rfl (by decide +kernel) (iteF ?_)
      refine t_no rfl (by decide +kernel) (iteF ?_)
      refine t_yes rfl (iteT ?_)
      refine (fun d nd => ⟨upd_same, [(Sum.inr "call", .int 1), (Sum.inr "texts", .int 4)], rfl, by decide, ?_⟩)
      have sd : Same H (upd (upd H d (.dK [])) d (.dK (mergeK [] [(Sum.inr "call", .int 1), (Sum.inr "texts", .int 4)]))) := (Same.new0 nd).mut nd
      have ev : valV (mergeK [] [(Sum.inr "call", .int 1), (Sum.inr "texts", .int 4)]) (Sum.inr "call" : Key) = some (V.int 1) := by decide +kernel
      have dg := DGet.k (k := Sum.inr "call") (upd_same (H := upd H d (.dK [])) (a := d) (o := .dK (mergeK [] [(Sum.inr "call", .int 1), (Sum.inr "texts", .int 4)])))
      rw [ev] at dg
      refine ⟨_, rfl, p, _, 1, _, rfl, rfl, (sd.seqT hp), at_of (j := 1) rfl rfl, d, _, rfl, dg, sz9, fun l nl => ?_⟩
      refine ⟨_, rfl, p, _, 2, _, rfl, rfl, ((sd.new nl).seqT hp), at_of (j := 2) rfl rfl, ds, rfl, hd.dg, by omega, by omega, fun t H2 s2 ht => ⟨l, t, _, _, rfl, rfl, s2 _ _ upd_same, ht, size_of (by rw [List.length_map, l3]; show 3 + _ ≤ 100000; omega), fun p2 np2 => ?_⟩⟩
      exact kq p2 _ (((sd.new nl).trans s2).new np2) upd_same
    | @st ds hd =>
      cases hv with | s r => cases r with | s r => cases r with | s r => cases r with | nil =>
      have l1 := hd.lo
      have l2 := hd.hi
      have l3 := sbo_len (ds := ds) (by omega)
      refine ⟨_, rfl, p, _, 0, _, rfl, rfl, hp, at_of (j := 0) rfl rfl, ?_⟩
      refine t_no rfl (by decide +kernel) (iteF ?_)
      refine t_no rfl (by decide +kernel) (iteF ?_)
      refine t_yes rfl (iteT ?_)
      refine (fun d nd => ⟨upd_same, [(Sum.inr "call", .int 1), (Sum.inr "texts", .int 4)], rfl, by decide, ?_⟩)
      have sd : Same H (upd (upd H d (.dK [])) d (.dK (mergeK [] [(Sum.inr "call", .int 1), (Sum.inr "texts", .int 4)]))) := (Same.new0 nd).mut nd
      have ev : valV (mergeK [] [(Sum.inr "call", .int 1), (Sum.inr "texts", .int 4)]) (Sum.inr "texts" : Key) = some (V.int 4) := by decide +kernel
      have dg := DGet.k (k := Sum.inr "texts") (upd_same (H := upd H d (.dK [])) (a := d) (o := .dK (mergeK [] [(Sum.inr "call", .int 1), (Sum.inr "texts", .int 4)])))
      rw [ev] at dg
      refine ⟨_, rfl, p, _, 1, _, rfl, rfl, (sd.seqT hp), at_of (j := 1) rfl rfl, d, _, rfl, dg, sz9, fun l nl => ?_⟩
      refine ⟨_, rfl, p, _, 2, _, rfl, rfl, ((sd.new nl).seqT hp), at_of (j := 2) rfl rfl, ds, rfl, hd.dg, by omega, by omega, fun t H2 s2 ht => ⟨l, t, _, _, rfl, rfl, s2 _ _ upd_same, ht, size_of (by rw [List.length_map, l3]; show 3 + _ ≤ 100000; omega), fun p2 np2 => ?_⟩⟩
      exact kq p2 _ (((sd.new nl).trans s2).new np2) upd_same
    | @pa ds hd =>
      cases hv with | s r => cases r with | s r => cases r with | nil =>
      have l1 := hd.lo
      have l2 := hd.hi
      have l3 := sbo_len (ds := ds) (by omega)
      refine ⟨_, rfl, p, _, 0, _, rfl, rfl, hp, at_of (j := 0) rfl rfl, ?_⟩
      refine t_no rfl (by decide +kernel) (iteF ?_)
      refine t_no rfl (by decide +kernel) (iteF ?_)
      refine t_no rfl (by decide +kernel) (iteF ?_)
      refine t_yes rfl (iteT ?_)
      refine ⟨sz9, fun l nl => ?_⟩
      refine ⟨_, rfl, p, _, 1, _, rfl, rfl, ((Same.new0 nl).seqT hp), at_of (j := 1) rfl rfl, ds, rfl, hd.dg, by omega, by omega, fun t H2 s2 ht => ⟨l, t, _, _, rfl, rfl, s2 _ _ upd_same, ht, size_of (by rw [List.length_map, l3]; show 2 + _ ≤ 100000; omega), fun p2 np2 => ?_⟩⟩
      exact kq p2 _ (((Same.new0 nl).trans s2).new np2) upd_same
    | @ho a b h0 h4 g0 g6 =>
      cases hv with | s r => cases r with | n r => cases r with | n r => cases r with | nil =>
      refine ⟨_, rfl, p, _, 0, _, rfl, rfl, hp, at_of (j := 0) rfl rfl, ?_⟩
      refine t_no rfl (by decide +kernel) (iteF ?_)
      refine t_no rfl (by decide +kernel) (iteF ?_)
      refine t_no rfl (by decide +kernel) (iteF ?_)
      refine t_no rfl (by decide +kernel) (iteF ?_)
      refine t_yes rfl (iteT ?_)
      exact ⟨_, rfl, p, _, 1, _, rfl, rfl, hp, at_of (j := 1) rfl rfl, _, rfl, p, _, 2, _, rfl, rfl, hp, at_of (j := 2) rfl rfl, sz9, fun p2 np2 => kq p2 _ (Same.new0 np2) upd_same⟩
    | @su ds hd =>
      cases hv with | s r => cases r with | s r => cases r with | nil =>
      have l1 := hd.lo
      have l2 := hd.hi
      have l3 := num_len ds
      refine ⟨_, rfl, p, _, 0, _, rfl, rfl, hp, at_of (j := 0) rfl rfl, ?_⟩
      refine t_no rfl (by decide +kernel) (iteF ?_)
      refine t_no rfl (by decide +kernel) (iteF ?_)
      refine t_no rfl (by decide +kernel) (iteF ?_)
      refine t_no rfl (by decide +kernel) (iteF ?_)
      refine t_no rfl (by decide +kernel) (iteF ?_)
      refine t_yes rfl (iteT ?_)
      refine ⟨sz9, fun l nl => ?_⟩
      refine ⟨_, rfl, p, _, 1, _, rfl, rfl, ((Same.new0 nl).seqT hp), at_of (j := 1) rfl rfl, ds, rfl, hd.dg, by omega, fun t H2 s2 ht => ⟨l, t, _, _, rfl, rfl, s2 _ _ upd_same, ht, size_of (by rw [List.length_map, l3]; show 2 + _ ≤ 100000; omega), fun p2 np2 => ?_⟩⟩
      exact kq p2 _ (((Same.new0 nl).trans s2).new np2) upd_same
    | @di c h0 h =>
      cases hv with | s r => cases r with | n r => cases r with | nil =>
      refine ⟨_, rfl, p, _, 0, _, rfl, rfl, hp, at_of (j := 0) rfl rfl, ?_⟩
      refine t_no rfl (by decide +kernel) (iteF ?_)
      refine t_no rfl (by decide +kernel) (iteF ?_)
      refine t_no rfl (by decide +kernel) (iteF ?_)
      refine t_no rfl (by decide +kernel) (iteF ?_)
      refine t_no rfl (by decide +kernel) (iteF ?_)
      refine t_no rfl (by decide +kernel) (iteF ?_)
      refine t_yes rfl (iteT ?_)
      exact ⟨_, rfl, p, _, 1, _, rfl, rfl, hp, at_of (j := 1) rfl rfl, sz9, fun p2 np2 => kq p2 _ (Same.new0 np2) upd_same⟩
    | @wo pt h =>
      cases hv with | s r => cases r with | @o q _ _ _ hq r => cases r with | nil =>
      have l2 := h.hi
      refine ⟨_, rfl, p, _, 0, _, rfl, rfl, hp, at_of (j := 0) rfl rfl, ?_⟩
      refine t_no rfl (by decide +kernel) (iteF ?_)
      refine t_no rfl (by decide +kernel) (iteF ?_)
      refine t_no rfl (by decide +kernel) (iteF ?_)
      refine t_no rfl (by decide +kernel) (iteF ?_)
      refine t_no rfl (by decide +kernel) (iteF ?_)
      refine t_no rfl (by decide +kernel) (iteF ?_)
      refine t_no rfl (by decide +kernel) (iteF ?_)
      refine t_yes rfl (iteT ?_)
      refine ⟨sz9, fun l nl => ?_⟩
      refine ⟨_, rfl, p, _, 1, _, rfl, rfl, ((Same.new0 nl).seqT hp), at_of (j := 1) rfl rfl, q, _, rfl, Or.inr ((Same.new0 nl).seqT hq), fun t nt => ⟨l, t, _, _, rfl, rfl, look2 nt, upd_same, size_of (by rw [List.length_map]; show 2 + _ ≤ 100000; omega), fun p2 np2 => ?_⟩⟩
      exact kq p2 _ (((Same.new0 nl).new nt).new np2) upd_same
    | @sb l0 ds pt h0 h hd hpt =>
      cases hv with | s r => cases r with | n r => cases r with | s r => cases r with | @o q _ _ _ hq r => cases r with | nil =>
      have l1 := hd.lo
      have l2 := hd.hi
      have l3 := num_len ds
      have l4 := hpt.hi
      refine ⟨_, rfl, p, _, 0, _, rfl, rfl, hp, at_of (j := 0) rfl rfl, ?_⟩
      refine t_no rfl (by decide +kernel) (iteF ?_)
      refine t_no rfl (by decide +kernel) (iteF ?_)
      refine t_no rfl (by decide +kernel) (iteF ?_)
      refine t_no rfl (by decide +kernel) (iteF ?_)
      refine t_no rfl (by decide +kernel) (iteF ?_)
      refine t_no rfl (by decide +kernel) (iteF ?_)
      refine t_no rfl (by decide +kernel) (iteF ?_)
      refine t_no rfl (by decide +kernel) (iteF ?_)
      refine t_yes rfl (iteT ?_)
      refine ⟨_, rfl, p, _, 2, _, rfl, rfl, hp, at_of (j := 2) rfl rfl, ds, rfl, hd.dg, by omega, fun t H2 s2 ht => ?_⟩
      refine ⟨_, rfl, p, _, 1, _, rfl, rfl, (s2.seqT hp), at_of (j := 1) rfl rfl, _, rfl, lenL (SqL.of ht) ⟨sz9, fun l nl => ?_⟩⟩
      rw [List.length_map]
      refine ⟨_, rfl, l, t, _, _, rfl, rfl, upd_same, ((Same.new0 nl) t _ ht), size_of (by rw [List.length_map]; show 4 + _ ≤ 100000; omega), fun c nc => ?_⟩
      refine ⟨_, rfl, p, _, 3, _, rfl, rfl, (((s2.new nl).new nc).seqT hp), at_of (j := 3) rfl rfl, q, _, rfl, Or.inr (((s2.new nl).new nc).seqT hq), fun e ne => ⟨c, e, _, _, rfl, rfl, look2 ne, upd_same, size_of (by simp; omega), fun p2 np2 => ?_⟩⟩
      refine kq p2 _ ((((s2.new nl).new nc).new ne).new np2) ?_
      unfold LsI
      rw [upd_same]
      show some (HO.lst ((V.int 9 :: V.int 1 :: V.int l0 :: V.int ((num ds).length : Int) :: (num ds).map V.int) ++ pt.map V.int)) = some (HO.lst (V.int 9 :: V.int 1 :: V.int l0 :: V.int ((num ds).length : Int) :: (num ds ++ pt).map V.int))
      rw [List.map_append]
      rfl
    | @de ds pt hd hpt =>
      cases hv with | s r => cases r with | s r => cases r with | @o q _ _ _ hq r => cases r with | nil =>
      have l1 := hd.lo
      have l2 := hd.hi
      have l3 := num_len ds
      have l4 := hpt.hi
      refine ⟨_, rfl, p, _, 0, _, rfl, rfl, hp, at_of (j := 0) rfl rfl, ?_⟩
      refine t_no rfl (by decide +kernel) (iteF ?_)
      refine t_no rfl (by decide +kernel) (iteF ?_)
      refine t_no rfl (by decide +kernel) (iteF ?_)
      refine t_no rfl (by decide +kernel) (iteF ?_)
      refine t_no rfl (by decide +kernel) (iteF ?_)
      refine t_no rfl (by decide +kernel) (iteF ?_)
      refine t_no rfl (by decide +kernel) (iteF ?_)
      refine t_no rfl (by decide +kernel) (iteF ?_)
      refine t_no rfl (by decide +kernel) (iteF ?_)
      refine t_yes rfl (iteT ?_)
      refine ⟨_, rfl, p, _, 1, _, rfl, rfl, hp, at_of (j := 1) rfl rfl, ds, rfl, hd.dg, by omega, fun t H2 s2 ht => ?_⟩
      refine ⟨_, rfl, lenL (SqL.of ht) ⟨sz9, fun l nl => ?_⟩⟩
      rw [List.length_map]
      refine ⟨_, rfl, l, t, _, _, rfl, rfl, upd_same, ((Same.new0 nl) t _ ht), size_of (by rw [List.length_map]; show 3 + _ ≤ 100000; omega), fun c nc => ?_⟩
      refine ⟨_, rfl, p, _, 2, _, rfl, rfl, (((s2.new nl).new nc).seqT hp), at_of (j := 2) rfl rfl, q, _, rfl, Or.inr (((s2.new nl).new nc).seqT hq), fun e ne => ⟨c, e, _, _, rfl, rfl, look2 ne, upd_same, size_of (by simp; omega), fun p2 np2 => ?_⟩⟩
      refine kq p2 _ ((((s2.new nl).new nc).new ne).new np2) ?_
      unfold LsI
      rw [upd_same]
      show some (HO.lst ((V.int 9 :: V.int 2 :: V.int ((num ds).length : Int) :: (num ds).map V.int) ++ pt.map V.int)) = some (HO.lst (V.int 9 :: V.int 2 :: V.int ((num ds).length : Int) :: (num ds ++ pt).map V.int))
      rw [List.map_append]
      rfl
    | @pl z os hz =>
      cases hv with | s r => cases r with | nil =>
      refine ⟨_, rfl, p, _, 0, _, rfl, rfl, hp, at_of (j := 0) rfl rfl, ?_⟩
      have nz : ∀ k, k ∈ kinds10 → z ≠ k := by
        intro k hk e
        have : (plains.all fun p => !kinds10.contains p.1) = true := by decide +kernel
        have q := List.all_eq_true.mp this _ hz
        rw [e, List.contains_iff_mem.mpr hk] at q
        cases q
      refine t_no rfl (nz _ (by decide +kernel)) (iteF ?_)
      refine t_no rfl (nz _ (by decide +kernel)) (iteF ?_)
      refine t_no rfl (nz _ (by decide +kernel)) (iteF ?_)
      refine t_no rfl (nz _ (by decide +kernel)) (iteF ?_)
      refine t_no rfl (nz _ (by decide +kernel)) (iteF ?_)
      refine t_no rfl (nz _ (by decide +kernel)) (iteF ?_)
      refine t_no rfl (nz _ (by decide +kernel)) (iteF ?_)
      refine t_no rfl (nz _ (by decide +kernel)) (iteF ?_)
      refine t_no rfl (nz _ (by decide +kernel)) (iteF ?_)
      refine t_no rfl (nz _ (by decide +kernel)) (iteF ?_)
      refine (fun d nd => ⟨sz9, fun l1 n1 => ⟨sz9, fun l2 n2 => ⟨sz9, fun l3 n3 => ⟨sz9, fun l4 n4 => ⟨((((Same.new0 n1).new n2).new n3).new n4) d _ upd_same, [(Sum.inr "service accept", .ref l1), (Sum.inr "release", .ref l2), (Sum.inr "handover done", .ref l3), (Sum.inr "proceeding", .ref l4)], rfl, (by decide : 4 ≤ 15), ?_⟩⟩⟩⟩⟩)
      have hd := ((((Same.new0 (o := .lst [V.int 5, V.int 33]) n1).new (o := .lst [V.int 6, V.int 13]) n2).new (o := .lst [V.int 6, V.int 44]) n3).new (o := .lst [V.int 3, V.int 2]) n4) d _ upd_same
      have pd0 : PD H (upd (upd (upd (upd (upd (upd H d (.dK [])) l1 (.lst [V.int 5, V.int 33])) l2 (.lst [V.int 6, V.int 13])) l3 (.lst [V.int 6, V.int 44])) l4 (.lst [V.int 3, V.int 2])) d (.dK (mergeK [] [(Sum.inr "service accept", .ref l1), (Sum.inr "release", .ref l2), (Sum.inr "handover done", .ref l3), (Sum.inr "proceeding", .ref l4)]))) d (plains.take 4) := by
        refine ⟨⟨_, upd_same, ?_⟩, (((((Same.new0 nd).new n1).new n2).new n3).new n4).mut nd, nd⟩
        refine TB.mono (Hk := upd (upd (upd (upd (upd H d (.dK [])) l1 (.lst [V.int 5, V.int 33])) l2 (.lst [V.int 6, V.int 13])) l3 (.lst [V.int 6, V.int 44])) l4 (.lst [V.int 3, V.int 2])) ?_ fun l' os' h => ?_
        · have t1 := TB.nil.put (z := "service accept") (os := [5, 33]) ((((Same.new0 n2).new n3).new (o := .lst [V.int 3, V.int 2]) n4) l1 _ upd_same) (by decide +kernel)
          have t2 := t1.put (z := "release") (os := [6, 13]) (((Same.new0 n3).new (o := .lst [V.int 3, V.int 2]) n4) l2 _ upd_same) (by decide +kernel)
          have t3 := t2.put (z := "handover done") (os := [6, 44]) ((Same.new0 (o := .lst [V.int 3, V.int 2]) n4) l3 _ upd_same) (by decide +kernel)
          exact t3.put (z := "proceeding") (os := [3, 2]) upd_same (by decide +kernel)
        · unfold LsI
          rw [upd_ne (ne_of h hd (by intro e; cases e))]
          exact h
      refine ⟨sz9, fun m4 nm4 => ?_⟩
      obtain ⟨kv4, hd4, hl4, pd1⟩ := PD.step (z := "alerting") (os := [3, 1]) pd0 nm4 (by decide +kernel)
      refine ⟨_, rfl, d, _, rfl, DPut.k (k := Sum.inr "alerting") hd4 (Nat.lt_of_le_of_lt hl4 (by decide)), ?_⟩
      refine ⟨sz9, fun m5 nm5 => ?_⟩
      obtain ⟨kv5, hd5, hl5, pd2⟩ := PD.step (z := "connect") (os := [3, 7]) pd1 nm5 (by decide +kernel)
      refine ⟨_, rfl, d, _, rfl, DPut.k (k := Sum.inr "connect") hd5 (Nat.lt_of_le_of_lt hl5 (by decide)), ?_⟩
      refine ⟨sz9, fun m6 nm6 => ?_⟩
      obtain ⟨kv6, hd6, hl6, pd3⟩ := PD.step (z := "connect done") (os := [3, 15]) pd2 nm6 (by decide +kernel)
      refine ⟨_, rfl, d, _, rfl, DPut.k (k := Sum.inr "connect done") hd6 (Nat.lt_of_le_of_lt hl6 (by decide)), ?_⟩
      refine ⟨sz9, fun m7 nm7 => ?_⟩
      obtain ⟨kv7, hd7, hl7, pd4⟩ := PD.step (z := "stored") (os := [9, 4]) pd3 nm7 (by decide +kernel)
      refine ⟨_, rfl, d, _, rfl, DPut.k (k := Sum.inr "stored") hd7 (Nat.lt_of_le_of_lt hl7 (by decide)), ?_⟩
      refine ⟨sz9, fun m8 nm8 => ?_⟩
      obtain ⟨kv8, hd8, hl8, pd5⟩ := PD.step (z := "refused") (os := [9, 16]) pd4 nm8 (by decide +kernel)
      refine ⟨_, rfl, d, _, rfl, DPut.k (k := Sum.inr "refused") hd8 (Nat.lt_of_le_of_lt hl8 (by decide)), ?_⟩
      refine ⟨sz9, fun m9 nm9 => ?_⟩
      obtain ⟨kv9, hd9, hl9, pd6⟩ := PD.step (z := "taken") (os := [9, 5]) pd5 nm9 (by decide +kernel)
      refine ⟨_, rfl, d, _, rfl, DPut.k (k := Sum.inr "taken") hd9 (Nat.lt_of_le_of_lt hl9 (by decide)), ?_⟩
      obtain ⟨kvs, hdz, tb⟩ := pd6.ex
      obtain ⟨l, hl, hls⟩ := tb.2 z os hz
      have dg := DGet.k (k := Sum.inr z) hdz
      rw [hl] at dg
      exact ⟨_, rfl, _, rfl, d, _, rfl, dg, kq l _ pd6.s hls⟩
end
end Mq
namespace Mq
open PySem PySem.Spec PyProof.Rows L2
section
variable {K : KF} {H : Hp} {a b : Addr} {os cs : List Int} {Q : VK} {lo hi : Option Int} {X : Cx}
@[irreducible] def zSlL (K : KF) : V → Option Int → Option Int → Hp → VK → Prop := rSlL K
@[irreducible] def zCatL : R2 := rCat
theorem sl_zL : SlR X (zSlL X.K) := by unfold zSlL; exact sl_list
theorem op_zCatL : OpR X (binaryOp .Add) zCatL := by unfold zCatL; exact op_cat
theorem slL (h : LsI H a os) (hc : cutV (os.map V.int) lo hi = cs.map V.int) (k : ∀ p H', Same H H' → LsI H' p cs → Q (.ref p) H') : zSlL K (.ref a) lo hi H Q := by
  unfold zSlL
  exact ⟨a, _, rfl, SqL.of h, fun p np => k p _ (Same.new0 np) (by unfold LsI; rw [upd_same, hc])⟩
theorem catL (ha : LsI H a os) (hb : LsI H b cs) (hz : os.length + cs.length ≤ 100000) (k : ∀ p H', Same H H' → LsI H' p (os ++ cs) → Q (.ref p) H') : zCatL (.ref a) (.ref b) H Q := by
  unfold zCatL
  exact ⟨a, b, _, _, rfl, rfl, ha, hb, size_of (by rw [List.length_map, List.length_map]; exact hz), fun p np => k p _ (Same.new0 np) (by unfold LsI; rw [upd_same, List.map_append])⟩
end
section
variable {P : Program} {w : World} {K : KF} {mg : Str → Option Value} {base : Heap} {C : Addr}
/-! ### _law_spoilt -/
abbrev sLSpoilt : Stmt := topS 48
abbrev nLSpoilt : List Str := ["_law_row_here", "_law_value", "_law_at", "_law_octet", "_law_kind", "_law_spare", "_law_k"]
theorem scLSpoilt : FnScope nLSpoilt ["_law_row_here", "_law_value"] (defScope sLSpoilt) := ⟨rfl, rfl, rfl, by decide +kernel, rfl, by decide +kernel, by decide +kernel⟩
theorem cal_lspoilt (T : Txt K mg C) {f : Addr} {fd : FuncData} (D : Def K mg "_law_spoilt" sLSpoilt ["_law_row_here", "_law_value"] f fd) : Cal P w K mg base 1 "_law_spoilt" ["_law_row_here", "_law_value"] spLSpoilt := by
  refine D.cal scLSpoilt (fun vs H Q E h => ?_) (fun cdv A outer s H vs Q E hr h => ?_)
  · obtain ⟨l, os, v, rfl, _⟩ := h
    rfl
  · obtain ⟨l, os, v, rfl, hS, hoc, hl1, hl2, h0, kq⟩ := h
    refine ⟨_, pss_cons (ps_set (i := 2) scLSpoilt.nd rfl (Or.inr rfl) (pe_op op_mod (pe_op op_fdiv (pv 1) pe_int) (pe_callB call_lenT (by rfl) T.len PySem.boot_len (pa_cons (pv 0) pa_nil))))
      (pss_cons (ps_set (i := 3) scLSpoilt.nd rfl (Or.inr rfl) (pe_ix ix_list (pe_lst (pa_cons pe_int (pa_cons pe_int (pa_cons pe_int (pa_cons pe_int (pa_cons pe_int (pa_cons pe_int (pa_cons pe_int (pa_cons pe_int (pa_cons (pe_op op_mod (pe_op op_fdiv (pv 1) pe_int) pe_int) pa_nil))))))))))
          (pe_op op_mod (pe_op op_fdiv (pv 1) pe_int) pe_int) (fun _ _ => rfl)))
      (pss_cons (ps_set (i := 4) scLSpoilt.nd rfl (Or.inl rfl) (pe_op op_mod (pv 1) pe_int))
      (pss_cons (ps_if (pt_cmpR op_lt (pv 4) pe_int (nomark _)) (pss_one (ps_ret (pe_op op_zCatL (pe_op op_zCatL (pe_slice sl_zL (pv 0) po_none (po_some (pv 2))) (pe_lst (pa_cons (pv 3) pa_nil))) (pe_slice sl_zL (pv 0) (po_some (pe_op op_add (pv 2) pe_int)) po_none)))) pss_nil)
      (pss_cons (ps_if (pt_cmpR op_eq (pv 4) pe_int (nomark _)) (pss_one (ps_ret (pe_op op_zCatL (pe_slice sl_zL (pv 0) po_none (po_some (pv 2))) (pe_slice sl_zL (pv 0) (po_some (pe_op op_add (pv 2) pe_int)) po_none)))) pss_nil)
      (pss_cons (ps_if (pt_cmpR op_eq (pv 4) pe_int (nomark _)) (pss_one (ps_ret (pe_op op_zCatL (pe_op op_zCatL (pe_slice sl_zL (pv 0) po_none (po_some (pv 2))) (pe_lst (pa_cons (pv 3) pa_nil))) (pe_slice sl_zL (pv 0) (po_some (pv 2)) po_none)))) pss_nil)
      (pss_cons (ps_if (pt_cmpR op_eq (pv 4) pe_int (nomark _)) (pss_one (ps_ret (pe_slice sl_zL (pv 0) po_none (po_some (pv 2))))) pss_nil)
      (pss_cons (ps_if (pt_cmpR op_eq (pv 4) pe_int (nomark _)) (pss_one (ps_ret (pe_op op_zCatL (pv 0)
          (pe_lc (own := [("_law_spare", 5)]) (g := gName 5) (tt := tYes) (by rfl) scLSpoilt.nd (pi_range1 (by rfl) T.range (pa_cons (pe_op op_add pe_int (pv 2)) pa_nil)) (blkOk_by (N := nLSpoilt) (sc := defScope sLSpoilt) (by decide +kernel))
            (fun _ _ _ _ _ => pg_name (i := 5) scLSpoilt.nd rfl (Or.inl rfl)) (fun _ _ _ _ _ => pts_nil) (fun _ _ _ _ _ => (pv 3)))))) pss_nil)
      (pss_one (ps_ret (pe_op op_zCatL (pe_lst (pa_cons (pv 3) pa_nil))
          (pe_lc (own := [("_law_k", 6)]) (g := gName 6) (tt := tYes) (by rfl) scLSpoilt.nd (pi_range1 (by rfl) T.range (pa_cons (pe_op op_mod (pe_op op_fdiv (pv 1) pe_int) pe_int) pa_nil)) (blkOk_by (N := nLSpoilt) (sc := defScope sLSpoilt) (by decide +kernel))
            (fun _ _ _ _ _ => pg_name (i := 6) scLSpoilt.nd rfl (Or.inl rfl)) (fun _ _ _ _ _ => pts_nil) (fun _ _ _ _ _ => (pe_op op_mod (pe_op op_add (pv 3) (pe_op op_mul (pv 2) (pe_op op_add (pv 6) pe_int))) pe_int)))))))))))))
      , ?_⟩
    -- at
    have hlz : (0 : Int) < os.length := by omega
    refine ⟨_, rfl, _, _, rfl, rfl, ⟨by decide, by decide⟩, _, rfl, lenL (SqL.of hS) ?_⟩
    rw [List.length_map]
    refine ⟨_, _, rfl, rfl, hlz, ?_⟩
    obtain ⟨j, hj, hjl⟩ : ∃ j : Nat, v / 8 % (os.length : Int) = (j : Int) ∧ j < os.length := by
      have m0 : 0 ≤ v / 8 % (os.length : Int) := Int.emod_nonneg _ (by omega)
      have m1 : v / 8 % (os.length : Int) < os.length := Int.emod_lt_of_pos _ hlz
      exact ⟨(v / 8 % (os.length : Int)).toNat, by omega, by omega⟩
    dsimp only
    rw [hj]
    -- octet
    obtain ⟨o, ho, hat⟩ : ∃ o : Int, (0 ≤ o ∧ o < 256) ∧ atI (([0, 1, 4, 5, 15, 129, 240, 255, v / 512 % 256] : List Int).map V.int) (v / 64 % 9) = some (V.int o) := by
      have hL : Oc [0, 1, 4, 5, 15, 129, 240, 255, v / 512 % 256] := Oc.cons (by omega) (Oc.cons (by omega) (Oc.cons (by omega) (Oc.cons (by omega) (Oc.cons (by omega) (Oc.cons (by omega) (Oc.cons (by omega) (Oc.cons (by omega) (Oc.cons (by omega) Oc.nil))))))))
      have j9 : (v / 64 % 9).toNat < ([0, 1, 4, 5, 15, 129, 240, 255, v / 512 % 256] : List Int).length := by show (v / 64 % 9).toNat < 9; omega
      obtain ⟨o, ho⟩ : ∃ o, ([0, 1, 4, 5, 15, 129, 240, 255, v / 512 % 256] : List Int)[(v / 64 % 9).toNat]? = some o := ⟨_, List.getElem?_eq_getElem j9⟩
      refine ⟨o, hL.get ho, ?_⟩
      have e : v / 64 % 9 = (((v / 64 % 9).toNat : Nat) : Int) := by omega
      rw [e]
      exact atI_nat (at_ints ho)
    refine ⟨_, rfl, _, _, rfl, rfl, ⟨by decide, by decide⟩, _, _, rfl, rfl, (by show (0 : Int) < 256; decide), sz9, fun lo nlo => ?_⟩
    refine ⟨_, rfl, _, _, rfl, rfl, ⟨by decide, by decide⟩, _, _, rfl, rfl, (by show (0 : Int) < 9; decide), lo, _, _, _, rfl, rfl, SqL.of upd_same, hat, ?_⟩
    refine ⟨_, rfl, _, _, rfl, rfl, (by show (0 : Int) < 8; decide), ?_⟩
    have s1 : Same H (upd H lo (.lst [V.int 0, V.int 1, V.int 4, V.int 5, V.int 15, V.int 129, V.int 240, V.int 255, V.int (v / 512 % 256)])) := Same.new0 nlo
    revert s1
    generalize upd H lo _ = H1
    intro s1
    have h1 : LsI H1 l os := s1 _ _ hS
    have ho1 : Oc [o] := Oc.cons ho Oc.nil
    have ej : (j : Int) + 1 = ((j + 1 : Nat) : Int) := by omega
    -- kind < 3
    refine ⟨_, rfl, _, _, rfl, rfl, _, rfl, ?_⟩
    refine ite2 (fun c => ?_) (fun c => ?_)
    · refine ⟨_, rfl, _, rfl, _, rfl, slL h1 (ints_upto os j) fun p2 H2 s2 g2 => ⟨_, rfl, sz9, fun p3 np3 => ?_⟩⟩
      refine catL ((Same.new0 np3) _ _ g2) (cs := [o]) upd_same (by rw [List.length_take]; show _ + 1 ≤ 100000; omega) fun p4 H4 s4 g4 => ?_
      have s14 := s1.trans (s2.trans ((Same.new0 np3).trans s4))
      refine ⟨_, rfl, _, rfl, _, _, rfl, rfl, _, rfl, slL (s14 _ _ hS) (by rw [ej]; exact ints_from os (j + 1)) fun p5 H5 s5 g5 => ?_⟩
      refine catL (s5 _ _ g4) g5 (by simp; omega) fun p6 H6 s6 g6 => ?_
      exact kq p6 _ H6 (s14.trans (s5.trans s6)) g6 (((hoc.take j).append ho1).append (hoc.drop _)) (by simp; omega)
    -- kind == 3
    refine ⟨_, rfl, rfl, _, rfl, ?_⟩
    refine ite2 (fun c => ?_) (fun c => ?_)
    · refine ⟨_, rfl, _, rfl, _, rfl, slL h1 (ints_upto os j) fun p2 H2 s2 g2 => ?_⟩
      have s12 := s1.trans s2
      refine ⟨_, rfl, _, rfl, _, _, rfl, rfl, _, rfl, slL (s12 _ _ hS) (by rw [ej]; exact ints_from os (j + 1)) fun p5 H5 s5 g5 => ?_⟩
      refine catL (s5 _ _ g2) g5 (by simp; omega) fun p6 H6 s6 g6 => ?_
      exact kq p6 _ H6 (s12.trans (s5.trans s6)) g6 ((hoc.take j).append (hoc.drop _)) (by simp; omega)
    -- kind == 4
    refine ⟨_, rfl, rfl, _, rfl, ?_⟩
    refine ite2 (fun c => ?_) (fun c => ?_)
    · refine ⟨_, rfl, _, rfl, _, rfl, slL h1 (ints_upto os j) fun p2 H2 s2 g2 => ⟨_, rfl, sz9, fun p3 np3 => ?_⟩⟩
      refine catL ((Same.new0 np3) _ _ g2) (cs := [o]) upd_same (by rw [List.length_take]; show _ + 1 ≤ 100000; omega) fun p4 H4 s4 g4 => ?_
      have s14 := s1.trans (s2.trans ((Same.new0 np3).trans s4))
      refine ⟨_, rfl, _, rfl, _, rfl, slL (s14 _ _ hS) (ints_from os j) fun p5 H5 s5 g5 => ?_⟩
      refine catL (s5 _ _ g4) g5 (by simp; omega) fun p6 H6 s6 g6 => ?_
      exact kq p6 _ H6 (s14.trans (s5.trans s6)) g6 (((hoc.take j).append ho1).append (hoc.drop _)) (by simp; omega)
    -- kind == 5
    refine ⟨_, rfl, rfl, _, rfl, ?_⟩
    refine ite2 (fun c => ?_) (fun c => ?_)
    · refine ⟨_, rfl, _, rfl, _, rfl, slL h1 (ints_upto os j) fun p2 H2 s2 g2 => ?_⟩
      exact kq p2 _ H2 (s1.trans s2) g2 (hoc.take j) (by simp; omega)
    -- kind == 6
    refine ⟨_, rfl, rfl, _, rfl, ?_⟩
    refine ite2 (fun c => ?_) (fun c => ?_)
    · refine ⟨_, rfl, _, rfl, _, _, rfl, rfl, _, rfl, by omega, by omega, fun Dl nD => lc_range (lo := 0) (n := (1 + (j : Int)).toNat) (fun i H' => Same H1 H' ∧ LsI H' Dl (List.replicate i o)) ⟨Same.new0 nD, upd_same⟩ ?_ ?_⟩
      · rintro i H2 hi ⟨s2, g2⟩
        refine ⟨rfl, _, rfl, _, g2, size_lt (by rw [List.length_map, List.length_replicate]; omega), s2.mut nD, ?_⟩
        unfold LsI
        rw [upd_same, List.replicate_succ', List.map_append]
        rfl
      · rintro H2 ⟨s2, g2⟩
        refine catL (s2 _ _ h1) g2 (by rw [List.length_replicate]; omega) fun p6 H6 s6 g6 => ?_
        exact kq p6 _ H6 (s1.trans (s2.trans s6)) g6 (hoc.append (Oc.replicate ho)) (by rw [List.length_append, List.length_replicate]; omega)
    -- else
    refine ⟨_, rfl, sz9, fun p3 np3 => ?_⟩
    refine ⟨_, rfl, _, _, rfl, rfl, ⟨by decide, by decide⟩, _, _, rfl, rfl, (by show (0 : Int) < 6; decide), _, rfl, by omega, by omega,
      fun Dl nD => lc_range (lo := 0) (n := (v / 8 % 6).toNat) (fun i H' => Same (upd H1 p3 (.lst [V.int o])) H' ∧ ∃ ks, LsI H' Dl ks ∧ Oc ks ∧ ks.length = i) ⟨Same.new0 nD, [], upd_same, Oc.nil, rfl⟩ ?_ ?_⟩
    · rintro i H2 hi ⟨s2, ks, g2, hk, hn⟩
      refine ⟨rfl, _, rfl, _, rfl, _, rfl, _, _, rfl, rfl, _, _, rfl, rfl, Or.inl ⟨by omega, by omega⟩, _, _, rfl, rfl, _, _, rfl, rfl, (by show (0 : Int) < 256; decide), _, g2, size_lt (by rw [List.length_map]; omega), s2.mut nD, ks ++ [(o + (j : Int) * ((0 : Int) + (i : Int) + 1)) % 256], ?_, ?_, ?_⟩
      · unfold LsI
        rw [upd_same, List.map_append]
        rfl
      · exact hk.append (Oc.cons ⟨Int.emod_nonneg _ (by decide), Int.emod_lt_of_pos _ (by decide)⟩ Oc.nil)
      · rw [List.length_append, hn]; rfl
    · rintro H2 ⟨s2, ks, g2, hk, hn⟩
      refine catL (os := [o]) (s2 _ _ upd_same) g2 (by show 1 + _ ≤ 100000; omega) fun p6 H6 s6 g6 => ?_
      exact kq p6 _ H6 (s1.trans ((Same.new0 np3).trans (s2.trans s6))) g6 (ho1.append hk) (by rw [List.length_append]; show 1 + _ ≤ 700; omega)
end
end Mq
namespace Mq
open PySem PySem.Spec PyProof.Rows L2
section
variable {K : KF} {H : Hp} {a b : Addr} {os cs : List Int} {xs : List V} {Q : VK} {X : Cx}
/-! isinstance, an item of a list or tuple, == with the empty list: closed relations -/
@[irreducible] def zIsi (K : KF) : List V → Hp → VK → Prop := rIsi K
theorem call_zIsi : CallR X (.builtin "isinstance") (zIsi X.K) := by unfold zIsi; exact call_isi
theorem isiInt {i : Int} (q : Q (.bl true) H) : zIsi K [.int i, .ty "int"] H Q := by unfold zIsi; exact ⟨_, _, _, _, true, rfl, .ty _, .base (.int i), kit_ty (by decide +kernel), q⟩
theorem isiBool {i : Int} (q : Q (.bl false) H) : zIsi K [.int i, .ty "bool"] H Q := by unfold zIsi; exact ⟨_, _, _, _, false, rfl, .ty _, .base (.int i), kit_ty (by decide +kernel), q⟩
theorem isiStr {z : Str} (q : Q (.bl true) H) : zIsi K [.str z, .ty "str"] H Q := by unfold zIsi; exact ⟨_, _, _, _, true, rfl, .ty _, .base (.str z), kit_ty (by decide +kernel), q⟩
theorem ty_tup (h : SqT K H a xs) : TyX K H (.ref a) (.type "tuple") := by
  rcases h with (h | ⟨o, h⟩) | ⟨o, its, n, h, c, _⟩
  · exact .base (.tup h)
  · exact .fTuple h
  · exact .kTuple h c
theorem isiTup (h : SqT K H a xs) (q : Q (.bl true) H) : zIsi K [.ref a, .ty "tuple"] H Q := by unfold zIsi; exact ⟨_, _, _, _, true, rfl, .ty _, ty_tup h, kit_ty (by decide +kernel), q⟩
@[irreducible] def zIx (K : KF) : R2 := rIx K
theorem ix_z : IxR X (zIx X.K) := by unfold zIx; exact ix_seq
theorem ixE {j : Nat} {z : Int} {v : V} (h : SqL K H a xs ∨ SqT K H a xs) (e : xs[j]? = some v) (ez : z = (j : Int)) (q : Q v H) : zIx K (.ref a) (.int z) H Q := by
  unfold zIx
  rcases h with h | h
  · exact Or.inl ⟨a, xs, z, v, rfl, rfl, h, at_of ez e, q⟩
  · exact Or.inr (Or.inl ⟨a, xs, z, v, rfl, rfl, h, at_of ez e, q⟩)
theorem lenE (h : SqL K H a xs ∨ SqT K H a xs) (q : Q (.int xs.length) H) : rLenT K [.ref a] H Q := h.elim (fun h => lenL h q) (fun h => lenU h q)
/-- [] == [] -/
theorem eqE (ha : H a = some (.lst [])) (hb : H b = some (.lst [])) (q : Q (.bl true) H) : zEq K (.ref a) (.ref b) H Q := by
  unfold zEq
  exact ⟨_, _, .lst (SqL.of ha) .nil, .lst (SqL.of hb) .nil, by decide +kernel, by decide +kernel, q⟩
theorem cut_tail (v : V) (vs : List V) : cutV (v :: vs) (some 1) none = vs := by
  unfold cutV
  rw [show (some (1 : Int)) = some ((1 : Nat) : Int) from rfl, HT.sIx_nat, HT.sIx_none]
  show ((v :: vs).drop (min 1 (vs.length + 1))).take (vs.length + 1 - min 1 (vs.length + 1)) = vs
  rw [show min 1 (vs.length + 1) = 1 by omega]
  show vs.take vs.length = vs
  exact List.take_length
theorem cut_head (v : V) (vs : List V) : cutV (v :: vs) none (some 1) = [v] := by
  unfold cutV
  rw [show (some (1 : Int)) = some ((1 : Nat) : Int) from rfl, HT.sIx_nat, HT.sIx_none]
  show ((v :: vs).drop 0).take (min 1 (vs.length + 1) - 0) = [v]
  rw [show min 1 (vs.length + 1) = 1 by omega]
  rfl
theorem ints_each {ns : List Int} {i : Nat} {n : Int} (h : ns[i]? = some n) : (ns.map V.int)[i]? = some (V.int n) := at_ints h
end
section
variable {P : Program} {w : World} {K : KF} {mg : Str → Option Value} {base : Heap} {C : Addr}
/-! ### _law_numbers -/
abbrev sLNums : Stmt := topS 49
theorem scLNums : FnScope ["_law_row_here", "_law_limits", "_law_k"] ["_law_row_here", "_law_limits"] (defScope sLNums) := ⟨rfl, rfl, rfl, by decide +kernel, rfl, by decide +kernel, by decide +kernel⟩
theorem cal_lnums (T : Txt K mg C) {f : Addr} {fd : FuncData} (D : Def K mg "_law_numbers" sLNums ["_law_row_here", "_law_limits"] f fd) : Cal P w K mg base 1 "_law_numbers" ["_law_row_here", "_law_limits"] (spLNums K) := by
  refine D.cal scLNums (fun vs H Q E h => ?_) (fun cdv A outer s H vs Q E hr h => ?_)
  · obtain ⟨a, b, ns, ls, rfl, _⟩ := h
    rfl
  · obtain ⟨a, b, ns, ls, rfl, ha, hb, hl, hz, hin, kq⟩ := h
    refine ⟨_, pss_cons (ps_for (passes_of rfl) rfl (pi_range1 (by rfl) T.range (pa_cons (pe_callB call_lenT (by rfl) T.len PySem.boot_len (pa_cons (pv 1) pa_nil)) pa_nil)) (pg_name (i := 2) scLNums.nd rfl (Or.inl rfl))
        (pss_one (ps_if (PW.pt (pw_or (pt_not (pt_val (pe_callB call_zIsi (by rfl) T.isinstance (by decide +kernel) (pa_cons (pe_ix ix_z (pv 0) (pv 2) (fun _ _ => rfl)) (pa_cons (pe_bltn (v := .ty "int") (by rfl) T.int (by decide +kernel) rfl) pa_nil)))))
          (pw_or (pt_val (pe_callB call_zIsi (by rfl) T.isinstance (by decide +kernel) (pa_cons (pe_ix ix_z (pv 0) (pv 2) (fun _ _ => rfl)) (pa_cons (pe_bltn (v := .ty "bool") (by rfl) T.bool (by decide +kernel) rfl) pa_nil))))
          (pw_or (pt_cmpR op_lt (pe_ix ix_z (pv 0) (pv 2) (fun _ _ => rfl)) pe_int (nomark _))
          (pw_or1 (pt_cmpR op_ge (pe_ix ix_z (pv 0) (pv 2) (fun _ _ => rfl)) (pe_ix ix_z (pv 1) (pv 2) (fun _ _ => rfl)) (nomark _)))))))
          (pss_one (ps_ret pe_bl)) pss_nil)))
      (pss_one (ps_ret (pe_cmpR op_eq (pe_callB call_lenT (by rfl) T.len PySem.boot_len (pa_cons (pv 0) pa_nil)) (pe_callB call_lenT (by rfl) T.len PySem.boot_len (pa_cons (pv 1) pa_nil)) (nomark _)))), ?_⟩
    have hb2 : SqL K H b (ls.map V.int) ∨ SqT K H b (ls.map V.int) := Or.inl hb
    have e1 : (ns.map V.int).length = ns.length := List.length_map _
    have e2 : (ls.map V.int).length = ls.length := List.length_map _
    refine ⟨_, rfl, lenE hb2 ?_⟩
    rw [e2]
    refine ⟨_, rfl, by omega, by omega, for_range (lo := 0) (n := ((ls.length : Nat) : Int).toNat) (fun i σ H' => H' = H ∧ ∃ v, σ = [some (.ref a), some (.ref b), v]) ⟨rfl, none, rfl⟩ ?_ ?_⟩
    · rintro i σ H1 hi ⟨rfl, v, rfl⟩
      rw [Int.toNat_natCast] at hi
      have hin' : i < ns.length := by omega
      obtain ⟨n, hn⟩ : ∃ n, ns[i]? = some n := ⟨ns[i], List.getElem?_eq_getElem hin'⟩
      obtain ⟨l, hll⟩ : ∃ l, ls[i]? = some l := ⟨_, List.getElem?_eq_getElem (by omega)⟩
      obtain ⟨n0, n1⟩ := hin i n l hn hll
      have ez : (0 : Int) + (i : Int) = (i : Int) := Int.zero_add _
      refine ⟨_, rfl, _, rfl, ixE ha (at_ints hn) ez (isiInt ⟨true, rfl, iteF ?_⟩)⟩
      refine ⟨_, rfl, _, rfl, ixE ha (at_ints hn) ez (isiBool ⟨false, rfl, iteF ?_⟩)⟩
      refine ⟨_, rfl, _, rfl, ixE ha (at_ints hn) ez ⟨_, _, rfl, rfl, _, rfl, ?_⟩⟩
      rw [decide_eq_false (by omega)]; refine iteF ?_
      refine ⟨_, rfl, _, rfl, ixE ha (at_ints hn) ez ⟨_, rfl, _, rfl, ixE hb2 (at_ints hll) ez ⟨_, _, rfl, rfl, _, rfl, ?_⟩⟩⟩
      rw [decide_eq_false (by omega)]; exact iteF ⟨rfl, _, rfl⟩
    · rintro σ H1 ⟨rfl, v, rfl⟩
      refine ⟨_, rfl, lenE ha ⟨_, rfl, lenE hb2 ⟨rfl, ?_⟩⟩⟩
      rw [e1, e2, hl, decide_eq_true rfl]
      exact kq
/-! ### _law_string -/
abbrev sLStr : Stmt := topS 50
theorem scLStr : FnScope ["_law_text", "_law_least", "_law_most", "_law_sign"] ["_law_text", "_law_least", "_law_most"] (defScope sLStr) := ⟨rfl, rfl, rfl, by decide +kernel, rfl, by decide +kernel, by decide +kernel⟩
theorem cal_lstr (T : Txt K mg C) {f : Addr} {fd : FuncData} (D : Def K mg "_law_string" sLStr ["_law_text", "_law_least", "_law_most"] f fd) : Cal P w K mg base 1 "_law_string" ["_law_text", "_law_least", "_law_most"] spLStr := by
  refine D.cal scLStr (fun vs H Q E h => ?_) (fun cdv A outer s H vs Q E hr h => ?_)
  · obtain ⟨ds, lo, hi, rfl, _⟩ := h
    rfl
  · obtain ⟨ds, lo, hi, rfl, hd, hz, kq⟩ := h
    have dl := hd.lo
    have dh := hd.hi
    refine ⟨_, pss_cons (ps_if (PW.pt (pw_or (pt_not (pt_val (pe_callB call_zIsi (by rfl) T.isinstance (by decide +kernel) (pa_cons (pv 0) (pa_cons (pe_bltn (v := .ty "str") (by rfl) T.str (by decide +kernel) rfl) pa_nil)))))
          (pw_or (pt_cmpR op_lt (pe_callB call_lenD2 (by rfl) T.len PySem.boot_len (pa_cons (pv 0) pa_nil)) (pv 1) (nomark _))
          (pw_or1 (pt_cmpR op_gt (pe_callB call_lenD2 (by rfl) T.len PySem.boot_len (pa_cons (pv 0) pa_nil)) (pv 2) (nomark _))))))
          (pss_one (ps_ret pe_bl)) pss_nil)
      (pss_one (ps_ret (pe_cmpR (op_zEq hr.units)
        (pe_lc (own := [("_law_sign", 3)]) (g := gName 3) (by rfl) scLStr.nd (pi_str (pv 0)) (blkOk_by (N := ["_law_text", "_law_least", "_law_most", "_law_sign"]) (sc := defScope sLStr) (by decide +kernel))
            (fun _ _ _ _ _ => pg_name (i := 3) scLStr.nd rfl (Or.inl rfl)) (fun _ _ _ _ _ => pts_one (pt_cmpR op_notIn_sign (pv 3) pe_str rfl)) (fun _ _ _ _ _ => (pv 3))) (pe_lst pa_nil) (nomark _)))), ?_⟩
    refine ⟨_, rfl, isiStr ⟨true, rfl, iteF ?_⟩⟩
    refine ⟨_, rfl, lenD (by omega) ⟨_, rfl, _, _, rfl, rfl, _, rfl, ?_⟩⟩
    rw [decide_eq_false (by omega)]; refine iteF ?_
    refine ⟨_, rfl, lenD (by omega) ⟨_, rfl, _, _, rfl, rfl, _, rfl, ?_⟩⟩
    rw [decide_eq_false (by omega)]; refine iteF ?_
    refine ⟨_, rfl, _, rfl, fun Dl nD => lc_it walk_str (fun i H' => Same H H' ∧ LsI H' Dl []) ⟨Same.new0 nD, upd_same⟩ (fun _ _ _ _ => trivial) ?_ ?_⟩
    · rintro i x H1 H2 hi ⟨s1, g1⟩ ⟨rfl, c0, hc, rfl⟩
      obtain ⟨d, hd1, rfl⟩ := dstr_getA hc
      refine ⟨rfl, _, rfl, _, _, rfl, rfl, _, rfl, ?_⟩
      rw [decide_eq_true (sign_in (hd.dg.get hd1))]
      exact iteF ⟨s1, g1⟩
    · rintro H1 ⟨s1, g1⟩
      refine ⟨sz9, fun l nl => ?_⟩
      exact eqE ((Same.new0 nl) _ _ g1) upd_same (kq _ (s1.new nl))
/-! ### _law_row -/
abbrev sLRow : Stmt := topS 51
theorem scLRow : FnScope ["_law_octets_here", "_law_most", "_law_spare"] ["_law_octets_here", "_law_most"] (defScope sLRow) := ⟨rfl, rfl, rfl, by decide +kernel, rfl, by decide +kernel, by decide +kernel⟩
theorem cal_lrow (T : Txt K mg C) (cn : Cal P w K mg base 1 "_law_numbers" ["_law_row_here", "_law_limits"] (spLNums K)) {f : Addr} {fd : FuncData} (D : Def K mg "_law_row" sLRow ["_law_octets_here", "_law_most"] f fd) : Cal P w K mg base 2 "_law_row" ["_law_octets_here", "_law_most"] (spLRow K) := by
  refine D.cal scLRow (fun vs H Q E h => ?_) (fun cdv A outer s H vs Q E hr h => ?_)
  · obtain ⟨a, os, m, rfl, _⟩ := h
    rfl
  · obtain ⟨a, os, m, rfl, ha, hp, hm, kq⟩ := h
    have p1 := hp.lo
    have p2 := hp.hi
    have e1 : (os.map V.int).length = os.length := List.length_map _
    refine ⟨_, pss_cons (ps_if (PW.pt (pw_or (pt_not (pt_val (pe_callB call_zIsi (by rfl) T.isinstance (by decide +kernel) (pa_cons (pv 0) (pa_cons (pe_bltn (v := .ty "tuple") (by rfl) T.tuple (by decide +kernel) rfl) pa_nil)))))
          (pw_or (pt_cmpR op_lt (pe_callB call_lenT (by rfl) T.len PySem.boot_len (pa_cons (pv 0) pa_nil)) pe_int (nomark _))
          (pw_or1 (pt_cmpR op_gt (pe_callB call_lenT (by rfl) T.len PySem.boot_len (pa_cons (pv 0) pa_nil)) (pv 1) (nomark _))))))
          (pss_one (ps_ret pe_bl)) pss_nil)
      (pss_one (ps_ret (pe_cal cn hr rfl (pa_cons (pv 0) (pa_cons
        (pe_lc (own := [("_law_spare", 2)]) (g := gName 2) (tt := tYes) (by rfl) scLRow.nd (pi_tup (pv 0)) (blkOk_by (N := ["_law_octets_here", "_law_most", "_law_spare"]) (sc := defScope sLRow) (by decide +kernel))
            (fun _ _ _ _ _ => pg_name (i := 2) scLRow.nd rfl (Or.inl rfl)) (fun _ _ _ _ _ => pts_nil) (fun _ _ _ _ _ => pe_int)) pa_nil))))), ?_⟩
    refine ⟨_, rfl, isiTup ha ⟨true, rfl, iteF ?_⟩⟩
    refine ⟨_, rfl, lenT ha ⟨_, _, rfl, rfl, _, rfl, ?_⟩⟩
    rw [decide_eq_false (by omega)]; refine iteF ?_
    refine ⟨_, rfl, lenT ha ⟨_, rfl, _, _, rfl, rfl, _, rfl, ?_⟩⟩
    rw [decide_eq_false (by omega)]; refine iteF ?_
    refine ⟨_, rfl, _, rfl, a, rfl, ⟨_, ha⟩, fun Dl nD => lc_tup (xs := os.map V.int) (fun i H' => Same H H' ∧ LsI H' Dl (List.replicate i 256)) ⟨Same.new0 nD, upd_same⟩ (fun i H' _ h => h.1.seqT ha) ?_ ?_⟩
    · rintro i x H1 hx ⟨s1, g1⟩
      have hi : i < os.length := by rw [← e1]; exact (List.getElem?_eq_some_iff.mp hx).1
      refine ⟨rfl, _, g1, size_lt (by rw [List.length_map, List.length_replicate]; omega), s1.mut nD, ?_⟩
      unfold LsI
      rw [upd_same, List.replicate_succ', List.map_append]
      rfl
    · rintro H1 ⟨s1, g1⟩
      rw [e1] at g1
      refine ⟨a, Dl, os, List.replicate os.length 256, rfl, Or.inr (s1.seqT ha), SqL.of g1, by rw [List.length_replicate], by omega, fun i n l hn hl => ?_, kq _ s1⟩
      have h1 := hp.oc.get hn
      have h2 : l = 256 := List.eq_of_mem_replicate (List.mem_of_getElem? hl)
      omega
end
end Mq
namespace Mq
open PySem PySem.Spec PyProof.Rows L2
section
variable {K : KF} {H : Hp} {a b : Addr} {os cs : List Int} {v : V} {xs vs : List V} {Q : VK} {X : Cx}
@[irreducible] def zIn (K : KF) : R2 := rIn K false
theorem op_zIn : OpR X (compareOp .In) (zIn X.K) := by unfold zIn; exact op_in_seq
theorem inT {x : V} (h : SqL K H a xs ∨ SqT K H a xs) (fx : flatV x = true) (fs : xs.all flatV = true) (e : inV x xs = true) (q : Q (.bl true) H) : zIn K x (.ref a) H Q := by
  unfold zIn
  refine ⟨a, xs, rfl, h, fx, fs, ?_⟩
  show Q (.bl (inV x xs)) H
  rw [e]
  exact q
/-- t[1:] -/
theorem slTail (h : SqT K H a (v :: vs)) (k : ∀ p H', Same H H' → SqT K H' p vs → Q (.ref p) H') : zSl K (.ref a) (some 1) none H Q := by
  unfold zSl
  refine ⟨a, _, rfl, h, fun w => ?_, fun _ p np => k p _ (Same.new0 np) (by rw [cut_tail]; exact SqT.of upd_same)⟩
  have e := w.1
  rw [show (some (1 : Int)) = some ((1 : Nat) : Int) from rfl, HT.sIx_nat] at e
  exact absurd e (by show ¬ min 1 (vs.length + 1) = 0; omega)
/-- l[:1] -/
theorem slHead {n : Int} (h : H a = some (.lst (.int n :: vs))) (k : ∀ p H', Same H H' → LsI H' p [n] → Q (.ref p) H') : zSlL K (.ref a) none (some 1) H Q := by
  unfold zSlL
  exact ⟨a, _, rfl, SqL.of h, fun p np => k p _ (Same.new0 np) (by unfold LsI; rw [upd_same, cut_head]; rfl)⟩
theorem t_len {i : Nat} {n : Int} {σ : L2.St} {Q : Bool → Hp → Prop} (hσ : σ[i]? = some (some (.ref a))) (h : H a = some (.lst xs)) (e : (xs.length : Int) = n) (q : Q true H) : tTest (tOp rEq (tCB (rLenT K) (tCons (tVar i) tNil)) (tC (.int n))) σ H Q := by
  refine ⟨_, hσ, lenL (SqL.of h) ⟨rfl, _, rfl, ?_⟩⟩
  rw [e, decide_eq_true rfl]
  exact q
theorem nums1 {n l : Int} (h0 : 0 ≤ n) (h : n < l) : ∀ (i : Nat) n' l', [n][i]? = some n' → [l][i]? = some l' → 0 ≤ n' ∧ n' < l' := by
  intro i n' l' h1 h2
  match i with
  | 0 => cases h1; cases h2; exact ⟨h0, h⟩
  | i + 1 => cases h1
theorem nums2 {n l m k : Int} (h0 : 0 ≤ n) (h : n < l) (g0 : 0 ≤ m) (g : m < k) : ∀ (i : Nat) n' l', [n, m][i]? = some n' → [l, k][i]? = some l' → 0 ≤ n' ∧ n' < l' := by
  intro i n' l' h1 h2
  match i with
  | 0 => cases h1; cases h2; exact ⟨h0, h⟩
  | 1 => cases h1; cases h2; exact ⟨g0, g⟩
  | i + 2 => cases h1
theorem plain_kinds : (plains.all fun p => inV (.str p.1) ([.str "service accept", .str "release", .str "handover done", .str "proceeding", .str "alerting", .str "connect", .str "connect done"] ++ [.str "stored", .str "refused", .str "taken"])) = true := by decide +kernel
end
section
variable {P : Program} {w : World} {K : KF} {mg : Str → Option Value} {base : Heap} {C : Addr}
/-! ### _law_good -/
abbrev sLGood : Stmt := topS 52
theorem scLGood : FnScope ["_law_message_here", "_law_kind", "_law_parts", "_law_plain"] ["_law_message_here"] (defScope sLGood) := ⟨rfl, rfl, rfl, by decide +kernel, rfl, by decide +kernel, by decide +kernel⟩
theorem cal_lgood (T : Txt K mg C) (cn : Cal P w K mg base 1 "_law_numbers" ["_law_row_here", "_law_limits"] (spLNums K)) (cs : Cal P w K mg base 1 "_law_string" ["_law_text", "_law_least", "_law_most"] spLStr)
    (cr : Cal P w K mg base 2 "_law_row" ["_law_octets_here", "_law_most"] (spLRow K)) {f : Addr} {fd : FuncData} (D : Def K mg "_law_good" sLGood ["_law_message_here"] f fd) : Cal P w K mg base 3 "_law_good" ["_law_message_here"] (spLGood K) := by
  refine D.cal scLGood (fun vs H Q E h => ?_) (fun cdv A outer s H vs Q E hr h => ?_)
  · obtain ⟨p, m, os, rfl, _⟩ := h
    rfl
  · obtain ⟨p, m, os, rfl, hm, hg, kq⟩ := h
    have cn2 := cn.up (k := 2) (by decide)
    have cs2 := cs.up (k := 2) (by decide)
    refine ⟨_, pss_cons (ps_set (i := 1) scLGood.nd rfl (Or.inl rfl) (pe_ix ix_tup (pv 0) pe_int (fun _ _ => rfl)))
      (pss_cons (ps_set (i := 2) scLGood.nd rfl (Or.inl rfl) (pe_callTy call_list_of (by rfl) T.list (by decide +kernel) (pa_cons (pe_slice sl_z (pv 0) (po_some pe_int) po_none) pa_nil)))
      (pss_cons (ps_if (PW.pt (pw_and (pt_cmpR op_eq (pv 1) pe_str (nomark _)) (pw_and1 (pt_cmpR op_eq (pe_callB call_lenT (by rfl) T.len PySem.boot_len (pa_cons (pv 2) pa_nil)) pe_int (nomark _))))) (pss_one (ps_ret (pe_and (pe_cal cn2 hr rfl (pa_cons (pe_slice sl_zL (pv 2) po_none (po_some pe_int)) (pa_cons (pe_lst (pa_cons pe_int pa_nil)) pa_nil))) (pe_one (pe_cal cs2 hr rfl (pa_cons (pe_ix ix_list (pv 2) pe_int (fun _ _ => rfl)) (pa_cons pe_int (pa_cons pe_int pa_nil)))))))) pss_nil)
      (pss_cons (ps_if (pt_cmpR op_eq (pv 1) pe_str (nomark _)) (pss_one (ps_ret (pe_cal cn2 hr rfl (pa_cons (pv 2) (pa_cons (pe_lst (pa_cons pe_int pa_nil)) pa_nil))))) pss_nil)
      (pss_cons (ps_if (PW.pt (pw_and (pt_cmpR op_eq (pv 1) pe_str (nomark _)) (pw_and1 (pt_cmpR op_eq (pe_callB call_lenT (by rfl) T.len PySem.boot_len (pa_cons (pv 2) pa_nil)) pe_int (nomark _))))) (pss_one (ps_ret (pe_and (pe_cmpR op_zIn (pe_ix ix_list (pv 2) pe_int (fun _ _ => rfl)) (pe_tup (pa_cons pe_str (pa_cons pe_str pa_nil))) rfl) (pe_one (pe_cal cs2 hr rfl (pa_cons (pe_ix ix_list (pv 2) pe_int (fun _ _ => rfl)) (pa_cons pe_int (pa_cons pe_int pa_nil)))))))) pss_nil)
      (pss_cons (ps_if (PW.pt (pw_and (pt_cmpR op_eq (pv 1) pe_str (nomark _)) (pw_and1 (pt_cmpR op_eq (pe_callB call_lenT (by rfl) T.len PySem.boot_len (pa_cons (pv 2) pa_nil)) pe_int (nomark _))))) (pss_one (ps_ret (pe_cal cs2 hr rfl (pa_cons (pe_ix ix_list (pv 2) pe_int (fun _ _ => rfl)) (pa_cons pe_int (pa_cons pe_int pa_nil)))))) pss_nil)
      (pss_cons (ps_if (pt_cmpR op_eq (pv 1) pe_str (nomark _)) (pss_one (ps_ret (pe_cal cn2 hr rfl (pa_cons (pv 2) (pa_cons (pe_lst (pa_cons pe_int (pa_cons pe_int pa_nil))) pa_nil))))) pss_nil)
      (pss_cons (ps_if (PW.pt (pw_and (pt_cmpR op_eq (pv 1) pe_str (nomark _)) (pw_and1 (pt_cmpR op_eq (pe_callB call_lenT (by rfl) T.len PySem.boot_len (pa_cons (pv 2) pa_nil)) pe_int (nomark _))))) (pss_one (ps_ret (pe_cal cs2 hr rfl (pa_cons (pe_ix ix_list (pv 2) pe_int (fun _ _ => rfl)) (pa_cons pe_int (pa_cons pe_int pa_nil)))))) pss_nil)
      (pss_cons (ps_if (pt_cmpR op_eq (pv 1) pe_str (nomark _)) (pss_one (ps_ret (pe_cal cn2 hr rfl (pa_cons (pv 2) (pa_cons (pe_lst (pa_cons pe_int pa_nil)) pa_nil))))) pss_nil)
      (pss_cons (ps_if (PW.pt (pw_and (pt_cmpR op_eq (pv 1) pe_str (nomark _)) (pw_and1 (pt_cmpR op_eq (pe_callB call_lenT (by rfl) T.len PySem.boot_len (pa_cons (pv 2) pa_nil)) pe_int (nomark _))))) (pss_one (ps_ret (pe_cal cr hr rfl (pa_cons (pe_ix ix_list (pv 2) pe_int (fun _ _ => rfl)) (pa_cons pe_int pa_nil))))) pss_nil)
      (pss_cons (ps_if (PW.pt (pw_and (pt_cmpR op_eq (pv 1) pe_str (nomark _)) (pw_and1 (pt_cmpR op_eq (pe_callB call_lenT (by rfl) T.len PySem.boot_len (pa_cons (pv 2) pa_nil)) pe_int (nomark _))))) (pss_one (ps_ret (pe_and (pe_cal cn2 hr rfl (pa_cons (pe_slice sl_zL (pv 2) po_none (po_some pe_int)) (pa_cons (pe_lst (pa_cons pe_int pa_nil)) pa_nil))) (pe_and (pe_cal cs2 hr rfl (pa_cons (pe_ix ix_list (pv 2) pe_int (fun _ _ => rfl)) (pa_cons pe_int (pa_cons pe_int pa_nil)))) (pe_one (pe_cal cr hr rfl (pa_cons (pe_ix ix_list (pv 2) pe_int (fun _ _ => rfl)) (pa_cons pe_int pa_nil)))))))) pss_nil)
      (pss_cons (ps_if (PW.pt (pw_and (pt_cmpR op_eq (pv 1) pe_str (nomark _)) (pw_and1 (pt_cmpR op_eq (pe_callB call_lenT (by rfl) T.len PySem.boot_len (pa_cons (pv 2) pa_nil)) pe_int (nomark _))))) (pss_one (ps_ret (pe_and (pe_cal cs2 hr rfl (pa_cons (pe_ix ix_list (pv 2) pe_int (fun _ _ => rfl)) (pa_cons pe_int (pa_cons pe_int pa_nil)))) (pe_one (pe_cal cr hr rfl (pa_cons (pe_ix ix_list (pv 2) pe_int (fun _ _ => rfl)) (pa_cons pe_int pa_nil))))))) pss_nil)
      (pss_cons (ps_set (i := 3) scLGood.nd rfl (Or.inl rfl) (pe_lst (pa_cons pe_str (pa_cons pe_str (pa_cons pe_str (pa_cons pe_str (pa_cons pe_str (pa_cons pe_str (pa_cons pe_str pa_nil)))))))))
      (pss_one (ps_ret (pe_and (pe_cmpR op_zIn (pv 1) (pe_op op_cat (pv 3) (pe_lst (pa_cons pe_str (pa_cons pe_str (pa_cons pe_str pa_nil))))) rfl) (pe_one (pe_cmpR (op_zEq hr.units) (pv 2) (pe_lst pa_nil) (nomark _)))))))))))))))))), ?_⟩
    obtain ⟨vs, hp, hv⟩ := hm
    cases hg with
    | @au a ds h0 h4 hd =>
      cases hv with | s r => cases r with | n r => cases r with | s r => cases r with | nil =>
      refine ⟨_, rfl, p, _, 0, _, rfl, rfl, hp, at_of (j := 0) rfl rfl, ?_⟩
      refine ⟨_, rfl, _, rfl, slTail hp fun t H1 s1 ht => ⟨t, _, rfl, Or.inr ht, fun l nl => ?_⟩⟩
      obtain ⟨H2, e2⟩ : ∃ H2, H2 = upd H1 l (.lst [V.int a, V.str (dstr ds)]) := ⟨_, rfl⟩
      have hl : H2 l = some (.lst [V.int a, V.str (dstr ds)]) := by rw [e2]; exact upd_same
      have s2 : Same H H2 := by rw [e2]; exact s1.new nl
      rw [← e2]
      refine t_yes rfl (iteT (t_len rfl hl rfl (iteT ?_)))
      refine ⟨_, rfl, _, rfl, slHead hl fun q H3 s3 hq => ⟨sz9, fun l2 n2 => ?_⟩⟩
      refine ⟨q, l2, [a], [4], rfl, Or.inl (SqL.of ((Same.new0 n2) _ _ hq)), SqL.of upd_same, rfl, by show 1 ≤ 1000; decide, nums1 h0 h4, true, rfl, iteT ?_⟩
      have s4 := s3.new (o := .lst [V.int 4]) n2
      exact ⟨_, rfl, l, _, 1, _, rfl, rfl, SqL.of (s4 _ _ hl), at_of (j := 1) rfl rfl, ds, 6, 15, rfl, hd, by decide, fun H5 s5 => kq _ ((s2.trans s4).trans s5)⟩
    | @aa a h0 h4 =>
      cases hv with | s r => cases r with | n r => cases r with | nil =>
      refine ⟨_, rfl, p, _, 0, _, rfl, rfl, hp, at_of (j := 0) rfl rfl, ?_⟩
      refine ⟨_, rfl, _, rfl, slTail hp fun t H1 s1 ht => ⟨t, _, rfl, Or.inr ht, fun l nl => ?_⟩⟩
      obtain ⟨H2, e2⟩ : ∃ H2, H2 = upd H1 l (.lst [V.int a]) := ⟨_, rfl⟩
      have hl : H2 l = some (.lst [V.int a]) := by rw [e2]; exact upd_same
      have s2 : Same H H2 := by rw [e2]; exact s1.new nl
      rw [← e2]
      refine t_no rfl (by decide +kernel) (iteF (iteF ?_))
      refine t_yes rfl (iteT ?_)
      refine ⟨_, rfl, sz9, fun l2 n2 => ?_⟩
      exact ⟨l, l2, [a], [4], rfl, Or.inl (SqL.of ((Same.new0 n2) _ _ hl)), SqL.of upd_same, rfl, by show 1 ≤ 1000; decide, nums1 h0 h4, kq _ (s2.new n2)⟩
    | @sc ds hd =>
      cases hv with | s r => cases r with | s r => cases r with | s r => cases r with | nil =>
      refine ⟨_, rfl, p, _, 0, _, rfl, rfl, hp, at_of (j := 0) rfl rfl, ?_⟩
      refine ⟨_, rfl, _, rfl, slTail hp fun t H1 s1 ht => ⟨t, _, rfl, Or.inr ht, fun l nl => ?_⟩⟩
      obtain ⟨H2, e2⟩ : ∃ H2, H2 = upd H1 l (.lst [V.str "call", V.str (dstr ds)]) := ⟨_, rfl⟩
      have hl : H2 l = some (.lst [V.str "call", V.str (dstr ds)]) := by rw [e2]; exact upd_same
      have s2 : Same H H2 := by rw [e2]; exact s1.new nl
      rw [← e2]
      refine t_no rfl (by decide +kernel) (iteF (iteF ?_))
      refine t_no rfl (by decide +kernel) (iteF ?_)
      refine t_yes rfl (iteT (t_len rfl hl rfl (iteT ?_)))
      refine ⟨_, rfl, l, _, 0, _, rfl, rfl, SqL.of hl, at_of (j := 0) rfl rfl, sz9, fun t2 n2 => ?_⟩
      refine inT (xs := [V.str "call", V.str "texts"]) (Or.inr (SqT.of upd_same)) rfl rfl (by decide +kernel) ⟨true, rfl, iteT ?_⟩
      have s4 : Same H2 (upd H2 t2 (.tup [V.str "call", V.str "texts"])) := Same.new0 n2
      exact ⟨_, rfl, l, _, 1, _, rfl, rfl, SqL.of (s4 _ _ hl), at_of (j := 1) rfl rfl, ds, 6, 15, rfl, hd, by decide, fun H5 s5 => kq _ ((s2.trans s4).trans s5)⟩
    | @st ds hd =>
      cases hv with | s r => cases r with | s r => cases r with | s r => cases r with | nil =>
      refine ⟨_, rfl, p, _, 0, _, rfl, rfl, hp, at_of (j := 0) rfl rfl, ?_⟩
      refine ⟨_, rfl, _, rfl, slTail hp fun t H1 s1 ht => ⟨t, _, rfl, Or.inr ht, fun l nl => ?_⟩⟩
      obtain ⟨H2, e2⟩ : ∃ H2, H2 = upd H1 l (.lst [V.str "texts", V.str (dstr ds)]) := ⟨_, rfl⟩
      have hl : H2 l = some (.lst [V.str "texts", V.str (dstr ds)]) := by rw [e2]; exact upd_same
      have s2 : Same H H2 := by rw [e2]; exact s1.new nl
      rw [← e2]
      refine t_no rfl (by decide +kernel) (iteF (iteF ?_))
      refine t_no rfl (by decide +kernel) (iteF ?_)
      refine t_yes rfl (iteT (t_len rfl hl rfl (iteT ?_)))
      refine ⟨_, rfl, l, _, 0, _, rfl, rfl, SqL.of hl, at_of (j := 0) rfl rfl, sz9, fun t2 n2 => ?_⟩
      refine inT (xs := [V.str "call", V.str "texts"]) (Or.inr (SqT.of upd_same)) rfl rfl (by decide +kernel) ⟨true, rfl, iteT ?_⟩
      have s4 : Same H2 (upd H2 t2 (.tup [V.str "call", V.str "texts"])) := Same.new0 n2
      exact ⟨_, rfl, l, _, 1, _, rfl, rfl, SqL.of (s4 _ _ hl), at_of (j := 1) rfl rfl, ds, 6, 15, rfl, hd, by decide, fun H5 s5 => kq _ ((s2.trans s4).trans s5)⟩
    | @pa ds hd =>
      cases hv with | s r => cases r with | s r => cases r with | nil =>
      refine ⟨_, rfl, p, _, 0, _, rfl, rfl, hp, at_of (j := 0) rfl rfl, ?_⟩
      refine ⟨_, rfl, _, rfl, slTail hp fun t H1 s1 ht => ⟨t, _, rfl, Or.inr ht, fun l nl => ?_⟩⟩
      obtain ⟨H2, e2⟩ : ∃ H2, H2 = upd H1 l (.lst [V.str (dstr ds)]) := ⟨_, rfl⟩
      have hl : H2 l = some (.lst [V.str (dstr ds)]) := by rw [e2]; exact upd_same
      have s2 : Same H H2 := by rw [e2]; exact s1.new nl
      rw [← e2]
      refine t_no rfl (by decide +kernel) (iteF (iteF ?_))
      refine t_no rfl (by decide +kernel) (iteF ?_)
      refine t_no rfl (by decide +kernel) (iteF (iteF ?_))
      refine t_yes rfl (iteT (t_len rfl hl rfl (iteT ?_)))
      exact ⟨_, rfl, l, _, 0, _, rfl, rfl, SqL.of hl, at_of (j := 0) rfl rfl, ds, 6, 15, rfl, hd, by decide, fun H5 s5 => kq _ (s2.trans s5)⟩
    | @ho a b h0 h4 g0 g6 =>
      cases hv with | s r => cases r with | n r => cases r with | n r => cases r with | nil =>
      refine ⟨_, rfl, p, _, 0, _, rfl, rfl, hp, at_of (j := 0) rfl rfl, ?_⟩
      refine ⟨_, rfl, _, rfl, slTail hp fun t H1 s1 ht => ⟨t, _, rfl, Or.inr ht, fun l nl => ?_⟩⟩
      obtain ⟨H2, e2⟩ : ∃ H2, H2 = upd H1 l (.lst [V.int a, V.int b]) := ⟨_, rfl⟩
      have hl : H2 l = some (.lst [V.int a, V.int b]) := by rw [e2]; exact upd_same
      have s2 : Same H H2 := by rw [e2]; exact s1.new nl
      rw [← e2]
      refine t_no rfl (by decide +kernel) (iteF (iteF ?_))
      refine t_no rfl (by decide +kernel) (iteF ?_)
      refine t_no rfl (by decide +kernel) (iteF (iteF ?_))
      refine t_no rfl (by decide +kernel) (iteF (iteF ?_))
      refine t_yes rfl (iteT ?_)
      refine ⟨_, rfl, sz9, fun l2 n2 => ?_⟩
      exact ⟨l, l2, [a, b], [4, 6], rfl, Or.inl (SqL.of ((Same.new0 n2) _ _ hl)), SqL.of upd_same, rfl, by show 2 ≤ 1000; decide, nums2 h0 h4 g0 g6, kq _ (s2.new n2)⟩
    | @su ds hd =>
      cases hv with | s r => cases r with | s r => cases r with | nil =>
      refine ⟨_, rfl, p, _, 0, _, rfl, rfl, hp, at_of (j := 0) rfl rfl, ?_⟩
      refine ⟨_, rfl, _, rfl, slTail hp fun t H1 s1 ht => ⟨t, _, rfl, Or.inr ht, fun l nl => ?_⟩⟩
      obtain ⟨H2, e2⟩ : ∃ H2, H2 = upd H1 l (.lst [V.str (dstr ds)]) := ⟨_, rfl⟩
      have hl : H2 l = some (.lst [V.str (dstr ds)]) := by rw [e2]; exact upd_same
      have s2 : Same H H2 := by rw [e2]; exact s1.new nl
      rw [← e2]
      refine t_no rfl (by decide +kernel) (iteF (iteF ?_))
      refine t_no rfl (by decide +kernel) (iteF ?_)
      refine t_no rfl (by decide +kernel) (iteF (iteF ?_))
      refine t_no rfl (by decide +kernel) (iteF (iteF ?_))
      refine t_no rfl (by decide +kernel) (iteF ?_)
      refine t_yes rfl (iteT (t_len rfl hl rfl (iteT ?_)))
      exact ⟨_, rfl, l, _, 0, _, rfl, rfl, SqL.of hl, at_of (j := 0) rfl rfl, ds, 1, 9, rfl, hd, by decide, fun H5 s5 => kq _ (s2.trans s5)⟩
    | @di c h0 h =>
      cases hv with | s r => cases r with | n r => cases r with | nil =>
      refine ⟨_, rfl, p, _, 0, _, rfl, rfl, hp, at_of (j := 0) rfl rfl, ?_⟩
      refine ⟨_, rfl, _, rfl, slTail hp fun t H1 s1 ht => ⟨t, _, rfl, Or.inr ht, fun l nl => ?_⟩⟩
      obtain ⟨H2, e2⟩ : ∃ H2, H2 = upd H1 l (.lst [V.int c]) := ⟨_, rfl⟩
      have hl : H2 l = some (.lst [V.int c]) := by rw [e2]; exact upd_same
      have s2 : Same H H2 := by rw [e2]; exact s1.new nl
      rw [← e2]
      refine t_no rfl (by decide +kernel) (iteF (iteF ?_))
      refine t_no rfl (by decide +kernel) (iteF ?_)
      refine t_no rfl (by decide +kernel) (iteF (iteF ?_))
      refine t_no rfl (by decide +kernel) (iteF (iteF ?_))
      refine t_no rfl (by decide +kernel) (iteF ?_)
      refine t_no rfl (by decide +kernel) (iteF (iteF ?_))
      refine t_yes rfl (iteT ?_)
      refine ⟨_, rfl, sz9, fun l2 n2 => ?_⟩
      exact ⟨l, l2, [c], [128], rfl, Or.inl (SqL.of ((Same.new0 n2) _ _ hl)), SqL.of upd_same, rfl, by show 1 ≤ 1000; decide, nums1 h0 h, kq _ (s2.new n2)⟩
    | @wo pt hpt =>
      cases hv with | s r => cases r with | @o q _ _ _ hq r => cases r with | nil =>
      refine ⟨_, rfl, p, _, 0, _, rfl, rfl, hp, at_of (j := 0) rfl rfl, ?_⟩
      refine ⟨_, rfl, _, rfl, slTail hp fun t H1 s1 ht => ⟨t, _, rfl, Or.inr ht, fun l nl => ?_⟩⟩
      obtain ⟨H2, e2⟩ : ∃ H2, H2 = upd H1 l (.lst [V.ref q]) := ⟨_, rfl⟩
      have hl : H2 l = some (.lst [V.ref q]) := by rw [e2]; exact upd_same
      have s2 : Same H H2 := by rw [e2]; exact s1.new nl
      rw [← e2]
      refine t_no rfl (by decide +kernel) (iteF (iteF ?_))
      refine t_no rfl (by decide +kernel) (iteF ?_)
      refine t_no rfl (by decide +kernel) (iteF (iteF ?_))
      refine t_no rfl (by decide +kernel) (iteF (iteF ?_))
      refine t_no rfl (by decide +kernel) (iteF ?_)
      refine t_no rfl (by decide +kernel) (iteF (iteF ?_))
      refine t_no rfl (by decide +kernel) (iteF ?_)
      refine t_yes rfl (iteT (t_len rfl hl rfl (iteT ?_)))
      exact ⟨_, rfl, l, _, 0, _, rfl, rfl, SqL.of hl, at_of (j := 0) rfl rfl, q, pt, 40, rfl, s2.seqT hq, hpt, by decide, fun H5 s5 => kq _ (s2.trans s5)⟩
    | @sb l0 ds pt h0 h hd hpt =>
      cases hv with | s r => cases r with | n r => cases r with | s r => cases r with | @o q _ _ _ hq r => cases r with | nil =>
      refine ⟨_, rfl, p, _, 0, _, rfl, rfl, hp, at_of (j := 0) rfl rfl, ?_⟩
      refine ⟨_, rfl, _, rfl, slTail hp fun t H1 s1 ht => ⟨t, _, rfl, Or.inr ht, fun l nl => ?_⟩⟩
      obtain ⟨H2, e2⟩ : ∃ H2, H2 = upd H1 l (.lst [V.int l0, V.str (dstr ds), V.ref q]) := ⟨_, rfl⟩
      have hl : H2 l = some (.lst [V.int l0, V.str (dstr ds), V.ref q]) := by rw [e2]; exact upd_same
      have s2 : Same H H2 := by rw [e2]; exact s1.new nl
      rw [← e2]
      refine t_no rfl (by decide +kernel) (iteF (iteF ?_))
      refine t_no rfl (by decide +kernel) (iteF ?_)
      refine t_no rfl (by decide +kernel) (iteF (iteF ?_))
      refine t_no rfl (by decide +kernel) (iteF (iteF ?_))
      refine t_no rfl (by decide +kernel) (iteF ?_)
      refine t_no rfl (by decide +kernel) (iteF (iteF ?_))
      refine t_no rfl (by decide +kernel) (iteF ?_)
      refine t_no rfl (by decide +kernel) (iteF (iteF ?_))
      refine t_yes rfl (iteT (t_len rfl hl rfl (iteT ?_)))
      refine ⟨_, rfl, _, rfl, slHead hl fun q2 H3 s3 hq2 => ⟨sz9, fun l2 n2 => ?_⟩⟩
      refine ⟨q2, l2, [l0], [12], rfl, Or.inl (SqL.of ((Same.new0 n2) _ _ hq2)), SqL.of upd_same, rfl, by show 1 ≤ 1000; decide, nums1 h0 h, true, rfl, iteT ?_⟩
      have s4 := s3.new (o := .lst [V.int 12]) n2
      refine ⟨_, rfl, l, _, 1, _, rfl, rfl, SqL.of (s4 _ _ hl), at_of (j := 1) rfl rfl, ds, 1, 9, rfl, hd, by decide, fun H5 s5 => ⟨true, rfl, iteT ?_⟩⟩
      have s6 := s4.trans s5
      exact ⟨_, rfl, l, _, 2, _, rfl, rfl, SqL.of (s6 _ _ hl), at_of (j := 2) rfl rfl, q, pt, 150, rfl, (s2.trans s6).seqT hq, hpt, by decide, fun H7 s7 => kq _ ((s2.trans s6).trans s7)⟩
    | @de ds pt hd hpt =>
      cases hv with | s r => cases r with | s r => cases r with | @o q _ _ _ hq r => cases r with | nil =>
      refine ⟨_, rfl, p, _, 0, _, rfl, rfl, hp, at_of (j := 0) rfl rfl, ?_⟩
      refine ⟨_, rfl, _, rfl, slTail hp fun t H1 s1 ht => ⟨t, _, rfl, Or.inr ht, fun l nl => ?_⟩⟩
      obtain ⟨H2, e2⟩ : ∃ H2, H2 = upd H1 l (.lst [V.str (dstr ds), V.ref q]) := ⟨_, rfl⟩
      have hl : H2 l = some (.lst [V.str (dstr ds), V.ref q]) := by rw [e2]; exact upd_same
      have s2 : Same H H2 := by rw [e2]; exact s1.new nl
      rw [← e2]
      refine t_no rfl (by decide +kernel) (iteF (iteF ?_))
      refine t_no rfl (by decide +kernel) (iteF ?_)
      refine t_no rfl (by decide +kernel) (iteF (iteF ?_))
      refine t_no rfl (by decide +kernel) (iteF (iteF ?_))
      refine t_no rfl (by decide +kernel) (iteF ?_)
      refine t_no rfl (by decide +kernel) (iteF (iteF ?_))
      refine t_no rfl (by decide +kernel) (iteF ?_)
      refine t_no rfl (by decide +kernel) (iteF (iteF ?_))
      refine t_no rfl (by decide +kernel) (iteF (iteF ?_))
      refine t_yes rfl (iteT (t_len rfl hl rfl (iteT ?_)))
      refine ⟨_, rfl, l, _, 0, _, rfl, rfl, SqL.of hl, at_of (j := 0) rfl rfl, ds, 1, 9, rfl, hd, by decide, fun H5 s6 => ⟨true, rfl, iteT ?_⟩⟩
      exact ⟨_, rfl, l, _, 1, _, rfl, rfl, SqL.of (s6 _ _ hl), at_of (j := 1) rfl rfl, q, pt, 150, rfl, (s2.trans s6).seqT hq, hpt, by decide, fun H7 s7 => kq _ ((s2.trans s6).trans s7)⟩
    | @pl z os hz =>
      cases hv with | s r => cases r with | nil =>
      have nz : ∀ k, k ∈ kinds10 → z ≠ k := by
        intro k hk e
        have : (plains.all fun p => !kinds10.contains p.1) = true := by decide +kernel
        have q := List.all_eq_true.mp this _ hz
        rw [e, List.contains_iff_mem.mpr hk] at q
        cases q
      refine ⟨_, rfl, p, _, 0, _, rfl, rfl, hp, at_of (j := 0) rfl rfl, ?_⟩
      refine ⟨_, rfl, _, rfl, slTail hp fun t H1 s1 ht => ⟨t, _, rfl, Or.inr ht, fun l nl => ?_⟩⟩
      obtain ⟨H2, e2⟩ : ∃ H2, H2 = upd H1 l (.lst []) := ⟨_, rfl⟩
      have hl : H2 l = some (.lst []) := by rw [e2]; exact upd_same
      have s2 : Same H H2 := by rw [e2]; exact s1.new nl
      rw [← e2]
      refine t_no rfl (nz _ (by decide +kernel)) (iteF (iteF ?_))
      refine t_no rfl (nz _ (by decide +kernel)) (iteF ?_)
      refine t_no rfl (nz _ (by decide +kernel)) (iteF (iteF ?_))
      refine t_no rfl (nz _ (by decide +kernel)) (iteF (iteF ?_))
      refine t_no rfl (nz _ (by decide +kernel)) (iteF ?_)
      refine t_no rfl (nz _ (by decide +kernel)) (iteF (iteF ?_))
      refine t_no rfl (nz _ (by decide +kernel)) (iteF ?_)
      refine t_no rfl (nz _ (by decide +kernel)) (iteF (iteF ?_))
      refine t_no rfl (nz _ (by decide +kernel)) (iteF (iteF ?_))
      refine t_no rfl (nz _ (by decide +kernel)) (iteF (iteF ?_))
      refine ⟨sz9, fun l2 n2 => ?_⟩
      refine ⟨_, rfl, _, rfl, sz9, fun l3 n3 => ⟨l2, l3, _, _, rfl, rfl, look2 n3, upd_same, size_of (by show 10 ≤ 100000; decide), fun l4 n4 => ?_⟩⟩
      refine inT (Or.inl (SqL.of upd_same)) rfl (by decide +kernel) (List.all_eq_true.mp plain_kinds _ hz) ⟨true, rfl, iteT ?_⟩
      refine ⟨_, rfl, sz9, fun l5 n5 => ?_⟩
      exact eqE ((((((Same.new0 n2).new n3).new n4).new n5) _ _ hl)) upd_same (kq _ ((((s2.new n2).new n3).new n4).new n5))
end
end Mq
namespace Mq
open PySem PySem.Spec PyProof.Rows L2
/-! ### what the octets of a good message look like -/
structure Shp (k j : Int) (r : List Int) : Prop where
  ho : k = 6 → j = 43 → ∃ a b, r = [a, b] ∧ 0 ≤ a ∧ a < 4 ∧ 0 ≤ b ∧ b < 6
  di : k = 3 → j = 37 → ∃ c, r = [c] ∧ 0 ≤ c ∧ c < 128
  wo : k = 3 → j = 60 → Part 40 r
  aa : k = 5 → j = 2 → ∃ a, r = areaO a ∧ 0 ≤ a ∧ a < 4
  su : k = 3 → j = 5 → ∃ ds, r = num ds ∧ Dgs 1 9 ds
  sb : k = 9 → j = 1 → ∃ l ds pt, r = l :: partO ds pt ∧ 0 ≤ l ∧ l < 12 ∧ Dgs 1 9 ds ∧ Part 150 pt
  de : k = 9 → j = 2 → ∃ ds pt, r = partO ds pt ∧ Dgs 1 9 ds ∧ Part 150 pt
theorem plains_shp : ∀ p ∈ plains, ∀ k j r, p.2 = k :: j :: r → Shp k j r := by
  intro p hp k j r e
  simp only [plains, List.mem_cons, List.not_mem_nil, or_false] at hp
  rcases hp with rfl | rfl | rfl | rfl | rfl | rfl | rfl | rfl | rfl | rfl <;> (obtain ⟨rfl, e2⟩ := List.cons.inj e; obtain ⟨rfl, rfl⟩ := List.cons.inj e2) <;> constructor <;> intro a b <;> first | exact absurd a (by decide) | exact absurd b (by decide)
theorem good_shp {m : List Pt} {os : List Int} (h : Good m os) : ∀ k j r, os = k :: j :: r → Shp k j r := by
  intro k j r e
  cases h
  case pl z hz => exact plains_shp _ hz k j r e
  all_goals (obtain ⟨rfl, e2⟩ := List.cons.inj e; obtain ⟨rfl, rfl⟩ := List.cons.inj e2)
  all_goals constructor
  all_goals intro a b
  all_goals first | exact absurd a (by decide) | exact absurd b (by decide) | assumption | exact ⟨_, rfl, by assumption⟩ | exact ⟨_, rfl, by assumption, by assumption⟩ | exact ⟨_, _, rfl, by assumption, by assumption⟩ | exact ⟨_, _, rfl, by assumption, by assumption, by assumption, by assumption⟩ | exact ⟨_, _, _, rfl, by assumption, by assumption, by assumption, by assumption⟩
/-- a row that is no good message -/
structure Bad (os : List Int) : Prop where
  oc : Oc os
  len : os.length ≤ 700
  no : ∀ m, ¬ Good m os
section
variable {far : Int} {ds ds' : List Nat}
theorem bad0 (f0 : 0 ≤ far) (f1 : far < 100) : Bad [6, 43, 4 + far, 0] := by
  refine ⟨Oc.cons (by omega) (Oc.cons (by omega) (Oc.cons (by omega) (Oc.cons (by omega) Oc.nil))), by show 4 ≤ 700; decide, fun m h => ?_⟩
  obtain ⟨a, b, e, h1, h2, _⟩ := (good_shp h _ _ _ rfl).ho rfl rfl
  have := (List.cons.inj e).1
  omega
theorem bad1 (f0 : 0 ≤ far) (f1 : far < 100) : Bad [6, 43, 0, 6 + far] := by
  refine ⟨Oc.cons (by omega) (Oc.cons (by omega) (Oc.cons (by omega) (Oc.cons (by omega) Oc.nil))), by show 4 ≤ 700; decide, fun m h => ?_⟩
  obtain ⟨a, b, e, _, _, h1, h2⟩ := (good_shp h _ _ _ rfl).ho rfl rfl
  have := (List.cons.inj (List.cons.inj e).2).1
  omega
theorem bad2 (f0 : 0 ≤ far) (f1 : far < 100) : Bad [3, 37, 128 + far] := by
  refine ⟨Oc.cons (by omega) (Oc.cons (by omega) (Oc.cons (by omega) Oc.nil)), by show 3 ≤ 700; decide, fun m h => ?_⟩
  obtain ⟨c, e, _, h1⟩ := (good_shp h _ _ _ rfl).di rfl rfl
  have := (List.cons.inj e).1
  omega
theorem bad3 : Bad [3, 60] := by
  refine ⟨Oc.cons (by omega) (Oc.cons (by omega) Oc.nil), by show 2 ≤ 700; decide, fun m h => ?_⟩
  have := ((good_shp h _ _ _ rfl).wo rfl rfl).lo
  exact absurd this (by decide)
theorem bad4 (f0 : 0 ≤ far) (f1 : far < 100) : Bad [5, 2, 0, 241, 16, 0, 4 + far] := by
  refine ⟨Oc.cons (by omega) (Oc.cons (by omega) (Oc.cons (by omega) (Oc.cons (by omega) (Oc.cons (by omega) (Oc.cons (by omega) (Oc.cons (by omega) Oc.nil)))))), by show 7 ≤ 700; decide, fun m h => ?_⟩
  obtain ⟨a, e, _, h1⟩ := (good_shp h _ _ _ rfl).aa rfl rfl
  have := (List.cons.inj (List.cons.inj (List.cons.inj (List.cons.inj (List.cons.inj e).2).2).2).2).1
  omega
theorem bad5 (f0 : 0 ≤ far) (f1 : far < 100) {n : Nat} (hn : 41 ≤ n) (hm : n ≤ 150) : Bad ([3, 60] ++ List.replicate n far) := by
  refine ⟨(Oc.cons (by omega) (Oc.cons (by omega) Oc.nil)).append (Oc.replicate (by omega)), by rw [List.length_append, List.length_replicate]; show 2 + n ≤ 700; omega, fun m h => ?_⟩
  have := ((good_shp h _ _ _ rfl).wo rfl rfl).hi
  rw [show (([] : List Int).append (List.replicate n far)) = List.replicate n far from rfl, List.length_replicate] at this
  omega
theorem bad6 (hd : Dgs 10 18 ds) : Bad ([3, 5] ++ num ds) := by
  have l1 := hd.hi
  have l2 := num_len ds
  refine ⟨(Oc.cons (by omega) (Oc.cons (by omega) Oc.nil)).append (num_oc hd.dg), by rw [List.length_append]; show 2 + _ ≤ 700; omega, fun m h => ?_⟩
  obtain ⟨es, e, he⟩ := (good_shp h _ _ _ rfl).su rfl rfl
  have q := num_inj hd.dg he.dg e
  have := hd.lo
  have := he.hi
  rw [← q] at this
  omega
theorem bad7 (f0 : 0 ≤ far) (f1 : far < 100) (hd : Dgs 1 9 ds) : Bad ([9, 1, 12 + far, ((num ds).length : Int)] ++ num ds ++ [far]) := by
  have l1 := hd.hi
  have l2 := num_len ds
  refine ⟨((Oc.cons (by omega) (Oc.cons (by omega) (Oc.cons (by omega) (Oc.cons (by omega) Oc.nil)))).append (num_oc hd.dg)).append (Oc.cons (by omega) Oc.nil), by rw [List.length_append, List.length_append]; show 4 + _ + 1 ≤ 700; omega, fun m h => ?_⟩
  obtain ⟨l, es, pt, e, h0, h1, _⟩ := (good_shp h _ _ _ rfl).sb rfl rfl
  have := (List.cons.inj e).1
  omega
theorem bad8 (hd : Dgs 1 9 ds) : Bad ([9, 2, ((num ds).length : Int)] ++ num ds) := by
  have l1 := hd.hi
  have l2 := num_len ds
  refine ⟨(Oc.cons (by omega) (Oc.cons (by omega) (Oc.cons (by omega) Oc.nil))).append (num_oc hd.dg), by rw [List.length_append]; show 3 + _ ≤ 700; omega, fun m h => ?_⟩
  obtain ⟨es, pt, e, he, hp⟩ := (good_shp h _ _ _ rfl).de rfl rfl
  have q1 := (List.cons.inj e).1
  have q2 : num ds = num es ++ pt := (List.cons.inj e).2
  have q3 := congrArg List.length q2
  rw [List.length_append] at q3
  have := hp.lo
  omega
theorem bad9 (f0 : 0 ≤ far) (f1 : far < 100) {n : Nat} (hn : 151 ≤ n) (hm : n ≤ 260) (hd : Dgs 1 9 ds) : Bad ([9, 2, ((num ds).length : Int)] ++ num ds ++ List.replicate n far) := by
  have l1 := hd.hi
  have l2 := num_len ds
  refine ⟨((Oc.cons (by omega) (Oc.cons (by omega) (Oc.cons (by omega) Oc.nil))).append (num_oc hd.dg)).append (Oc.replicate (by omega)), by rw [List.length_append, List.length_append, List.length_replicate]; show 3 + _ + n ≤ 700; omega, fun m h => ?_⟩
  obtain ⟨es, pt, e, he, hp⟩ := (good_shp h _ _ _ rfl).de rfl rfl
  have q1 := (List.cons.inj e).1
  have q2 : num ds ++ List.replicate n far = num es ++ pt := (List.cons.inj e).2
  have q3 := congrArg List.length q2
  rw [List.length_append, List.length_append, List.length_replicate] at q3
  have := hp.hi
  omega
theorem bad10 (f0 : 0 ≤ far) (f1 : far < 100) (hd : Dgs 18 18 ds) : Bad ([9, 1, 0, 10] ++ num ds ++ [far]) := by
  have l1 := hd.hi
  have l2 := num_len ds
  refine ⟨((Oc.cons (by omega) (Oc.cons (by omega) (Oc.cons (by omega) (Oc.cons (by omega) Oc.nil)))).append (num_oc hd.dg)).append (Oc.cons (by omega) Oc.nil), by rw [List.length_append, List.length_append]; show 4 + _ + 1 ≤ 700; omega, fun m h => ?_⟩
  obtain ⟨l, es, pt, e, h0, h1, he, _⟩ := (good_shp h _ _ _ rfl).sb rfl rfl
  have q : (10 : Int) = ((num es).length : Int) := (List.cons.inj (List.cons.inj e).2).1
  have := num_len es
  have := he.hi
  omega
end
/-! ### the list of rows, as it grows -/
structure RW (H0 Hk : Hp) (lr : Addr) (n : Nat) : Prop where
  ex : ∃ as : List Addr, Hk lr = some (.lst (as.map V.ref)) ∧ as.length = n ∧ ∀ a ∈ as, ∃ os, LsI Hk a os ∧ Bad os
  s : Same H0 Hk
  nr : H0 lr = none
theorem RW.start {H : Hp} {p0 p1 p2 p3 p4 lr : Addr} {o0 o1 o2 o3 o4 : List Int} (n0 : H p0 = none) (n1 : (upd H p0 (.lst (o0.map V.int))) p1 = none) (n2 : (upd (upd H p0 (.lst (o0.map V.int))) p1 (.lst (o1.map V.int))) p2 = none)
    (n3 : (upd (upd (upd H p0 (.lst (o0.map V.int))) p1 (.lst (o1.map V.int))) p2 (.lst (o2.map V.int))) p3 = none) (n4 : (upd (upd (upd (upd H p0 (.lst (o0.map V.int))) p1 (.lst (o1.map V.int))) p2 (.lst (o2.map V.int))) p3 (.lst (o3.map V.int))) p4 = none)
    (nr : (upd (upd (upd (upd (upd H p0 (.lst (o0.map V.int))) p1 (.lst (o1.map V.int))) p2 (.lst (o2.map V.int))) p3 (.lst (o3.map V.int))) p4 (.lst (o4.map V.int))) lr = none)
    (b0 : Bad o0) (b1 : Bad o1) (b2 : Bad o2) (b3 : Bad o3) (b4 : Bad o4) :
    RW H (upd (upd (upd (upd (upd (upd H p0 (.lst (o0.map V.int))) p1 (.lst (o1.map V.int))) p2 (.lst (o2.map V.int))) p3 (.lst (o3.map V.int))) p4 (.lst (o4.map V.int))) lr (.lst [.ref p0, .ref p1, .ref p2, .ref p3, .ref p4])) lr 5 := by
  have s5 := ((((Same.new0 (o := .lst (o0.map V.int)) n0).new (o := .lst (o1.map V.int)) n1).new (o := .lst (o2.map V.int)) n2).new (o := .lst (o3.map V.int)) n3).new (o := .lst (o4.map V.int)) n4
  refine ⟨⟨[p0, p1, p2, p3, p4], upd_same, rfl, ?_⟩, s5.new nr, ?_⟩
  · intro a ha
    simp only [List.mem_cons, List.not_mem_nil, or_false] at ha
    rcases ha with rfl | rfl | rfl | rfl | rfl
    · exact ⟨o0, (((((Same.new0 n1).new n2).new n3).new n4).new nr) _ _ upd_same, b0⟩
    · exact ⟨o1, ((((Same.new0 n2).new n3).new n4).new nr) _ _ upd_same, b1⟩
    · exact ⟨o2, (((Same.new0 n3).new n4).new nr) _ _ upd_same, b2⟩
    · exact ⟨o3, ((Same.new0 n4).new nr) _ _ upd_same, b3⟩
    · exact ⟨o4, (Same.new0 nr) _ _ upd_same, b4⟩
  · cases e : H lr with
    | none => rfl
    | some u => rw [s5 _ _ e] at nr; cases nr
theorem RW.sub {H0 Hk H' : Hp} {lr p : Addr} {n : Nat} {os : List Int} (r : RW H0 Hk lr (n + 1)) (s : Same Hk H') (hp : LsI H' p os) (hb : Bad os) :
    ∃ xs, H' lr = some (.lst xs) ∧ xs.length = n + 1 ∧ RW H0 (upd H' lr (.lst (xs ++ [.ref p]))) lr (n + 2) ∧ ∀ b ks, LsI H' b ks → LsI (upd H' lr (.lst (xs ++ [.ref p]))) b ks := by
  obtain ⟨as, h1, h2, h3⟩ := r.ex
  have ne : ∀ a os', LsI H' a os' → a ≠ lr := by
    intro a os' ha e
    rw [e] at ha
    have q := HO.lst.inj (Option.some.inj (ha.symm.trans (s _ _ h1)))
    match as, os', h2, q with
    | b :: bs, o :: os', _, q => cases (List.cons.inj q).1
    | b :: bs, [], _, q => cases q
  have kp : ∀ b ks, LsI H' b ks → LsI (upd H' lr (.lst (as.map V.ref ++ [.ref p]))) b ks := by
    intro b ks hb
    unfold LsI
    rw [upd_ne (ne b ks hb)]
    exact hb
  refine ⟨as.map V.ref, s _ _ h1, by rw [List.length_map]; exact h2, ⟨⟨as ++ [p], ?_, by rw [List.length_append, h2]; rfl, ?_⟩, (r.s.trans s).mut r.nr, r.nr⟩, kp⟩
  · rw [upd_same, List.map_append]
    rfl
  · intro a ha
    rcases (List.mem_append.mp ha) with ha | ha
    · obtain ⟨os', g1, g2⟩ := h3 a ha
      exact ⟨os', kp _ _ (s _ _ g1), g2⟩
    · rw [(List.mem_singleton.mp ha)]
      exact ⟨os, kp _ _ hp, hb⟩
section
variable {P : Program} {w : World} {K : KF} {mg : Str → Option Value} {base : Heap} {C : Addr}
/-! ### _law_beyond -/
abbrev sLBey : Stmt := topS 53
abbrev nLBey : List Str := ["_law_value", "_law_far", "_law_rows", "_law_number_here", "_law_spare"]
theorem scLBey : FnScope nLBey ["_law_value"] (defScope sLBey) := ⟨rfl, rfl, rfl, by decide +kernel, rfl, by decide +kernel, by decide +kernel⟩
theorem cal_lbey (T : Txt K mg C) (cd : Cal P w K mg base 1 "_law_digits" ["_law_value", "_law_least", "_law_most"] spLDig) (cn : Cal P w K mg base 2 "_law_number" ["_law_digits_here"] spLNum) {f : Addr} {fd : FuncData} (D : Def K mg "_law_beyond" sLBey ["_law_value"] f fd) :
    Cal P w K mg base 3 "_law_beyond" ["_law_value"] spLBey := by
  refine D.cal scLBey (fun vs H Q E h => ?_) (fun cdv A outer s H vs Q E hr h => ?_)
  · obtain ⟨v, rfl, _⟩ := h
    rfl
  · obtain ⟨v, rfl, v0, kq⟩ := h
    have cd2 := cd.up (k := 2) (by decide)
    refine ⟨_, pss_cons (ps_set (i := 1) scLBey.nd rfl (Or.inr rfl) (pe_op op_mod (pv 0) pe_int))
      (pss_cons (ps_set (i := 2) scLBey.nd rfl (Or.inl rfl) (pe_lst (pa_cons (pe_lst (pa_cons pe_int (pa_cons pe_int (pa_cons (pe_op op_add pe_int (pv 1)) (pa_cons pe_int pa_nil))))) (pa_cons (pe_lst (pa_cons pe_int (pa_cons pe_int (pa_cons pe_int (pa_cons (pe_op op_add pe_int (pv 1)) pa_nil))))) (pa_cons (pe_lst (pa_cons pe_int (pa_cons pe_int (pa_cons (pe_op op_add pe_int (pv 1)) pa_nil)))) (pa_cons (pe_lst (pa_cons pe_int (pa_cons pe_int pa_nil))) (pa_cons (pe_lst (pa_cons pe_int (pa_cons pe_int (pa_cons pe_int (pa_cons pe_int (pa_cons pe_int (pa_cons pe_int (pa_cons (pe_op op_add pe_int (pv 1)) pa_nil)))))))) pa_nil)))))))
      (pss_cons (ps_expr (pe_bm PySem.F.plainAttrs_list PySem.F.slot_list_append PySem.F.type_list_append mt_append (pv 2) (pa_cons (pe_op op_zCatL (pe_lst (pa_cons pe_int (pa_cons pe_int pa_nil)))
          (pe_lc (own := [("_law_spare", 4)]) (g := gName 4) (tt := tYes) (by rfl) scLBey.nd (pi_range1 (by rfl) T.range (pa_cons (pe_op op_add pe_int (pv 1)) pa_nil)) (blkOk_by (N := nLBey) (sc := defScope sLBey) (by decide +kernel))
            (fun _ _ _ _ _ => pg_name (i := 4) scLBey.nd rfl (Or.inl rfl)) (fun _ _ _ _ _ => pts_nil) (fun _ _ _ _ _ => (pv 1)))) pa_nil)))
      (pss_cons (ps_expr (pe_bm PySem.F.plainAttrs_list PySem.F.slot_list_append PySem.F.type_list_append mt_append (pv 2) (pa_cons (pe_op op_zCatL (pe_lst (pa_cons pe_int (pa_cons pe_int pa_nil)))
          (pe_cal cn hr rfl (pa_cons (pe_cal cd2 hr rfl (pa_cons (pv 0) (pa_cons pe_int (pa_cons pe_int pa_nil)))) pa_nil))) pa_nil)))
      (pss_cons (ps_set (i := 3) scLBey.nd rfl (Or.inl rfl) (pe_cal cn hr rfl (pa_cons (pe_cal cd2 hr rfl (pa_cons (pv 0) (pa_cons pe_int (pa_cons pe_int pa_nil)))) pa_nil)))
      (pss_cons (ps_expr (pe_bm PySem.F.plainAttrs_list PySem.F.slot_list_append PySem.F.type_list_append mt_append (pv 2) (pa_cons (pe_op op_zCatL (pe_op op_zCatL (pe_lst (pa_cons pe_int (pa_cons pe_int (pa_cons (pe_op op_add pe_int (pv 1)) (pa_cons (pe_callB call_lenT (by rfl) T.len PySem.boot_len (pa_cons (pv 3) pa_nil)) pa_nil))))) (pv 3)) (pe_lst (pa_cons (pv 1) pa_nil))) pa_nil)))
      (pss_cons (ps_expr (pe_bm PySem.F.plainAttrs_list PySem.F.slot_list_append PySem.F.type_list_append mt_append (pv 2) (pa_cons (pe_op op_zCatL (pe_lst (pa_cons pe_int (pa_cons pe_int (pa_cons (pe_callB call_lenT (by rfl) T.len PySem.boot_len (pa_cons (pv 3) pa_nil)) pa_nil)))) (pv 3)) pa_nil)))
      (pss_cons (ps_expr (pe_bm PySem.F.plainAttrs_list PySem.F.slot_list_append PySem.F.type_list_append mt_append (pv 2) (pa_cons (pe_op op_zCatL (pe_op op_zCatL (pe_lst (pa_cons pe_int (pa_cons pe_int (pa_cons (pe_callB call_lenT (by rfl) T.len PySem.boot_len (pa_cons (pv 3) pa_nil)) pa_nil)))) (pv 3))
          (pe_lc (own := [("_law_spare", 4)]) (g := gName 4) (tt := tYes) (by rfl) scLBey.nd (pi_range1 (by rfl) T.range (pa_cons (pe_op op_add pe_int (pv 1)) pa_nil)) (blkOk_by (N := nLBey) (sc := defScope sLBey) (by decide +kernel))
            (fun _ _ _ _ _ => pg_name (i := 4) scLBey.nd rfl (Or.inl rfl)) (fun _ _ _ _ _ => pts_nil) (fun _ _ _ _ _ => (pv 1)))) pa_nil)))
      (pss_cons (ps_expr (pe_bm PySem.F.plainAttrs_list PySem.F.slot_list_append PySem.F.type_list_append mt_append (pv 2) (pa_cons (pe_op op_zCatL (pe_op op_zCatL (pe_lst (pa_cons pe_int (pa_cons pe_int (pa_cons pe_int (pa_cons pe_int pa_nil))))) (pe_cal cn hr rfl (pa_cons (pe_cal cd2 hr rfl (pa_cons (pv 0) (pa_cons pe_int (pa_cons pe_int pa_nil)))) pa_nil))) (pe_lst (pa_cons (pv 1) pa_nil))) pa_nil)))
      (pss_one (ps_ret (pe_ix ix_list (pv 2) (pe_op op_mod (pe_op op_fdiv (pv 0) pe_int) pe_int) (fun _ _ => rfl)))))))))))), ?_⟩
    -- far
    refine ⟨_, rfl, _, _, rfl, rfl, (by show (0 : Int) < 100; decide), ?_⟩
    have f0 : 0 ≤ v % 100 := Int.emod_nonneg _ (by decide)
    have f1 : v % 100 < 100 := Int.emod_lt_of_pos _ (by decide)
    dsimp only
    revert f0 f1
    generalize v % 100 = far
    intro f0 f1
    -- the first rows
    refine ⟨_, rfl, _, _, rfl, rfl, sz9, fun p0 n0 => ⟨_, rfl, _, _, rfl, rfl, sz9, fun p1 n1 => ⟨_, rfl, _, _, rfl, rfl, sz9, fun p2 n2 => ⟨sz9, fun p3 n3 => ⟨_, rfl, _, _, rfl, rfl, sz9, fun p4 n4 => ⟨sz9, fun lr nr => ?_⟩⟩⟩⟩⟩⟩
    dsimp only at n1 n2 n3 n4 nr ⊢
    generalize e5 : upd _ lr _ = H5
    have r5 : RW H H5 lr 5 := by
      rw [← e5]
      exact RW.start (o0 := [6, 43, 4 + far, 0]) (o1 := [6, 43, 0, 6 + far]) (o2 := [3, 37, 128 + far]) (o3 := [3, 60]) (o4 := [5, 2, 0, 241, 16, 0, 4 + far]) n0 n1 n2 n3 n4 nr (bad0 f0 f1) (bad1 f0 f1) (bad2 f0 f1) bad3 (bad4 f0 f1)
    clear e5
    -- 5
    obtain ⟨as5, w5, _, _⟩ := r5.ex
    refine ⟨_, rfl, Or.inl ⟨rfl, _, SqL.of w5⟩, sz9, fun q nq => ⟨_, rfl, _, _, rfl, rfl, _, rfl, by omega, by omega, fun Dl nD => lc_range (lo := 0) (n := (41 + far).toNat) (fun i H' => Same (upd H5 q (.lst [V.int 3, V.int 60])) H' ∧ LsI H' Dl (List.replicate i far)) ⟨Same.new0 nD, upd_same⟩ ?_ ?_⟩⟩
    · rintro i H2 hi ⟨s2, g2⟩
      refine ⟨rfl, _, rfl, _, g2, size_lt (by rw [List.length_map, List.length_replicate]; omega), s2.mut nD, ?_⟩
      unfold LsI
      rw [upd_same, List.replicate_succ', List.map_append]
      rfl
    rintro Ha ⟨sa, ga⟩
    refine catL (os := [3, 60]) (sa _ _ upd_same) ga (by rw [List.length_replicate]; show 2 + _ ≤ 100000; omega) fun p6 H6 s6 g6 => ?_
    obtain ⟨xs6, x6, y6, r6, _⟩ := r5.sub ((Same.new0 nq).trans (sa.trans s6)) g6 (bad5 f0 f1 (by omega) (by omega))
    refine ⟨lr, _, _, rfl, rfl, x6, size_lt (by omega), ?_⟩
    revert r6
    generalize upd H6 lr _ = H7
    intro r7
    -- 6
    obtain ⟨as7, w7, _, _⟩ := r7.ex
    refine ⟨_, rfl, Or.inl ⟨rfl, _, SqL.of w7⟩, sz9, fun q nq => ⟨_, rfl, v, 10, 18, rfl, by decide, by decide, fun ds hd => ⟨ds, rfl, hd.dg, hd.len, fun n2 H8 s8 g8 => ?_⟩⟩⟩
    refine catL (os := [3, 5]) (s8 _ _ upd_same) g8 (by have := num_len ds; have := hd.hi; show 2 + _ ≤ 100000; omega) fun p9 H9 s9 g9 => ?_
    obtain ⟨xs9, x9, y9, r9, _⟩ := r7.sub ((Same.new0 nq).trans (s8.trans s9)) g9 (bad6 hd)
    refine ⟨lr, _, _, rfl, rfl, x9, size_lt (by omega), ?_⟩
    revert r9
    generalize upd H9 lr _ = H10
    intro r10
    -- the number
    refine ⟨_, rfl, v, 1, 9, rfl, by decide, by decide, fun ds hd => ⟨ds, rfl, hd.dg, hd.len, fun nu H11 s11 g11 => ?_⟩⟩
    have nl := num_len ds
    have hh := hd.hi
    have el : ((num ds).map V.int).length = (num ds).length := List.length_map _
    have r11 : RW H H11 lr 7 := by
      obtain ⟨as, q1, q2, q3⟩ := r10.ex
      exact ⟨⟨as, s11 _ _ q1, q2, fun a ha => let ⟨os, u1, u2⟩ := q3 a ha; ⟨os, s11 _ _ u1, u2⟩⟩, r10.s.trans s11, r10.nr⟩
    clear r10
    -- 7
    obtain ⟨as12, w12, _, _⟩ := r11.ex
    refine ⟨_, rfl, Or.inl ⟨rfl, _, SqL.of w12⟩, _, rfl, _, _, rfl, rfl, _, rfl, lenL (SqL.of g11) ⟨sz9, fun q nq => ?_⟩⟩
    rw [el]
    have g12 : LsI (upd H11 q (.lst [V.int 9, V.int 1, V.int (12 + far), V.int ((num ds).length : Int)])) nu (num ds) := (Same.new0 nq) _ _ g11
    refine ⟨_, rfl, catL (os := [9, 1, 12 + far, ((num ds).length : Int)]) upd_same g12 (by show 4 + _ ≤ 100000; omega) fun p13 H13 s13 g13 => ⟨_, rfl, sz9, fun p14 n14 => ?_⟩⟩
    refine catL (cs := [far]) ((Same.new0 n14) _ _ g13) upd_same (by rw [List.length_append]; show 4 + _ + 1 ≤ 100000; omega) fun p15 H15 s15 g15 => ?_
    have t15 := (Same.new0 nq).trans (s13.trans ((Same.new0 n14).trans s15))
    obtain ⟨xs15, x15, y15, r15, kp15⟩ := r11.sub t15 g15 (bad7 f0 f1 hd)
    have gn := kp15 _ _ (t15 _ _ g11)
    refine ⟨lr, _, _, rfl, rfl, x15, size_lt (by omega), ?_⟩
    clear kp15
    revert r15 gn
    generalize upd H15 lr _ = H16
    intro r16 g16
    -- 8
    obtain ⟨as16, w16, _, _⟩ := r16.ex
    refine ⟨_, rfl, Or.inl ⟨rfl, _, SqL.of w16⟩, _, rfl, lenL (SqL.of g16) ⟨sz9, fun q8 nq8 => ?_⟩⟩
    rw [el]
    have g17 : LsI (upd H16 q8 (.lst [V.int 9, V.int 2, V.int ((num ds).length : Int)])) nu (num ds) := (Same.new0 nq8) _ _ g16
    refine ⟨_, rfl, catL (os := [9, 2, ((num ds).length : Int)]) upd_same g17 (by show 3 + _ ≤ 100000; omega) fun p18 H18 s18 g18 => ?_⟩
    have t18 := (Same.new0 nq8).trans s18
    obtain ⟨xs18, x18, y18, r18, kp18⟩ := r16.sub t18 g18 (bad8 hd)
    have gn := kp18 _ _ (t18 _ _ g16)
    refine ⟨lr, _, _, rfl, rfl, x18, size_lt (by omega), ?_⟩
    clear kp18
    revert r18 gn
    generalize upd H18 lr _ = H19
    intro r19 g19
    -- 9
    obtain ⟨as19, w19, _, _⟩ := r19.ex
    refine ⟨_, rfl, Or.inl ⟨rfl, _, SqL.of w19⟩, _, rfl, lenL (SqL.of g19) ⟨sz9, fun q9 nq9 => ?_⟩⟩
    rw [el]
    have g20 : LsI (upd H19 q9 (.lst [V.int 9, V.int 2, V.int ((num ds).length : Int)])) nu (num ds) := (Same.new0 nq9) _ _ g19
    refine ⟨_, rfl, catL (os := [9, 2, ((num ds).length : Int)]) upd_same g20 (by show 3 + _ ≤ 100000; omega) fun p21 H21 s21 g21 => ?_⟩
    refine ⟨_, rfl, _, _, rfl, rfl, _, rfl, by omega, by omega, fun Dl nD => lc_range (lo := 0) (n := (151 + far).toNat) (fun i H' => Same H21 H' ∧ LsI H' Dl (List.replicate i far)) ⟨Same.new0 nD, upd_same⟩ ?_ ?_⟩
    · rintro i H2 hi ⟨s2, g2⟩
      refine ⟨rfl, _, rfl, _, g2, size_lt (by rw [List.length_map, List.length_replicate]; omega), s2.mut nD, ?_⟩
      unfold LsI
      rw [upd_same, List.replicate_succ', List.map_append]
      rfl
    rintro Hb ⟨sb, gb⟩
    refine catL (sb _ _ g21) gb (by rw [List.length_append, List.length_replicate]; show 3 + _ + _ ≤ 100000; omega) fun p22 H22 s22 g22 => ?_
    have t22 := (Same.new0 nq9).trans (s21.trans (sb.trans s22))
    obtain ⟨xs22, x22, y22, r22, _⟩ := r19.sub t22 g22 (bad9 f0 f1 (by omega) (by omega) hd)
    refine ⟨lr, _, _, rfl, rfl, x22, size_lt (by omega), ?_⟩
    revert r22
    generalize upd H22 lr _ = H23
    intro r23
    -- 10
    obtain ⟨as23, w23, _, _⟩ := r23.ex
    refine ⟨_, rfl, Or.inl ⟨rfl, _, SqL.of w23⟩, sz9, fun q10 nq10 => ⟨_, rfl, v, 18, 18, rfl, by decide, by decide, fun dz hz => ⟨dz, rfl, hz.dg, hz.len, fun n24 H24 s24 g24 => ?_⟩⟩⟩
    have nl2 := num_len dz
    have hh2 := hz.hi
    refine catL (os := [9, 1, 0, 10]) (s24 _ _ upd_same) g24 (by show 4 + _ ≤ 100000; omega) fun p25 H25 s25 g25 => ⟨_, rfl, sz9, fun p26 n26 => ?_⟩
    refine catL (cs := [far]) ((Same.new0 n26) _ _ g25) upd_same (by rw [List.length_append]; show 4 + _ + 1 ≤ 100000; omega) fun p27 H27 s27 g27 => ?_
    obtain ⟨xs27, x27, y27, r27, _⟩ := r23.sub ((Same.new0 nq10).trans (s24.trans (s25.trans ((Same.new0 n26).trans s27)))) g27 (bad10 f0 f1 hz)
    refine ⟨lr, _, _, rfl, rfl, x27, size_lt (by omega), ?_⟩
    revert r27
    generalize upd H27 lr _ = H28
    intro r28
    -- the row
    obtain ⟨as, w28, ln, al⟩ := r28.ex
    have j11 : (v / 100 % 11).toNat < as.length := by rw [ln]; omega
    obtain ⟨a, ha⟩ : ∃ a, as[(v / 100 % 11).toNat]? = some a := ⟨_, List.getElem?_eq_getElem j11⟩
    obtain ⟨os, g, b⟩ := al a (List.mem_of_getElem? ha)
    refine ⟨_, rfl, _, rfl, _, _, rfl, rfl, ⟨by decide, by decide⟩, _, _, rfl, rfl, (by show (0 : Int) < 11; decide), lr, _, _, .ref a, rfl, rfl, SqL.of w28, ?_, kq a os H28 r28.s g b.oc b.len b.no⟩
    have e : v / 100 % 11 = (((v / 100 % 11).toNat : Nat) : Int) := by omega
    show atI (as.map V.ref) (v / 100 % 11) = some (.ref a)
    rw [e]
    exact atI_nat (by rw [List.getElem?_map, ha]; rfl)
end
end Mq
namespace Mq
open PySem PySem.Spec PyProof.Rows L2
/-! ### a message as data -/
def Pt.dat : Pt → PyData
  | .n i => .int i
  | .s z => .str z
  | .o os => .tuple (os.map PyData.int)
def Pt.ok : Pt → Prop
  | .s z => PyData.canLay0 (.str z) = true
  | _ => True
theorem dstr_ok {ds : List Nat} (h : Dg ds) : PyData.canLay0 (.str (dstr ds)) = true := by
  show ((dstr ds).cps.all (· < 0x110000)) = true
  rw [← Array.all_toList]; rw [List.all_eq_true]
  intro c hc
  have e : (dstr ds).cps.toList = ds.map (48 + ·) := dstr_codes ds
  rw [e] at hc
  obtain ⟨d, hd, rfl⟩ := List.mem_map.mp hc
  have := h d hd
  exact (decide_eq_true (by omega))
theorem plains_fit : (plains.all fun p => PyData.canLay0 (.str p.1)) = true := by decide +kernel
theorem good_ok {m : List Pt} {os : List Int} (h : Good m os) : m ≠ [] ∧ ∀ p ∈ m, p.ok := by
  cases h <;> refine ⟨fun e => (nomatch e), fun p hp => ?_⟩ <;> simp only [List.mem_cons, List.not_mem_nil, or_false] at hp
  case au hd => rcases hp with rfl | rfl | rfl <;> first | exact True.intro | exact dstr_ok hd.dg | (show PyData.canLay0 _ = true; decide +kernel)
  case aa => rcases hp with rfl | rfl <;> first | exact True.intro | (show PyData.canLay0 _ = true; decide +kernel)
  case sc hd => rcases hp with rfl | rfl | rfl <;> first | exact True.intro | exact dstr_ok hd.dg | (show PyData.canLay0 _ = true; decide +kernel)
  case st hd => rcases hp with rfl | rfl | rfl <;> first | exact True.intro | exact dstr_ok hd.dg | (show PyData.canLay0 _ = true; decide +kernel)
  case pa hd => rcases hp with rfl | rfl <;> first | exact True.intro | exact dstr_ok hd.dg | (show PyData.canLay0 _ = true; decide +kernel)
  case ho => rcases hp with rfl | rfl | rfl <;> first | exact True.intro | (show PyData.canLay0 _ = true; decide +kernel)
  case su hd => rcases hp with rfl | rfl <;> first | exact True.intro | exact dstr_ok hd.dg | (show PyData.canLay0 _ = true; decide +kernel)
  case di => rcases hp with rfl | rfl <;> first | exact True.intro | (show PyData.canLay0 _ = true; decide +kernel)
  case wo => rcases hp with rfl | rfl <;> first | exact True.intro | (show PyData.canLay0 _ = true; decide +kernel)
  case sb hd hpt => rcases hp with rfl | rfl | rfl | rfl <;> first | exact True.intro | exact dstr_ok hd.dg | (show PyData.canLay0 _ = true; decide +kernel)
  case de hd hpt => rcases hp with rfl | rfl | rfl <;> first | exact True.intro | exact dstr_ok hd.dg | (show PyData.canLay0 _ = true; decide +kernel)
  case pl z hz => rw [hp]; exact List.all_eq_true.mp plains_fit _ hz
theorem dat_lay : ∀ (m : List Pt), (∀ p ∈ m, p.ok) → PyData.canLayAll0 (m.map Pt.dat) = true
  | [], _ => rfl
  | p :: m, h => by
    show (PyData.canLay0 p.dat && PyData.canLayAll0 (m.map Pt.dat)) = true
    rw [dat_lay m fun q hq => h q (List.mem_cons_of_mem _ hq)]
    have hp := h p List.mem_cons_self
    cases p with
    | n i => rfl
    | s z => rw [show PyData.canLay0 (Pt.dat (.s z)) = true from hp]; rfl
    | o os =>
      show (PyData.canLayAll0 (os.map PyData.int) && true) = true
      rw [lay_ints]
      rfl
theorem dat_depth : ∀ (m : List Pt), PyData.depthAll (m.map Pt.dat) ≤ 1
  | [] => Nat.zero_le _
  | p :: m => by
    show max (PyData.depth p.dat) (PyData.depthAll (m.map Pt.dat)) ≤ 1
    have h1 := dat_depth m
    have h2 : PyData.depth p.dat ≤ 1 := by
      cases p with
      | n i => exact Nat.zero_le _
      | s z => exact Nat.zero_le _
      | o os =>
        show PyData.depthAll (os.map PyData.int) + 1 ≤ 1
        rw [depth_ints]
        exact Nat.le_refl _
    omega
theorem dat_all {K : KF} {H : Hp} {m : List Pt} {vs : List V} (h : PtsAt K H m vs) : DpAll K H vs (m.map Pt.dat) := by
  induction h with
  | nil => exact .nil
  | n _ ih => exact .cons (.int _) ih
  | s _ ih => exact .cons (.str _) ih
  | o h _ ih => exact .cons (dp_tup h) ih
theorem dat_shp {m : List Pt} (h : ∀ p ∈ m, p.ok) : SeqAt.shaped (.tuple (m.map Pt.dat)) = true := by
  unfold SeqAt.shaped
  rw [show PyData.canLay0 (.tuple (m.map Pt.dat)) = true from dat_lay m h]
  have := dat_depth m
  exact decide_eq_true (show PyData.depthAll (m.map Pt.dat) + 1 ≤ 64 by omega)
section
variable {K : KF} {H : Hp} {a b : Addr} {os cs : List Int} {Q : VK}
/-- a message == () -/
theorem eqM {m : List Pt} (hm : MsgAt K H a m) (hg : Good m os) (hb : H b = some (.tup [])) (q : Q (.bl false) H) : zEq K (.ref a) (.ref b) H Q := by
  unfold zEq
  obtain ⟨vs, h1, h2⟩ := hm
  obtain ⟨ne, ok⟩ := good_ok hg
  refine ⟨_, _, .tup h1 (dat_all h2), .tup (SqT.of hb) .nil, dat_shp ok, by decide +kernel, ?_⟩
  match m, ne with
  | p :: m, _ => exact q
/-- l[:40] of the script -/
theorem slS {hi : Option Int} (h : SqL K H a (os.map V.int)) (hc : cutV (os.map V.int) none hi = cs.map V.int) (k : ∀ p H', Same H H' → LsI H' p cs → Q (.ref p) H') : zSlL K (.ref a) none hi H Q := by
  unfold zSlL
  exact ⟨a, _, rfl, h, fun p np => k p _ (Same.new0 np) (by unfold LsI; rw [upd_same, hc])⟩
theorem seqL {H' : Hp} {xs : List V} (e : Same H H') (h : SqL K H a xs) : SqL K H' a xs := by
  rcases h with (here | ⟨o, frozen⟩) | kept
  · exact .inl (.inl (e _ _ here))
  · exact .inl (.inr ⟨o, e _ _ frozen⟩)
  · exact .inr kept
theorem no_empty (m : List Pt) : ¬ Good m [] := by
  intro h
  have := (good_oc h).2.1
  exact absurd this (by decide)
end
section
variable {P : Program} {w : World} {K : KF} {mg : Str → Option Value} {base : Heap} {C : Addr}
/-! ### law -/
abbrev sLaw : Stmt := topS 54
abbrev nLaw : List Str := ["_law_script", "_law_turn", "_law_cell", "_law_value", "_law_message_here", "_law_octets_here", "_law_told"]
theorem scLaw : FnScope nLaw ["_law_script"] (defScope sLaw) := ⟨rfl, rfl, rfl, by decide +kernel, rfl, by decide +kernel, by decide +kernel⟩
theorem ok_law (T : Txt K mg C) (c1 : Cal P w K mg base 7 "read_message" ["octets"] (spRead K)) (c2 : Cal P w K mg base 1 "_law_mixed" ["_law_cell", "_law_turn"] spMixed) (c3 : Cal P w K mg base 2 "_law_message" ["_law_value"] (spLMsg K))
    (c4 : Cal P w K mg base 3 "_law_written" ["_law_message_here"] (spLWr K)) (c5 : Cal P w K mg base 1 "_law_spoilt" ["_law_row_here", "_law_value"] spLSpoilt) (c6 : Cal P w K mg base 3 "_law_good" ["_law_message_here"] (spLGood K))
    (c7 : Cal P w K mg base 4 "write_message" ["message"] (spWrite K)) (c8 : Cal P w K mg base 3 "_law_beyond" ["_law_value"] spLBey)
    {f : Addr} {fd : FuncData} (D : Def K mg "law" sLaw ["_law_script"] f fd) : FnOk P w K mg base (L2.CX P w) 8 f fd ["_law_script"] (spLaw K) := by
  refine D.fn.okX scLaw (fun vs H Q E h => ?_) (fun cdv A outer s H vs Q E hr h => ?_)
  · obtain ⟨a, ns, rfl, _⟩ := h
    rfl
  · obtain ⟨a, ns, rfl, hS, hn, kq⟩ := h
    have c2 := c2.up (k := 7) (by decide)
    have c3 := c3.up (k := 7) (by decide)
    have c4 := c4.up (k := 7) (by decide)
    have c5 := c5.up (k := 7) (by decide)
    have c6 := c6.up (k := 7) (by decide)
    have c7 := c7.up (k := 7) (by decide)
    have c8 := c8.up (k := 7) (by decide)
    refine ⟨_, pss_cons (ps_if (pt_cmpR op_notN (pe_cal c1 hr rfl (pa_cons (pe_tup pa_nil) pa_nil)) pe_non (nomark _)) (pss_one (ps_ret pe_bl)) pss_nil)
      (pss_cons (ps_for (passes_of rfl) rfl (pi_enum (by rfl) T.enumerate (pa_cons (pe_slice sl_zL (pv 0) po_none (po_some pe_int)) pa_nil)) (pg_tup (by rfl) (pgs_cons (pg_name (i := 1) scLaw.nd rfl (Or.inl rfl)) (pgs_cons (pg_name (i := 2) scLaw.nd rfl (Or.inl rfl)) pgs_nil)))
        (pss_cons (ps_set (i := 3) scLaw.nd rfl (Or.inl rfl) (pe_cal c2 hr rfl (pa_cons (pv 2) (pa_cons (pv 1) pa_nil))))
        (pss_cons (ps_set (i := 4) scLaw.nd rfl (Or.inl rfl) (pe_cal c3 hr rfl (pa_cons (pe_op op_fdiv (pv 3) pe_int) pa_nil)))
        (pss_cons (ps_set (i := 5) scLaw.nd rfl (Or.inl rfl) (pe_callTy call_tuple_of (by rfl) T.tuple (by decide +kernel) (pa_cons (pe_cal c5 hr rfl (pa_cons (pe_cal c4 hr rfl (pa_cons (pv 4) pa_nil)) (pa_cons (pe_op op_mod (pv 3) pe_int) pa_nil))) pa_nil)))
        (Evl.pss_cut (ps_set (i := 6) scLaw.nd rfl (Or.inl rfl) (pe_cal c1 hr rfl (pa_cons (pv 5) pa_nil)))
        (Evl.pss_cut (ps_if (pt_cmpR op_notN (pv 6) pe_non (nomark _))
            (pss_one (ps_if (PW.pt (pw_or (pt_not (pt_val (pe_callB call_zIsi (by rfl) T.isinstance (by decide +kernel) (pa_cons (pv 6) (pa_cons (pe_bltn (v := .ty "tuple") (by rfl) T.tuple (by decide +kernel) rfl) pa_nil)))))
              (pw_or (pt_cmpR (op_zEq hr.units) (pv 6) (pe_tup pa_nil) (nomark _))
              (pw_or (pt_not (pt_val (pe_cal c6 hr rfl (pa_cons (pv 6) pa_nil))))
              (pw_or1 (pt_cmpR (op_zNe hr.units) (pe_cal c7 hr rfl (pa_cons (pv 6) pa_nil)) (pv 5) (nomark _)))))))
              (pss_one (ps_ret pe_bl)) pss_nil)) pss_nil)
        (pss_one (ps_if (pt_cmpR op_notN (pe_cal c1 hr rfl (pa_cons (pe_callTy call_tuple_of (by rfl) T.tuple (by decide +kernel) (pa_cons (pe_cal c8 hr rfl (pa_cons (pe_op op_fdiv (pv 3) pe_int) pa_nil)) pa_nil)) pa_nil)) pe_non (nomark _)) (pss_one (ps_ret pe_bl)) pss_nil))))))))
      (pss_one (ps_ret pe_bl))), ?_⟩
    refine ⟨sz9, fun t nt => ⟨t, [], rfl, SqT.of upd_same, Oc.nil, by decide, fun H1 s1 => ?_, fun p m H1 s1 hm hg => absurd hg (no_empty m)⟩⟩
    refine ⟨rfl, _, rfl, iteF ?_⟩
    have s01 : Same H H1 := (Same.new0 nt).trans s1
    have hS1 : SqL K H1 a (ns.map V.int) := seqL s01 hS
    refine ⟨_, rfl, _, rfl, slS hS1 (ints_upto ns 40) fun l H2 s2 hl => ?_⟩
    refine ⟨l, _, rfl, SqL.of hl, ?_⟩
    refine for_it walk_enum (fun i σ H' => Same H2 H' ∧ ∃ v1 v2 v3 v4 v5 v6, σ = [some (.ref a), v1, v2, v3, v4, v5, v6]) ⟨Same.refl _, none, none, none, none, none, none, rfl⟩ (fun _ _ _ _ h => SqL.of (h.1 _ _ hl)) ?_ ?_
    · rintro i x σ H3 H4 hi ⟨s3, v1, v2, v3, v4, v5, v6, rfl⟩ ⟨Tp, x1, x2, rfl, nT, rfl, e1, e2⟩
      cases e1
      obtain ⟨c, hc, rfl⟩ := ints_at e2
      have i40 : i < 40 := by
        rw [List.length_map, List.length_take] at hi
        omega
      refine ⟨Tp, _, rfl, SqT.of upd_same, rfl, _, _, rfl, _, _, rfl, rfl, ?_⟩
      have s4 : Same H2 (upd H3 Tp (.tup [.int (i : Nat), .int c])) := s3.new nT
      revert s4
      generalize upd H3 Tp _ = H5
      intro s5
      refine ⟨_, rfl, _, rfl, c, (i : Int), rfl, by omega, by omega, fun v v0 => ?_⟩
      refine ⟨_, rfl, _, _, rfl, rfl, ⟨by decide, by decide⟩, v / 1000003, rfl, by omega, fun pm m os H6 s6 hm hg => ?_⟩
      obtain ⟨oc, ol1, ol2⟩ := good_oc hg
      refine ⟨_, rfl, pm, m, os, rfl, hm, hg, fun pw H7 s7 hw => ?_⟩
      refine ⟨_, rfl, _, _, rfl, rfl, (by show (0 : Int) < 1000003; decide), pw, os, v % 1000003, rfl, hw, oc, ol1, ol2, by omega, fun ps os2 H8 s8 hsp oc2 ol3 => ?_⟩
      refine ⟨ps, _, rfl, Or.inl ⟨SqL.of hsp, fun po no => ?_⟩⟩
      have s9 : Same H2 (upd H8 po (.tup (os2.map V.int))) := ((s5.trans s6).trans (s7.trans s8)).new no
      have ho : OcT K (upd H8 po (.tup (os2.map V.int))) po os2 := SqT.of upd_same
      revert s9 ho
      generalize upd H8 po _ = H9
      intro s9 ho
      refine ⟨fun σ' H' => ∃ told, σ' = [some (.ref a), some (.int (i : Nat)), some (.int c), some (.int v), some (.ref pm), some (.ref po), some told] ∧ Same H9 H' ∧ (told = .non ∨ ∃ p m, told = .ref p ∧ MsgAt K H' p m ∧ Good m os2), ?_, ?_⟩
      · refine ⟨_, rfl, po, os2, rfl, ho, oc2, by omega, fun H10 s10 => ?_, fun p m H10 s10 hm hg => ?_⟩
        · exact ⟨_, rfl, s10, Or.inl rfl⟩
        · exact ⟨_, rfl, s10, Or.inr ⟨p, m, rfl, hm, hg⟩⟩
      rintro σ' H10 ⟨told, rfl, s10, ht⟩
      refine ⟨fun σ' H' => σ' = [some (.ref a), some (.int (i : Nat)), some (.int c), some (.int v), some (.ref pm), some (.ref po), some told] ∧ Same H9 H', ?_, ?_⟩
      · rcases ht with rfl | ⟨p, m, rfl, hm, hg⟩
        · refine ⟨_, rfl, rfl, _, rfl, iteF ?_⟩
          exact ⟨rfl, s10⟩
        · refine ⟨_, rfl, rfl, _, rfl, iteT ?_⟩
          obtain ⟨vs, hp, hv⟩ := hm
          refine ⟨_, rfl, isiTup hp ⟨true, rfl, iteF ?_⟩⟩
          refine ⟨_, rfl, sz9, fun te ne => ?_⟩
          have se : Same H10 (upd H10 te (.tup [])) := Same.new0 ne
          refine eqM (MsgAt.same se ⟨vs, hp, hv⟩) hg upd_same ⟨false, rfl, iteF ?_⟩
          refine ⟨_, rfl, p, m, os2, rfl, MsgAt.same se ⟨vs, hp, hv⟩, hg, fun H11 s11 => ⟨true, rfl, iteF ?_⟩⟩
          have s12 := se.trans s11
          refine ⟨_, rfl, p, m, os2, rfl, MsgAt.same s12 ⟨vs, hp, hv⟩, hg, fun q H13 s13 hq => ⟨_, rfl, neT hq (((s10.trans s12).trans s13).seqT ho) ⟨_, rfl, ?_⟩⟩⟩
          rw [decide_eq_true rfl]
          exact iteF ⟨rfl, (s10.trans s12).trans s13⟩
      · rintro σ' H11 ⟨rfl, s11⟩
        refine ⟨_, rfl, _, _, rfl, rfl, ⟨by decide, by decide⟩, v / 7, rfl, by omega, fun pb ob H12 s12 hb ocb olb nob => ?_⟩
        refine ⟨pb, _, rfl, Or.inl ⟨SqL.of hb, fun pt npt => ?_⟩⟩
        refine ⟨pt, ob, rfl, SqT.of upd_same, ocb, by omega, fun H13 s13 => ?_, fun p m H13 s13 hm hg => absurd hg (nob m)⟩
        refine ⟨rfl, _, rfl, iteF ?_⟩
        exact ⟨s9.trans (s11.trans (s12.trans ((Same.new0 npt).trans s13))), _, _, _, _, _, _, rfl⟩
    · rintro σ H3 ⟨s3, v1, v2, v3, v4, v5, v6, rfl⟩
      exact kq _
end
end Mq
/-! # What the top has written, all together; the end of the law's row -/
namespace Mq
open PySem PySem.Spec PyProof.Rows L2
/-- a def stands written under its name -/
def Writ (K : KF) (x : Str) (st : Stmt) : Prop := ∃ f fd, PySem.W.nsIn K mainGlobals x = some (some (.ref f)) ∧ Fun K x x st f fd
theorem writ {K : KF} {x : Str} {st : Stmt} {f : Addr} {oc : Value} {od an : Option Addr} {sl : Array (Option Value)} {kV dc pm cd ct : Value} (a : PySem.W.nsIn K mainGlobals x = some (some (.ref f)))
    (l : K.lookup f = some ⟨oc, od, .func (PySem.W.fnOf x x (defArgs st) (defBody st) (defScope st) .none kV dc pm an cd ct), sl⟩) (c : PySem.W.codeIn K cd x = true) (k : PySem.W.keepIn K (.ref f) = true) : Writ K x st := ⟨f, _, a, fun_mk l c k⟩
theorem lit {K : KF} {d : Addr} {x : Str} {i : Int} {t : Tok} (h : PySem.W.nsIn K d x = some (some (.int i t))) : ∃ t, PySem.W.nsIn K d x = some (some (.int i t)) := ⟨t, h⟩
/-- a pair of ints stands written in a dict -/
def Pair (K : KF) (d : Addr) (z : Str) (a b : Int) : Prop := ∃ (q : Addr) (od : Option Addr) (n : Nat) (sl : Array (Option Value)) (t u : Tok), PySem.W.nsIn K d z = some (some (.ref q)) ∧ K.lookup q = some ⟨.type "tuple", od, .seq #[.int a t, .int b u] n, sl⟩
theorem pair {K : KF} {d q : Addr} {z : Str} {a b : Int} {od : Option Addr} {n : Nat} {sl : Array (Option Value)} {t u : Tok} (h1 : PySem.W.nsIn K d z = some (some (.ref q))) (h2 : K.lookup q = some ⟨.type "tuple", od, .seq #[.int a t, .int b u] n, sl⟩) : Pair K d z a b := ⟨q, od, n, sl, t, u, h1, h2⟩
def keyZ (e : DictEntry) : Option Str := match e.key with
  | .str x _ => some x
  | _ => none
/-- a dict with text keys stands written -/
def Dic (K : KF) (w : World) (d : Addr) (zs : List Str) : Prop := ∃ es n, K.lookup d = some ⟨.type "dict", none, .dict es n, #[]⟩ ∧ (d == sysModules) = false ∧ PySem.W.KeysLit w.params es.toList ∧ es.toList.map keyZ = zs.map some
theorem dic {K : KF} {w : World} {d : Addr} {zs : List Str} {es : Array DictEntry} {n : Nat} (h1 : K.lookup d = some ⟨.type "dict", none, .dict es n, #[]⟩) (h2 : (d == sysModules) = false) (h3 : PySem.W.KeysLit w.params es.toList)
    (h4 : es.toList.map keyZ = zs.map some) : Dic K w d zs := ⟨es, n, h1, h2, h3, h4⟩
theorem Dic.keys {K : KF} {w : World} {d : Addr} {zs : List Str} (h : Dic K w d zs) : KKeys K d zs := by
  obtain ⟨es, n, h1, h2, h3, h4⟩ := h
  refine ⟨es, n, h1, h2, ?_, fun i z hz => ?_⟩
  · have e := congrArg List.length h4
    rw [List.length_map, List.length_map, Array.length_toList] at e
    exact e
  · have e := congrArg (fun l => l[i]?) h4
    simp only [List.getElem?_map, hz, Option.map_some] at e
    cases q : es.toList[i]? with
    | none => (rw [q] at e; cases e)
    | some en =>
      rw [q] at e
      have e1 := Option.some.inj e
      rw [Array.getElem?_toList] at q
      unfold keyZ at e1
      split at e1
      · rename_i x t hx
        have e2 := Option.some.inj e1
        exact ⟨en, t, q, by rw [hx, e2]⟩
      · cases e1
theorem Dic.pair {K : KF} {w : World} {d : Addr} {zs : List Str} (h : Dic K w d zs) {z : Str} {a b : Int} (p : Pair K d z a b) : ∃ q, KDct K w d z (.ref q) ∧ ∀ H, OcT K H q [a, b] := by
  obtain ⟨es, n, h1, h2, h3, h4⟩ := h
  obtain ⟨q, od, m, sl, t, u, p1, p2⟩ := p
  refine ⟨q, ⟨es, n, .ref q, h1, h3, p1, rfl⟩, fun H => .inr ⟨_, _, m, p2, rfl, rfl, size_of (by show 2 ≤ 100000; decide), .cons ⟨t, rfl⟩ (.cons ⟨u, rfl⟩ .nil)⟩⟩
theorem Dic.int {K : KF} {w : World} {d : Addr} {zs : List Str} (h : Dic K w d zs) {z : Str} {i : Int} {t : Tok} (p : PySem.W.nsIn K d z = some (some (.int i t))) : KDct K w d z (.int i) := by
  obtain ⟨es, n, h1, h2, h3, h4⟩ := h
  exact ⟨es, n, .int i t, h1, h3, p, ⟨t, rfl⟩⟩
/-- an error of the class is caught under its name -/
theorem own_caught {K : KF} {C : Addr} (b : PySem.W.subIn K (.ref C) (.type "BaseException") = some true) (i : PySem.W.isClsIn K C = true) (t : PySem.W.typeIn K (.ref C) = some (.type "type")) (s : PySem.W.subIn K (.ref C) (.ref C) = some true) : PySem.W.exmOne K (.ref C) (.ref C) = some true := by
  have i2 : (PySem.W.clsIn K C).isSome = true := i
  have c1 : (PySem.W.subIn K (.ref C) (.type "BaseException") == some true) = true := by rw [b]; rfl
  have c2 : ((PySem.W.clsIn K C).isSome && PySem.W.typeIn K (.ref C) == some (.type "type")) = true := by rw [i2, t]; rfl
  unfold PySem.W.exmOne
  show (if (PySem.W.subIn K (.ref C) (.type "BaseException") == some true) = true then (if ((PySem.W.clsIn K C).isSome && PySem.W.typeIn K (.ref C) == some (.type "type")) = true then _ else _) else _) = some true
  rw [if_pos c1, if_pos c2, s]
/-- all that the top has written and the law leans on -/
structure Top (K : KF) (w : World) (C dP dU : Addr) : Prop where
  aC : PySem.W.nsIn K mainGlobals "BadNumber" = some (some (.ref C))
  xC : PySem.W.excIn K C [.type "ValueError", .type "Exception", .type "BaseException", .type "object"] "ValueError.__new__" = true
  kC : (PySem.W.keepIn K (.ref C)) = true
  bC : PySem.W.subIn K (.ref C) (.type "BaseException") = some true
  tC : PySem.W.typeIn K (.ref C) = some (.type "type")
  iC : PySem.W.isClsIn K C = true
  sC : PySem.W.subIn K (.ref C) (.ref C) = some true
  nlen : PySem.W.nsIn K mainGlobals "len" = some none
  nrange : PySem.W.nsIn K mainGlobals "range" = some none
  nint : PySem.W.nsIn K mainGlobals "int" = some none
  nstr : PySem.W.nsIn K mainGlobals "str" = some none
  nbool : PySem.W.nsIn K mainGlobals "bool" = some none
  ntuple : PySem.W.nsIn K mainGlobals "tuple" = some none
  nlist : PySem.W.nsIn K mainGlobals "list" = some none
  nenumerate : PySem.W.nsIn K mainGlobals "enumerate" = some none
  nisinstance : PySem.W.nsIn K mainGlobals "isinstance" = some none
  cNUMBER : ∃ t, PySem.W.nsIn K mainGlobals "NUMBER" = some (some (.int 129 t))
  cEMPTY : ∃ t, PySem.W.nsIn K mainGlobals "EMPTY" = some (some (.int 15 t))
  cCELLS : ∃ t, PySem.W.nsIn K mainGlobals "MOST_CELLS" = some (some (.int 4 t))
  cCHANNELS : ∃ t, PySem.W.nsIn K mainGlobals "MOST_CHANNELS" = some (some (.int 6 t))
  cAREAS : ∃ t, PySem.W.nsIn K mainGlobals "MOST_AREAS" = some (some (.int 4 t))
  cOUTBOX : ∃ t, PySem.W.nsIn K mainGlobals "MOST_OUTBOX" = some (some (.int 12 t))
  cAREA : ∃ t, PySem.W.nsIn K mainGlobals "AREA" = some (some (.int 5 t))
  cWORD : ∃ t, PySem.W.nsIn K mainGlobals "LONGEST_WORD" = some (some (.int 40 t))
  cPART : ∃ t, PySem.W.nsIn K mainGlobals "LONGEST_PART" = some (some (.int 150 t))
  cLNUM : ∃ t, PySem.W.nsIn K mainGlobals "LONGEST_NUMBER" = some (some (.int 9 t))
  cCAUSES : ∃ t, PySem.W.nsIn K mainGlobals "CAUSES" = some (some (.int 128 t))
  aP : PySem.W.nsIn K mainGlobals "PLAIN" = some (some (.ref dP))
  oP : Dic K w dP (plains.map (·.1))
  p0 : Pair K dP "service accept" 5 33
  p1 : Pair K dP "release" 6 13
  p2 : Pair K dP "handover done" 6 44
  p3 : Pair K dP "proceeding" 3 2
  p4 : Pair K dP "alerting" 3 1
  p5 : Pair K dP "connect" 3 7
  p6 : Pair K dP "connect done" 3 15
  p7 : Pair K dP "stored" 9 4
  p8 : Pair K dP "refused" 9 16
  p9 : Pair K dP "taken" 9 5
  aU : PySem.W.nsIn K mainGlobals "PURPOSES" = some (some (.ref dU))
  oU : Dic K w dU ["call", "texts"]
  u0 : ∃ t, PySem.W.nsIn K dU "call" = some (some (.int 1 t))
  u1 : ∃ t, PySem.W.nsIn K dU "texts" = some (some (.int 4 t))
  w_need_digits : Writ K "need_digits" sNeed
  w_digit_of : Writ K "digit_of" sDig
  w_read_pairs : Writ K "read_pairs" sRdP
  w_pairs_of : Writ K "pairs_of" sPairs
  w_subscriber_octets : Writ K "subscriber_octets" sSub
  w_number_octets : Writ K "number_octets" sNum
  w_read_subscriber : Writ K "read_subscriber" sRdSub
  w_read_number : Writ K "read_number" sRdNum
  w_read_short_number : Writ K "read_short_number" sShort
  w_area_octets : Writ K "area_octets" sArea
  w_write_area : Writ K "write_area" sWArea
  w_write_part : Writ K "write_part" sWPart
  w_read_area : Writ K "read_area" sRdArea
  w_read_place : Writ K "read_place" sPlace
  w_read_part : Writ K "read_part" sRPart
  w_read_plain : Writ K "read_plain" sPlain
  w_read_person : Writ K "read_person" sPers
  w_read_other : Writ K "read_other" sOther
  w_read_message : Writ K "read_message" sRead
  w_write_message : Writ K "write_message" sWrite
  w__law_mixed : Writ K "_law_mixed" sMixed
  w__law_digits : Writ K "_law_digits" sLDig
  w__law_octets : Writ K "_law_octets" sLOct
  w__law_message : Writ K "_law_message" sLMsg
  w__law_pairs : Writ K "_law_pairs" sLPairs
  w__law_subscriber : Writ K "_law_subscriber" sLSub
  w__law_number : Writ K "_law_number" sLNum
  w__law_written : Writ K "_law_written" sLWr
  w__law_spoilt : Writ K "_law_spoilt" sLSpoilt
  w__law_numbers : Writ K "_law_numbers" sLNums
  w__law_string : Writ K "_law_string" sLStr
  w__law_row : Writ K "_law_row" sLRow
  w__law_good : Writ K "_law_good" sLGood
  w__law_beyond : Writ K "_law_beyond" sLBey
  w_law : Writ K "law" sLaw
theorem Top.txt {K : KF} {w : World} {C dP dU : Addr} (t : Top K w C dP dU) {h : Heap} {mg : Str → Option Value} (X : K.In h) (G : h.Ns mainGlobals mg) : Txt K mg C :=
  { gC := PySem.W.mg_of X G t.aC, xC := t.xC, kC := t.kC, bC := t.bC, tC := t.tC, eC := own_caught t.bC t.iC t.tC t.sC,
    len := PySem.W.mg_none_of X G t.nlen, range := PySem.W.mg_none_of X G t.nrange, int := PySem.W.mg_none_of X G t.nint, str := PySem.W.mg_none_of X G t.nstr, bool := PySem.W.mg_none_of X G t.nbool, tuple := PySem.W.mg_none_of X G t.ntuple, list := PySem.W.mg_none_of X G t.nlist, enumerate := PySem.W.mg_none_of X G t.nenumerate, isinstance := PySem.W.mg_none_of X G t.nisinstance,
    cNUMBER := t.cNUMBER.imp fun _ e => PySem.W.mg_of X G e, cEMPTY := t.cEMPTY.imp fun _ e => PySem.W.mg_of X G e, cCELLS := t.cCELLS.imp fun _ e => PySem.W.mg_of X G e, cCHANNELS := t.cCHANNELS.imp fun _ e => PySem.W.mg_of X G e, cAREAS := t.cAREAS.imp fun _ e => PySem.W.mg_of X G e, cOUTBOX := t.cOUTBOX.imp fun _ e => PySem.W.mg_of X G e, cAREA := t.cAREA.imp fun _ e => PySem.W.mg_of X G e, cWORD := t.cWORD.imp fun _ e => PySem.W.mg_of X G e, cPART := t.cPART.imp fun _ e => PySem.W.mg_of X G e, cLNUM := t.cLNUM.imp fun _ e => PySem.W.mg_of X G e, cCAUSES := t.cCAUSES.imp fun _ e => PySem.W.mg_of X G e }
theorem Top.dtxt {K : KF} {w : World} {C dP dU : Addr} (t : Top K w C dP dU) {h : Heap} {mg : Str → Option Value} (X : K.In h) (G : h.Ns mainGlobals mg) : DTxt K w mg := by
  refine ⟨⟨dP, PySem.W.mg_of X G t.aP, t.oP.keys, fun z os hz => ?_⟩, ⟨dU, PySem.W.mg_of X G t.aU, let ⟨_, e⟩ := t.u0; t.oU.int e, let ⟨_, e⟩ := t.u1; t.oU.int e⟩⟩
  simp only [plains, List.mem_cons, List.not_mem_nil, or_false, Prod.mk.injEq] at hz
  rcases hz with ⟨rfl, rfl⟩ | ⟨rfl, rfl⟩ | ⟨rfl, rfl⟩ | ⟨rfl, rfl⟩ | ⟨rfl, rfl⟩ | ⟨rfl, rfl⟩ | ⟨rfl, rfl⟩ | ⟨rfl, rfl⟩ | ⟨rfl, rfl⟩ | ⟨rfl, rfl⟩
  · exact t.oP.pair t.p0
  · exact t.oP.pair t.p1
  · exact t.oP.pair t.p2
  · exact t.oP.pair t.p3
  · exact t.oP.pair t.p4
  · exact t.oP.pair t.p5
  · exact t.oP.pair t.p6
  · exact t.oP.pair t.p7
  · exact t.oP.pair t.p8
  · exact t.oP.pair t.p9
theorem Top.law {K : KF} {w : World} {P : Program} {C dP dU : Addr} (t : Top K w C dP dU) {h : Heap} {mg : Str → Option Value} {fa : Addr} (X : K.In h) (G : h.Ns mainGlobals mg) (hfa : mg "law" = some (.ref fa)) :
    ∃ fd : FuncData, (∀ (s : Shared) (v : Value), BindsTo s fd ⟨[v], []⟩ [("_law_script", v)]) ∧ ∀ base : Heap, K.In base → base.Ns mainGlobals mg → FnOk P w K mg base (L2.CX P w) 8 fa fd ["_law_script"] (spLaw K) := by
  have T := t.txt X G
  have U := t.dtxt X G
  obtain ⟨f0, fd0, a0, F0⟩ := t.w_need_digits
  have D0 : Def K mg "need_digits" sNeed ["digits", "least", "most"] f0 fd0 := ⟨F0, PySem.W.mg_of X G a0, F0.binds fun _ _ _ _ _ _ us hl => match us, hl with | [_, _, _], _ => rfl⟩
  obtain ⟨f1, fd1, a1, F1⟩ := t.w_digit_of
  have D1 : Def K mg "digit_of" sDig ["number"] f1 fd1 := ⟨F1, PySem.W.mg_of X G a1, F1.binds fun _ _ _ _ _ _ us hl => match us, hl with | [_], _ => rfl⟩
  obtain ⟨f2, fd2, a2, F2⟩ := t.w_read_pairs
  have D2 : Def K mg "read_pairs" sRdP ["octets"] f2 fd2 := ⟨F2, PySem.W.mg_of X G a2, F2.binds fun _ _ _ _ _ _ us hl => match us, hl with | [_], _ => rfl⟩
  obtain ⟨f3, fd3, a3, F3⟩ := t.w_pairs_of
  have D3 : Def K mg "pairs_of" sPairs ["digits"] f3 fd3 := ⟨F3, PySem.W.mg_of X G a3, F3.binds fun _ _ _ _ _ _ us hl => match us, hl with | [_], _ => rfl⟩
  obtain ⟨f4, fd4, a4, F4⟩ := t.w_subscriber_octets
  have D4 : Def K mg "subscriber_octets" sSub ["digits"] f4 fd4 := ⟨F4, PySem.W.mg_of X G a4, F4.binds fun _ _ _ _ _ _ us hl => match us, hl with | [_], _ => rfl⟩
  obtain ⟨f5, fd5, a5, F5⟩ := t.w_number_octets
  have D5 : Def K mg "number_octets" sNum ["digits"] f5 fd5 := ⟨F5, PySem.W.mg_of X G a5, F5.binds fun _ _ _ _ _ _ us hl => match us, hl with | [_], _ => rfl⟩
  obtain ⟨f6, fd6, a6, F6⟩ := t.w_read_subscriber
  have D6 : Def K mg "read_subscriber" sRdSub ["octets"] f6 fd6 := ⟨F6, PySem.W.mg_of X G a6, F6.binds fun _ _ _ _ _ _ us hl => match us, hl with | [_], _ => rfl⟩
  obtain ⟨f7, fd7, a7, F7⟩ := t.w_read_number
  have D7 : Def K mg "read_number" sRdNum ["octets"] f7 fd7 := ⟨F7, PySem.W.mg_of X G a7, F7.binds fun _ _ _ _ _ _ us hl => match us, hl with | [_], _ => rfl⟩
  obtain ⟨f8, fd8, a8, F8⟩ := t.w_read_short_number
  have D8 : Def K mg "read_short_number" sShort ["octets"] f8 fd8 := ⟨F8, PySem.W.mg_of X G a8, F8.binds fun _ _ _ _ _ _ us hl => match us, hl with | [_], _ => rfl⟩
  obtain ⟨f9, fd9, a9, F9⟩ := t.w_area_octets
  have D9 : Def K mg "area_octets" sArea ["country", "net", "place"] f9 fd9 := ⟨F9, PySem.W.mg_of X G a9, F9.binds fun _ _ _ _ _ _ us hl => match us, hl with | [_, _, _], _ => rfl⟩
  obtain ⟨f10, fd10, a10, F10⟩ := t.w_write_area
  have D10 : Def K mg "write_area" sWArea ["area"] f10 fd10 := ⟨F10, PySem.W.mg_of X G a10, F10.binds fun _ _ _ _ _ _ us hl => match us, hl with | [_], _ => rfl⟩
  obtain ⟨f11, fd11, a11, F11⟩ := t.w_write_part
  have D11 : Def K mg "write_part" sWPart ["digits", "part"] f11 fd11 := ⟨F11, PySem.W.mg_of X G a11, F11.binds fun _ _ _ _ _ _ us hl => match us, hl with | [_, _], _ => rfl⟩
  obtain ⟨f12, fd12, a12, F12⟩ := t.w_read_area
  have D12 : Def K mg "read_area" sRdArea ["octets"] f12 fd12 := ⟨F12, PySem.W.mg_of X G a12, F12.binds fun _ _ _ _ _ _ us hl => match us, hl with | [_], _ => rfl⟩
  obtain ⟨f13, fd13, a13, F13⟩ := t.w_read_place
  have D13 : Def K mg "read_place" sPlace ["octets"] f13 fd13 := ⟨F13, PySem.W.mg_of X G a13, F13.binds fun _ _ _ _ _ _ us hl => match us, hl with | [_], _ => rfl⟩
  obtain ⟨f14, fd14, a14, F14⟩ := t.w_read_part
  have D14 : Def K mg "read_part" sRPart ["octets"] f14 fd14 := ⟨F14, PySem.W.mg_of X G a14, F14.binds fun _ _ _ _ _ _ us hl => match us, hl with | [_], _ => rfl⟩
  obtain ⟨f15, fd15, a15, F15⟩ := t.w_read_plain
  have D15 : Def K mg "read_plain" sPlain ["octets"] f15 fd15 := ⟨F15, PySem.W.mg_of X G a15, F15.binds fun _ _ _ _ _ _ us hl => match us, hl with | [_], _ => rfl⟩
  obtain ⟨f16, fd16, a16, F16⟩ := t.w_read_person
  have D16 : Def K mg "read_person" sPers ["octets"] f16 fd16 := ⟨F16, PySem.W.mg_of X G a16, F16.binds fun _ _ _ _ _ _ us hl => match us, hl with | [_], _ => rfl⟩
  obtain ⟨f17, fd17, a17, F17⟩ := t.w_read_other
  have D17 : Def K mg "read_other" sOther ["octets"] f17 fd17 := ⟨F17, PySem.W.mg_of X G a17, F17.binds fun _ _ _ _ _ _ us hl => match us, hl with | [_], _ => rfl⟩
  obtain ⟨f18, fd18, a18, F18⟩ := t.w_read_message
  have D18 : Def K mg "read_message" sRead ["octets"] f18 fd18 := ⟨F18, PySem.W.mg_of X G a18, F18.binds fun _ _ _ _ _ _ us hl => match us, hl with | [_], _ => rfl⟩
  obtain ⟨f19, fd19, a19, F19⟩ := t.w_write_message
  have D19 : Def K mg "write_message" sWrite ["message"] f19 fd19 := ⟨F19, PySem.W.mg_of X G a19, F19.binds fun _ _ _ _ _ _ us hl => match us, hl with | [_], _ => rfl⟩
  obtain ⟨f20, fd20, a20, F20⟩ := t.w__law_mixed
  have D20 : Def K mg "_law_mixed" sMixed ["_law_cell", "_law_turn"] f20 fd20 := ⟨F20, PySem.W.mg_of X G a20, F20.binds fun _ _ _ _ _ _ us hl => match us, hl with | [_, _], _ => rfl⟩
  obtain ⟨f21, fd21, a21, F21⟩ := t.w__law_digits
  have D21 : Def K mg "_law_digits" sLDig ["_law_value", "_law_least", "_law_most"] f21 fd21 := ⟨F21, PySem.W.mg_of X G a21, F21.binds fun _ _ _ _ _ _ us hl => match us, hl with | [_, _, _], _ => rfl⟩
  obtain ⟨f22, fd22, a22, F22⟩ := t.w__law_octets
  have D22 : Def K mg "_law_octets" sLOct ["_law_value", "_law_most"] f22 fd22 := ⟨F22, PySem.W.mg_of X G a22, F22.binds fun _ _ _ _ _ _ us hl => match us, hl with | [_, _], _ => rfl⟩
  obtain ⟨f23, fd23, a23, F23⟩ := t.w__law_message
  have D23 : Def K mg "_law_message" sLMsg ["_law_value"] f23 fd23 := ⟨F23, PySem.W.mg_of X G a23, F23.binds fun _ _ _ _ _ _ us hl => match us, hl with | [_], _ => rfl⟩
  obtain ⟨f24, fd24, a24, F24⟩ := t.w__law_pairs
  have D24 : Def K mg "_law_pairs" sLPairs ["_law_digits_here"] f24 fd24 := ⟨F24, PySem.W.mg_of X G a24, F24.binds fun _ _ _ _ _ _ us hl => match us, hl with | [_], _ => rfl⟩
  obtain ⟨f25, fd25, a25, F25⟩ := t.w__law_subscriber
  have D25 : Def K mg "_law_subscriber" sLSub ["_law_digits_here"] f25 fd25 := ⟨F25, PySem.W.mg_of X G a25, F25.binds fun _ _ _ _ _ _ us hl => match us, hl with | [_], _ => rfl⟩
  obtain ⟨f26, fd26, a26, F26⟩ := t.w__law_number
  have D26 : Def K mg "_law_number" sLNum ["_law_digits_here"] f26 fd26 := ⟨F26, PySem.W.mg_of X G a26, F26.binds fun _ _ _ _ _ _ us hl => match us, hl with | [_], _ => rfl⟩
  obtain ⟨f27, fd27, a27, F27⟩ := t.w__law_written
  have D27 : Def K mg "_law_written" sLWr ["_law_message_here"] f27 fd27 := ⟨F27, PySem.W.mg_of X G a27, F27.binds fun _ _ _ _ _ _ us hl => match us, hl with | [_], _ => rfl⟩
  obtain ⟨f28, fd28, a28, F28⟩ := t.w__law_spoilt
  have D28 : Def K mg "_law_spoilt" sLSpoilt ["_law_row_here", "_law_value"] f28 fd28 := ⟨F28, PySem.W.mg_of X G a28, F28.binds fun _ _ _ _ _ _ us hl => match us, hl with | [_, _], _ => rfl⟩
  obtain ⟨f29, fd29, a29, F29⟩ := t.w__law_numbers
  have D29 : Def K mg "_law_numbers" sLNums ["_law_row_here", "_law_limits"] f29 fd29 := ⟨F29, PySem.W.mg_of X G a29, F29.binds fun _ _ _ _ _ _ us hl => match us, hl with | [_, _], _ => rfl⟩
  obtain ⟨f30, fd30, a30, F30⟩ := t.w__law_string
  have D30 : Def K mg "_law_string" sLStr ["_law_text", "_law_least", "_law_most"] f30 fd30 := ⟨F30, PySem.W.mg_of X G a30, F30.binds fun _ _ _ _ _ _ us hl => match us, hl with | [_, _, _], _ => rfl⟩
  obtain ⟨f31, fd31, a31, F31⟩ := t.w__law_row
  have D31 : Def K mg "_law_row" sLRow ["_law_octets_here", "_law_most"] f31 fd31 := ⟨F31, PySem.W.mg_of X G a31, F31.binds fun _ _ _ _ _ _ us hl => match us, hl with | [_, _], _ => rfl⟩
  obtain ⟨f32, fd32, a32, F32⟩ := t.w__law_good
  have D32 : Def K mg "_law_good" sLGood ["_law_message_here"] f32 fd32 := ⟨F32, PySem.W.mg_of X G a32, F32.binds fun _ _ _ _ _ _ us hl => match us, hl with | [_], _ => rfl⟩
  obtain ⟨f33, fd33, a33, F33⟩ := t.w__law_beyond
  have D33 : Def K mg "_law_beyond" sLBey ["_law_value"] f33 fd33 := ⟨F33, PySem.W.mg_of X G a33, F33.binds fun _ _ _ _ _ _ us hl => match us, hl with | [_], _ => rfl⟩
  obtain ⟨f, fd, a, F⟩ := t.w_law
  have D : Def K mg "law" sLaw ["_law_script"] f fd := ⟨F, PySem.W.mg_of X G a, F.binds fun _ _ _ _ _ _ us hl => match us, hl with | [_], _ => rfl⟩
  obtain rfl : fa = f := by
    have e := hfa.symm.trans D.gm
    cases e
    rfl
  have B : ∀ (s : Shared) (v : Value), BindsTo s fd ⟨[v], []⟩ [("_law_script", v)] := by
    obtain ⟨oc, od, kV, doc, pm, an, cdv, ct, osl, rfl, _⟩ := F.ex
    exact fun s v => .of_eq rfl
  refine ⟨fd, B, fun base _ _ => ?_⟩
  have c0 := cal_need (P := P) (w := w) (base := base) T D0
  have c1 := cal_dig (P := P) (w := w) (base := base) T D1
  have c2 := cal_rdp (P := P) (w := w) (base := base) T c1 D2
  have c3 := cal_pairs (P := P) (w := w) (base := base) T D3
  have c4 := cal_sub (P := P) (w := w) (base := base) T c0 c3 D4
  have c5 := cal_num (P := P) (w := w) (base := base) T c0 c3 D5
  have c6 := cal_rdsub (P := P) (w := w) (base := base) T c1 c2 c0 c4 D6
  have c7 := cal_rdnum (P := P) (w := w) (base := base) T c2 c0 D7
  have c8 := cal_short (P := P) (w := w) (base := base) T c7 D8
  have c9 := cal_area (P := P) (w := w) (base := base) T c0 D9
  have c10 := cal_warea (P := P) (w := w) (base := base) T c9 D10
  have c11 := cal_wpart (P := P) (w := w) (base := base) T c5 D11
  have c12 := cal_rdarea (P := P) (w := w) (base := base) T c1 D12
  have c13 := cal_place (P := P) (w := w) (base := base) T c12 D13
  have c14 := cal_rpart (P := P) (w := w) (base := base) T c8 D14
  have c15 := cal_plain (P := P) (w := w) (base := base) T U D15
  have c16 := cal_pers (P := P) (w := w) (base := base) T c13 c6 D16
  have c17 := cal_other (P := P) (w := w) (base := base) T c8 c14 D17
  have c18 := cal_read (P := P) (w := w) (base := base) T c15 c16 c17 D18
  have c19 := cal_write (P := P) (w := w) (base := base) T U c10 c4 c5 c11 D19
  have c20 := cal_mixed (P := P) (w := w) (base := base) T D20
  have c21 := cal_ldig (P := P) (w := w) (base := base) T D21
  have c22 := cal_loct (P := P) (w := w) (base := base) T D22
  have c23 := cal_lmsg (P := P) (w := w) (base := base) T c21 c22 D23
  have c24 := cal_lpairs (P := P) (w := w) (base := base) T D24
  have c25 := cal_lsub (P := P) (w := w) (base := base) T c24 D25
  have c26 := cal_lnum (P := P) (w := w) (base := base) T c24 D26
  have c27 := cal_lwr (P := P) (w := w) (base := base) T c25 c26 D27
  have c28 := cal_lspoilt (P := P) (w := w) (base := base) T D28
  have c29 := cal_lnums (P := P) (w := w) (base := base) T D29
  have c30 := cal_lstr (P := P) (w := w) (base := base) T D30
  have c31 := cal_lrow (P := P) (w := w) (base := base) T c29 D31
  have c32 := cal_lgood (P := P) (w := w) (base := base) T c29 c30 c31 D32
  have c33 := cal_lbey (P := P) (w := w) (base := base) T c21 c26 D33
  exact ok_law T c18 c20 c23 c27 c28 c32 c19 c33 D
theorem walk {l : PySem.W.OpenLaw} {q : Program} {loose : List Str} {XP : (Str → Option Value) → Heap → Prop} {YP : World → Heap → Prop} {d : DefRec} {K : Params → PySem.W.Frag} (hn : l.most = some 63) (hdf : d.params.defaults = []) (hd : d.name = "law")
    (hY : ∀ (w : World) (h : Heap), YP w h → (K w.params).In h) (F : ∀ w : World, ∃ C dP dU, Top (K w.params) w C dP dU) : PySem.W.WalkO q loose XP YP l.row.toRowW d [] (fun f vs => PySem.call f vs) := by
  refine L2.walk_of (n := 63) (k := 8) (x := "_law_script") (CX := fun w => L2.CX l.prog w) (sp := fun w => spLaw (K w.params)) hn (by decide) hdf ⟨rfl, by decide, by decide⟩ hY (fun w mg fa h X G hmg => ?_) (fun _ _ a ns hl _ hS => ⟨a, ns, rfl, hS, hl, fun _ => rfl⟩) fun w H s e s' z => ?_
  · obtain ⟨C, dP, dU, t⟩ := F w
    rw [hd] at hmg
    exact t.law X G hmg
  · obtain ⟨_, _, _, _, _, _, _, _, _, _, _, _, z⟩ := z
    exact z
end Mq
open PySem PySem.W PyProof.Rows
set_option maxRecDepth 100000 in
set_option maxHeartbeats 0 in
theorem PySem.Challenge.cw_mobileair_k55_whole_messages_refused_holds : PySem.Challenge.rw_mobileair_k55_whole_messages_refused.Holds := by
  w_on; o_law; k_head; (case hw => w_witness2)
  k_fill
  refine Mq.walk (l := PySem.Challenge.rw_mobileair_k55_whole_messages_refused) rfl rfl rfl (fun w h Y => PySem.W.kIn_of Y) ?F
  case F =>
    intro w
    refine ⟨?C, ?dP, ?dU, ?t⟩
    case t =>
      refine' Mq.Top.mk ?aC ?xC ?kC ?bC ?tC ?iC ?sC ?nlen ?nrange ?nint ?nstr ?nbool ?ntuple ?nlist ?nenumerate ?nisinstance ?cNUMBER ?cEMPTY ?cCELLS ?cCHANNELS ?cAREAS ?cOUTBOX ?cAREA ?cWORD ?cPART ?cLNUM ?cCAUSES ?aP ?dP1 ?p0 ?p1 ?p2 ?p3 ?p4 ?p5 ?p6 ?p7 ?p8 ?p9 ?aU ?dU1 ?u0 ?u1 ?w_need_digits ?w_digit_of ?w_read_pairs ?w_pairs_of ?w_subscriber_octets ?w_number_octets ?w_read_subscriber ?w_read_number ?w_read_short_number ?w_area_octets ?w_write_area ?w_write_part ?w_read_area ?w_read_place ?w_read_part ?w_read_plain ?w_read_person ?w_read_other ?w_read_message ?w_write_message ?w__law_mixed ?w__law_digits ?w__law_octets ?w__law_message ?w__law_pairs ?w__law_subscriber ?w__law_number ?w__law_written ?w__law_spoilt ?w__law_numbers ?w__law_string ?w__law_row ?w__law_good ?w__law_beyond ?w_law
      (case aC => k_is); (case xC => k_exc); (case kC => k_is); (case bC => k_is); (case tC => k_is); (case iC => k_is); (case sC => k_is)
      (case nlen => k_is)
      (case nrange => k_is)
      (case nint => k_is)
      (case nstr => k_is)
      (case nbool => k_is)
      (case ntuple => k_is)
      (case nlist => k_is)
      (case nenumerate => k_is)
      (case nisinstance => k_is)
      (case cNUMBER => refine' Mq.lit ?e; (case e => k_is))
      (case cEMPTY => refine' Mq.lit ?e; (case e => k_is))
      (case cCELLS => refine' Mq.lit ?e; (case e => k_is))
      (case cCHANNELS => refine' Mq.lit ?e; (case e => k_is))
      (case cAREAS => refine' Mq.lit ?e; (case e => k_is))
      (case cOUTBOX => refine' Mq.lit ?e; (case e => k_is))
      (case cAREA => refine' Mq.lit ?e; (case e => k_is))
      (case cWORD => refine' Mq.lit ?e; (case e => k_is))
      (case cPART => refine' Mq.lit ?e; (case e => k_is))
      (case cLNUM => refine' Mq.lit ?e; (case e => k_is))
      (case cCAUSES => refine' Mq.lit ?e; (case e => k_is))
      (case aP => k_is); (case dP1 => (refine' Mq.dic ?l ?m ?k ?z; (case l => k_is); (case m => rfl); (case k => exact ⟨⟨_, _, rfl, rfl⟩, ⟨⟨_, _, rfl, rfl⟩, ⟨⟨_, _, rfl, rfl⟩, ⟨⟨_, _, rfl, rfl⟩, ⟨⟨_, _, rfl, rfl⟩, ⟨⟨_, _, rfl, rfl⟩, ⟨⟨_, _, rfl, rfl⟩, ⟨⟨_, _, rfl, rfl⟩, ⟨⟨_, _, rfl, rfl⟩, ⟨⟨_, _, rfl, rfl⟩, trivial⟩⟩⟩⟩⟩⟩⟩⟩⟩⟩); (case z => rfl)))
      (case p0 => refine' Mq.pair ?a ?b; (case a => k_is); (case b => k_is))
      (case p1 => refine' Mq.pair ?a ?b; (case a => k_is); (case b => k_is))
      (case p2 => refine' Mq.pair ?a ?b; (case a => k_is); (case b => k_is))
      (case p3 => refine' Mq.pair ?a ?b; (case a => k_is); (case b => k_is))
      (case p4 => refine' Mq.pair ?a ?b; (case a => k_is); (case b => k_is))
      (case p5 => refine' Mq.pair ?a ?b; (case a => k_is); (case b => k_is))
      (case p6 => refine' Mq.pair ?a ?b; (case a => k_is); (case b => k_is))
      (case p7 => refine' Mq.pair ?a ?b; (case a => k_is); (case b => k_is))
      (case p8 => refine' Mq.pair ?a ?b; (case a => k_is); (case b => k_is))
      (case p9 => refine' Mq.pair ?a ?b; (case a => k_is); (case b => k_is))
      (case aU => k_is); (case dU1 => (refine' Mq.dic ?l ?m ?k ?z; (case l => k_is); (case m => rfl); (case k => exact ⟨⟨_, _, rfl, rfl⟩, ⟨⟨_, _, rfl, rfl⟩, trivial⟩⟩); (case z => rfl)))
      (case u0 => refine' Mq.lit ?e; (case e => k_is))
      (case u1 => refine' Mq.lit ?e; (case e => k_is))
      (case w_need_digits => refine' Mq.writ ?a ?l ?c ?k; (case a => k_is); (case l => k_is); (case c => k_is); (case k => k_is))
      (case w_digit_of => refine' Mq.writ ?a ?l ?c ?k; (case a => k_is); (case l => k_is); (case c => k_is); (case k => k_is))
      (case w_read_pairs => refine' Mq.writ ?a ?l ?c ?k; (case a => k_is); (case l => k_is); (case c => k_is); (case k => k_is))
      (case w_pairs_of => refine' Mq.writ ?a ?l ?c ?k; (case a => k_is); (case l => k_is); (case c => k_is); (case k => k_is))
      (case w_subscriber_octets => refine' Mq.writ ?a ?l ?c ?k; (case a => k_is); (case l => k_is); (case c => k_is); (case k => k_is))
      (case w_number_octets => refine' Mq.writ ?a ?l ?c ?k; (case a => k_is); (case l => k_is); (case c => k_is); (case k => k_is))
      (case w_read_subscriber => refine' Mq.writ ?a ?l ?c ?k; (case a => k_is); (case l => k_is); (case c => k_is); (case k => k_is))
      (case w_read_number => refine' Mq.writ ?a ?l ?c ?k; (case a => k_is); (case l => k_is); (case c => k_is); (case k => k_is))
      (case w_read_short_number => refine' Mq.writ ?a ?l ?c ?k; (case a => k_is); (case l => k_is); (case c => k_is); (case k => k_is))
      (case w_area_octets => refine' Mq.writ ?a ?l ?c ?k; (case a => k_is); (case l => k_is); (case c => k_is); (case k => k_is))
      (case w_write_area => refine' Mq.writ ?a ?l ?c ?k; (case a => k_is); (case l => k_is); (case c => k_is); (case k => k_is))
      (case w_write_part => refine' Mq.writ ?a ?l ?c ?k; (case a => k_is); (case l => k_is); (case c => k_is); (case k => k_is))
      (case w_read_area => refine' Mq.writ ?a ?l ?c ?k; (case a => k_is); (case l => k_is); (case c => k_is); (case k => k_is))
      (case w_read_place => refine' Mq.writ ?a ?l ?c ?k; (case a => k_is); (case l => k_is); (case c => k_is); (case k => k_is))
      (case w_read_part => refine' Mq.writ ?a ?l ?c ?k; (case a => k_is); (case l => k_is); (case c => k_is); (case k => k_is))
      (case w_read_plain => refine' Mq.writ ?a ?l ?c ?k; (case a => k_is); (case l => k_is); (case c => k_is); (case k => k_is))
      (case w_read_person => refine' Mq.writ ?a ?l ?c ?k; (case a => k_is); (case l => k_is); (case c => k_is); (case k => k_is))
      (case w_read_other => refine' Mq.writ ?a ?l ?c ?k; (case a => k_is); (case l => k_is); (case c => k_is); (case k => k_is))
      (case w_read_message => refine' Mq.writ ?a ?l ?c ?k; (case a => k_is); (case l => k_is); (case c => k_is); (case k => k_is))
      (case w_write_message => refine' Mq.writ ?a ?l ?c ?k; (case a => k_is); (case l => k_is); (case c => k_is); (case k => k_is))
      (case w__law_mixed => refine' Mq.writ ?a ?l ?c ?k; (case a => k_is); (case l => k_is); (case c => k_is); (case k => k_is))
      (case w__law_digits => refine' Mq.writ ?a ?l ?c ?k; (case a => k_is); (case l => k_is); (case c => k_is); (case k => k_is))
      (case w__law_octets => refine' Mq.writ ?a ?l ?c ?k; (case a => k_is); (case l => k_is); (case c => k_is); (case k => k_is))
      (case w__law_message => refine' Mq.writ ?a ?l ?c ?k; (case a => k_is); (case l => k_is); (case c => k_is); (case k => k_is))
      (case w__law_pairs => refine' Mq.writ ?a ?l ?c ?k; (case a => k_is); (case l => k_is); (case c => k_is); (case k => k_is))
      (case w__law_subscriber => refine' Mq.writ ?a ?l ?c ?k; (case a => k_is); (case l => k_is); (case c => k_is); (case k => k_is))
      (case w__law_number => refine' Mq.writ ?a ?l ?c ?k; (case a => k_is); (case l => k_is); (case c => k_is); (case k => k_is))
      (case w__law_written => refine' Mq.writ ?a ?l ?c ?k; (case a => k_is); (case l => k_is); (case c => k_is); (case k => k_is))
      (case w__law_spoilt => refine' Mq.writ ?a ?l ?c ?k; (case a => k_is); (case l => k_is); (case c => k_is); (case k => k_is))
      (case w__law_numbers => refine' Mq.writ ?a ?l ?c ?k; (case a => k_is); (case l => k_is); (case c => k_is); (case k => k_is))
      (case w__law_string => refine' Mq.writ ?a ?l ?c ?k; (case a => k_is); (case l => k_is); (case c => k_is); (case k => k_is))
      (case w__law_row => refine' Mq.writ ?a ?l ?c ?k; (case a => k_is); (case l => k_is); (case c => k_is); (case k => k_is))
      (case w__law_good => refine' Mq.writ ?a ?l ?c ?k; (case a => k_is); (case l => k_is); (case c => k_is); (case k => k_is))
      (case w__law_beyond => refine' Mq.writ ?a ?l ?c ?k; (case a => k_is); (case l => k_is); (case c => k_is); (case k => k_is))
      (case w_law => refine' Mq.writ ?a ?l ?c ?k; (case a => k_is); (case l => k_is); (case c => k_is); (case k => k_is))
